/- slices.Repeat of one number, as a promise that closed runs give. -/
import Derived.Test.YthcmfnmmgejnaaaSpObjSx
import Derived.Test.YthcmfnmmgejnaaaHpBCode
import Derived.KernelRfl

set_option maxRecDepth 100000
namespace Go.HpBM
open Go.Sp Go.HpB
noncomputable section
def orc62 (args : List Value) : Option Value :=
  ll args none fun a r => ll r none fun b r => ll r (oo (toSl 1 a) none fun s => oo (toI .i64 b) none fun z => oo (toN z) none fun k => ll s.cs none fun x r => ll r (oo (toI .i64 x) none fun y => bb (an (Nat.beq s.n 1) (Nat.ble k 21))
    (some (Sl.v 1 ⟨k, 0, zeroRow [.int .i64 y] k⟩)) none) fun _ _ => none) fun _ _ => none
def orc6 (_ : List Value) : Option Value := none
end
end Go.HpBM
set_option maxRecDepth 100000
set_option maxHeartbeats 20000000
set_option linter.unusedVariables false
namespace Go.HpBM
open Go.Sp Go.HpB
noncomputable section
def tabs : List (List Value) := []
def plist : List Nat := [3, 5, 6, 7, 8, 9, 24, 26, 27, 28, 29, 30, 31, 32, 33, 34, 36, 40, 42, 43, 44, 53, 57, 59, 65, 66, 79, 80, 81]
def isP : FuncId → Bool := fun g => memN g plist
def inl (pu : PureF) : CallF := fun g args H => bb (Nat.beq g 41) (liveF tabs 1 (pu 41) args H) (bb (Nat.beq g 62) (giveF tabs 1 (pu 62) args H) (bb (Nat.beq g 58) (objG tabs [[none], [none]] 2 [.tmp 0 false] [false] (pu 10580) args H) (bb (Nat.beq g 68) (objG tabs [[none], [none], [none], [none], [none]] 5 [.tmp 0 false] [false] (pu 10680) args H) (bb (Nat.beq g 82) (objG tabs [[none], [none], [none], [none]] 4 [.tmp 0 false] [false] (pu 10820) args H) (none)))))
def zA48 : List Value := [(.int .i64 (0 : Int)), (.int .i64 (0 : Int)), (.int .i64 (0 : Int)), (.int .i64 (0 : Int)), (.int .i64 (0 : Int)), (.int .i64 (0 : Int)), (.int .i64 (0 : Int)), (.int .i64 (0 : Int)), (.int .i64 (0 : Int)), (.int .i64 (0 : Int)), (.int .i64 (0 : Int)), (.int .i64 (0 : Int)), (.int .i64 (0 : Int)), (.int .i64 (0 : Int)), (.int .i64 (0 : Int)), (.int .i64 (0 : Int)), (.int .i64 (0 : Int)), (.int .i64 (0 : Int)), (.int .i64 (0 : Int)), (.int .i64 (0 : Int)), (.int .i64 (0 : Int)), (.int .i64 (0 : Int))]
def str0 : List UInt8 := [0, 1, 2, 2, 3, 3, 3, 3, 4, 4, 4, 4, 4, 4, 4, 4, 5, 5, 5, 5, 5, 5, 5, 5, 5, 5, 5, 5, 5, 5, 5, 5, 6, 6, 6, 6, 6, 6, 6, 6, 6, 6, 6, 6, 6, 6, 6, 6, 6, 6, 6, 6, 6, 6, 6, 6, 6, 6, 6, 6, 6, 6, 6, 6, 7, 7, 7, 7, 7, 7, 7, 7, 7, 7, 7, 7, 7, 7, 7, 7, 7, 7, 7, 7, 7, 7, 7, 7, 7, 7, 7, 7, 7, 7, 7, 7, 7, 7, 7, 7, 7, 7, 7, 7, 7, 7, 7, 7, 7, 7, 7, 7, 7, 7, 7, 7, 7, 7, 7, 7, 7, 7, 7, 7, 7, 7, 7, 7, 8, 8, 8, 8, 8, 8, 8, 8, 8, 8, 8, 8, 8, 8, 8, 8, 8, 8, 8, 8, 8, 8, 8, 8, 8, 8, 8, 8, 8, 8, 8, 8, 8, 8, 8, 8, 8, 8, 8, 8, 8, 8, 8, 8, 8, 8, 8, 8, 8, 8, 8, 8, 8, 8, 8, 8, 8, 8, 8, 8, 8, 8, 8, 8, 8, 8, 8, 8, 8, 8, 8, 8, 8, 8, 8, 8, 8, 8, 8, 8, 8, 8, 8, 8, 8, 8, 8, 8, 8, 8, 8, 8, 8, 8, 8, 8, 8, 8, 8, 8, 8, 8, 8, 8, 8, 8, 8, 8, 8, 8, 8, 8, 8, 8, 8, 8, 8, 8, 8, 8, 8, 8, 8, 8, 8, 8, 8, 8]
end
end Go.HpBM
set_option maxRecDepth 100000
set_option maxHeartbeats 20000000
set_option linter.unusedVariables false
namespace Go.HpBM
open Go.Sp Go.HpB
noncomputable section
def m3_0 (pu : PureF) (n : Nat) (b80 : Bool) : Option Value :=
  (some (.bool b80))
def m3_ (pu : PureF) (n : Nat) (s1 : Sl) : Option Value :=
  (oo (pu 5 [(Sl.v 1 s1)]) none fun v7 => (oo (vBool v7) none fun b9 => (bb b9 (oo (pu 6 []) none fun v16 => (oo (vBool v16) none fun b18 => (some (.bool b18)))) (oo (pu 7 [(Sl.v 1 s1)]) none fun v30 => (oo (vTup v30) none fun l32 => (ll l32 none fun v34 l32 => (ll l32 none fun v35 l32 => (ll l32 (oo (toSl 1 v34) none fun s36 => (oo (toI .i64 v35) none fun x38 => (oo (pu 8 [(Sl.v 1 s1)]) none fun v50 => (oo (vTup v50) none fun l52 => (ll l52 none fun v54 l52 => (ll l52 none fun v55 l52 => (ll l52 (oo (toSl 1 v54) none fun s56 => (oo (toI .i64 v55) none fun x58 => (oo (pu 9 [(Sl.v 1 s36), (Sl.v 1 s56)]) none fun v91 => (oo (vBool v91) none fun b93 => (bb b93 (bb (ieq x38 x58) (oo (pu 6 []) none fun v97 => (oo (vBool v97) none fun b99 => (m3_0 pu n b99))) (m3_0 pu n false)) (m3_0 pu n false)))))) fun _ _ => none))))))) fun _ _ => none))))))))
def m3 (pu : PureF) (n : Nat) (args : List Value) : Option Value :=
  (ll args none fun a0 args => (ll args (oo (toSl 1 a0) none fun s1 => (m3_ pu n s1)) fun _ _ => none))
theorem w3_0 (pu : PureF) (n : Nat) (b80 : Bool) {v : Value} (hm : m3_0 pu n b80 = some v) : Run tt (callP tabs isP pu (inl pu)) 0 .ret (fr 31 [(2, (zB b80))]) (hp 0 []) (Fin tt 0 [.tmp 2] v) := by
  unfold m3_0 at hm
  refine .ret ?_
  exact fin_ret (zB b80) (by kernel_rfl) (by kernel_rfl) hm
theorem r3 {call : CallF} (pu : PureF) (n : Nat) (hcall : call = callP tabs isP pu (inl pu)) {args : List Value} {v : Value} (hm : m3 pu n args = some v) (_ : ∀ x ∈ args, closed2 x = true) : args.length ≤ 31 ∧ Run tt call 0 c3_13 (Fr.made 31 args) (pureHeap tabs) (Fin tt 0 [.tmp 2] v) := by
  subst hcall
  unfold m3 at hm
  replace hm := ll_uncons hm; obtain ⟨a0, args_0, rfl, hm⟩ := hm
  replace hm := ll_end hm; obtain ⟨rfl, hm⟩ := hm
  replace hm := inv_toSl hm; obtain ⟨s1, rfl, hm⟩ := hm
  unfold m3_ at hm
  refine ⟨by simp, ?_⟩
  refine .same (F' := (fr 31 [(0, (Sl.v 1 s1))])) (H' := (hp 0 [])) (by kernel_rfl) (by kernel_rfl) ?_
  refine .then ?_
  refine .rK ?_
  refine .ghs (fr 31 [(0, (Sl.v 1 s1))]) (hp 0 []) (.k0 [] [] [0]) ?_
  refine .then ?_
  refine .then ?_
  replace hm := oo_inv hm; obtain ⟨v7, h8, hm⟩ := hm
  replace hm := inv_vBool hm; obtain ⟨b9, rfl, hm⟩ := hm
  refine .reg (eC 1 ((oo (pu 5 [(Sl.v 1 s1)]) none fun v => some (v, (hp 0 [])))) (call_eq h8) (eE)) ?_
  refine .ghs (fr 31 [(0, (Sl.v 1 s1)), (8, (zB b9))]) (hp 0 []) (.k0 [] [] [0, 8]) ?_
  replace hm := bb_cases hm; rcases hm with ⟨h11, hm⟩ | ⟨h11, hm⟩
  · refine .ifT b9 (by kernel_rfl) h11 ?_
    refine .then ?_
    replace hm := oo_inv hm; obtain ⟨v16, h17, hm⟩ := hm
    replace hm := inv_vBool hm; obtain ⟨b18, rfl, hm⟩ := hm
    refine .reg (eD ((oo (pu 6 []) none fun v => some (v, (hp 0 [])))) (call_eq h17) (eE)) ?_
    refine .ghs (fr 31 [(2, (zB b18))]) (hp 0 []) (.k0 [] [] [2]) ?_
    refine .ret ?_
    exact fin_ret (zB b18) (by kernel_rfl) (by kernel_rfl) hm
  · refine .ifF b9 (by kernel_rfl) h11 ?_
    refine .skip ?_
    refine .ghs (fr 31 [(0, (Sl.v 1 s1))]) (hp 0 []) (.k0 [] [] [0]) ?_
    refine .then ?_
    replace hm := oo_inv hm; obtain ⟨v30, h31, hm⟩ := hm
    replace hm := inv_vTup hm; obtain ⟨l32, rfl, hm⟩ := hm
    replace hm := ll_uncons hm; obtain ⟨v34, l32_0, rfl, hm⟩ := hm
    replace hm := ll_uncons hm; obtain ⟨v35, l32_1, rfl, hm⟩ := hm
    replace hm := ll_end hm; obtain ⟨rfl, hm⟩ := hm
    replace hm := inv_toSl hm; obtain ⟨s36, rfl, hm⟩ := hm
    replace hm := inv_toI hm; obtain ⟨x38, rfl, hm⟩ := hm
    refine .reg (eC 1 ((oo (pu 7 [(Sl.v 1 s1)]) none fun v => some (v, (hp 0 [])))) (call_eq h31) (eE)) ?_
    refine .ghs (fr 31 [(0, (Sl.v 1 s1)), (3, (Sl.v 1 s36)), (4, (zI x38))]) (hp 0 []) (.k0 [] [] [0, 3, 4]) ?_
    refine .then ?_
    replace hm := oo_inv hm; obtain ⟨v50, h51, hm⟩ := hm
    replace hm := inv_vTup hm; obtain ⟨l52, rfl, hm⟩ := hm
    replace hm := ll_uncons hm; obtain ⟨v54, l52_0, rfl, hm⟩ := hm
    replace hm := ll_uncons hm; obtain ⟨v55, l52_1, rfl, hm⟩ := hm
    replace hm := ll_end hm; obtain ⟨rfl, hm⟩ := hm
    replace hm := inv_toSl hm; obtain ⟨s56, rfl, hm⟩ := hm
    replace hm := inv_toI hm; obtain ⟨x58, rfl, hm⟩ := hm
    refine .reg (eC 1 ((oo (pu 8 [(Sl.v 1 s1)]) none fun v => some (v, (hp 0 [])))) (call_eq h51) (eE)) ?_
    refine .ghs (fr 31 [(3, (Sl.v 1 s36)), (4, (zI x38)), (5, (Sl.v 1 s56)), (6, (zI x58))]) (hp 0 []) (.k0 [] [] [3, 4, 5, 6]) ?_
    refine .join (v := v) (fun y : Bool => ((fr 31 [(2, (zB y))]), (hp 0 []))) (fun y => m3_0 pu n y) ?_ ?_
    · rintro b80 hm
      exact w3_0 pu n b80 hm
    · replace hm := oo_inv hm; obtain ⟨v91, h92, hm⟩ := hm
      replace hm := inv_vBool hm; obtain ⟨b93, rfl, hm⟩ := hm
      replace hm := bb_cases hm; rcases hm with ⟨h95, hm⟩ | ⟨h95, hm⟩
      · replace hm := bb_cases hm; rcases hm with ⟨h96, hm⟩ | ⟨h96, hm⟩
        · replace hm := oo_inv hm; obtain ⟨v97, h98, hm⟩ := hm
          replace hm := inv_vBool hm; obtain ⟨b99, rfl, hm⟩ := hm
          refine .reg (eC 2 ((oo (pu 9 [(Sl.v 1 s36), (Sl.v 1 s56)]) none fun v => some (v, (hp 0 [])))) (show _ = some ((zB true), _) from (by have hz : (oo (pu 9 [(Sl.v 1 s36), (Sl.v 1 s56)]) none fun v => some (v, (hp 0 []))) = some ((zB b93), (hp 0 [])) := (call_eq h92); rw [h95] at hz; exact hz)) (eC 3 (some ((zB (ieq x38 x58)), (hp 0 []))) (show _ = some ((zB true), _) from (by rw [h96])) (eC 2 ((oo (pu 6 []) none fun v => some (v, (hp 0 [])))) (call_eq h98) (eE)))) ?_
          exact ⟨b99, hm, (.k0 [] [] [2])⟩
        · refine .reg (eC 2 ((oo (pu 9 [(Sl.v 1 s36), (Sl.v 1 s56)]) none fun v => some (v, (hp 0 [])))) (show _ = some ((zB true), _) from (by have hz : (oo (pu 9 [(Sl.v 1 s36), (Sl.v 1 s56)]) none fun v => some (v, (hp 0 []))) = some ((zB b93), (hp 0 [])) := (call_eq h92); rw [h95] at hz; exact hz)) (eC 3 (some ((zB (ieq x38 x58)), (hp 0 []))) (show _ = some ((zB false), _) from (by rw [h96])) (eE))) ?_
          exact ⟨false, hm, (.k0 [] [] [2])⟩
      · refine .reg (eC 2 ((oo (pu 9 [(Sl.v 1 s36), (Sl.v 1 s56)]) none fun v => some (v, (hp 0 [])))) (show _ = some ((zB false), _) from (by have hz : (oo (pu 9 [(Sl.v 1 s36), (Sl.v 1 s56)]) none fun v => some (v, (hp 0 []))) = some ((zB b93), (hp 0 [])) := (call_eq h92); rw [h95] at hz; exact hz)) (eE)) ?_
        exact ⟨false, hm, (.k0 [] [] [2])⟩

def m5_ (pu : PureF) (n : Nat) (s0 : Sl) : Option Value :=
  (some (.bool (ilt (60 : Int) (Int.ofNat (Sl.n s0)))))
def m5 (pu : PureF) (n : Nat) (args : List Value) : Option Value :=
  (ll args none fun a0 args => (ll args (oo (toSl 1 a0) none fun s0 => (m5_ pu n s0)) fun _ _ => none))
theorem r5 {call : CallF} (pu : PureF) (n : Nat) (hcall : call = callP tabs isP pu (inl pu)) {args : List Value} {v : Value} (hm : m5 pu n args = some v) (_ : ∀ x ∈ args, closed2 x = true) : args.length ≤ 6 ∧ Run tt call 0 c5_3 (Fr.made 6 args) (pureHeap tabs) (Fin tt 0 [.tmp 2] v) := by
  subst hcall
  unfold m5 at hm
  replace hm := ll_uncons hm; obtain ⟨a0, args_0, rfl, hm⟩ := hm
  replace hm := ll_end hm; obtain ⟨rfl, hm⟩ := hm
  replace hm := inv_toSl hm; obtain ⟨s0, rfl, hm⟩ := hm
  unfold m5_ at hm
  refine ⟨by simp, ?_⟩
  refine .same (F' := (fr 6 [(0, (Sl.v 1 s0))])) (H' := (hp 0 [])) (by kernel_rfl) (by kernel_rfl) ?_
  refine .then ?_
  refine .rK ?_
  refine .ghs (fr 6 [(0, (Sl.v 1 s0))]) (hp 0 []) (.k0 [] [] [0]) ?_
  refine .then ?_
  refine .rK ?_
  refine .ghs (fr 6 [(2, (zB (ilt (60 : Int) (Int.ofNat (Sl.n s0)))))]) (hp 0 []) (.k0 [] [] [2]) ?_
  refine .ret ?_
  exact fin_ret (zB (ilt (60 : Int) (Int.ofNat (Sl.n s0)))) (by kernel_rfl) (by kernel_rfl) hm

def m7_ (pu : PureF) (n : Nat) (s0 : Sl) : Option Value :=
  (oo (pu 26 [(Sl.v 1 s0)]) none fun v0 => (oo (toI .i64 v0) none fun x0 => (bb (nt (ieq x0 (0 : Int))) (some (.tuple ⟨[(Sl.v 1 (Sl.mk 0 2 [])), (.int .i64 x0)]⟩)) (oo (pu 27 [(Sl.v 1 s0)]) none fun v1 => (oo (vAgg v1) none fun q0 => (bb (an (Nat.beq (len q0) 22) (allL closed1 q0)) (oo (pu 28 [(.agg ⟨q0⟩)]) none fun v2 => (oo (toSl 1 v2) none fun s1 => (bb (allL closed2 [(.agg ⟨q0⟩)]) (some (.tuple ⟨[(Sl.v 1 s1), (.int .i64 (0 : Int))]⟩)) none))) none))))))
def m7 (pu : PureF) (n : Nat) (args : List Value) : Option Value :=
  (ll args none fun a0 args => (ll args (oo (toSl 1 a0) none fun s0 => (m7_ pu n s0)) fun _ _ => none))
theorem r7 {call : CallF} (pu : PureF) (n : Nat) (hcall : call = callP tabs isP pu (inl pu)) {args : List Value} {v : Value} (hm : m7 pu n args = some v) (_ : ∀ x ∈ args, closed2 x = true) : args.length ≤ 13 ∧ Run tt call 0 c7_11 (Fr.made 13 args) (pureHeap tabs) (Fin tt 0 [.tmp 2, .tmp 3] v) := by
  subst hcall
  unfold m7 at hm
  replace hm := ll_uncons hm; obtain ⟨a0, args_0, rfl, hm⟩ := hm
  replace hm := ll_end hm; obtain ⟨rfl, hm⟩ := hm
  replace hm := inv_toSl hm; obtain ⟨s0, rfl, hm⟩ := hm
  unfold m7_ at hm
  refine ⟨by simp, ?_⟩
  refine .same (F' := (fr 13 [(0, (Sl.v 1 s0))])) (H' := (hp 0 [])) (by kernel_rfl) (by kernel_rfl) ?_
  refine .then ?_
  refine .rK ?_
  refine .ghs (fr 13 [(0, (Sl.v 1 s0))]) (hp 0 []) (.k0 [] [] [0]) ?_
  refine .then ?_
  refine .then ?_
  replace hm := oo_inv hm; obtain ⟨v0, h0, hm⟩ := hm
  replace hm := inv_toI hm; obtain ⟨x0, rfl, hm⟩ := hm
  refine .reg (eC 1 ((oo (pu 26 [(Sl.v 1 s0)]) none fun v => some (v, (hp 0 [])))) (call_eq h0) (eE)) ?_
  refine .ghs (fr 13 [(0, (Sl.v 1 s0)), (4, (zI x0))]) (hp 0 []) (.k0 [] [] [0, 4]) ?_
  refine .then ?_
  refine .rK ?_
  refine .ghs (fr 13 [(0, (Sl.v 1 s0)), (4, (zI x0)), (8, (zB (nt (ieq x0 (0 : Int)))))]) (hp 0 []) (.k0 [] [] [0, 4, 8]) ?_
  replace hm := bb_cases hm; rcases hm with ⟨h1, hm⟩ | ⟨h1, hm⟩
  · refine .ifT (nt (ieq x0 (0 : Int))) (by kernel_rfl) h1 ?_
    refine .then ?_
    refine .rK ?_
    refine .ghs (fr 13 [(2, (.slice none 0 0)), (3, (zI x0))]) (hp 0 []) (.k0 [] [] [2, 3]) ?_
    refine .ghs (Fr.puts (fr 13 [(2, (.slice none 0 0)), (3, (zI x0))]) [(2, (Sl.v 1 (Sl.mk 0 2 [])))]) (hp 0 []) (.freeze 0 2 1 (by kernel_rfl) (by kernel_rfl) (GhS.id _ _)) ?_
    refine .ret ?_
    exact fin_ret (.tuple ⟨[(Sl.v 1 (Sl.mk 0 2 [])), (zI x0)]⟩) (by kernel_rfl) (by kernel_rfl) hm
  · refine .ifF (nt (ieq x0 (0 : Int))) (by kernel_rfl) h1 ?_
    refine .skip ?_
    refine .ghs (fr 13 [(0, (Sl.v 1 s0))]) (hp 0 []) (.k0 [] [] [0]) ?_
    refine .then ?_
    replace hm := oo_inv hm; obtain ⟨v1, h2, hm⟩ := hm
    replace hm := inv_vAgg hm; obtain ⟨q0, rfl, hm⟩ := hm
    replace hm := bb_inv hm; obtain ⟨h3, hm⟩ := hm
    replace hm := oo_inv hm; obtain ⟨v2, h4, hm⟩ := hm
    replace hm := inv_toSl hm; obtain ⟨s1, rfl, hm⟩ := hm
    replace hm := bb_inv hm; obtain ⟨h5, hm⟩ := hm
    refine .reg (eC 1 ((oo (pu 27 [(Sl.v 1 s0)]) none fun v => some (v, (hp 0 [])))) (call_eq h2) (eD (bb (allL closed2 [(.agg ⟨q0⟩)]) (oo (pu 28 [(.agg ⟨q0⟩)]) none fun v => some (v, (hp 0 []))) (oo (mapO (purify (hp 0 [])) [(.agg ⟨q0⟩)]) none fun l1 => oo (pu 28 l1) none fun v => bb (plainT v) (some (v, (hp 0 []))) none)) (callc_eq h5 h4) (eE))) ?_
    refine .ghs (fr 13 [(2, (Sl.v 1 s1)), (3, (zI (0 : Int)))]) (hp 0 []) (.k0 [] [] [2, 3]) ?_
    refine .ret ?_
    exact fin_ret (.tuple ⟨[(Sl.v 1 s1), (zI (0 : Int))]⟩) (by kernel_rfl) (by kernel_rfl) hm
def m8_0 (pu : PureF) (n : Nat) (n0 : Nat) (c0 : Nat) (q0 : List Value) : Option Value :=
  (bb (allL closed1 q0) (bb (an (Nat.ble (0 + n0 * 1) (len q0)) (allL closed1 (takeL (n0 * 1) (dropL 0 q0)))) (some (.tuple ⟨[(Sl.v 1 (Sl.mk n0 0 (takeL (n0 * 1) (dropL 0 q0)))), (.int .i64 (0 : Int))]⟩)) none) none)
def m8_2 (pu : PureF) (n : Nat) (ih0 : Sl → Nat → Nat → Sl → Int → List Value → Option Value) (s0 : Sl) (n0 : Nat) (c0 : Nat) (s1 : Sl) (z0 : Int) (q0 : List Value) : Option Value :=
  (bb (allL closed1 q0) (ih0 s0 n0 c0 s1 (wrapF .i64 (Int.add z0 (1 : Int))) q0) none)
def b8_1 (pu : PureF) (n : Nat) (ih0 : Sl → Nat → Nat → Sl → Int → List Value → Option Value) (s0 : Sl) (n0 : Nat) (c0 : Nat) (s1 : Sl) (z0 : Int) (q0 : List Value) : Option Value :=
  (bb (allL closed1 q0) (bb (ilt z0 (Int.ofNat (Sl.n s1))) (oo (toN z0) none fun k1 => (bb (an (Nat.blt k1 (Sl.n s1)) true) (oo (nthL (Sl.cs s1) (k1 * 1)) none fun v0 => (oo (toSl 1 v0) none fun s2 => (oo (pu 33 [(Sl.v 1 s2)]) none fun v1 => (oo (toSl 1 v1) none fun s3 => (oo (pu 32 [(Sl.v 1 s3), (Sl.v 1 s0)]) none fun v2 => (oo (vBool v2) none fun b0 => (bb b0 (bb (an (Nat.blt k1 (Sl.n s1)) true) (oo (nthL (Sl.cs s1) (k1 * 1)) none fun v3 => (oo (toSl 1 v3) none fun s4 => (bb (growC 1 24 n0 c0 1 q0) (bb (allL closed1 (appL (dropL 0 q0) [(Sl.v 1 s4)])) (m8_2 pu n ih0 s0 (n0 + 1) (2 * (n0 + 1) + bb false 1 0) s1 (Int.ofNat k1) (appL (dropL 0 q0) [(Sl.v 1 s4)])) none) none))) none) (m8_2 pu n ih0 s0 n0 c0 s1 (Int.ofNat k1) q0)))))))) none)) (m8_0 pu n n0 c0 q0)) none)
def l8_1 (pu : PureF) (n : Nat) (w : Nat) : Sl → Nat → Nat → Sl → Int → List Value → Option Value :=
  Nat.rec (motive := fun _ => Sl → Nat → Nat → Sl → Int → List Value → Option Value) (fun _ _ _ _ _ _ => none) (fun _ ih0 => b8_1 pu n ih0) w
def m8_ (pu : PureF) (n : Nat) (s0 : Sl) : Option Value :=
  (oo (pu 29 [(Sl.v 1 s0)]) none fun v0 => (oo (toI .i64 v0) none fun x0 => (bb (nt (ieq x0 (0 : Int))) (some (.tuple ⟨[(Sl.v 1 (Sl.mk 0 2 [])), (.int .i64 x0)]⟩)) (oo (pu 31 [(Sl.v 1 s0)]) none fun v1 => (oo (toI .i64 v1) none fun x1 => (oo (pu 30 [(.int .i64 x1), (.int .i64 (21 : Int))]) none fun v2 => (oo (toSl 1 v2) none fun s1 => (l8_1 pu n n s0 0 0 s1 (0 : Int) ([] : List Value)))))))))
def m8 (pu : PureF) (n : Nat) (args : List Value) : Option Value :=
  (ll args none fun a0 args => (ll args (oo (toSl 1 a0) none fun s0 => (m8_ pu n s0)) fun _ _ => none))
theorem w8_0 (pu : PureF) (n : Nat) (n0 : Nat) (c0 : Nat) (q0 : List Value) {v : Value} (hm : m8_0 pu n n0 c0 q0 = some v) : Run tt (callP tabs isP pu (inl pu)) 0 c8_25 (fr 37 [(5, (sc 0 0 1 n0 c0))]) (hp 1 [(oC q0)]) (Fin tt 0 [.tmp 2, .tmp 3] v) := by
  unfold m8_0 at hm
  refine .then ?_
  refine .rK ?_
  replace hm := bb_inv hm; obtain ⟨h0, hm⟩ := hm
  refine .ghs (fr 37 [(2, (sc 0 0 1 n0 c0)), (3, (zI (0 : Int)))]) (hp 1 [(oC q0)]) (.k [0] [] [.tmp 2 false] [2, 3] ⟨trE (by kernel_rfl) h0, trivial⟩) ?_
  replace hm := bb_inv hm; obtain ⟨h1, hm⟩ := hm
  refine .ghs (Fr.puts (fr 37 [(2, (sc 0 0 1 n0 c0)), (3, (zI (0 : Int)))]) [(2, (Sl.v 1 (Sl.mk n0 0 (takeL (n0 * 1) (dropL 0 q0)))))]) (hp 1 [.dead]) (.freezeC 0 2 1 (an (Nat.ble (0 + n0 * 1) (len q0)) (allL closed1 (takeL (n0 * 1) (dropL 0 q0)))) (F1 := (Fr.puts (fr 37 [(2, (sc 0 0 1 n0 c0)), (3, (zI (0 : Int)))]) [(2, (Sl.v 1 (Sl.mk n0 0 (takeL (n0 * 1) (dropL 0 q0)))))])) (H1 := (hp 1 [.dead])) (by kernel_rfl) (by kernel_rfl) h1 (GhS.id _ _)) ?_
  refine .ret ?_
  exact fin_ret (.tuple ⟨[(Sl.v 1 (Sl.mk n0 0 (takeL (n0 * 1) (dropL 0 q0)))), (zI (0 : Int))]⟩) (by kernel_rfl) (by kernel_rfl) hm
theorem r8 {call : CallF} (pu : PureF) (n : Nat) (hcall : call = callP tabs isP pu (inl pu)) {args : List Value} {v : Value} (hm : m8 pu n args = some v) (_ : ∀ x ∈ args, closed2 x = true) : args.length ≤ 37 ∧ Run tt call 0 c8_31 (Fr.made 37 args) (pureHeap tabs) (Fin tt 0 [.tmp 2, .tmp 3] v) := by
  subst hcall
  unfold m8 at hm
  replace hm := ll_uncons hm; obtain ⟨a0, args_0, rfl, hm⟩ := hm
  replace hm := ll_end hm; obtain ⟨rfl, hm⟩ := hm
  replace hm := inv_toSl hm; obtain ⟨s0, rfl, hm⟩ := hm
  unfold m8_ at hm
  refine ⟨by simp, ?_⟩
  refine .same (F' := (fr 37 [(0, (Sl.v 1 s0))])) (H' := (hp 0 [])) (by kernel_rfl) (by kernel_rfl) ?_
  refine .then ?_
  refine .rK ?_
  refine .ghs (fr 37 [(0, (Sl.v 1 s0))]) (hp 0 []) (.k0 [] [] [0]) ?_
  refine .then ?_
  replace hm := oo_inv hm; obtain ⟨v0, h0, hm⟩ := hm
  replace hm := inv_toI hm; obtain ⟨x0, rfl, hm⟩ := hm
  refine .reg (eC 1 ((oo (pu 29 [(Sl.v 1 s0)]) none fun v => some (v, (hp 0 [])))) (call_eq h0) (eE)) ?_
  refine .ghs (fr 37 [(0, (Sl.v 1 s0)), (4, (zI x0))]) (hp 0 []) (.k0 [] [] [0, 4]) ?_
  refine .then ?_
  refine .then ?_
  refine .rK ?_
  refine .ghs (fr 37 [(0, (Sl.v 1 s0)), (4, (zI x0)), (11, (zB (nt (ieq x0 (0 : Int)))))]) (hp 0 []) (.k0 [] [] [0, 4, 11]) ?_
  replace hm := bb_cases hm; rcases hm with ⟨h1, hm⟩ | ⟨h1, hm⟩
  · refine .ifT (nt (ieq x0 (0 : Int))) (by kernel_rfl) h1 ?_
    refine .then ?_
    refine .rK ?_
    refine .ghs (fr 37 [(2, (.slice none 0 0)), (3, (zI x0))]) (hp 0 []) (.k0 [] [] [2, 3]) ?_
    refine .ghs (Fr.puts (fr 37 [(2, (.slice none 0 0)), (3, (zI x0))]) [(2, (Sl.v 1 (Sl.mk 0 2 [])))]) (hp 0 []) (.freeze 0 2 1 (by kernel_rfl) (by kernel_rfl) (GhS.id _ _)) ?_
    refine .ret ?_
    exact fin_ret (.tuple ⟨[(Sl.v 1 (Sl.mk 0 2 [])), (zI x0)]⟩) (by kernel_rfl) (by kernel_rfl) hm
  · refine .ifF (nt (ieq x0 (0 : Int))) (by kernel_rfl) h1 ?_
    refine .skip ?_
    refine .ghs (fr 37 [(0, (Sl.v 1 s0))]) (hp 0 []) (.k0 [] [] [0]) ?_
    refine .then ?_
    refine .rK ?_
    refine .ghs (fr 37 [(0, (Sl.v 1 s0)), (5, (.slice none 0 0))]) (hp 0 []) (.k0 [] [] [0, 5]) ?_
    refine .then ?_
    replace hm := oo_inv hm; obtain ⟨v1, h2, hm⟩ := hm
    replace hm := inv_toI hm; obtain ⟨x1, rfl, hm⟩ := hm
    replace hm := oo_inv hm; obtain ⟨v2, h3, hm⟩ := hm
    replace hm := inv_toSl hm; obtain ⟨s1, rfl, hm⟩ := hm
    refine .reg (eC 1 ((oo (pu 31 [(Sl.v 1 s0)]) none fun v => some (v, (hp 0 [])))) (call_eq h2) (eD ((oo (pu 30 [(zI x1), (zI (21 : Int))]) none fun v => some (v, (hp 0 [])))) (call_eq h3) (eE))) ?_
    refine .ghs (fr 37 [(0, (Sl.v 1 s0)), (5, (.slice none 0 0)), (6, (Sl.v 1 s1))]) (hp 0 []) (.k0 [] [] [0, 5, 6]) ?_
    refine .join (v := v) (fun y : Nat × Nat × List Value => ((fr 37 [(5, (sc 0 0 1 y.1 y.2.1))]), (hp 1 [(oC y.2.2)]))) (fun y => m8_0 pu n y.1 y.2.1 y.2.2) ?_ ?_
    · rintro ⟨n0, c0, q0⟩ hm
      exact w8_0 pu n n0 c0 q0 hm
    · refine .then ?_
      refine .rK ?_
      refine .ghs (fr 37 [(0, (Sl.v 1 s0)), (5, (.slice none 0 0)), (6, (Sl.v 1 s1)), (7, (zI (0 : Int)))]) (hp 0 []) (.k0 [] [] [0, 5, 6, 7]) ?_
      refine .block ?_
      refine .loopM (v := v) (fun y : Sl × Nat × Nat × Sl × Int × List Value => ((fr 37 [(0, (Sl.v 1 y.1)), (5, (sc 0 0 1 y.2.1 y.2.2.1)), (6, (Sl.v 1 y.2.2.2.1)), (7, (zI y.2.2.2.2.1))]), (hp 1 [(oC y.2.2.2.2.2)]))) (fun w y => l8_1 pu n w y.1 y.2.1 y.2.2.1 y.2.2.2.1 y.2.2.2.2.1 y.2.2.2.2.2) n ⟨(s0, 0, 0, s1, (0 : Int), ([] : List Value)), hm, (.thaw 5 1 (by kernel_rfl) (.k0 [] [.tmp 5 false] [0, 5, 6, 7]))⟩ (fun _ => rfl) ?_
      rintro w0 ⟨s2, n1, c1, s3, z0, q1⟩ hm
      replace hm : b8_1 pu n (l8_1 pu n w0) s2 n1 c1 s3 z0 q1 = some v := hm
      unfold b8_1 at hm
      refine .then ?_
      refine .then ?_
      refine .rK ?_
      replace hm := bb_inv hm; obtain ⟨h4, hm⟩ := hm
      refine .ghs (fr 37 [(0, (Sl.v 1 s2)), (5, (sc 0 0 1 n1 c1)), (6, (Sl.v 1 s3)), (7, (zI z0)), (19, (zB (ilt z0 (Int.ofNat (Sl.n s3)))))]) (hp 1 [(oC q1)]) (.k [0] [] [.tmp 5 false] [0, 5, 6, 7, 19] ⟨trE (by kernel_rfl) h4, trivial⟩) ?_
      replace hm := bb_cases hm; rcases hm with ⟨h5, hm⟩ | ⟨h5, hm⟩
      · refine .ifT (ilt z0 (Int.ofNat (Sl.n s3))) (by kernel_rfl) h5 ?_
        refine .skip ?_
        refine .ghs (fr 37 [(0, (Sl.v 1 s2)), (5, (sc 0 0 1 n1 c1)), (6, (Sl.v 1 s3)), (7, (zI z0))]) (hp 1 [(oC q1)]) (.k [0] [] [.tmp 5 false] [0, 5, 6, 7] ⟨trE (by kernel_rfl) h4, trivial⟩) ?_
        refine .join (v := v) (fun y : Sl × Nat × Nat × Sl × Int × List Value => ((fr 37 [(0, (Sl.v 1 y.1)), (5, (sc 0 0 1 y.2.1 y.2.2.1)), (6, (Sl.v 1 y.2.2.2.1)), (7, (zI y.2.2.2.2.1))]), (hp 1 [(oC y.2.2.2.2.2)]))) (fun y => m8_2 pu n (l8_1 pu n w0) y.1 y.2.1 y.2.2.1 y.2.2.2.1 y.2.2.2.2.1 y.2.2.2.2.2) ?_ ?_
        · rintro ⟨s4, n2, c2, s5, z1, q2⟩ hm
          unfold m8_2 at hm
          refine .rK ?_
          replace hm := bb_inv hm; obtain ⟨h6, hm⟩ := hm
          exact ⟨(s4, n2, c2, s5, (wrapF .i64 (Int.add z1 (1 : Int))), q2), hm, (.k [0] [] [.tmp 5 false] [0, 5, 6, 7] ⟨trE (by kernel_rfl) h6, trivial⟩)⟩
        · refine .block ?_
          refine .then ?_
          replace hm := oo_inv hm; obtain ⟨k1, h7, hm⟩ := hm
          obtain rfl := toN_some h7
          replace hm := bb_inv hm; obtain ⟨h8, hm⟩ := hm
          replace hm := oo_inv hm; obtain ⟨v3, h9, hm⟩ := hm
          replace hm := inv_toSl hm; obtain ⟨s6, rfl, hm⟩ := hm
          replace hm := oo_inv hm; obtain ⟨v4, h10, hm⟩ := hm
          replace hm := inv_toSl hm; obtain ⟨s7, rfl, hm⟩ := hm
          replace hm := oo_inv hm; obtain ⟨v5, h11, hm⟩ := hm
          replace hm := inv_vBool hm; obtain ⟨b0, rfl, hm⟩ := hm
          refine .reg (eC 2 (keep (hp 1 [(oC q1)]) (bb (an (Nat.blt k1 (Sl.n s3)) true) (some (fpV (k1 * 1) (Sl.cs s3))) none)) (keep_bb h8) (eD (keep (hp 1 [(oC q1)]) (nthL (Sl.cs s3) (k1 * 1))) (keep_eq h9) (eD ((oo (pu 33 [(Sl.v 1 s6)]) none fun v => some (v, (hp 1 [(oC q1)])))) (call_eq h10) (eC 1 ((oo (pu 32 [(Sl.v 1 s7), (Sl.v 1 s2)]) none fun v => some (v, (hp 1 [(oC q1)])))) (call_eq h11) (eE))))) ?_
          refine .ghs (fr 37 [(0, (Sl.v 1 s2)), (5, (sc 0 0 1 n1 c1)), (6, (Sl.v 1 s3)), (7, (zI (Int.ofNat k1))), (28, (zB b0))]) (hp 1 [(oC q1)]) (.k [0] [] [.tmp 5 false] [0, 5, 6, 7, 28] ⟨trE (by kernel_rfl) h4, trivial⟩) ?_
          replace hm := bb_cases hm; rcases hm with ⟨h12, hm⟩ | ⟨h12, hm⟩
          · refine .ifT b0 (by kernel_rfl) h12 ?_
            replace hm := bb_inv hm; obtain ⟨h13, hm⟩ := hm
            replace hm := oo_inv hm; obtain ⟨v6, h14, hm⟩ := hm
            replace hm := inv_toSl hm; obtain ⟨s8, rfl, hm⟩ := hm
            replace hm := bb_inv hm; obtain ⟨h15, hm⟩ := hm
            refine .reg (eC 3 (keep (hp 1 [(oC q1)]) (bb (an (Nat.blt k1 (Sl.n s3)) true) (some (fpV (k1 * 1) (Sl.cs s3))) none)) (keep_bb h13) (eD (keep (hp 1 [(oC q1)]) (nthL (Sl.cs s3) (k1 * 1))) (keep_eq h14) (eC 1 (growD 1 24 n1 c1 1 0 q1 [(Sl.v 1 s8)] [] (hp 2 [(oC q1), (oC [(Sl.v 1 s8)])])) (growD_eq h15) (eE)))) ?_
            replace hm := bb_inv hm; obtain ⟨h16, hm⟩ := hm
            exact ⟨(s2, (n1 + 1), (d2 (n1 + 1)), s3, (Int.ofNat k1), (appL (dropL 0 q1) [(Sl.v 1 s8)])), hm, (.k [2] [] [.tmp 5 false] [0, 5, 6, 7] ⟨trE (by kernel_rfl) h16, trivial⟩)⟩
          · refine .ifF b0 (by kernel_rfl) h12 ?_
            refine .skip ?_
            exact ⟨(s2, n1, c1, s3, (Int.ofNat k1), q1), hm, (.k [0] [] [.tmp 5 false] [0, 5, 6, 7] ⟨trE (by kernel_rfl) h4, trivial⟩)⟩
      · refine .ifF (ilt z0 (Int.ofNat (Sl.n s3))) (by kernel_rfl) h5 ?_
        refine .exit ?_
        exact ⟨(n1, c1, q1), hm, (.k [0] [] [.tmp 5 false] [5] ⟨trE (by kernel_rfl) h4, trivial⟩)⟩
def m9_0 (pu : PureF) (n : Nat) : Option Value :=
  (some (.bool true))
def b9_1 (pu : PureF) (n : Nat) (ih0 : Sl → Sl → Int → Option Value) (s0 : Sl) (s1 : Sl) (z0 : Int) : Option Value :=
  (bb (ilt z0 (Int.ofNat (Sl.n s0))) (oo (toN z0) none fun k1 => (bb (an (Nat.blt k1 (Sl.n s0)) true) (oo (nthL (Sl.cs s0) (k1 * 1)) none fun v0 => (oo (toSl 1 v0) none fun s2 => (bb (an (Nat.blt k1 (Sl.n s1)) true) (oo (nthL (Sl.cs s1) (k1 * 1)) none fun v1 => (oo (toSl 1 v1) none fun s3 => (oo (pu 24 [(Sl.v 1 s2), (Sl.v 1 s3)]) none fun v2 => (oo (vBool v2) none fun b0 => (bb (nt b0) (some (.bool false)) (ih0 s0 s1 (wrapF .i64 (Int.add (Int.ofNat k1) (1 : Int))))))))) none))) none)) (m9_0 pu n))
def l9_1 (pu : PureF) (n : Nat) (w : Nat) : Sl → Sl → Int → Option Value :=
  Nat.rec (motive := fun _ => Sl → Sl → Int → Option Value) (fun _ _ _ => none) (fun _ ih0 => b9_1 pu n ih0) w
def m9_ (pu : PureF) (n : Nat) (s0 : Sl) (s1 : Sl) : Option Value :=
  (bb (nt (ieq (Int.ofNat (Sl.n s0)) (Int.ofNat (Sl.n s1)))) (some (.bool false)) (l9_1 pu n n s0 s1 (0 : Int)))
def m9 (pu : PureF) (n : Nat) (args : List Value) : Option Value :=
  (ll args none fun a0 args => (ll args none fun a1 args => (ll args (oo (toSl 1 a0) none fun s0 => (oo (toSl 1 a1) none fun s1 => (m9_ pu n s0 s1))) fun _ _ => none)))
theorem w9_0 (pu : PureF) (n : Nat) {v : Value} (hm : m9_0 pu n = some v) : Run tt (callP tabs isP pu (inl pu)) 0 c9_23 (fr 27 []) (hp 0 []) (Fin tt 0 [.tmp 4] v) := by
  unfold m9_0 at hm
  refine .then ?_
  refine .rK ?_
  refine .ghs (fr 27 [(4, (zB true))]) (hp 0 []) (.k0 [] [] [4]) ?_
  refine .ret ?_
  exact fin_ret (zB true) (by kernel_rfl) (by kernel_rfl) hm
theorem r9 {call : CallF} (pu : PureF) (n : Nat) (hcall : call = callP tabs isP pu (inl pu)) {args : List Value} {v : Value} (hm : m9 pu n args = some v) (_ : ∀ x ∈ args, closed2 x = true) : args.length ≤ 27 ∧ Run tt call 0 c9_26 (Fr.made 27 args) (pureHeap tabs) (Fin tt 0 [.tmp 4] v) := by
  subst hcall
  unfold m9 at hm
  replace hm := ll_uncons hm; obtain ⟨a0, args_0, rfl, hm⟩ := hm
  replace hm := ll_uncons hm; obtain ⟨a1, args_1, rfl, hm⟩ := hm
  replace hm := ll_end hm; obtain ⟨rfl, hm⟩ := hm
  replace hm := inv_toSl hm; obtain ⟨s0, rfl, hm⟩ := hm
  replace hm := inv_toSl hm; obtain ⟨s1, rfl, hm⟩ := hm
  unfold m9_ at hm
  refine ⟨by simp, ?_⟩
  refine .same (F' := (fr 27 [(0, (Sl.v 1 s0)), (1, (Sl.v 1 s1))])) (H' := (hp 0 [])) (by kernel_rfl) (by kernel_rfl) ?_
  refine .then ?_
  refine .rK ?_
  refine .ghs (fr 27 [(0, (Sl.v 1 s0)), (1, (Sl.v 1 s1))]) (hp 0 []) (.k0 [] [] [0, 1]) ?_
  refine .then ?_
  refine .then ?_
  refine .rK ?_
  refine .ghs (fr 27 [(0, (Sl.v 1 s0)), (1, (Sl.v 1 s1)), (10, (zB (nt (ieq (Int.ofNat (Sl.n s0)) (Int.ofNat (Sl.n s1))))))]) (hp 0 []) (.k0 [] [] [0, 1, 10]) ?_
  replace hm := bb_cases hm; rcases hm with ⟨h0, hm⟩ | ⟨h0, hm⟩
  · refine .ifT (nt (ieq (Int.ofNat (Sl.n s0)) (Int.ofNat (Sl.n s1)))) (by kernel_rfl) h0 ?_
    refine .then ?_
    refine .rK ?_
    refine .ghs (fr 27 [(4, (zB false))]) (hp 0 []) (.k0 [] [] [4]) ?_
    refine .ret ?_
    exact fin_ret (zB false) (by kernel_rfl) (by kernel_rfl) hm
  · refine .ifF (nt (ieq (Int.ofNat (Sl.n s0)) (Int.ofNat (Sl.n s1)))) (by kernel_rfl) h0 ?_
    refine .skip ?_
    refine .ghs (fr 27 [(0, (Sl.v 1 s0)), (1, (Sl.v 1 s1))]) (hp 0 []) (.k0 [] [] [0, 1]) ?_
    refine .join (v := v) (fun y : Unit => ((fr 27 []), (hp 0 []))) (fun y => m9_0 pu n) ?_ ?_
    · rintro _ hm
      exact w9_0 pu n hm
    · refine .then ?_
      refine .rK ?_
      refine .ghs (fr 27 [(0, (Sl.v 1 s0)), (1, (Sl.v 1 s1)), (5, (zI (0 : Int)))]) (hp 0 []) (.k0 [] [] [0, 1, 5]) ?_
      refine .block ?_
      refine .loopM (v := v) (fun y : Sl × Sl × Int => ((fr 27 [(0, (Sl.v 1 y.1)), (1, (Sl.v 1 y.2.1)), (5, (zI y.2.2))]), (hp 0 []))) (fun w y => l9_1 pu n w y.1 y.2.1 y.2.2) n ⟨(s0, s1, (0 : Int)), hm, (.k0 [] [] [0, 1, 5])⟩ (fun _ => rfl) ?_
      rintro w0 ⟨s2, s3, z0⟩ hm
      replace hm : b9_1 pu n (l9_1 pu n w0) s2 s3 z0 = some v := hm
      unfold b9_1 at hm
      refine .then ?_
      refine .then ?_
      refine .rK ?_
      refine .ghs (fr 27 [(0, (Sl.v 1 s2)), (1, (Sl.v 1 s3)), (5, (zI z0)), (14, (zB (ilt z0 (Int.ofNat (Sl.n s2)))))]) (hp 0 []) (.k0 [] [] [0, 1, 5, 14]) ?_
      replace hm := bb_cases hm; rcases hm with ⟨h1, hm⟩ | ⟨h1, hm⟩
      · refine .ifT (ilt z0 (Int.ofNat (Sl.n s2))) (by kernel_rfl) h1 ?_
        refine .skip ?_
        refine .ghs (fr 27 [(0, (Sl.v 1 s2)), (1, (Sl.v 1 s3)), (5, (zI z0))]) (hp 0 []) (.k0 [] [] [0, 1, 5]) ?_
        refine .then ?_
        refine .block ?_
        refine .then ?_
        replace hm := oo_inv hm; obtain ⟨k1, h2, hm⟩ := hm
        obtain rfl := toN_some h2
        replace hm := bb_inv hm; obtain ⟨h3, hm⟩ := hm
        replace hm := oo_inv hm; obtain ⟨v0, h4, hm⟩ := hm
        replace hm := inv_toSl hm; obtain ⟨s4, rfl, hm⟩ := hm
        replace hm := bb_inv hm; obtain ⟨h5, hm⟩ := hm
        replace hm := oo_inv hm; obtain ⟨v1, h6, hm⟩ := hm
        replace hm := inv_toSl hm; obtain ⟨s5, rfl, hm⟩ := hm
        replace hm := oo_inv hm; obtain ⟨v2, h7, hm⟩ := hm
        replace hm := inv_vBool hm; obtain ⟨b0, rfl, hm⟩ := hm
        refine .reg (eC 2 (keep (hp 0 []) (bb (an (Nat.blt k1 (Sl.n s2)) true) (some (fpV (k1 * 1) (Sl.cs s2))) none)) (keep_bb h3) (eD (keep (hp 0 []) (nthL (Sl.cs s2) (k1 * 1))) (keep_eq h4) (eC 2 (keep (hp 0 []) (bb (an (Nat.blt k1 (Sl.n s3)) true) (some (fpV (k1 * 1) (Sl.cs s3))) none)) (keep_bb h5) (eD (keep (hp 0 []) (nthL (Sl.cs s3) (k1 * 1))) (keep_eq h6) (eD ((oo (pu 24 [(Sl.v 1 s4), (Sl.v 1 s5)]) none fun v => some (v, (hp 0 [])))) (call_eq h7) (eE)))))) ?_
        refine .ghs (fr 27 [(0, (Sl.v 1 s2)), (1, (Sl.v 1 s3)), (5, (zI (Int.ofNat k1))), (26, (zB (nt b0)))]) (hp 0 []) (.k0 [] [] [0, 1, 5, 26]) ?_
        replace hm := bb_cases hm; rcases hm with ⟨h8, hm⟩ | ⟨h8, hm⟩
        · refine .ifT (nt b0) (by kernel_rfl) h8 ?_
          refine .then ?_
          refine .rK ?_
          refine .ghs (fr 27 [(4, (zB false))]) (hp 0 []) (.k0 [] [] [4]) ?_
          refine .ret ?_
          exact fin_ret (zB false) (by kernel_rfl) (by kernel_rfl) hm
        · refine .ifF (nt b0) (by kernel_rfl) h8 ?_
          refine .skip ?_
          refine .ghs (fr 27 [(0, (Sl.v 1 s2)), (1, (Sl.v 1 s3)), (5, (zI (Int.ofNat k1)))]) (hp 0 []) (.k0 [] [] [0, 1, 5]) ?_
          refine .rK ?_
          exact ⟨(s2, s3, (wrapF .i64 (Int.add (Int.ofNat k1) (1 : Int)))), hm, (.k0 [] [] [0, 1, 5])⟩
      · refine .ifF (ilt z0 (Int.ofNat (Sl.n s2))) (by kernel_rfl) h1 ?_
        refine .exit ?_
        exact ⟨(), hm, (.k0 [] [] [])⟩
def m24_0 (pu : PureF) (n : Nat) : Option Value :=
  (some (.bool true))
def b24_1 (pu : PureF) (n : Nat) (ih0 : Sl → Sl → Int → Option Value) (s0 : Sl) (s1 : Sl) (z0 : Int) : Option Value :=
  (bb (ilt z0 (Int.ofNat (Sl.n s0))) (oo (toN z0) none fun k1 => (bb (an (Nat.blt k1 (Sl.n s0)) true) (oo (nthL (Sl.cs s0) (k1 * 1)) none fun v0 => (oo (toI .i64 v0) none fun x0 => (bb (an (Nat.blt k1 (Sl.n s1)) true) (oo (nthL (Sl.cs s1) (k1 * 1)) none fun v1 => (oo (toI .i64 v1) none fun x1 => (bb (nt (ieq x0 x1)) (some (.bool false)) (ih0 s0 s1 (wrapF .i64 (Int.add (Int.ofNat k1) (1 : Int))))))) none))) none)) (m24_0 pu n))
def l24_1 (pu : PureF) (n : Nat) (w : Nat) : Sl → Sl → Int → Option Value :=
  Nat.rec (motive := fun _ => Sl → Sl → Int → Option Value) (fun _ _ _ => none) (fun _ ih0 => b24_1 pu n ih0) w
def m24_ (pu : PureF) (n : Nat) (s0 : Sl) (s1 : Sl) : Option Value :=
  (bb (nt (ieq (Int.ofNat (Sl.n s0)) (Int.ofNat (Sl.n s1)))) (some (.bool false)) (l24_1 pu n n s0 s1 (0 : Int)))
def m24 (pu : PureF) (n : Nat) (args : List Value) : Option Value :=
  (ll args none fun a0 args => (ll args none fun a1 args => (ll args (oo (toSl 1 a0) none fun s0 => (oo (toSl 1 a1) none fun s1 => (m24_ pu n s0 s1))) fun _ _ => none)))
theorem w24_0 (pu : PureF) (n : Nat) {v : Value} (hm : m24_0 pu n = some v) : Run tt (callP tabs isP pu (inl pu)) 0 c24_23 (fr 26 []) (hp 0 []) (Fin tt 0 [.tmp 4] v) := by
  unfold m24_0 at hm
  refine .then ?_
  refine .rK ?_
  refine .ghs (fr 26 [(4, (zB true))]) (hp 0 []) (.k0 [] [] [4]) ?_
  refine .ret ?_
  exact fin_ret (zB true) (by kernel_rfl) (by kernel_rfl) hm
theorem r24 {call : CallF} (pu : PureF) (n : Nat) (hcall : call = callP tabs isP pu (inl pu)) {args : List Value} {v : Value} (hm : m24 pu n args = some v) (_ : ∀ x ∈ args, closed2 x = true) : args.length ≤ 26 ∧ Run tt call 0 c24_26 (Fr.made 26 args) (pureHeap tabs) (Fin tt 0 [.tmp 4] v) := by
  subst hcall
  unfold m24 at hm
  replace hm := ll_uncons hm; obtain ⟨a0, args_0, rfl, hm⟩ := hm
  replace hm := ll_uncons hm; obtain ⟨a1, args_1, rfl, hm⟩ := hm
  replace hm := ll_end hm; obtain ⟨rfl, hm⟩ := hm
  replace hm := inv_toSl hm; obtain ⟨s0, rfl, hm⟩ := hm
  replace hm := inv_toSl hm; obtain ⟨s1, rfl, hm⟩ := hm
  unfold m24_ at hm
  refine ⟨by simp, ?_⟩
  refine .same (F' := (fr 26 [(0, (Sl.v 1 s0)), (1, (Sl.v 1 s1))])) (H' := (hp 0 [])) (by kernel_rfl) (by kernel_rfl) ?_
  refine .then ?_
  refine .rK ?_
  refine .ghs (fr 26 [(0, (Sl.v 1 s0)), (1, (Sl.v 1 s1))]) (hp 0 []) (.k0 [] [] [0, 1]) ?_
  refine .then ?_
  refine .then ?_
  refine .rK ?_
  refine .ghs (fr 26 [(0, (Sl.v 1 s0)), (1, (Sl.v 1 s1)), (10, (zB (nt (ieq (Int.ofNat (Sl.n s0)) (Int.ofNat (Sl.n s1))))))]) (hp 0 []) (.k0 [] [] [0, 1, 10]) ?_
  replace hm := bb_cases hm; rcases hm with ⟨h0, hm⟩ | ⟨h0, hm⟩
  · refine .ifT (nt (ieq (Int.ofNat (Sl.n s0)) (Int.ofNat (Sl.n s1)))) (by kernel_rfl) h0 ?_
    refine .then ?_
    refine .rK ?_
    refine .ghs (fr 26 [(4, (zB false))]) (hp 0 []) (.k0 [] [] [4]) ?_
    refine .ret ?_
    exact fin_ret (zB false) (by kernel_rfl) (by kernel_rfl) hm
  · refine .ifF (nt (ieq (Int.ofNat (Sl.n s0)) (Int.ofNat (Sl.n s1)))) (by kernel_rfl) h0 ?_
    refine .skip ?_
    refine .ghs (fr 26 [(0, (Sl.v 1 s0)), (1, (Sl.v 1 s1))]) (hp 0 []) (.k0 [] [] [0, 1]) ?_
    refine .join (v := v) (fun y : Unit => ((fr 26 []), (hp 0 []))) (fun y => m24_0 pu n) ?_ ?_
    · rintro _ hm
      exact w24_0 pu n hm
    · refine .then ?_
      refine .rK ?_
      refine .ghs (fr 26 [(0, (Sl.v 1 s0)), (1, (Sl.v 1 s1)), (5, (zI (0 : Int)))]) (hp 0 []) (.k0 [] [] [0, 1, 5]) ?_
      refine .block ?_
      refine .loopM (v := v) (fun y : Sl × Sl × Int => ((fr 26 [(0, (Sl.v 1 y.1)), (1, (Sl.v 1 y.2.1)), (5, (zI y.2.2))]), (hp 0 []))) (fun w y => l24_1 pu n w y.1 y.2.1 y.2.2) n ⟨(s0, s1, (0 : Int)), hm, (.k0 [] [] [0, 1, 5])⟩ (fun _ => rfl) ?_
      rintro w0 ⟨s2, s3, z0⟩ hm
      replace hm : b24_1 pu n (l24_1 pu n w0) s2 s3 z0 = some v := hm
      unfold b24_1 at hm
      refine .then ?_
      refine .then ?_
      refine .rK ?_
      refine .ghs (fr 26 [(0, (Sl.v 1 s2)), (1, (Sl.v 1 s3)), (5, (zI z0)), (14, (zB (ilt z0 (Int.ofNat (Sl.n s2)))))]) (hp 0 []) (.k0 [] [] [0, 1, 5, 14]) ?_
      replace hm := bb_cases hm; rcases hm with ⟨h1, hm⟩ | ⟨h1, hm⟩
      · refine .ifT (ilt z0 (Int.ofNat (Sl.n s2))) (by kernel_rfl) h1 ?_
        refine .skip ?_
        refine .ghs (fr 26 [(0, (Sl.v 1 s2)), (1, (Sl.v 1 s3)), (5, (zI z0))]) (hp 0 []) (.k0 [] [] [0, 1, 5]) ?_
        refine .then ?_
        refine .block ?_
        refine .then ?_
        replace hm := oo_inv hm; obtain ⟨k1, h2, hm⟩ := hm
        obtain rfl := toN_some h2
        replace hm := bb_inv hm; obtain ⟨h3, hm⟩ := hm
        replace hm := oo_inv hm; obtain ⟨v0, h4, hm⟩ := hm
        replace hm := inv_toI hm; obtain ⟨x0, rfl, hm⟩ := hm
        replace hm := bb_inv hm; obtain ⟨h5, hm⟩ := hm
        replace hm := oo_inv hm; obtain ⟨v1, h6, hm⟩ := hm
        replace hm := inv_toI hm; obtain ⟨x1, rfl, hm⟩ := hm
        refine .reg (eC 2 (keep (hp 0 []) (bb (an (Nat.blt k1 (Sl.n s2)) true) (some (fpV (k1 * 1) (Sl.cs s2))) none)) (keep_bb h3) (eD (keep (hp 0 []) (nthL (Sl.cs s2) (k1 * 1))) (keep_eq h4) (eC 2 (keep (hp 0 []) (bb (an (Nat.blt k1 (Sl.n s3)) true) (some (fpV (k1 * 1) (Sl.cs s3))) none)) (keep_bb h5) (eD (keep (hp 0 []) (nthL (Sl.cs s3) (k1 * 1))) (keep_eq h6) (eE))))) ?_
        refine .ghs (fr 26 [(0, (Sl.v 1 s2)), (1, (Sl.v 1 s3)), (5, (zI (Int.ofNat k1))), (25, (zB (nt (ieq x0 x1))))]) (hp 0 []) (.k0 [] [] [0, 1, 5, 25]) ?_
        replace hm := bb_cases hm; rcases hm with ⟨h7, hm⟩ | ⟨h7, hm⟩
        · refine .ifT (nt (ieq x0 x1)) (by kernel_rfl) h7 ?_
          refine .then ?_
          refine .rK ?_
          refine .ghs (fr 26 [(4, (zB false))]) (hp 0 []) (.k0 [] [] [4]) ?_
          refine .ret ?_
          exact fin_ret (zB false) (by kernel_rfl) (by kernel_rfl) hm
        · refine .ifF (nt (ieq x0 x1)) (by kernel_rfl) h7 ?_
          refine .skip ?_
          refine .ghs (fr 26 [(0, (Sl.v 1 s2)), (1, (Sl.v 1 s3)), (5, (zI (Int.ofNat k1)))]) (hp 0 []) (.k0 [] [] [0, 1, 5]) ?_
          refine .rK ?_
          exact ⟨(s2, s3, (wrapF .i64 (Int.add (Int.ofNat k1) (1 : Int)))), hm, (.k0 [] [] [0, 1, 5])⟩
      · refine .ifF (ilt z0 (Int.ofNat (Sl.n s2))) (by kernel_rfl) h1 ?_
        refine .exit ?_
        exact ⟨(), hm, (.k0 [] [] [])⟩
def m26_0 (pu : PureF) (n : Nat) (z0 : Int) : Option Value :=
  (bb (ilt (21 : Int) z0) (some (.int .i64 (3 : Int))) (some (.int .i64 (0 : Int))))
def b26_1 (pu : PureF) (n : Nat) (ih0 : Int → Int → Sl → Int → Int → Option Value) (z0 : Int) (z1 : Int) (s0 : Sl) (z2 : Int) (z3 : Int) : Option Value :=
  (bb (ilt z3 z2) (oo (toN z3) none fun k1 => (bb (an (Nat.blt k1 (Sl.n s0)) true) (oo (nthL (Sl.cs s0) (k1 * 1)) none fun v0 => (oo (toI .i64 v0) none fun x0 => (oo (pu 42 [(.int .i64 (1 : Int)), (.int .i64 x0), (.int .i64 (21 : Int))]) none fun v1 => (oo (vBool v1) none fun b0 => (bb (nt b0) (some (.int .i64 (1 : Int))) (bb (ilt z1 x0) (some (.int .i64 (7 : Int))) (ih0 (bb (ilt (22 : Int) (wrapF .i64 (Int.add z0 x0))) (22 : Int) (wrapF .i64 (Int.add z0 x0))) x0 s0 z2 (wrapF .i64 (Int.add (Int.ofNat k1) (1 : Int)))))))))) none)) (m26_0 pu n z0))
def l26_1 (pu : PureF) (n : Nat) (w : Nat) : Int → Int → Sl → Int → Int → Option Value :=
  Nat.rec (motive := fun _ => Int → Int → Sl → Int → Int → Option Value) (fun _ _ _ _ _ => none) (fun _ ih0 => b26_1 pu n ih0) w
def m26_ (pu : PureF) (n : Nat) (s0 : Sl) : Option Value :=
  (bb (ieq (Int.ofNat (Sl.n s0)) (0 : Int)) (some (.int .i64 (4 : Int))) (l26_1 pu n n (0 : Int) (21 : Int) s0 (Int.ofNat (Sl.n s0)) (0 : Int)))
def m26 (pu : PureF) (n : Nat) (args : List Value) : Option Value :=
  (ll args none fun a0 args => (ll args (oo (toSl 1 a0) none fun s0 => (m26_ pu n s0)) fun _ _ => none))
theorem w26_0 (pu : PureF) (n : Nat) (z0 : Int) {v : Value} (hm : m26_0 pu n z0 = some v) : Run tt (callP tabs isP pu (inl pu)) 0 c26_42 (fr 32 [(3, (zI z0))]) (hp 0 []) (Fin tt 0 [.tmp 2] v) := by
  unfold m26_0 at hm
  refine .then ?_
  refine .then ?_
  refine .rK ?_
  refine .ghs (fr 32 [(31, (zB (ilt (21 : Int) z0)))]) (hp 0 []) (.k0 [] [] [31]) ?_
  replace hm := bb_cases hm; rcases hm with ⟨h0, hm⟩ | ⟨h0, hm⟩
  · refine .ifT (ilt (21 : Int) z0) (by kernel_rfl) h0 ?_
    refine .then ?_
    refine .rK ?_
    refine .ghs (fr 32 [(2, (zI (3 : Int)))]) (hp 0 []) (.k0 [] [] [2]) ?_
    refine .ret ?_
    exact fin_ret (zI (3 : Int)) (by kernel_rfl) (by kernel_rfl) hm
  · refine .ifF (ilt (21 : Int) z0) (by kernel_rfl) h0 ?_
    refine .skip ?_
    refine .ghs (fr 32 []) (hp 0 []) (.k0 [] [] []) ?_
    refine .then ?_
    refine .rK ?_
    refine .ghs (fr 32 [(2, (zI (0 : Int)))]) (hp 0 []) (.k0 [] [] [2]) ?_
    refine .ret ?_
    exact fin_ret (zI (0 : Int)) (by kernel_rfl) (by kernel_rfl) hm
theorem r26 {call : CallF} (pu : PureF) (n : Nat) (hcall : call = callP tabs isP pu (inl pu)) {args : List Value} {v : Value} (hm : m26 pu n args = some v) (_ : ∀ x ∈ args, closed2 x = true) : args.length ≤ 32 ∧ Run tt call 0 c26_46 (Fr.made 32 args) (pureHeap tabs) (Fin tt 0 [.tmp 2] v) := by
  subst hcall
  unfold m26 at hm
  replace hm := ll_uncons hm; obtain ⟨a0, args_0, rfl, hm⟩ := hm
  replace hm := ll_end hm; obtain ⟨rfl, hm⟩ := hm
  replace hm := inv_toSl hm; obtain ⟨s0, rfl, hm⟩ := hm
  unfold m26_ at hm
  refine ⟨by simp, ?_⟩
  refine .same (F' := (fr 32 [(0, (Sl.v 1 s0))])) (H' := (hp 0 [])) (by kernel_rfl) (by kernel_rfl) ?_
  refine .then ?_
  refine .rK ?_
  refine .ghs (fr 32 [(0, (Sl.v 1 s0))]) (hp 0 []) (.k0 [] [] [0]) ?_
  refine .then ?_
  refine .then ?_
  refine .rK ?_
  refine .ghs (fr 32 [(0, (Sl.v 1 s0)), (9, (zB (ieq (Int.ofNat (Sl.n s0)) (0 : Int))))]) (hp 0 []) (.k0 [] [] [0, 9]) ?_
  replace hm := bb_cases hm; rcases hm with ⟨h0, hm⟩ | ⟨h0, hm⟩
  · refine .ifT (ieq (Int.ofNat (Sl.n s0)) (0 : Int)) (by kernel_rfl) h0 ?_
    refine .then ?_
    refine .rK ?_
    refine .ghs (fr 32 [(2, (zI (4 : Int)))]) (hp 0 []) (.k0 [] [] [2]) ?_
    refine .ret ?_
    exact fin_ret (zI (4 : Int)) (by kernel_rfl) (by kernel_rfl) hm
  · refine .ifF (ieq (Int.ofNat (Sl.n s0)) (0 : Int)) (by kernel_rfl) h0 ?_
    refine .skip ?_
    refine .ghs (fr 32 [(0, (Sl.v 1 s0))]) (hp 0 []) (.k0 [] [] [0]) ?_
    refine .then ?_
    refine .rK ?_
    refine .ghs (fr 32 [(0, (Sl.v 1 s0)), (3, (zI (0 : Int))), (4, (zI (21 : Int)))]) (hp 0 []) (.k0 [] [] [0, 3, 4]) ?_
    refine .join (v := v) (fun y : Int => ((fr 32 [(3, (zI y))]), (hp 0 []))) (fun y => m26_0 pu n y) ?_ ?_
    · rintro z0 hm
      exact w26_0 pu n z0 hm
    · refine .then ?_
      refine .rK ?_
      refine .ghs (fr 32 [(3, (zI (0 : Int))), (4, (zI (21 : Int))), (10, (Sl.v 1 s0)), (11, (zI (Int.ofNat (Sl.n s0)))), (12, (zI (0 : Int)))]) (hp 0 []) (.k0 [] [] [3, 4, 10, 11, 12]) ?_
      refine .block ?_
      refine .loopM (v := v) (fun y : Int × Int × Sl × Int × Int => ((fr 32 [(3, (zI y.1)), (4, (zI y.2.1)), (10, (Sl.v 1 y.2.2.1)), (11, (zI y.2.2.2.1)), (12, (zI y.2.2.2.2))]), (hp 0 []))) (fun w y => l26_1 pu n w y.1 y.2.1 y.2.2.1 y.2.2.2.1 y.2.2.2.2) n ⟨((0 : Int), (21 : Int), s0, (Int.ofNat (Sl.n s0)), (0 : Int)), hm, (.k0 [] [] [3, 4, 10, 11, 12])⟩ (fun _ => rfl) ?_
      rintro w0 ⟨z1, z2, s1, z3, z4⟩ hm
      replace hm : b26_1 pu n (l26_1 pu n w0) z1 z2 s1 z3 z4 = some v := hm
      unfold b26_1 at hm
      refine .then ?_
      refine .rK ?_
      refine .ghs (fr 32 [(3, (zI z1)), (4, (zI z2)), (10, (Sl.v 1 s1)), (11, (zI z3)), (12, (zI z4)), (13, (zB (ilt z4 z3)))]) (hp 0 []) (.k0 [] [] [3, 4, 10, 11, 12, 13]) ?_
      refine .then ?_
      replace hm := bb_cases hm; rcases hm with ⟨h1, hm⟩ | ⟨h1, hm⟩
      · refine .ifT (ilt z4 z3) (by kernel_rfl) h1 ?_
        refine .skip ?_
        refine .ghs (fr 32 [(3, (zI z1)), (4, (zI z2)), (10, (Sl.v 1 s1)), (11, (zI z3)), (12, (zI z4))]) (hp 0 []) (.k0 [] [] [3, 4, 10, 11, 12]) ?_
        refine .then ?_
        refine .block ?_
        refine .then ?_
        replace hm := oo_inv hm; obtain ⟨k1, h2, hm⟩ := hm
        obtain rfl := toN_some h2
        replace hm := bb_inv hm; obtain ⟨h3, hm⟩ := hm
        replace hm := oo_inv hm; obtain ⟨v0, h4, hm⟩ := hm
        replace hm := inv_toI hm; obtain ⟨x0, rfl, hm⟩ := hm
        refine .reg (eD (keep (hp 0 []) (bb (an (Nat.blt k1 (Sl.n s1)) true) (some (fpV (k1 * 1) (Sl.cs s1))) none)) (keep_bb h3) (eD (keep (hp 0 []) (nthL (Sl.cs s1) (k1 * 1))) (keep_eq h4) (eE))) ?_
        refine .ghs (fr 32 [(3, (zI z1)), (4, (zI z2)), (6, (zI x0)), (10, (Sl.v 1 s1)), (11, (zI z3)), (12, (zI (Int.ofNat k1)))]) (hp 0 []) (.k0 [] [] [3, 4, 6, 10, 11, 12]) ?_
        refine .then ?_
        refine .block ?_
        refine .then ?_
        replace hm := oo_inv hm; obtain ⟨v1, h5, hm⟩ := hm
        replace hm := inv_vBool hm; obtain ⟨b0, rfl, hm⟩ := hm
        refine .reg (eC 1 ((oo (pu 42 [(zI (1 : Int)), (zI x0), (zI (21 : Int))]) none fun v => some (v, (hp 0 [])))) (call_eq h5) (eE)) ?_
        refine .ghs (fr 32 [(3, (zI z1)), (4, (zI z2)), (6, (zI x0)), (10, (Sl.v 1 s1)), (11, (zI z3)), (12, (zI (Int.ofNat k1))), (16, (zB (nt b0)))]) (hp 0 []) (.k0 [] [] [3, 4, 6, 10, 11, 12, 16]) ?_
        replace hm := bb_cases hm; rcases hm with ⟨h6, hm⟩ | ⟨h6, hm⟩
        · refine .ifT (nt b0) (by kernel_rfl) h6 ?_
          refine .then ?_
          refine .rK ?_
          refine .ghs (fr 32 [(2, (zI (1 : Int)))]) (hp 0 []) (.k0 [] [] [2]) ?_
          refine .ret ?_
          exact fin_ret (zI (1 : Int)) (by kernel_rfl) (by kernel_rfl) hm
        · refine .ifF (nt b0) (by kernel_rfl) h6 ?_
          refine .then ?_
          refine .rK ?_
          refine .ghs (fr 32 [(3, (zI z1)), (6, (zI x0)), (10, (Sl.v 1 s1)), (11, (zI z3)), (12, (zI (Int.ofNat k1))), (20, (zB (ilt z2 x0)))]) (hp 0 []) (.k0 [] [] [3, 6, 10, 11, 12, 20]) ?_
          replace hm := bb_cases hm; rcases hm with ⟨h7, hm⟩ | ⟨h7, hm⟩
          · refine .ifT (ilt z2 x0) (by kernel_rfl) h7 ?_
            refine .then ?_
            refine .rK ?_
            refine .ghs (fr 32 [(2, (zI (7 : Int)))]) (hp 0 []) (.k0 [] [] [2]) ?_
            refine .ret ?_
            exact fin_ret (zI (7 : Int)) (by kernel_rfl) (by kernel_rfl) hm
          · refine .ifF (ilt z2 x0) (by kernel_rfl) h7 ?_
            refine .skip ?_
            refine .ghs (fr 32 [(3, (zI z1)), (6, (zI x0)), (10, (Sl.v 1 s1)), (11, (zI z3)), (12, (zI (Int.ofNat k1)))]) (hp 0 []) (.k0 [] [] [3, 6, 10, 11, 12]) ?_
            refine .then ?_
            refine .rK ?_
            refine .ghs (fr 32 [(3, (zI z1)), (4, (zI x0)), (6, (zI x0)), (10, (Sl.v 1 s1)), (11, (zI z3)), (12, (zI (Int.ofNat k1)))]) (hp 0 []) (.k0 [] [] [3, 4, 6, 10, 11, 12]) ?_
            refine .rK ?_
            refine .ghs (fr 32 [(3, (zI (bb (ilt (22 : Int) (wrapF .i64 (Int.add z1 x0))) (22 : Int) (wrapF .i64 (Int.add z1 x0))))), (4, (zI x0)), (10, (Sl.v 1 s1)), (11, (zI z3)), (12, (zI (Int.ofNat k1)))]) (hp 0 []) (.k0 [] [] [3, 4, 10, 11, 12]) ?_
            refine .rK ?_
            exact ⟨((bb (ilt (22 : Int) (wrapF .i64 (Int.add z1 x0))) (22 : Int) (wrapF .i64 (Int.add z1 x0))), x0, s1, z3, (wrapF .i64 (Int.add (Int.ofNat k1) (1 : Int)))), hm, (.k0 [] [] [3, 4, 10, 11, 12])⟩
      · refine .ifF (ilt z4 z3) (by kernel_rfl) h1 ?_
        refine .exit ?_
        exact ⟨z1, hm, (.k0 [] [] [3])⟩
def m27_0 (pu : PureF) (n : Nat) (q0 : List Value) (q1 : List Value) : Option Value :=
  (bb (Nat.ble (0 + 22) (len q1)) (bb (Nat.beq (len (takeL 22 (dropL 0 q1))) 22) (bb (an (Nat.ble (0 + len (takeL 22 (dropL 0 q1))) (len q0)) (allL scalarB (takeL 22 (dropL 0 q1)))) (bb (allL closed1 (setL (takeL 22 (dropL 0 q1)) 0 q0)) (bb (Nat.ble (0 + 22) (len (setL (takeL 22 (dropL 0 q1)) 0 q0))) (bb (closedV (.agg ⟨(takeL 22 (dropL 0 (setL (takeL 22 (dropL 0 q1)) 0 q0)))⟩)) (some (.agg ⟨(takeL 22 (dropL 0 (setL (takeL 22 (dropL 0 q1)) 0 q0)))⟩)) none) none) none) none) none) none)
def b27_1 (pu : PureF) (n : Nat) (ih0 : Sl → Int → Int → List Value → List Value → Option Value) (s0 : Sl) (z0 : Int) (z1 : Int) (q0 : List Value) (q1 : List Value) : Option Value :=
  (bb (allL closed1 q0) (bb (allL closed1 q1) (bb (ilt z1 z0) (oo (toN z1) none fun k1 => (bb (an (Nat.blt k1 (Sl.n s0)) true) (oo (nthL (Sl.cs s0) (k1 * 1)) none fun v0 => (oo (toI .i64 v0) none fun x0 => (oo (toN x0) none fun k2 => (bb (Nat.blt k2 22) (oo (nthL q1 (0 + k2 * 1)) none fun v1 => (oo (toI .i64 v1) none fun x1 => (bb (Nat.blt k2 22) (bb (an (Nat.ble ((0 + k2 * 1) + 1) (len q1)) true) (bb (allL closed1 (setL ([(.int .i64 (wrapF .i64 (Int.add x1 (1 : Int))))] : List Value) (0 + k2 * 1) q1)) (ih0 s0 z0 (wrapF .i64 (Int.add (Int.ofNat k1) (1 : Int))) q0 (setL ([(.int .i64 (wrapF .i64 (Int.add x1 (1 : Int))))] : List Value) (0 + k2 * 1) q1)) none) none) none))) none)))) none)) (m27_0 pu n q0 q1)) none) none)
def l27_1 (pu : PureF) (n : Nat) (w : Nat) : Sl → Int → Int → List Value → List Value → Option Value :=
  Nat.rec (motive := fun _ => Sl → Int → Int → List Value → List Value → Option Value) (fun _ _ _ _ _ => none) (fun _ ih0 => b27_1 pu n ih0) w
def m27_ (pu : PureF) (n : Nat) (s0 : Sl) : Option Value :=
  (bb (allL closed1 zA48) (l27_1 pu n n s0 (Int.ofNat (Sl.n s0)) (0 : Int) zA48 zA48) none)
def m27 (pu : PureF) (n : Nat) (args : List Value) : Option Value :=
  (ll args none fun a0 args => (ll args (oo (toSl 1 a0) none fun s0 => (m27_ pu n s0)) fun _ _ => none))
theorem w27_0 (pu : PureF) (n : Nat) (q0 : List Value) (q1 : List Value) {v : Value} (hm : m27_0 pu n q0 q1 = some v) : Run tt (callP tabs isP pu (inl pu)) 0 c27_17 (fr 19 [(2, (pt 0 0)), (3, (pt 1 0))]) (hp 2 [(oC q0), (oC q1)]) (Fin tt 0 [.cell 2 48] v) := by
  unfold m27_0 at hm
  refine .then ?_
  replace hm := bb_inv hm; obtain ⟨h0, hm⟩ := hm
  replace hm := bb_inv hm; obtain ⟨h1, hm⟩ := hm
  replace hm := bb_inv hm; obtain ⟨h2, hm⟩ := hm
  refine .reg (eD (keep (hp 2 [(oC q0), (oC q1)]) (bb (Nat.ble (0 + 22) (len q1)) (some (.agg ⟨(takeL 22 (dropL 0 q1))⟩)) none)) (keep_bb h0) (eD (done (bb (Nat.beq (len (takeL 22 (dropL 0 q1))) 22) (bb (an (Nat.ble (0 + len (takeL 22 (dropL 0 q1))) (len q0)) (allL scalarB (takeL 22 (dropL 0 q1)))) (some (hp 2 [(oC (setL (takeL 22 (dropL 0 q1)) 0 q0)), (oC q1)])) none) none) undef) (done_bb2 h1 h2) (eE))) ?_
  replace hm := bb_inv hm; obtain ⟨h3, hm⟩ := hm
  refine .ghs (fr 19 [(2, (pt 0 0))]) (hp 1 [(oC (setL (takeL 22 (dropL 0 q1)) 0 q0))]) (.k [0] [] [.tmp 2 false] [2] ⟨trE (by kernel_rfl) h3, trivial⟩) ?_
  refine .ret ?_
  replace hm := bb_inv hm; obtain ⟨h4, hm⟩ := hm
  replace hm := bb_inv hm; obtain ⟨h5, hm⟩ := hm
  exact fin_ret (.agg ⟨(takeL 22 (dropL 0 (setL (takeL 22 (dropL 0 q1)) 0 q0)))⟩) (aresults_of (aresultsL_cons (show aresult _ _ _ _ = some (.agg ⟨(takeL 22 (dropL 0 (setL (takeL 22 (dropL 0 q1)) 0 q0)))⟩) from (eq_bb (c := (Nat.ble (0 + 22) (len (setL (takeL 22 (dropL 0 q1)) 0 q0)))) (by kernel_rfl) h4)) rfl) (by kernel_rfl)) h5 hm
theorem r27 {call : CallF} (pu : PureF) (n : Nat) (hcall : call = callP tabs isP pu (inl pu)) {args : List Value} {v : Value} (hm : m27 pu n args = some v) (_ : ∀ x ∈ args, closed2 x = true) : args.length ≤ 19 ∧ Run tt call 0 c27_20 (Fr.made 19 args) (pureHeap tabs) (Fin tt 0 [.cell 2 48] v) := by
  subst hcall
  unfold m27 at hm
  replace hm := ll_uncons hm; obtain ⟨a0, args_0, rfl, hm⟩ := hm
  replace hm := ll_end hm; obtain ⟨rfl, hm⟩ := hm
  replace hm := inv_toSl hm; obtain ⟨s0, rfl, hm⟩ := hm
  unfold m27_ at hm
  refine ⟨by simp, ?_⟩
  refine .same (F' := (fr 19 [(0, (Sl.v 1 s0))])) (H' := (hp 0 [])) (by kernel_rfl) (by kernel_rfl) ?_
  refine .then ?_
  refine .rK ?_
  replace hm := bb_inv hm; obtain ⟨h0, hm⟩ := hm
  refine .ghs (fr 19 [(0, (Sl.v 1 s0)), (2, (pt 0 0))]) (hp 1 [(oC zA48)]) (.k [0] [] [.tmp 2 false] [0, 2] ⟨trE (by kernel_rfl) h0, trivial⟩) ?_
  refine .then ?_
  refine .rK ?_
  refine .ghs (fr 19 [(0, (Sl.v 1 s0)), (2, (pt 0 0)), (3, (pt 1 0))]) (hp 2 [(oC zA48), (oC zA48)]) (.k [0, 1] [] [.tmp 2 false, .tmp 3 false] [0, 2, 3] ⟨trE (by kernel_rfl) h0, trE (by kernel_rfl) h0, trivial⟩) ?_
  refine .join (v := v) (fun y : List Value × List Value => ((fr 19 [(2, (pt 0 0)), (3, (pt 1 0))]), (hp 2 [(oC y.1), (oC y.2)]))) (fun y => m27_0 pu n y.1 y.2) ?_ ?_
  · rintro ⟨q0, q1⟩ hm
    exact w27_0 pu n q0 q1 hm
  · refine .then ?_
    refine .rK ?_
    refine .ghs (fr 19 [(2, (pt 0 0)), (3, (pt 1 0)), (6, (Sl.v 1 s0)), (7, (zI (Int.ofNat (Sl.n s0)))), (8, (zI (0 : Int)))]) (hp 2 [(oC zA48), (oC zA48)]) (.k [0, 1] [] [.tmp 2 false, .tmp 3 false] [2, 3, 6, 7, 8] ⟨trE (by kernel_rfl) h0, trE (by kernel_rfl) h0, trivial⟩) ?_
    refine .block ?_
    refine .loopM (v := v) (fun y : Sl × Int × Int × List Value × List Value => ((fr 19 [(2, (pt 0 0)), (3, (pt 1 0)), (6, (Sl.v 1 y.1)), (7, (zI y.2.1)), (8, (zI y.2.2.1))]), (hp 2 [(oC y.2.2.2.1), (oC y.2.2.2.2)]))) (fun w y => l27_1 pu n w y.1 y.2.1 y.2.2.1 y.2.2.2.1 y.2.2.2.2) n ⟨(s0, (Int.ofNat (Sl.n s0)), (0 : Int), zA48, zA48), hm, (.k [0, 1] [] [.tmp 2 false, .tmp 3 false] [2, 3, 6, 7, 8] ⟨trE (by kernel_rfl) h0, trE (by kernel_rfl) h0, trivial⟩)⟩ (fun _ => rfl) ?_
    rintro w0 ⟨s1, z0, z1, q2, q3⟩ hm
    replace hm : b27_1 pu n (l27_1 pu n w0) s1 z0 z1 q2 q3 = some v := hm
    unfold b27_1 at hm
    refine .then ?_
    refine .rK ?_
    replace hm := bb_inv hm; obtain ⟨h1, hm⟩ := hm
    replace hm := bb_inv hm; obtain ⟨h2, hm⟩ := hm
    refine .ghs (fr 19 [(2, (pt 0 0)), (3, (pt 1 0)), (6, (Sl.v 1 s1)), (7, (zI z0)), (8, (zI z1)), (9, (zB (ilt z1 z0)))]) (hp 2 [(oC q2), (oC q3)]) (.k [0, 1] [] [.tmp 2 false, .tmp 3 false] [2, 3, 6, 7, 8, 9] ⟨trE (by kernel_rfl) h1, trE (by kernel_rfl) h2, trivial⟩) ?_
    refine .then ?_
    replace hm := bb_cases hm; rcases hm with ⟨h3, hm⟩ | ⟨h3, hm⟩
    · refine .ifT (ilt z1 z0) (by kernel_rfl) h3 ?_
      refine .skip ?_
      refine .ghs (fr 19 [(2, (pt 0 0)), (3, (pt 1 0)), (6, (Sl.v 1 s1)), (7, (zI z0)), (8, (zI z1))]) (hp 2 [(oC q2), (oC q3)]) (.k [0, 1] [] [.tmp 2 false, .tmp 3 false] [2, 3, 6, 7, 8] ⟨trE (by kernel_rfl) h1, trE (by kernel_rfl) h2, trivial⟩) ?_
      refine .then ?_
      refine .block ?_
      refine .then ?_
      replace hm := oo_inv hm; obtain ⟨k1, h4, hm⟩ := hm
      obtain rfl := toN_some h4
      replace hm := bb_inv hm; obtain ⟨h5, hm⟩ := hm
      replace hm := oo_inv hm; obtain ⟨v0, h6, hm⟩ := hm
      replace hm := inv_toI hm; obtain ⟨x0, rfl, hm⟩ := hm
      refine .reg (eD (keep (hp 2 [(oC q2), (oC q3)]) (bb (an (Nat.blt k1 (Sl.n s1)) true) (some (fpV (k1 * 1) (Sl.cs s1))) none)) (keep_bb h5) (eD (keep (hp 2 [(oC q2), (oC q3)]) (nthL (Sl.cs s1) (k1 * 1))) (keep_eq h6) (eE))) ?_
      refine .ghs (fr 19 [(2, (pt 0 0)), (3, (pt 1 0)), (5, (zI x0)), (6, (Sl.v 1 s1)), (7, (zI z0)), (8, (zI (Int.ofNat k1)))]) (hp 2 [(oC q2), (oC q3)]) (.k [0, 1] [] [.tmp 2 false, .tmp 3 false] [2, 3, 5, 6, 7, 8] ⟨trE (by kernel_rfl) h1, trE (by kernel_rfl) h2, trivial⟩) ?_
      replace hm := oo_inv hm; obtain ⟨k2, h7, hm⟩ := hm
      obtain rfl := toN_some h7
      replace hm := bb_inv hm; obtain ⟨h8, hm⟩ := hm
      replace hm := oo_inv hm; obtain ⟨v1, h9, hm⟩ := hm
      replace hm := inv_toI hm; obtain ⟨x1, rfl, hm⟩ := hm
      replace hm := bb_inv hm; obtain ⟨h10, hm⟩ := hm
      replace hm := bb_inv hm; obtain ⟨h11, hm⟩ := hm
      refine .reg (eC 1 (keep (hp 2 [(oC q2), (oC q3)]) (bb (Nat.blt k2 22) (some (.pointer (some ⟨1, (0 + k2 * 1), none⟩))) none)) (keep_bb h8) (eD (keep (hp 2 [(oC q2), (oC q3)]) (nthL q3 (0 + k2 * 1))) (keep_eq h9) (eC 1 (keep (hp 2 [(oC q2), (oC q3)]) (bb (Nat.blt k2 22) (some (.pointer (some ⟨1, (0 + k2 * 1), none⟩))) none)) (keep_bb h10) (eD (done (bb (an (Nat.ble ((0 + k2 * 1) + 1) (len q3)) true) (some (hp 2 [(oC q2), (oC (setL ([(zI (wrapF .i64 (Int.add x1 (1 : Int))))] : List Value) (0 + k2 * 1) q3))])) none) undef) (done_bb h11) (eE))))) ?_
      replace hm := bb_inv hm; obtain ⟨h12, hm⟩ := hm
      refine .ghs (fr 19 [(2, (pt 0 0)), (3, (pt 1 0)), (6, (Sl.v 1 s1)), (7, (zI z0)), (8, (zI (Int.ofNat k1)))]) (hp 2 [(oC q2), (oC (setL ([(zI (wrapF .i64 (Int.add x1 (1 : Int))))] : List Value) (0 + k2 * 1) q3))]) (.k [0, 1] [] [.tmp 2 false, .tmp 3 false] [2, 3, 6, 7, 8] ⟨trE (by kernel_rfl) h1, trE (by kernel_rfl) h12, trivial⟩) ?_
      refine .rK ?_
      exact ⟨(s1, z0, (wrapF .i64 (Int.add (Int.ofNat k1) (1 : Int))), q2, (setL ([(zI (wrapF .i64 (Int.add x1 (1 : Int))))] : List Value) (0 + k2 * 1) q3)), hm, (.k [0, 1] [] [.tmp 2 false, .tmp 3 false] [2, 3, 6, 7, 8] ⟨trE (by kernel_rfl) h1, trE (by kernel_rfl) h12, trivial⟩)⟩
    · refine .ifF (ilt z1 z0) (by kernel_rfl) h3 ?_
      refine .exit ?_
      exact ⟨(q2, q3), hm, (.k [0, 1] [] [.tmp 2 false, .tmp 3 false] [2, 3] ⟨trE (by kernel_rfl) h1, trE (by kernel_rfl) h2, trivial⟩)⟩
def m28_0 (pu : PureF) (n : Nat) (n0 : Nat) (c0 : Nat) (q0 : List Value) : Option Value :=
  (bb (orr (Nat.ble 2 c0) (nilL q0)) (bb (allL closed1 q0) (oo (pu 10580 [(.slice (some ⟨0, 0, some 1⟩) n0 c0), (.func (.func 53) ⟨[]⟩ ⟨[]⟩), (.agg ⟨q0⟩)]) none fun v0 => (oo (vTup v0) none fun l0 => (ll l0 none fun v1 l0 => (ll l0 none fun v2 l0 => (ll l0 (bb (isNoV v1) (oo (vAgg v2) none fun q1 => (bb (allL closed1 q1) (bb (allL closed1 q1) (bb (an (Nat.ble (0 + n0 * 1) (len q1)) (allL closed1 (takeL (n0 * 1) (dropL 0 q1)))) (some (Sl.v 1 (Sl.mk n0 0 (takeL (n0 * 1) (dropL 0 q1))))) none) none) none)) none) fun _ _ => none))))) none) none)
def m28_2 (pu : PureF) (n : Nat) (ih0 : Int → Nat → Nat → Int → List Value → List Value → Option Value) (z0 : Int) (n0 : Nat) (c0 : Nat) (z1 : Int) (q0 : List Value) (q1 : List Value) : Option Value :=
  (bb (allL closed1 q0) (bb (allL closed1 q1) (ih0 z0 n0 c0 (wrapF .i64 (Int.add z1 (1 : Int))) q0 q1) none) none)
def b28_1 (pu : PureF) (n : Nat) (ih0 : Int → Nat → Nat → Int → List Value → List Value → Option Value) (z0 : Int) (n0 : Nat) (c0 : Nat) (z1 : Int) (q0 : List Value) (q1 : List Value) : Option Value :=
  (bb (allL closed1 q0) (bb (allL closed1 q1) (bb (nt (ilt (21 : Int) z1)) (oo (toN z1) none fun k1 => (bb (Nat.blt k1 22) (oo (nthL q0 (0 + k1 * 1)) none fun v0 => (oo (toI .i64 v0) none fun x0 => (bb (ieq x0 (0 : Int)) (m28_2 pu n ih0 z0 n0 c0 (Int.ofNat k1) q0 q1) (bb (Nat.ble (0 + 22) (len q0)) (bb (Nat.beq (len (takeL 22 (dropL 0 q0))) 22) (bb (an (Nat.ble (0 + len (takeL 22 (dropL 0 q0))) (len zA48)) (allL scalarB (takeL 22 (dropL 0 q0)))) (bb (allL closed1 (setL (takeL 22 (dropL 0 q0)) 0 zA48)) (bb (Nat.blt k1 22) (oo (nthL (setL (takeL 22 (dropL 0 q0)) 0 zA48) (0 + k1 * 1)) none fun v1 => (oo (toI .i64 v1) none fun x1 => (bb (Nat.blt k1 22) (bb (an (Nat.ble ((0 + k1 * 1) + 1) (len (setL (takeL 22 (dropL 0 q0)) 0 zA48))) true) (bb (allL closed1 (setL ([(.int .i64 (wrapF .i64 (Int.sub x1 (1 : Int))))] : List Value) (0 + k1 * 1) (setL (takeL 22 (dropL 0 q0)) 0 zA48))) (bb (allL closed1 zA48) (bb (Nat.ble (0 + 22 * 1) (len zA48)) (bb (Nat.ble (0 + 22 * 1) (len (setL ([(.int .i64 (wrapF .i64 (Int.sub x1 (1 : Int))))] : List Value) (0 + k1 * 1) (setL (takeL 22 (dropL 0 q0)) 0 zA48)))) (bb (Nat.ble (1 + 20 * 1) (len (setL ([(.int .i64 (wrapF .i64 (Int.sub x1 (1 : Int))))] : List Value) (0 + k1 * 1) (setL (takeL 22 (dropL 0 q0)) 0 zA48)))) (bb (an (Nat.ble (2 + len (takeL (20 * 1) (dropL 1 (setL ([(.int .i64 (wrapF .i64 (Int.sub x1 (1 : Int))))] : List Value) (0 + k1 * 1) (setL (takeL 22 (dropL 0 q0)) 0 zA48))))) (len zA48)) (allL scalarB (takeL (20 * 1) (dropL 1 (setL ([(.int .i64 (wrapF .i64 (Int.sub x1 (1 : Int))))] : List Value) (0 + k1 * 1) (setL (takeL 22 (dropL 0 q0)) 0 zA48)))))) (bb (allL closed1 (setL (takeL (20 * 1) (dropL 1 (setL ([(.int .i64 (wrapF .i64 (Int.sub x1 (1 : Int))))] : List Value) (0 + k1 * 1) (setL (takeL 22 (dropL 0 q0)) 0 zA48)))) 2 zA48)) (bb (an (Nat.ble (1 + 1) (len (setL (takeL (20 * 1) (dropL 1 (setL ([(.int .i64 (wrapF .i64 (Int.sub x1 (1 : Int))))] : List Value) (0 + k1 * 1) (setL (takeL 22 (dropL 0 q0)) 0 zA48)))) 2 zA48))) true) (bb (allL closed1 (setL ([(.int .i64 (wrapF .i64 (Int.sub (Int.ofNat k1) z0)))] : List Value) 1 (setL (takeL (20 * 1) (dropL 1 (setL ([(.int .i64 (wrapF .i64 (Int.sub x1 (1 : Int))))] : List Value) (0 + k1 * 1) (setL (takeL 22 (dropL 0 q0)) 0 zA48)))) 2 zA48))) (bb (Nat.ble (0 + 22) (len (setL ([(.int .i64 (wrapF .i64 (Int.sub (Int.ofNat k1) z0)))] : List Value) 1 (setL (takeL (20 * 1) (dropL 1 (setL ([(.int .i64 (wrapF .i64 (Int.sub x1 (1 : Int))))] : List Value) (0 + k1 * 1) (setL (takeL 22 (dropL 0 q0)) 0 zA48)))) 2 zA48)))) (oo (pu 41 [(.agg ⟨(takeL 22 (dropL 0 (setL ([(.int .i64 (wrapF .i64 (Int.sub (Int.ofNat k1) z0)))] : List Value) 1 (setL (takeL (20 * 1) (dropL 1 (setL ([(.int .i64 (wrapF .i64 (Int.sub x1 (1 : Int))))] : List Value) (0 + k1 * 1) (setL (takeL 22 (dropL 0 q0)) 0 zA48)))) 2 zA48))))⟩)]) none fun v2 => (oo (toSl 1 v2) none fun s0 => (bb (allL closed2 [(.agg ⟨(takeL 22 (dropL 0 (setL ([(.int .i64 (wrapF .i64 (Int.sub (Int.ofNat k1) z0)))] : List Value) 1 (setL (takeL (20 * 1) (dropL 1 (setL ([(.int .i64 (wrapF .i64 (Int.sub x1 (1 : Int))))] : List Value) (0 + k1 * 1) (setL (takeL 22 (dropL 0 q0)) 0 zA48)))) 2 zA48))))⟩)]) (bb (an (Nat.ble (0 + (Sl.n s0) * 1) (len (Sl.cs s0))) (allL closed1 (takeL ((Sl.n s0) * 1) (dropL 0 (Sl.cs s0))))) (bb (growC 1 24 n0 c0 1 q1) (bb (allL closed1 (appL (dropL 0 q1) [(Sl.v 1 (Sl.mk (Sl.n s0) 0 (takeL ((Sl.n s0) * 1) (dropL 0 (Sl.cs s0)))))])) (m28_2 pu n ih0 z0 (n0 + 1) (2 * (n0 + 1) + bb false 1 0) (Int.ofNat k1) q0 (appL (dropL 0 q1) [(Sl.v 1 (Sl.mk (Sl.n s0) 0 (takeL ((Sl.n s0) * 1) (dropL 0 (Sl.cs s0)))))])) none) none) none) none))) none) none) none) none) none) none) none) none) none) none) none) none))) none) none) none) none) none)))) none)) (m28_0 pu n n0 c0 q1)) none) none)
def l28_1 (pu : PureF) (n : Nat) (w : Nat) : Int → Nat → Nat → Int → List Value → List Value → Option Value :=
  Nat.rec (motive := fun _ => Int → Nat → Nat → Int → List Value → List Value → Option Value) (fun _ _ _ _ _ _ => none) (fun _ ih0 => b28_1 pu n ih0) w
def m28_ (pu : PureF) (n : Nat) (q0 : List Value) : Option Value :=
  (bb (allL closed1 q0) (bb (Nat.ble (0 + 22) (len q0)) (oo (pu 57 [(.agg ⟨(takeL 22 (dropL 0 q0))⟩)]) none fun v0 => (oo (toI .i64 v0) none fun x0 => (bb (allL closed2 [(.agg ⟨(takeL 22 (dropL 0 q0))⟩)]) (l28_1 pu n n (wrapF .i64 (Int.sub x0 (1 : Int))) 0 0 (bb (ilt (wrapF .i64 (Int.sub x0 (1 : Int))) (1 : Int)) (1 : Int) (wrapF .i64 (Int.sub x0 (1 : Int)))) q0 ([] : List Value)) none))) none) none)
def m28 (pu : PureF) (n : Nat) (args : List Value) : Option Value :=
  (ll args none fun a0 args => (ll args (oo (vAgg a0) none fun q0 => (bb (an (Nat.beq (len q0) 22) (allL closed1 q0)) (m28_ pu n q0) none)) fun _ _ => none))
theorem w28_0 (pu : PureF) (n : Nat) (n0 : Nat) (c0 : Nat) (q0 : List Value) {v : Value} (hm : m28_0 pu n n0 c0 q0 = some v) : Run tt (callP tabs isP pu (inl pu)) 0 c28_32 (fr 42 [(4, (sc 0 0 1 n0 c0))]) (hp 1 [(oC q0)]) (Fin tt 0 [.tmp 2] v) := by
  unfold m28_0 at hm
  refine .then ?_
  replace hm := bb_inv hm; obtain ⟨h0, hm⟩ := hm
  replace hm := bb_inv hm; obtain ⟨h1, hm⟩ := hm
  replace hm := oo_inv hm; obtain ⟨v0, h2, hm⟩ := hm
  replace hm := inv_vTup hm; obtain ⟨l0, rfl, hm⟩ := hm
  replace hm := ll_uncons hm; obtain ⟨v1, l38180_0, rfl, hm⟩ := hm
  replace hm := ll_uncons hm; obtain ⟨v2, l38180_1, rfl, hm⟩ := hm
  replace hm := ll_end hm; obtain ⟨rfl, hm⟩ := hm
  replace hm := bb_inv hm; obtain ⟨h3, hm⟩ := hm
  obtain rfl := isNoV_ok h3
  replace hm := inv_vAgg hm; obtain ⟨q1, rfl, hm⟩ := hm
  replace hm := bb_inv hm; obtain ⟨h4, hm⟩ := hm
  refine .reg (eC 1 (objG tabs [[none], [none]] 2 [.tmp 0 false] [false] (pu 10580) [(sc 0 0 1 n0 c0), (.func (.func 53) ⟨[]⟩ ⟨[]⟩)] (hp 1 [(oC q0)])) (objG_eq (as := [(sc 0 0 1 n0 c0), (.func (.func 53) ⟨[]⟩ ⟨[]⟩)]) (H1 := (hp 1 [(oC q0)])) (gvAL_c (gvA_1 gv_n) (gvAL_c (gvA_1 gv_n) gvAL_n)) (objF_eq (H2 := (hp 1 [(oC q1)])) (v := (.tuple ⟨[]⟩)) (v' := (.tuple ⟨[]⟩)) [some 0] [(false, some 0)] [(oC q0)] [(sc 0 0 1 n0 c0), (.func (.func 53) ⟨[]⟩ ⟨[]⟩)] [(.agg ⟨q1⟩)] [(oC q1)] [some 0] [(false, (oC q1))] [(oC q1)] (trE (by kernel_rfl) (rootL h0 rfl)) (mapO_c (nO_list (anc := []) h1) mapO_n) (Eq.trans (by kernel_rfl) h2) (mapO_c rfl mapO_n) (mapO_c (bO_list h4) mapO_n))) (eE)) ?_
  replace hm := bb_inv hm; obtain ⟨h5, hm⟩ := hm
  refine .ghs (fr 42 [(4, (sc 0 0 1 n0 c0))]) (hp 1 [(oC q1)]) (.k [0] [] [.tmp 4 false] [4] ⟨trE (by kernel_rfl) h5, trivial⟩) ?_
  refine .then ?_
  refine .rK ?_
  refine .ghs (fr 42 [(2, (sc 0 0 1 n0 c0))]) (hp 1 [(oC q1)]) (.k [0] [] [.tmp 2 false] [2] ⟨trE (by kernel_rfl) h5, trivial⟩) ?_
  replace hm := bb_inv hm; obtain ⟨h6, hm⟩ := hm
  refine .ghs (Fr.puts (fr 42 [(2, (sc 0 0 1 n0 c0))]) [(2, (Sl.v 1 (Sl.mk n0 0 (takeL (n0 * 1) (dropL 0 q1)))))]) (hp 1 [.dead]) (.freezeC 0 2 1 (an (Nat.ble (0 + n0 * 1) (len q1)) (allL closed1 (takeL (n0 * 1) (dropL 0 q1)))) (F1 := (Fr.puts (fr 42 [(2, (sc 0 0 1 n0 c0))]) [(2, (Sl.v 1 (Sl.mk n0 0 (takeL (n0 * 1) (dropL 0 q1)))))])) (H1 := (hp 1 [.dead])) (by kernel_rfl) (by kernel_rfl) h6 (GhS.id _ _)) ?_
  refine .ret ?_
  exact fin_ret (Sl.v 1 (Sl.mk n0 0 (takeL (n0 * 1) (dropL 0 q1)))) (by kernel_rfl) (by kernel_rfl) hm
theorem r28 {call : CallF} (pu : PureF) (n : Nat) (hcall : call = callP tabs isP pu (inl pu)) {args : List Value} {v : Value} (hm : m28 pu n args = some v) (_ : ∀ x ∈ args, closed2 x = true) : args.length ≤ 42 ∧ Run tt call 0 c28_36 (Fr.made 42 args) (pureHeap tabs) (Fin tt 0 [.tmp 2] v) := by
  subst hcall
  unfold m28 at hm
  replace hm := ll_uncons hm; obtain ⟨a0, args_0, rfl, hm⟩ := hm
  replace hm := ll_end hm; obtain ⟨rfl, hm⟩ := hm
  replace hm := inv_vAgg hm; obtain ⟨q0, rfl, hm⟩ := hm
  replace hm := bb_inv hm; obtain ⟨h0, hm⟩ := hm
  unfold m28_ at hm
  refine ⟨by simp, ?_⟩
  refine .same (F' := (fr 42 [(0, (.agg ⟨q0⟩))])) (H' := (hp 0 [])) (by kernel_rfl) (by kernel_rfl) ?_
  refine .then ?_
  refine .rK ?_
  replace hm := bb_inv hm; obtain ⟨h1, hm⟩ := hm
  refine .ghs (fr 42 [(1, (pt 0 0))]) (hp 1 [(oC q0)]) (.k [0] [] [.tmp 1 false] [1] ⟨trE (by kernel_rfl) h1, trivial⟩) ?_
  refine .then ?_
  replace hm := bb_inv hm; obtain ⟨h2, hm⟩ := hm
  replace hm := oo_inv hm; obtain ⟨v0, h3, hm⟩ := hm
  replace hm := inv_toI hm; obtain ⟨x0, rfl, hm⟩ := hm
  replace hm := bb_inv hm; obtain ⟨h4, hm⟩ := hm
  refine .reg (eD (keep (hp 1 [(oC q0)]) (bb (Nat.ble (0 + 22) (len q0)) (some (.agg ⟨(takeL 22 (dropL 0 q0))⟩)) none)) (keep_bb h2) (eD (bb (allL closed2 [(.agg ⟨(takeL 22 (dropL 0 q0))⟩)]) (oo (pu 57 [(.agg ⟨(takeL 22 (dropL 0 q0))⟩)]) none fun v => some (v, (hp 1 [(oC q0)]))) (oo (mapO (purify (hp 1 [(oC q0)])) [(.agg ⟨(takeL 22 (dropL 0 q0))⟩)]) none fun l1 => oo (pu 57 l1) none fun v => bb (plainT v) (some (v, (hp 1 [(oC q0)]))) none)) (callc_eq h4 h3) (eE))) ?_
  refine .ghs (fr 42 [(1, (pt 0 0)), (3, (zI (wrapF .i64 (Int.sub x0 (1 : Int)))))]) (hp 1 [(oC q0)]) (.k [0] [] [.tmp 1 false] [1, 3] ⟨trE (by kernel_rfl) h1, trivial⟩) ?_
  refine .then ?_
  refine .rK ?_
  refine .ghs (fr 42 [(1, (pt 0 0)), (3, (zI (wrapF .i64 (Int.sub x0 (1 : Int))))), (4, (.slice none 0 0))]) (hp 1 [(oC q0)]) (.k [0] [] [.tmp 1 false] [1, 3, 4] ⟨trE (by kernel_rfl) h1, trivial⟩) ?_
  refine .join (v := v) (fun y : Nat × Nat × List Value => ((fr 42 [(4, (sc 0 0 1 y.1 y.2.1))]), (hp 1 [(oC y.2.2)]))) (fun y => m28_0 pu n y.1 y.2.1 y.2.2) ?_ ?_
  · rintro ⟨n0, c0, q1⟩ hm
    exact w28_0 pu n n0 c0 q1 hm
  · refine .then ?_
    refine .rK ?_
    refine .ghs (fr 42 [(1, (pt 0 0)), (3, (zI (wrapF .i64 (Int.sub x0 (1 : Int))))), (4, (.slice none 0 0)), (5, (zI (bb (ilt (wrapF .i64 (Int.sub x0 (1 : Int))) (1 : Int)) (1 : Int) (wrapF .i64 (Int.sub x0 (1 : Int))))))]) (hp 1 [(oC q0)]) (.k [0] [] [.tmp 1 false] [1, 3, 4, 5] ⟨trE (by kernel_rfl) h1, trivial⟩) ?_
    refine .block ?_
    refine .loopM (v := v) (fun y : Int × Nat × Nat × Int × List Value × List Value => ((fr 42 [(1, (pt 0 0)), (3, (zI y.1)), (4, (sc 1 0 1 y.2.1 y.2.2.1)), (5, (zI y.2.2.2.1))]), (hp 2 [(oC y.2.2.2.2.1), (oC y.2.2.2.2.2)]))) (fun w y => l28_1 pu n w y.1 y.2.1 y.2.2.1 y.2.2.2.1 y.2.2.2.2.1 y.2.2.2.2.2) n ⟨((wrapF .i64 (Int.sub x0 (1 : Int))), 0, 0, (bb (ilt (wrapF .i64 (Int.sub x0 (1 : Int))) (1 : Int)) (1 : Int) (wrapF .i64 (Int.sub x0 (1 : Int)))), q0, ([] : List Value)), hm, (.thaw 4 1 (by kernel_rfl) (.k [0] [] [.tmp 1 false, .tmp 4 false] [1, 3, 4, 5] ⟨trE (by kernel_rfl) h1, trivial⟩))⟩ (fun _ => rfl) ?_
    rintro w0 ⟨z0, n1, c1, z1, q2, q3⟩ hm
    replace hm : b28_1 pu n (l28_1 pu n w0) z0 n1 c1 z1 q2 q3 = some v := hm
    unfold b28_1 at hm
    refine .then ?_
    refine .then ?_
    refine .rK ?_
    replace hm := bb_inv hm; obtain ⟨h5, hm⟩ := hm
    replace hm := bb_inv hm; obtain ⟨h6, hm⟩ := hm
    refine .ghs (fr 42 [(1, (pt 0 0)), (3, (zI z0)), (4, (sc 1 0 1 n1 c1)), (5, (zI z1)), (14, (zB (nt (ilt (21 : Int) z1))))]) (hp 2 [(oC q2), (oC q3)]) (.k [0, 1] [] [.tmp 1 false, .tmp 4 false] [1, 3, 4, 5, 14] ⟨trE (by kernel_rfl) h5, trE (by kernel_rfl) h6, trivial⟩) ?_
    replace hm := bb_cases hm; rcases hm with ⟨h7, hm⟩ | ⟨h7, hm⟩
    · refine .ifT (nt (ilt (21 : Int) z1)) (by kernel_rfl) h7 ?_
      refine .skip ?_
      refine .ghs (fr 42 [(1, (pt 0 0)), (3, (zI z0)), (4, (sc 1 0 1 n1 c1)), (5, (zI z1))]) (hp 2 [(oC q2), (oC q3)]) (.k [0, 1] [] [.tmp 1 false, .tmp 4 false] [1, 3, 4, 5] ⟨trE (by kernel_rfl) h5, trE (by kernel_rfl) h6, trivial⟩) ?_
      refine .join (v := v) (fun y : Int × Nat × Nat × Int × List Value × List Value => ((fr 42 [(1, (pt 0 0)), (3, (zI y.1)), (4, (sc 1 0 1 y.2.1 y.2.2.1)), (5, (zI y.2.2.2.1))]), (hp 2 [(oC y.2.2.2.2.1), (oC y.2.2.2.2.2)]))) (fun y => m28_2 pu n (l28_1 pu n w0) y.1 y.2.1 y.2.2.1 y.2.2.2.1 y.2.2.2.2.1 y.2.2.2.2.2) ?_ ?_
      · rintro ⟨z2, n2, c2, z3, q4, q5⟩ hm
        unfold m28_2 at hm
        refine .rK ?_
        replace hm := bb_inv hm; obtain ⟨h8, hm⟩ := hm
        replace hm := bb_inv hm; obtain ⟨h9, hm⟩ := hm
        exact ⟨(z2, n2, c2, (wrapF .i64 (Int.add z3 (1 : Int))), q4, q5), hm, (.k [0, 1] [] [.tmp 1 false, .tmp 4 false] [1, 3, 4, 5] ⟨trE (by kernel_rfl) h8, trE (by kernel_rfl) h9, trivial⟩)⟩
      · refine .block ?_
        refine .then ?_
        refine .then ?_
        replace hm := oo_inv hm; obtain ⟨k1, h10, hm⟩ := hm
        obtain rfl := toN_some h10
        replace hm := bb_inv hm; obtain ⟨h11, hm⟩ := hm
        replace hm := oo_inv hm; obtain ⟨v1, h12, hm⟩ := hm
        replace hm := inv_toI hm; obtain ⟨x1, rfl, hm⟩ := hm
        refine .reg (eC 1 (keep (hp 2 [(oC q2), (oC q3)]) (bb (Nat.blt k1 22) (some (.pointer (some ⟨0, (0 + k1 * 1), none⟩))) none)) (keep_bb h11) (eD (keep (hp 2 [(oC q2), (oC q3)]) (nthL q2 (0 + k1 * 1))) (keep_eq h12) (eE))) ?_
        refine .ghs (fr 42 [(1, (pt 0 0)), (3, (zI z0)), (4, (sc 1 0 1 n1 c1)), (5, (zI (Int.ofNat k1))), (20, (zB (ieq x1 (0 : Int))))]) (hp 2 [(oC q2), (oC q3)]) (.k [0, 1] [] [.tmp 1 false, .tmp 4 false] [1, 3, 4, 5, 20] ⟨trE (by kernel_rfl) h5, trE (by kernel_rfl) h6, trivial⟩) ?_
        replace hm := bb_cases hm; rcases hm with ⟨h13, hm⟩ | ⟨h13, hm⟩
        · refine .ifT (ieq x1 (0 : Int)) (by kernel_rfl) h13 ?_
          refine .exit ?_
          exact ⟨(z0, n1, c1, (Int.ofNat k1), q2, q3), hm, (.k [0, 1] [] [.tmp 1 false, .tmp 4 false] [1, 3, 4, 5] ⟨trE (by kernel_rfl) h5, trE (by kernel_rfl) h6, trivial⟩)⟩
        · refine .ifF (ieq x1 (0 : Int)) (by kernel_rfl) h13 ?_
          refine .skip ?_
          refine .ghs (fr 42 [(1, (pt 0 0)), (3, (zI z0)), (4, (sc 1 0 1 n1 c1)), (5, (zI (Int.ofNat k1)))]) (hp 2 [(oC q2), (oC q3)]) (.k [0, 1] [] [.tmp 1 false, .tmp 4 false] [1, 3, 4, 5] ⟨trE (by kernel_rfl) h5, trE (by kernel_rfl) h6, trivial⟩) ?_
          refine .then ?_
          replace hm := bb_inv hm; obtain ⟨h14, hm⟩ := hm
          replace hm := bb_inv hm; obtain ⟨h15, hm⟩ := hm
          replace hm := bb_inv hm; obtain ⟨h16, hm⟩ := hm
          refine .reg (eD (keep (hp 2 [(oC q2), (oC q3)]) (bb (Nat.ble (0 + 22) (len q2)) (some (.agg ⟨(takeL 22 (dropL 0 q2))⟩)) none)) (keep_bb h14) (eC 1 (done (bb (Nat.beq (len (takeL 22 (dropL 0 q2))) 22) (bb (an (Nat.ble (0 + len (takeL 22 (dropL 0 q2))) (len zA48)) (allL scalarB (takeL 22 (dropL 0 q2)))) (some (hp 3 [(oC q2), (oC q3), (oC (setL (takeL 22 (dropL 0 q2)) 0 zA48))])) none) none) undef) (done_bb2 h15 h16) (eE))) ?_
          replace hm := bb_inv hm; obtain ⟨h17, hm⟩ := hm
          refine .ghs (fr 42 [(1, (pt 0 0)), (3, (zI z0)), (4, (sc 1 0 1 n1 c1)), (5, (zI (Int.ofNat k1))), (6, (pt 2 0))]) (hp 3 [(oC q2), (oC q3), (oC (setL (takeL 22 (dropL 0 q2)) 0 zA48))]) (.k [0, 1, 2] [] [.tmp 1 false, .tmp 4 false, .tmp 6 false] [1, 3, 4, 5, 6] ⟨trE (by kernel_rfl) h5, trE (by kernel_rfl) h6, trE (by kernel_rfl) h17, trivial⟩) ?_
          refine .then ?_
          replace hm := bb_inv hm; obtain ⟨h18, hm⟩ := hm
          replace hm := oo_inv hm; obtain ⟨v2, h19, hm⟩ := hm
          replace hm := inv_toI hm; obtain ⟨x2, rfl, hm⟩ := hm
          replace hm := bb_inv hm; obtain ⟨h20, hm⟩ := hm
          replace hm := bb_inv hm; obtain ⟨h21, hm⟩ := hm
          refine .reg (eC 1 (keep (hp 3 [(oC q2), (oC q3), (oC (setL (takeL 22 (dropL 0 q2)) 0 zA48))]) (bb (Nat.blt k1 22) (some (.pointer (some ⟨2, (0 + k1 * 1), none⟩))) none)) (keep_bb h18) (eD (keep (hp 3 [(oC q2), (oC q3), (oC (setL (takeL 22 (dropL 0 q2)) 0 zA48))]) (nthL (setL (takeL 22 (dropL 0 q2)) 0 zA48) (0 + k1 * 1))) (keep_eq h19) (eC 1 (keep (hp 3 [(oC q2), (oC q3), (oC (setL (takeL 22 (dropL 0 q2)) 0 zA48))]) (bb (Nat.blt k1 22) (some (.pointer (some ⟨2, (0 + k1 * 1), none⟩))) none)) (keep_bb h20) (eD (done (bb (an (Nat.ble ((0 + k1 * 1) + 1) (len (setL (takeL 22 (dropL 0 q2)) 0 zA48))) true) (some (hp 3 [(oC q2), (oC q3), (oC (setL ([(zI (wrapF .i64 (Int.sub x2 (1 : Int))))] : List Value) (0 + k1 * 1) (setL (takeL 22 (dropL 0 q2)) 0 zA48)))])) none) undef) (done_bb h21) (eE))))) ?_
          replace hm := bb_inv hm; obtain ⟨h22, hm⟩ := hm
          refine .ghs (fr 42 [(1, (pt 0 0)), (3, (zI z0)), (4, (sc 1 0 1 n1 c1)), (5, (zI (Int.ofNat k1))), (6, (pt 2 0))]) (hp 3 [(oC q2), (oC q3), (oC (setL ([(zI (wrapF .i64 (Int.sub x2 (1 : Int))))] : List Value) (0 + k1 * 1) (setL (takeL 22 (dropL 0 q2)) 0 zA48)))]) (.k [0, 1, 2] [] [.tmp 1 false, .tmp 4 false, .tmp 6 false] [1, 3, 4, 5, 6] ⟨trE (by kernel_rfl) h5, trE (by kernel_rfl) h6, trE (by kernel_rfl) h22, trivial⟩) ?_
          refine .then ?_
          refine .rK ?_
          replace hm := bb_inv hm; obtain ⟨h23, hm⟩ := hm
          refine .ghs (fr 42 [(1, (pt 0 0)), (3, (zI z0)), (4, (sc 1 0 1 n1 c1)), (5, (zI (Int.ofNat k1))), (6, (pt 2 0)), (7, (pt 3 0))]) (hp 4 [(oC q2), (oC q3), (oC (setL ([(zI (wrapF .i64 (Int.sub x2 (1 : Int))))] : List Value) (0 + k1 * 1) (setL (takeL 22 (dropL 0 q2)) 0 zA48))), (oC zA48)]) (.k [0, 1, 2, 3] [] [.tmp 1 false, .tmp 4 false, .tmp 6 false, .tmp 7 false] [1, 3, 4, 5, 6, 7] ⟨trE (by kernel_rfl) h5, trE (by kernel_rfl) h6, trE (by kernel_rfl) h22, trE (by kernel_rfl) h23, trivial⟩) ?_
          refine .then ?_
          replace hm := bb_inv hm; obtain ⟨h24, hm⟩ := hm
          replace hm := bb_inv hm; obtain ⟨h25, hm⟩ := hm
          replace hm := bb_inv hm; obtain ⟨h26, hm⟩ := hm
          replace hm := bb_inv hm; obtain ⟨h27, hm⟩ := hm
          refine .reg (eD (keep (hp 4 [(oC q2), (oC q3), (oC (setL ([(zI (wrapF .i64 (Int.sub x2 (1 : Int))))] : List Value) (0 + k1 * 1) (setL (takeL 22 (dropL 0 q2)) 0 zA48))), (oC zA48)]) (bb (Nat.ble (0 + 22 * 1) (len zA48)) (some (sc 3 2 1 20 41)) none)) (keep_bb h24) (eD (keep (hp 4 [(oC q2), (oC q3), (oC (setL ([(zI (wrapF .i64 (Int.sub x2 (1 : Int))))] : List Value) (0 + k1 * 1) (setL (takeL 22 (dropL 0 q2)) 0 zA48))), (oC zA48)]) (bb (Nat.ble (0 + 22 * 1) (len (setL ([(zI (wrapF .i64 (Int.sub x2 (1 : Int))))] : List Value) (0 + k1 * 1) (setL (takeL 22 (dropL 0 q2)) 0 zA48)))) (some (sc 2 1 1 21 43)) none)) (keep_bb h25) (eD (oo (bb (Nat.ble (1 + 20 * 1) (len (setL ([(zI (wrapF .i64 (Int.sub x2 (1 : Int))))] : List Value) (0 + k1 * 1) (setL (takeL 22 (dropL 0 q2)) 0 zA48)))) (some (takeL (20 * 1) (dropL 1 (setL ([(zI (wrapF .i64 (Int.sub x2 (1 : Int))))] : List Value) (0 + k1 * 1) (setL (takeL 22 (dropL 0 q2)) 0 zA48))))) none) none fun new => oo (bb (an (Nat.ble (2 + len new) (len zA48)) (allL scalarB new)) (some (hp 4 [(oC q2), (oC q3), (oC (setL ([(zI (wrapF .i64 (Int.sub x2 (1 : Int))))] : List Value) (0 + k1 * 1) (setL (takeL 22 (dropL 0 q2)) 0 zA48))), (oC (setL new 2 zA48))])) none) none fun H' => some ((zI (20 : Int)), H')) (copy_eq' (G := fun new => (hp 4 [(oC q2), (oC q3), (oC (setL ([(zI (wrapF .i64 (Int.sub x2 (1 : Int))))] : List Value) (0 + k1 * 1) (setL (takeL 22 (dropL 0 q2)) 0 zA48))), (oC (setL new 2 zA48))])) (E := fun new => (an (Nat.ble (2 + len new) (len zA48)) (allL scalarB new))) h26 rfl h27) (eE)))) ?_
          replace hm := bb_inv hm; obtain ⟨h28, hm⟩ := hm
          refine .ghs (fr 42 [(1, (pt 0 0)), (3, (zI z0)), (4, (sc 1 0 1 n1 c1)), (5, (zI (Int.ofNat k1))), (7, (pt 2 0))]) (hp 3 [(oC q2), (oC q3), (oC (setL (takeL (20 * 1) (dropL 1 (setL ([(zI (wrapF .i64 (Int.sub x2 (1 : Int))))] : List Value) (0 + k1 * 1) (setL (takeL 22 (dropL 0 q2)) 0 zA48)))) 2 zA48))]) (.k [0, 1, 3] [] [.tmp 1 false, .tmp 4 false, .tmp 7 false] [1, 3, 4, 5, 7] ⟨trE (by kernel_rfl) h5, trE (by kernel_rfl) h6, trE (by kernel_rfl) h28, trivial⟩) ?_
          refine .then ?_
          replace hm := bb_inv hm; obtain ⟨h29, hm⟩ := hm
          refine .reg (eC 4 (done (bb (an (Nat.ble (1 + 1) (len (setL (takeL (20 * 1) (dropL 1 (setL ([(zI (wrapF .i64 (Int.sub x2 (1 : Int))))] : List Value) (0 + k1 * 1) (setL (takeL 22 (dropL 0 q2)) 0 zA48)))) 2 zA48))) true) (some (hp 3 [(oC q2), (oC q3), (oC (setL ([(zI (wrapF .i64 (Int.sub (Int.ofNat k1) z0)))] : List Value) 1 (setL (takeL (20 * 1) (dropL 1 (setL ([(zI (wrapF .i64 (Int.sub x2 (1 : Int))))] : List Value) (0 + k1 * 1) (setL (takeL 22 (dropL 0 q2)) 0 zA48)))) 2 zA48)))])) none) undef) (done_bb h29) (eE)) ?_
          replace hm := bb_inv hm; obtain ⟨h30, hm⟩ := hm
          refine .ghs (fr 42 [(1, (pt 0 0)), (3, (zI z0)), (4, (sc 1 0 1 n1 c1)), (5, (zI (Int.ofNat k1))), (7, (pt 2 0))]) (hp 3 [(oC q2), (oC q3), (oC (setL ([(zI (wrapF .i64 (Int.sub (Int.ofNat k1) z0)))] : List Value) 1 (setL (takeL (20 * 1) (dropL 1 (setL ([(zI (wrapF .i64 (Int.sub x2 (1 : Int))))] : List Value) (0 + k1 * 1) (setL (takeL 22 (dropL 0 q2)) 0 zA48)))) 2 zA48)))]) (.k [0, 1, 2] [] [.tmp 1 false, .tmp 4 false, .tmp 7 false] [1, 3, 4, 5, 7] ⟨trE (by kernel_rfl) h5, trE (by kernel_rfl) h6, trE (by kernel_rfl) h30, trivial⟩) ?_
          replace hm := bb_inv hm; obtain ⟨h31, hm⟩ := hm
          replace hm := oo_inv hm; obtain ⟨v3, h32, hm⟩ := hm
          replace hm := inv_toSl hm; obtain ⟨s0, rfl, hm⟩ := hm
          replace hm := bb_inv hm; obtain ⟨h33, hm⟩ := hm
          replace hm := bb_inv hm; obtain ⟨h34, hm⟩ := hm
          replace hm := bb_inv hm; obtain ⟨h35, hm⟩ := hm
          refine .rG (OpsG.seg 3 (Fr.puts (fr 42 [(1, (pt 0 0)), (3, (zI z0)), (4, (sc 1 0 1 n1 c1)), (5, (zI (Int.ofNat k1))), (7, (pt 2 0))]) [(34, (sc 1 0 1 n1 c1)), (35, (.agg ⟨(takeL 22 (dropL 0 (setL ([(zI (wrapF .i64 (Int.sub (Int.ofNat k1) z0)))] : List Value) 1 (setL (takeL (20 * 1) (dropL 1 (setL ([(zI (wrapF .i64 (Int.sub x2 (1 : Int))))] : List Value) (0 + k1 * 1) (setL (takeL 22 (dropL 0 q2)) 0 zA48)))) 2 zA48))))⟩)), (36, (sc 3 0 1 (Sl.n s0) (d2 (Sl.n s0))))]) (hp 4 [(oC q2), (oC q3), (oC (setL ([(zI (wrapF .i64 (Int.sub (Int.ofNat k1) z0)))] : List Value) 1 (setL (takeL (20 * 1) (dropL 1 (setL ([(zI (wrapF .i64 (Int.sub x2 (1 : Int))))] : List Value) (0 + k1 * 1) (setL (takeL 22 (dropL 0 q2)) 0 zA48)))) 2 zA48))), (oC (Sl.cs s0))]) (eC 1 (keep (hp 3 [(oC q2), (oC q3), (oC (setL ([(zI (wrapF .i64 (Int.sub (Int.ofNat k1) z0)))] : List Value) 1 (setL (takeL (20 * 1) (dropL 1 (setL ([(zI (wrapF .i64 (Int.sub x2 (1 : Int))))] : List Value) (0 + k1 * 1) (setL (takeL 22 (dropL 0 q2)) 0 zA48)))) 2 zA48)))]) (bb (Nat.ble (0 + 22) (len (setL ([(zI (wrapF .i64 (Int.sub (Int.ofNat k1) z0)))] : List Value) 1 (setL (takeL (20 * 1) (dropL 1 (setL ([(zI (wrapF .i64 (Int.sub x2 (1 : Int))))] : List Value) (0 + k1 * 1) (setL (takeL 22 (dropL 0 q2)) 0 zA48)))) 2 zA48)))) (some (.agg ⟨(takeL 22 (dropL 0 (setL ([(zI (wrapF .i64 (Int.sub (Int.ofNat k1) z0)))] : List Value) 1 (setL (takeL (20 * 1) (dropL 1 (setL ([(zI (wrapF .i64 (Int.sub x2 (1 : Int))))] : List Value) (0 + k1 * 1) (setL (takeL 22 (dropL 0 q2)) 0 zA48)))) 2 zA48))))⟩)) none)) (keep_bb h31) (eD (bb (allL closed2 [(.agg ⟨(takeL 22 (dropL 0 (setL ([(zI (wrapF .i64 (Int.sub (Int.ofNat k1) z0)))] : List Value) 1 (setL (takeL (20 * 1) (dropL 1 (setL ([(zI (wrapF .i64 (Int.sub x2 (1 : Int))))] : List Value) (0 + k1 * 1) (setL (takeL 22 (dropL 0 q2)) 0 zA48)))) 2 zA48))))⟩)]) (oo (pu 41 [(.agg ⟨(takeL 22 (dropL 0 (setL ([(zI (wrapF .i64 (Int.sub (Int.ofNat k1) z0)))] : List Value) 1 (setL (takeL (20 * 1) (dropL 1 (setL ([(zI (wrapF .i64 (Int.sub x2 (1 : Int))))] : List Value) (0 + k1 * 1) (setL (takeL 22 (dropL 0 q2)) 0 zA48)))) 2 zA48))))⟩)]) none fun v => oo (toSl 1 v) none fun s => some (((sc 3 0 1 (Sl.n s) (d2 (Sl.n s))), (hp 4 [(oC q2), (oC q3), (oC (setL ([(zI (wrapF .i64 (Int.sub (Int.ofNat k1) z0)))] : List Value) 1 (setL (takeL (20 * 1) (dropL 1 (setL ([(zI (wrapF .i64 (Int.sub x2 (1 : Int))))] : List Value) (0 + k1 * 1) (setL (takeL 22 (dropL 0 q2)) 0 zA48)))) 2 zA48))), (oC (Sl.cs s))])) : Value × AHeap)) none) ((bb_true' h33).trans (live_eq (sz := 1) (k := fun s => (((sc 3 0 1 (Sl.n s) (d2 (Sl.n s))), (hp 4 [(oC q2), (oC q3), (oC (setL ([(zI (wrapF .i64 (Int.sub (Int.ofNat k1) z0)))] : List Value) 1 (setL (takeL (20 * 1) (dropL 1 (setL ([(zI (wrapF .i64 (Int.sub x2 (1 : Int))))] : List Value) (0 + k1 * 1) (setL (takeL 22 (dropL 0 q2)) 0 zA48)))) 2 zA48))), (oC (Sl.cs s))])) : Value × AHeap)) h32)) (by kernel_rfl))) (OpsG.ghs (Fr.puts (fr 42 [(1, (pt 0 0)), (3, (zI z0)), (4, (sc 1 0 1 n1 c1)), (5, (zI (Int.ofNat k1))), (7, (pt 2 0))]) [(34, (sc 1 0 1 n1 c1)), (35, (.agg ⟨(takeL 22 (dropL 0 (setL ([(zI (wrapF .i64 (Int.sub (Int.ofNat k1) z0)))] : List Value) 1 (setL (takeL (20 * 1) (dropL 1 (setL ([(zI (wrapF .i64 (Int.sub x2 (1 : Int))))] : List Value) (0 + k1 * 1) (setL (takeL 22 (dropL 0 q2)) 0 zA48)))) 2 zA48))))⟩)), (36, (Sl.v 1 (Sl.mk (Sl.n s0) 0 (takeL ((Sl.n s0) * 1) (dropL 0 (Sl.cs s0))))))]) (hp 4 [(oC q2), (oC q3), (oC (setL ([(zI (wrapF .i64 (Int.sub (Int.ofNat k1) z0)))] : List Value) 1 (setL (takeL (20 * 1) (dropL 1 (setL ([(zI (wrapF .i64 (Int.sub x2 (1 : Int))))] : List Value) (0 + k1 * 1) (setL (takeL 22 (dropL 0 q2)) 0 zA48)))) 2 zA48))), .dead]) (.freezeC 0 36 1 (an (Nat.ble (0 + (Sl.n s0) * 1) (len (Sl.cs s0))) (allL closed1 (takeL ((Sl.n s0) * 1) (dropL 0 (Sl.cs s0))))) (F1 := (Fr.puts (fr 42 [(1, (pt 0 0)), (3, (zI z0)), (4, (sc 1 0 1 n1 c1)), (5, (zI (Int.ofNat k1))), (7, (pt 2 0))]) [(34, (sc 1 0 1 n1 c1)), (35, (.agg ⟨(takeL 22 (dropL 0 (setL ([(zI (wrapF .i64 (Int.sub (Int.ofNat k1) z0)))] : List Value) 1 (setL (takeL (20 * 1) (dropL 1 (setL ([(zI (wrapF .i64 (Int.sub x2 (1 : Int))))] : List Value) (0 + k1 * 1) (setL (takeL 22 (dropL 0 q2)) 0 zA48)))) 2 zA48))))⟩)), (36, (Sl.v 1 (Sl.mk (Sl.n s0) 0 (takeL ((Sl.n s0) * 1) (dropL 0 (Sl.cs s0))))))])) (H1 := (hp 4 [(oC q2), (oC q3), (oC (setL ([(zI (wrapF .i64 (Int.sub (Int.ofNat k1) z0)))] : List Value) 1 (setL (takeL (20 * 1) (dropL 1 (setL ([(zI (wrapF .i64 (Int.sub x2 (1 : Int))))] : List Value) (0 + k1 * 1) (setL (takeL 22 (dropL 0 q2)) 0 zA48)))) 2 zA48))), .dead])) (by kernel_rfl) (by kernel_rfl) h34 (GhS.id _ _)) (OpsG.fin (eC 1 (growD 1 24 n1 c1 1 1 q3 [(Sl.v 1 (Sl.mk (Sl.n s0) 0 (takeL ((Sl.n s0) * 1) (dropL 0 (Sl.cs s0)))))] [] (hp 5 [(oC q2), (oC q3), (oC (setL ([(zI (wrapF .i64 (Int.sub (Int.ofNat k1) z0)))] : List Value) 1 (setL (takeL (20 * 1) (dropL 1 (setL ([(zI (wrapF .i64 (Int.sub x2 (1 : Int))))] : List Value) (0 + k1 * 1) (setL (takeL 22 (dropL 0 q2)) 0 zA48)))) 2 zA48))), .dead, (oC [(Sl.v 1 (Sl.mk (Sl.n s0) 0 (takeL ((Sl.n s0) * 1) (dropL 0 (Sl.cs s0)))))])])) (growD_eq h35) (eE))))) ?_
          replace hm := bb_inv hm; obtain ⟨h36, hm⟩ := hm
          exact ⟨(z0, (n1 + 1), (d2 (n1 + 1)), (Int.ofNat k1), q2, (appL (dropL 0 q3) [(Sl.v 1 (Sl.mk (Sl.n s0) 0 (takeL ((Sl.n s0) * 1) (dropL 0 (Sl.cs s0)))))])), hm, (.k [0, 5] [] [.tmp 1 false, .tmp 4 false] [1, 3, 4, 5] ⟨trE (by kernel_rfl) h5, trE (by kernel_rfl) h36, trivial⟩)⟩
    · refine .ifF (nt (ilt (21 : Int) z1)) (by kernel_rfl) h7 ?_
      refine .exit ?_
      exact ⟨(n1, c1, q3), hm, (.k [1] [] [.tmp 4 false] [4] ⟨trE (by kernel_rfl) h6, trivial⟩)⟩
end
end Go.HpBM
