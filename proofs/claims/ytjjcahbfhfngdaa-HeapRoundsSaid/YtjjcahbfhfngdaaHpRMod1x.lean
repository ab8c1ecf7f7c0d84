/- slices.Repeat of one number, as a promise that closed runs give. -/
import Derived.Test.YtjjcahbfhfngdaaSpObjSx
import Derived.Test.YtjjcahbfhfngdaaHpRCode
import Derived.KernelRfl

set_option maxRecDepth 100000
namespace Go.Sp
theorem Weak.cap (id off sz ln m : Nat) : Weak (.slice (some ⟨id, off, some sz⟩) ln (2 * m + 1)) (.slice (some ⟨id, off, some sz⟩) ln (2 * m)) := fun R u h => by
  have e1 : (2 * m + 1) / 2 = m := by omega
  have e2 : 2 * m / 2 = m := by omega
  cases h with
  | sl h h1 h2 h3 h4 =>
    rw [e1] at h1 h2
    exact .sl h (by rw [e2]; exact h1) (by rw [e2]; exact h2) (fun h => by omega) h4
  | slE h => exact .slE (by omega)
  | slN h => exact .slN (by omega)
end Go.Sp
namespace Go.HpRM
open Go.Sp Go.HpR
noncomputable section
def orc58 (args : List Value) : Option Value :=
  ll args none fun a r => ll r none fun b r => ll r (oo (toSl 1 a) none fun s => oo (toI .i64 b) none fun z => oo (toN z) none fun k => ll s.cs none fun x r => ll r (oo (toI .i64 x) none fun y => bb (an (Nat.beq s.n 1) (Nat.ble k 21))
    (some (Sl.v 1 ⟨k, 0, zeroRow [.int .i64 y] k⟩)) none) fun _ _ => none) fun _ _ => none
def orc6 (_ : List Value) : Option Value := none
end
end Go.HpRM
set_option maxRecDepth 100000
set_option maxHeartbeats 20000000
set_option linter.unusedVariables false
namespace Go.HpRM
open Go.Sp Go.HpR
noncomputable section
def tabs : List (List Value) := []
def plist : List Nat := [3, 5, 6, 7, 8, 9, 10, 11, 12, 13, 14, 15, 29, 30, 32, 33, 34, 35, 36, 37, 38, 39, 57, 59, 60, 61]
def isP : FuncId → Bool := fun g => memN g plist
def inl (pu : PureF) : CallF := fun g args H => bb (Nat.beq g 31) (liveF tabs 1 (pu 31) args H) (bb (Nat.beq g 58) (giveF tabs 1 (pu 58) args H) (none))
def zA53 : List Value := [(.int .i64 (0 : Int)), (.int .i64 (0 : Int)), (.int .i64 (0 : Int)), (.int .i64 (0 : Int)), (.int .i64 (0 : Int)), (.int .i64 (0 : Int)), (.int .i64 (0 : Int)), (.int .i64 (0 : Int)), (.int .i64 (0 : Int)), (.int .i64 (0 : Int)), (.int .i64 (0 : Int)), (.int .i64 (0 : Int)), (.int .i64 (0 : Int)), (.int .i64 (0 : Int)), (.int .i64 (0 : Int)), (.int .i64 (0 : Int)), (.int .i64 (0 : Int)), (.int .i64 (0 : Int)), (.int .i64 (0 : Int)), (.int .i64 (0 : Int)), (.int .i64 (0 : Int)), (.int .i64 (0 : Int))]
end
end Go.HpRM
set_option maxRecDepth 100000
set_option maxHeartbeats 20000000
set_option linter.unusedVariables false
namespace Go.HpRM
open Go.Sp Go.HpR
noncomputable section
def m3_0 (pu : PureF) (n : Nat) (b0 : Bool) : Option Value :=
  (some (.bool b0))
def m3_ (pu : PureF) (n : Nat) (s1 : Sl) (x3 : Int) : Option Value :=
  (oo (pu 5 [(Sl.v 1 s1)]) none fun v9 => (oo (vBool v9) none fun b11 => (bb b11 (oo (pu 6 []) none fun v18 => (oo (vBool v18) none fun b20 => (some (.bool b20)))) (oo (pu 7 [(Sl.v 1 s1)]) none fun v32 => (oo (vTup v32) none fun l34 => (ll l34 none fun v36 l34 => (ll l34 none fun v37 l34 => (ll l34 (oo (toSl 1 v36) none fun s38 => (oo (toI .i64 v37) none fun x40 => (oo (pu 8 [(Sl.v 1 s1)]) none fun v52 => (oo (vTup v52) none fun l54 => (ll l54 none fun v56 l54 => (ll l54 none fun v57 l54 => (ll l54 (oo (toSl 1 v56) none fun s58 => (oo (toI .i64 v57) none fun x60 => (oo (pu 9 [(Sl.v 1 s1), (.int .i64 x3)]) none fun v72 => (oo (vTup v72) none fun l74 => (ll l74 none fun v76 l74 => (ll l74 none fun v77 l74 => (ll l74 (oo (toSl 1 v76) none fun s78 => (oo (toI .i64 v77) none fun x80 => (oo (pu 10 [(Sl.v 1 s1), (.int .i64 x3)]) none fun v92 => (oo (vTup v92) none fun l94 => (ll l94 none fun v96 l94 => (ll l94 none fun v97 l94 => (ll l94 (oo (toSl 1 v96) none fun s98 => (oo (toI .i64 v97) none fun x0 => (oo (pu 11 [(Sl.v 1 s1)]) none fun v0 => (oo (vTup v0) none fun l0 => (ll l0 none fun v1 l0 => (ll l0 none fun v2 l0 => (ll l0 (oo (toSl 1 v1) none fun s0 => (oo (toI .i64 v2) none fun x1 => (oo (pu 12 [(Sl.v 1 s1)]) none fun v3 => (oo (vTup v3) none fun l1 => (ll l1 none fun v4 l1 => (ll l1 none fun v5 l1 => (ll l1 (oo (toSl 1 v4) none fun s2 => (oo (toI .i64 v5) none fun x2 => (oo (pu 13 [(Sl.v 1 s38), (Sl.v 1 s58)]) none fun v6 => (oo (vBool v6) none fun b0 => (bb b0 (bb (ieq x40 x60) (oo (pu 13 [(Sl.v 1 s78), (Sl.v 1 s98)]) none fun v7 => (oo (vBool v7) none fun b1 => (bb b1 (bb (ieq x80 x0) (oo (pu 13 [(Sl.v 1 s0), (Sl.v 1 s2)]) none fun v8 => (oo (vBool v8) none fun b2 => (bb b2 (bb (ieq x1 x2) (oo (pu 14 [(Sl.v 1 s1)]) none fun v10 => (oo (toI .i64 v10) none fun x4 => (oo (pu 15 [(Sl.v 1 s1)]) none fun v11 => (oo (toI .i64 v11) none fun x5 => (bb (ieq x4 x5) (oo (pu 6 []) none fun v12 => (oo (vBool v12) none fun b4 => (m3_0 pu n b4))) (m3_0 pu n false)))))) (m3_0 pu n false)) (m3_0 pu n false)))) (m3_0 pu n false)) (m3_0 pu n false)))) (m3_0 pu n false)) (m3_0 pu n false)))))) fun _ _ => none))))))) fun _ _ => none))))))) fun _ _ => none))))))) fun _ _ => none))))))) fun _ _ => none))))))) fun _ _ => none))))))))
def m3 (pu : PureF) (n : Nat) (args : List Value) : Option Value :=
  (ll args none fun a0 args => (ll args none fun a1 args => (ll args (oo (toSl 1 a0) none fun s1 => (oo (toI .i64 a1) none fun x3 => (m3_ pu n s1 x3))) fun _ _ => none)))
theorem w3_0 (pu : PureF) (n : Nat) (b0 : Bool) {v : Value} (hm : m3_0 pu n b0 = some v) : Run tt (callP tabs isP pu (inl pu)) 0 .ret (fr 90 [(4, (zB b0))]) (hp 0 []) (Fin tt 0 [.tmp 4] v) := by
  unfold m3_0 at hm
  refine .ret ?_
  exact fin_ret (zB b0) (by kernel_rfl) (by kernel_rfl) hm
theorem r3 {call : CallF} (pu : PureF) (n : Nat) (hcall : call = callP tabs isP pu (inl pu)) {args : List Value} {v : Value} (hm : m3 pu n args = some v) (_ : ∀ x ∈ args, closed2 x = true) : args.length ≤ 90 ∧ Run tt call 0 c3_21 (Fr.made 90 args) (pureHeap tabs) (Fin tt 0 [.tmp 4] v) := by
  subst hcall
  unfold m3 at hm
  replace hm := ll_uncons hm; obtain ⟨a0, args_0, rfl, hm⟩ := hm
  replace hm := ll_uncons hm; obtain ⟨a1, args_1, rfl, hm⟩ := hm
  replace hm := ll_end hm; obtain ⟨rfl, hm⟩ := hm
  replace hm := inv_toSl hm; obtain ⟨s1, rfl, hm⟩ := hm
  replace hm := inv_toI hm; obtain ⟨x3, rfl, hm⟩ := hm
  unfold m3_ at hm
  refine ⟨by simp, ?_⟩
  refine .same (F' := (fr 90 [(0, (Sl.v 1 s1)), (1, (zI x3))])) (H' := (hp 0 [])) (by kernel_rfl) (by kernel_rfl) ?_
  refine .then ?_
  refine .rK ?_
  refine .ghs (fr 90 [(0, (Sl.v 1 s1)), (1, (zI x3))]) (hp 0 []) (.k0 [] [] [0, 1]) ?_
  refine .then ?_
  refine .then ?_
  replace hm := oo_inv hm; obtain ⟨v9, h10, hm⟩ := hm
  replace hm := inv_vBool hm; obtain ⟨b11, rfl, hm⟩ := hm
  refine .reg (eC 1 ((oo (pu 5 [(Sl.v 1 s1)]) none fun v => some (v, (hp 0 [])))) (call_eq h10) (eE)) ?_
  refine .ghs (fr 90 [(0, (Sl.v 1 s1)), (1, (zI x3)), (18, (zB b11))]) (hp 0 []) (.k0 [] [] [0, 1, 18]) ?_
  replace hm := bb_cases hm; rcases hm with ⟨h13, hm⟩ | ⟨h13, hm⟩
  · refine .ifT b11 (by kernel_rfl) h13 ?_
    refine .then ?_
    replace hm := oo_inv hm; obtain ⟨v18, h19, hm⟩ := hm
    replace hm := inv_vBool hm; obtain ⟨b20, rfl, hm⟩ := hm
    refine .reg (eD ((oo (pu 6 []) none fun v => some (v, (hp 0 [])))) (call_eq h19) (eE)) ?_
    refine .ghs (fr 90 [(4, (zB b20))]) (hp 0 []) (.k0 [] [] [4]) ?_
    refine .ret ?_
    exact fin_ret (zB b20) (by kernel_rfl) (by kernel_rfl) hm
  · refine .ifF b11 (by kernel_rfl) h13 ?_
    refine .skip ?_
    refine .ghs (fr 90 [(0, (Sl.v 1 s1)), (1, (zI x3))]) (hp 0 []) (.k0 [] [] [0, 1]) ?_
    refine .then ?_
    replace hm := oo_inv hm; obtain ⟨v32, h33, hm⟩ := hm
    replace hm := inv_vTup hm; obtain ⟨l34, rfl, hm⟩ := hm
    replace hm := ll_uncons hm; obtain ⟨v36, l34_0, rfl, hm⟩ := hm
    replace hm := ll_uncons hm; obtain ⟨v37, l34_1, rfl, hm⟩ := hm
    replace hm := ll_end hm; obtain ⟨rfl, hm⟩ := hm
    replace hm := inv_toSl hm; obtain ⟨s38, rfl, hm⟩ := hm
    replace hm := inv_toI hm; obtain ⟨x40, rfl, hm⟩ := hm
    refine .reg (eC 1 ((oo (pu 7 [(Sl.v 1 s1)]) none fun v => some (v, (hp 0 [])))) (call_eq h33) (eE)) ?_
    refine .ghs (fr 90 [(0, (Sl.v 1 s1)), (1, (zI x3)), (5, (Sl.v 1 s38)), (6, (zI x40))]) (hp 0 []) (.k0 [] [] [0, 1, 5, 6]) ?_
    refine .then ?_
    replace hm := oo_inv hm; obtain ⟨v52, h53, hm⟩ := hm
    replace hm := inv_vTup hm; obtain ⟨l54, rfl, hm⟩ := hm
    replace hm := ll_uncons hm; obtain ⟨v56, l54_0, rfl, hm⟩ := hm
    replace hm := ll_uncons hm; obtain ⟨v57, l54_1, rfl, hm⟩ := hm
    replace hm := ll_end hm; obtain ⟨rfl, hm⟩ := hm
    replace hm := inv_toSl hm; obtain ⟨s58, rfl, hm⟩ := hm
    replace hm := inv_toI hm; obtain ⟨x60, rfl, hm⟩ := hm
    refine .reg (eC 1 ((oo (pu 8 [(Sl.v 1 s1)]) none fun v => some (v, (hp 0 [])))) (call_eq h53) (eE)) ?_
    refine .ghs (fr 90 [(0, (Sl.v 1 s1)), (1, (zI x3)), (5, (Sl.v 1 s38)), (6, (zI x40)), (7, (Sl.v 1 s58)), (8, (zI x60))]) (hp 0 []) (.k0 [] [] [0, 1, 5, 6, 7, 8]) ?_
    refine .then ?_
    replace hm := oo_inv hm; obtain ⟨v72, h73, hm⟩ := hm
    replace hm := inv_vTup hm; obtain ⟨l74, rfl, hm⟩ := hm
    replace hm := ll_uncons hm; obtain ⟨v76, l74_0, rfl, hm⟩ := hm
    replace hm := ll_uncons hm; obtain ⟨v77, l74_1, rfl, hm⟩ := hm
    replace hm := ll_end hm; obtain ⟨rfl, hm⟩ := hm
    replace hm := inv_toSl hm; obtain ⟨s78, rfl, hm⟩ := hm
    replace hm := inv_toI hm; obtain ⟨x80, rfl, hm⟩ := hm
    refine .reg (eC 2 ((oo (pu 9 [(Sl.v 1 s1), (zI x3)]) none fun v => some (v, (hp 0 [])))) (call_eq h73) (eE)) ?_
    refine .ghs (fr 90 [(0, (Sl.v 1 s1)), (1, (zI x3)), (5, (Sl.v 1 s38)), (6, (zI x40)), (7, (Sl.v 1 s58)), (8, (zI x60)), (9, (Sl.v 1 s78)), (10, (zI x80))]) (hp 0 []) (.k0 [] [] [0, 1, 5, 6, 7, 8, 9, 10]) ?_
    refine .then ?_
    replace hm := oo_inv hm; obtain ⟨v92, h93, hm⟩ := hm
    replace hm := inv_vTup hm; obtain ⟨l94, rfl, hm⟩ := hm
    replace hm := ll_uncons hm; obtain ⟨v96, l94_0, rfl, hm⟩ := hm
    replace hm := ll_uncons hm; obtain ⟨v97, l94_1, rfl, hm⟩ := hm
    replace hm := ll_end hm; obtain ⟨rfl, hm⟩ := hm
    replace hm := inv_toSl hm; obtain ⟨s98, rfl, hm⟩ := hm
    replace hm := inv_toI hm; obtain ⟨x0, rfl, hm⟩ := hm
    refine .reg (eC 2 ((oo (pu 10 [(Sl.v 1 s1), (zI x3)]) none fun v => some (v, (hp 0 [])))) (call_eq h93) (eE)) ?_
    refine .ghs (fr 90 [(0, (Sl.v 1 s1)), (5, (Sl.v 1 s38)), (6, (zI x40)), (7, (Sl.v 1 s58)), (8, (zI x60)), (9, (Sl.v 1 s78)), (10, (zI x80)), (11, (Sl.v 1 s98)), (12, (zI x0))]) (hp 0 []) (.k0 [] [] [0, 5, 6, 7, 8, 9, 10, 11, 12]) ?_
    refine .then ?_
    replace hm := oo_inv hm; obtain ⟨v0, h0, hm⟩ := hm
    replace hm := inv_vTup hm; obtain ⟨l0, rfl, hm⟩ := hm
    replace hm := ll_uncons hm; obtain ⟨v1, l114_0, rfl, hm⟩ := hm
    replace hm := ll_uncons hm; obtain ⟨v2, l114_1, rfl, hm⟩ := hm
    replace hm := ll_end hm; obtain ⟨rfl, hm⟩ := hm
    replace hm := inv_toSl hm; obtain ⟨s0, rfl, hm⟩ := hm
    replace hm := inv_toI hm; obtain ⟨x1, rfl, hm⟩ := hm
    refine .reg (eC 1 ((oo (pu 11 [(Sl.v 1 s1)]) none fun v => some (v, (hp 0 [])))) (call_eq h0) (eE)) ?_
    refine .ghs (fr 90 [(0, (Sl.v 1 s1)), (5, (Sl.v 1 s38)), (6, (zI x40)), (7, (Sl.v 1 s58)), (8, (zI x60)), (9, (Sl.v 1 s78)), (10, (zI x80)), (11, (Sl.v 1 s98)), (12, (zI x0)), (13, (Sl.v 1 s0)), (14, (zI x1))]) (hp 0 []) (.k0 [] [] [0, 5, 6, 7, 8, 9, 10, 11, 12, 13, 14]) ?_
    refine .then ?_
    replace hm := oo_inv hm; obtain ⟨v3, h1, hm⟩ := hm
    replace hm := inv_vTup hm; obtain ⟨l1, rfl, hm⟩ := hm
    replace hm := ll_uncons hm; obtain ⟨v4, l134_0, rfl, hm⟩ := hm
    replace hm := ll_uncons hm; obtain ⟨v5, l134_1, rfl, hm⟩ := hm
    replace hm := ll_end hm; obtain ⟨rfl, hm⟩ := hm
    replace hm := inv_toSl hm; obtain ⟨s2, rfl, hm⟩ := hm
    replace hm := inv_toI hm; obtain ⟨x2, rfl, hm⟩ := hm
    refine .reg (eC 1 ((oo (pu 12 [(Sl.v 1 s1)]) none fun v => some (v, (hp 0 [])))) (call_eq h1) (eE)) ?_
    refine .ghs (fr 90 [(0, (Sl.v 1 s1)), (5, (Sl.v 1 s38)), (6, (zI x40)), (7, (Sl.v 1 s58)), (8, (zI x60)), (9, (Sl.v 1 s78)), (10, (zI x80)), (11, (Sl.v 1 s98)), (12, (zI x0)), (13, (Sl.v 1 s0)), (14, (zI x1)), (15, (Sl.v 1 s2)), (16, (zI x2))]) (hp 0 []) (.k0 [] [] [0, 5, 6, 7, 8, 9, 10, 11, 12, 13, 14, 15, 16]) ?_
    refine .join (v := v) (fun y : Bool => ((fr 90 [(4, (zB y))]), (hp 0 []))) (fun y => m3_0 pu n y) ?_ ?_
    · rintro b0 hm
      exact w3_0 pu n b0 hm
    · replace hm := oo_inv hm; obtain ⟨v6, h2, hm⟩ := hm
      replace hm := inv_vBool hm; obtain ⟨b1, rfl, hm⟩ := hm
      replace hm := bb_cases hm; rcases hm with ⟨h3, hm⟩ | ⟨h3, hm⟩
      · replace hm := bb_cases hm; rcases hm with ⟨h4, hm⟩ | ⟨h4, hm⟩
        · replace hm := oo_inv hm; obtain ⟨v7, h5, hm⟩ := hm
          replace hm := inv_vBool hm; obtain ⟨b2, rfl, hm⟩ := hm
          replace hm := bb_cases hm; rcases hm with ⟨h6, hm⟩ | ⟨h6, hm⟩
          · replace hm := bb_cases hm; rcases hm with ⟨h7, hm⟩ | ⟨h7, hm⟩
            · replace hm := oo_inv hm; obtain ⟨v8, h8, hm⟩ := hm
              replace hm := inv_vBool hm; obtain ⟨b4, rfl, hm⟩ := hm
              replace hm := bb_cases hm; rcases hm with ⟨h9, hm⟩ | ⟨h9, hm⟩
              · replace hm := bb_cases hm; rcases hm with ⟨h11, hm⟩ | ⟨h11, hm⟩
                · replace hm := oo_inv hm; obtain ⟨v10, h12, hm⟩ := hm
                  replace hm := inv_toI hm; obtain ⟨x4, rfl, hm⟩ := hm
                  replace hm := oo_inv hm; obtain ⟨v11, h14, hm⟩ := hm
                  replace hm := inv_toI hm; obtain ⟨x5, rfl, hm⟩ := hm
                  replace hm := bb_cases hm; rcases hm with ⟨h15, hm⟩ | ⟨h15, hm⟩
                  · replace hm := oo_inv hm; obtain ⟨v12, h16, hm⟩ := hm
                    replace hm := inv_vBool hm; obtain ⟨b16, rfl, hm⟩ := hm
                    refine .reg (eN 12 (Fr.puts (fr 90 [(0, (Sl.v 1 s1)), (5, (Sl.v 1 s38)), (6, (zI x40)), (7, (Sl.v 1 s58)), (8, (zI x60)), (9, (Sl.v 1 s78)), (10, (zI x80)), (11, (Sl.v 1 s98)), (12, (zI x0)), (13, (Sl.v 1 s0)), (14, (zI x1)), (15, (Sl.v 1 s2)), (16, (zI x2))]) [(52, (Sl.v 1 s38)), (53, (Sl.v 1 s58)), (54, (zB true)), (55, (zB true)), (56, (zI x40)), (57, (zI x60)), (58, (zB true)), (59, (zB true)), (60, (zB true)), (61, (Sl.v 1 s78)), (62, (Sl.v 1 s98)), (63, (zB true))]) (hp 0 []) (eC 2 ((oo (pu 13 [(Sl.v 1 s38), (Sl.v 1 s58)]) none fun v => some (v, (hp 0 [])))) (show _ = some ((zB true), _) from (by have hz : (oo (pu 13 [(Sl.v 1 s38), (Sl.v 1 s58)]) none fun v => some (v, (hp 0 []))) = some ((zB b1), (hp 0 [])) := (call_eq h2); rw [h3] at hz; exact hz)) (eC 3 (some ((zB (ieq x40 x60)), (hp 0 []))) (show _ = some ((zB true), _) from (by rw [h4])) (eC 4 ((oo (pu 13 [(Sl.v 1 s78), (Sl.v 1 s98)]) none fun v => some (v, (hp 0 [])))) (show _ = some ((zB true), _) from (by have hz : (oo (pu 13 [(Sl.v 1 s78), (Sl.v 1 s98)]) none fun v => some (v, (hp 0 []))) = some ((zB b2), (hp 0 [])) := (call_eq h5); rw [h6] at hz; exact hz)) (by kernel_rfl)))) (eN 15 (Fr.puts (fr 90 [(0, (Sl.v 1 s1)), (5, (Sl.v 1 s38)), (6, (zI x40)), (7, (Sl.v 1 s58)), (8, (zI x60)), (9, (Sl.v 1 s78)), (10, (zI x80)), (11, (Sl.v 1 s98)), (12, (zI x0)), (13, (Sl.v 1 s0)), (14, (zI x1)), (15, (Sl.v 1 s2)), (16, (zI x2))]) [(52, (Sl.v 1 s38)), (53, (Sl.v 1 s58)), (54, (zB true)), (55, (zB true)), (56, (zI x40)), (57, (zI x60)), (58, (zB true)), (59, (zB true)), (60, (zB true)), (61, (Sl.v 1 s78)), (62, (Sl.v 1 s98)), (63, (zB true)), (64, (zB true)), (65, (zB true)), (66, (zI x80)), (67, (zI x0)), (68, (zB true)), (69, (zB true)), (70, (zB true)), (71, (Sl.v 1 s0)), (72, (Sl.v 1 s2)), (73, (zB true)), (74, (zB true)), (75, (zB true)), (76, (zI x1)), (77, (zI x2)), (78, (zB true))]) (hp 0 []) (eC 4 (some ((zB (ieq x80 x0)), (hp 0 []))) (show _ = some ((zB true), _) from (by rw [h7])) (eC 4 ((oo (pu 13 [(Sl.v 1 s0), (Sl.v 1 s2)]) none fun v => some (v, (hp 0 [])))) (show _ = some ((zB true), _) from (by have hz : (oo (pu 13 [(Sl.v 1 s0), (Sl.v 1 s2)]) none fun v => some (v, (hp 0 []))) = some ((zB b4), (hp 0 [])) := (call_eq h8); rw [h9] at hz; exact hz)) (eC 4 (some ((zB (ieq x1 x2)), (hp 0 []))) (show _ = some ((zB true), _) from (by rw [h11])) (by kernel_rfl)))) (eC 3 ((oo (pu 14 [(Sl.v 1 s1)]) none fun v => some (v, (hp 0 [])))) (call_eq h12) (eC 1 ((oo (pu 15 [(Sl.v 1 s1)]) none fun v => some (v, (hp 0 [])))) (call_eq h14) (eD (some ((zB (ieq x4 x5)), (hp 0 []))) (show _ = some ((zB true), _) from (by rw [h15])) (eC 2 ((oo (pu 6 []) none fun v => some (v, (hp 0 [])))) (call_eq h16) (eE))))))) ?_
                    exact ⟨b16, hm, (.k0 [] [] [4])⟩
                  · refine .reg (eN 12 (Fr.puts (fr 90 [(0, (Sl.v 1 s1)), (5, (Sl.v 1 s38)), (6, (zI x40)), (7, (Sl.v 1 s58)), (8, (zI x60)), (9, (Sl.v 1 s78)), (10, (zI x80)), (11, (Sl.v 1 s98)), (12, (zI x0)), (13, (Sl.v 1 s0)), (14, (zI x1)), (15, (Sl.v 1 s2)), (16, (zI x2))]) [(52, (Sl.v 1 s38)), (53, (Sl.v 1 s58)), (54, (zB true)), (55, (zB true)), (56, (zI x40)), (57, (zI x60)), (58, (zB true)), (59, (zB true)), (60, (zB true)), (61, (Sl.v 1 s78)), (62, (Sl.v 1 s98)), (63, (zB true))]) (hp 0 []) (eC 2 ((oo (pu 13 [(Sl.v 1 s38), (Sl.v 1 s58)]) none fun v => some (v, (hp 0 [])))) (show _ = some ((zB true), _) from (by have hz : (oo (pu 13 [(Sl.v 1 s38), (Sl.v 1 s58)]) none fun v => some (v, (hp 0 []))) = some ((zB b1), (hp 0 [])) := (call_eq h2); rw [h3] at hz; exact hz)) (eC 3 (some ((zB (ieq x40 x60)), (hp 0 []))) (show _ = some ((zB true), _) from (by rw [h4])) (eC 4 ((oo (pu 13 [(Sl.v 1 s78), (Sl.v 1 s98)]) none fun v => some (v, (hp 0 [])))) (show _ = some ((zB true), _) from (by have hz : (oo (pu 13 [(Sl.v 1 s78), (Sl.v 1 s98)]) none fun v => some (v, (hp 0 []))) = some ((zB b2), (hp 0 [])) := (call_eq h5); rw [h6] at hz; exact hz)) (by kernel_rfl)))) (eN 15 (Fr.puts (fr 90 [(0, (Sl.v 1 s1)), (5, (Sl.v 1 s38)), (6, (zI x40)), (7, (Sl.v 1 s58)), (8, (zI x60)), (9, (Sl.v 1 s78)), (10, (zI x80)), (11, (Sl.v 1 s98)), (12, (zI x0)), (13, (Sl.v 1 s0)), (14, (zI x1)), (15, (Sl.v 1 s2)), (16, (zI x2))]) [(52, (Sl.v 1 s38)), (53, (Sl.v 1 s58)), (54, (zB true)), (55, (zB true)), (56, (zI x40)), (57, (zI x60)), (58, (zB true)), (59, (zB true)), (60, (zB true)), (61, (Sl.v 1 s78)), (62, (Sl.v 1 s98)), (63, (zB true)), (64, (zB true)), (65, (zB true)), (66, (zI x80)), (67, (zI x0)), (68, (zB true)), (69, (zB true)), (70, (zB true)), (71, (Sl.v 1 s0)), (72, (Sl.v 1 s2)), (73, (zB true)), (74, (zB true)), (75, (zB true)), (76, (zI x1)), (77, (zI x2)), (78, (zB true))]) (hp 0 []) (eC 4 (some ((zB (ieq x80 x0)), (hp 0 []))) (show _ = some ((zB true), _) from (by rw [h7])) (eC 4 ((oo (pu 13 [(Sl.v 1 s0), (Sl.v 1 s2)]) none fun v => some (v, (hp 0 [])))) (show _ = some ((zB true), _) from (by have hz : (oo (pu 13 [(Sl.v 1 s0), (Sl.v 1 s2)]) none fun v => some (v, (hp 0 []))) = some ((zB b4), (hp 0 [])) := (call_eq h8); rw [h9] at hz; exact hz)) (eC 4 (some ((zB (ieq x1 x2)), (hp 0 []))) (show _ = some ((zB true), _) from (by rw [h11])) (by kernel_rfl)))) (eC 3 ((oo (pu 14 [(Sl.v 1 s1)]) none fun v => some (v, (hp 0 [])))) (call_eq h12) (eC 1 ((oo (pu 15 [(Sl.v 1 s1)]) none fun v => some (v, (hp 0 [])))) (call_eq h14) (eD (some ((zB (ieq x4 x5)), (hp 0 []))) (show _ = some ((zB false), _) from (by rw [h15])) (eE)))))) ?_
                    exact ⟨false, hm, (.k0 [] [] [4])⟩
                · refine .reg (eN 12 (Fr.puts (fr 90 [(0, (Sl.v 1 s1)), (5, (Sl.v 1 s38)), (6, (zI x40)), (7, (Sl.v 1 s58)), (8, (zI x60)), (9, (Sl.v 1 s78)), (10, (zI x80)), (11, (Sl.v 1 s98)), (12, (zI x0)), (13, (Sl.v 1 s0)), (14, (zI x1)), (15, (Sl.v 1 s2)), (16, (zI x2))]) [(52, (Sl.v 1 s38)), (53, (Sl.v 1 s58)), (54, (zB true)), (55, (zB true)), (56, (zI x40)), (57, (zI x60)), (58, (zB true)), (59, (zB true)), (60, (zB true)), (61, (Sl.v 1 s78)), (62, (Sl.v 1 s98)), (63, (zB true))]) (hp 0 []) (eC 2 ((oo (pu 13 [(Sl.v 1 s38), (Sl.v 1 s58)]) none fun v => some (v, (hp 0 [])))) (show _ = some ((zB true), _) from (by have hz : (oo (pu 13 [(Sl.v 1 s38), (Sl.v 1 s58)]) none fun v => some (v, (hp 0 []))) = some ((zB b1), (hp 0 [])) := (call_eq h2); rw [h3] at hz; exact hz)) (eC 3 (some ((zB (ieq x40 x60)), (hp 0 []))) (show _ = some ((zB true), _) from (by rw [h4])) (eC 4 ((oo (pu 13 [(Sl.v 1 s78), (Sl.v 1 s98)]) none fun v => some (v, (hp 0 [])))) (show _ = some ((zB true), _) from (by have hz : (oo (pu 13 [(Sl.v 1 s78), (Sl.v 1 s98)]) none fun v => some (v, (hp 0 []))) = some ((zB b2), (hp 0 [])) := (call_eq h5); rw [h6] at hz; exact hz)) (by kernel_rfl)))) (eC 4 (some ((zB (ieq x80 x0)), (hp 0 []))) (show _ = some ((zB true), _) from (by rw [h7])) (eC 4 ((oo (pu 13 [(Sl.v 1 s0), (Sl.v 1 s2)]) none fun v => some (v, (hp 0 [])))) (show _ = some ((zB true), _) from (by have hz : (oo (pu 13 [(Sl.v 1 s0), (Sl.v 1 s2)]) none fun v => some (v, (hp 0 []))) = some ((zB b4), (hp 0 [])) := (call_eq h8); rw [h9] at hz; exact hz)) (eC 4 (some ((zB (ieq x1 x2)), (hp 0 []))) (show _ = some ((zB false), _) from (by rw [h11])) (eE))))) ?_
                  exact ⟨false, hm, (.k0 [] [] [4])⟩
              · refine .reg (eC 2 ((oo (pu 13 [(Sl.v 1 s38), (Sl.v 1 s58)]) none fun v => some (v, (hp 0 [])))) (show _ = some ((zB true), _) from (by have hz : (oo (pu 13 [(Sl.v 1 s38), (Sl.v 1 s58)]) none fun v => some (v, (hp 0 []))) = some ((zB b1), (hp 0 [])) := (call_eq h2); rw [h3] at hz; exact hz)) (eC 3 (some ((zB (ieq x40 x60)), (hp 0 []))) (show _ = some ((zB true), _) from (by rw [h4])) (eC 4 ((oo (pu 13 [(Sl.v 1 s78), (Sl.v 1 s98)]) none fun v => some (v, (hp 0 [])))) (show _ = some ((zB true), _) from (by have hz : (oo (pu 13 [(Sl.v 1 s78), (Sl.v 1 s98)]) none fun v => some (v, (hp 0 []))) = some ((zB b2), (hp 0 [])) := (call_eq h5); rw [h6] at hz; exact hz)) (eC 4 (some ((zB (ieq x80 x0)), (hp 0 []))) (show _ = some ((zB true), _) from (by rw [h7])) (eC 4 ((oo (pu 13 [(Sl.v 1 s0), (Sl.v 1 s2)]) none fun v => some (v, (hp 0 [])))) (show _ = some ((zB false), _) from (by have hz : (oo (pu 13 [(Sl.v 1 s0), (Sl.v 1 s2)]) none fun v => some (v, (hp 0 []))) = some ((zB b4), (hp 0 [])) := (call_eq h8); rw [h9] at hz; exact hz)) (eE)))))) ?_
                exact ⟨false, hm, (.k0 [] [] [4])⟩
            · refine .reg (eC 2 ((oo (pu 13 [(Sl.v 1 s38), (Sl.v 1 s58)]) none fun v => some (v, (hp 0 [])))) (show _ = some ((zB true), _) from (by have hz : (oo (pu 13 [(Sl.v 1 s38), (Sl.v 1 s58)]) none fun v => some (v, (hp 0 []))) = some ((zB b1), (hp 0 [])) := (call_eq h2); rw [h3] at hz; exact hz)) (eC 3 (some ((zB (ieq x40 x60)), (hp 0 []))) (show _ = some ((zB true), _) from (by rw [h4])) (eC 4 ((oo (pu 13 [(Sl.v 1 s78), (Sl.v 1 s98)]) none fun v => some (v, (hp 0 [])))) (show _ = some ((zB true), _) from (by have hz : (oo (pu 13 [(Sl.v 1 s78), (Sl.v 1 s98)]) none fun v => some (v, (hp 0 []))) = some ((zB b2), (hp 0 [])) := (call_eq h5); rw [h6] at hz; exact hz)) (eC 4 (some ((zB (ieq x80 x0)), (hp 0 []))) (show _ = some ((zB false), _) from (by rw [h7])) (eE))))) ?_
              exact ⟨false, hm, (.k0 [] [] [4])⟩
          · refine .reg (eC 2 ((oo (pu 13 [(Sl.v 1 s38), (Sl.v 1 s58)]) none fun v => some (v, (hp 0 [])))) (show _ = some ((zB true), _) from (by have hz : (oo (pu 13 [(Sl.v 1 s38), (Sl.v 1 s58)]) none fun v => some (v, (hp 0 []))) = some ((zB b1), (hp 0 [])) := (call_eq h2); rw [h3] at hz; exact hz)) (eC 3 (some ((zB (ieq x40 x60)), (hp 0 []))) (show _ = some ((zB true), _) from (by rw [h4])) (eC 4 ((oo (pu 13 [(Sl.v 1 s78), (Sl.v 1 s98)]) none fun v => some (v, (hp 0 [])))) (show _ = some ((zB false), _) from (by have hz : (oo (pu 13 [(Sl.v 1 s78), (Sl.v 1 s98)]) none fun v => some (v, (hp 0 []))) = some ((zB b2), (hp 0 [])) := (call_eq h5); rw [h6] at hz; exact hz)) (eE)))) ?_
            exact ⟨false, hm, (.k0 [] [] [4])⟩
        · refine .reg (eC 2 ((oo (pu 13 [(Sl.v 1 s38), (Sl.v 1 s58)]) none fun v => some (v, (hp 0 [])))) (show _ = some ((zB true), _) from (by have hz : (oo (pu 13 [(Sl.v 1 s38), (Sl.v 1 s58)]) none fun v => some (v, (hp 0 []))) = some ((zB b1), (hp 0 [])) := (call_eq h2); rw [h3] at hz; exact hz)) (eC 3 (some ((zB (ieq x40 x60)), (hp 0 []))) (show _ = some ((zB false), _) from (by rw [h4])) (eE))) ?_
          exact ⟨false, hm, (.k0 [] [] [4])⟩
      · refine .reg (eC 2 ((oo (pu 13 [(Sl.v 1 s38), (Sl.v 1 s58)]) none fun v => some (v, (hp 0 [])))) (show _ = some ((zB false), _) from (by have hz : (oo (pu 13 [(Sl.v 1 s38), (Sl.v 1 s58)]) none fun v => some (v, (hp 0 []))) = some ((zB b1), (hp 0 [])) := (call_eq h2); rw [h3] at hz; exact hz)) (eE)) ?_
        exact ⟨false, hm, (.k0 [] [] [4])⟩

def m5_ (pu : PureF) (n : Nat) (s0 : Sl) : Option Value :=
  (some (.bool (ilt (60 : Int) (Int.ofNat (Sl.n s0)))))
def m5 (pu : PureF) (n : Nat) (args : List Value) : Option Value :=
  (ll args none fun a0 args => (ll args (oo (toSl 1 a0) none fun s0 => (m5_ pu n s0)) fun _ _ => none))
theorem r5 {call : CallF} (pu : PureF) (n : Nat) (hcall : call = callP tabs isP pu (inl pu)) {args : List Value} {v : Value} (hm : m5 pu n args = some v) (_ : ∀ x ∈ args, closed2 x = true) : args.length ≤ 6 ∧ Run tt call 0 c5_3 (Fr.made 6 args) (pureHeap tabs) (Fin tt 0 [.tmp 2] v) := by
  subst hcall
  unfold m5 at hm
  replace hm := ll_uncons hm; obtain ⟨a0, args_0, rfl, hm⟩ := hm
  replace hm := ll_end hm; obtain ⟨rfl, hm⟩ := hm
  replace hm := inv_toSl hm; obtain ⟨s0, rfl, hm⟩ := hm
  unfold m5_ at hm
  refine ⟨by simp, ?_⟩
  refine .same (F' := (fr 6 [(0, (Sl.v 1 s0))])) (H' := (hp 0 [])) (by kernel_rfl) (by kernel_rfl) ?_
  refine .then ?_
  refine .rK ?_
  refine .ghs (fr 6 [(0, (Sl.v 1 s0))]) (hp 0 []) (.k0 [] [] [0]) ?_
  refine .then ?_
  refine .rK ?_
  refine .ghs (fr 6 [(2, (zB (ilt (60 : Int) (Int.ofNat (Sl.n s0)))))]) (hp 0 []) (.k0 [] [] [2]) ?_
  refine .ret ?_
  exact fin_ret (zB (ilt (60 : Int) (Int.ofNat (Sl.n s0)))) (by kernel_rfl) (by kernel_rfl) hm

def m7_ (pu : PureF) (n : Nat) (s0 : Sl) : Option Value :=
  (oo (pu 14 [(Sl.v 1 s0)]) none fun v0 => (oo (toI .i64 v0) none fun x0 => (bb (nt (ieq x0 (0 : Int))) (some (.tuple ⟨[(Sl.v 1 (Sl.mk 0 2 [])), (.int .i64 x0)]⟩)) (oo (pu 29 [(Sl.v 1 s0)]) none fun v1 => (oo (vAgg v1) none fun q0 => (bb (an (Nat.beq (len q0) 22) (allL closed1 q0)) (oo (pu 30 [(.agg ⟨q0⟩)]) none fun v2 => (oo (vAgg v2) none fun q1 => (bb (an (Nat.beq (len q1) 22) (allL closed1 q1)) (bb (allL closed2 [(.agg ⟨q0⟩)]) (oo (pu 31 [(.agg ⟨q1⟩)]) none fun v3 => (oo (toSl 1 v3) none fun s1 => (bb (allL closed2 [(.agg ⟨q1⟩)]) (bb (allL closed1 (Sl.cs s1)) (bb (an (Nat.ble (0 + (Sl.n s1) * 1) (len (Sl.cs s1))) (allL closed1 (takeL ((Sl.n s1) * 1) (dropL 0 (Sl.cs s1))))) (some (.tuple ⟨[(Sl.v 1 (Sl.mk (Sl.n s1) 0 (takeL ((Sl.n s1) * 1) (dropL 0 (Sl.cs s1))))), (.int .i64 (0 : Int))]⟩)) none) none) none))) none) none))) none))))))
def m7 (pu : PureF) (n : Nat) (args : List Value) : Option Value :=
  (ll args none fun a0 args => (ll args (oo (toSl 1 a0) none fun s0 => (m7_ pu n s0)) fun _ _ => none))
theorem r7 {call : CallF} (pu : PureF) (n : Nat) (hcall : call = callP tabs isP pu (inl pu)) {args : List Value} {v : Value} (hm : m7 pu n args = some v) (_ : ∀ x ∈ args, closed2 x = true) : args.length ≤ 14 ∧ Run tt call 0 c7_11 (Fr.made 14 args) (pureHeap tabs) (Fin tt 0 [.tmp 2, .tmp 3] v) := by
  subst hcall
  unfold m7 at hm
  replace hm := ll_uncons hm; obtain ⟨a0, args_0, rfl, hm⟩ := hm
  replace hm := ll_end hm; obtain ⟨rfl, hm⟩ := hm
  replace hm := inv_toSl hm; obtain ⟨s0, rfl, hm⟩ := hm
  unfold m7_ at hm
  refine ⟨by simp, ?_⟩
  refine .same (F' := (fr 14 [(0, (Sl.v 1 s0))])) (H' := (hp 0 [])) (by kernel_rfl) (by kernel_rfl) ?_
  refine .then ?_
  refine .rK ?_
  refine .ghs (fr 14 [(0, (Sl.v 1 s0))]) (hp 0 []) (.k0 [] [] [0]) ?_
  refine .then ?_
  refine .then ?_
  replace hm := oo_inv hm; obtain ⟨v0, h0, hm⟩ := hm
  replace hm := inv_toI hm; obtain ⟨x0, rfl, hm⟩ := hm
  refine .reg (eC 1 ((oo (pu 14 [(Sl.v 1 s0)]) none fun v => some (v, (hp 0 [])))) (call_eq h0) (eE)) ?_
  refine .ghs (fr 14 [(0, (Sl.v 1 s0)), (4, (zI x0))]) (hp 0 []) (.k0 [] [] [0, 4]) ?_
  refine .then ?_
  refine .rK ?_
  refine .ghs (fr 14 [(0, (Sl.v 1 s0)), (4, (zI x0)), (8, (zB (nt (ieq x0 (0 : Int)))))]) (hp 0 []) (.k0 [] [] [0, 4, 8]) ?_
  replace hm := bb_cases hm; rcases hm with ⟨h1, hm⟩ | ⟨h1, hm⟩
  · refine .ifT (nt (ieq x0 (0 : Int))) (by kernel_rfl) h1 ?_
    refine .then ?_
    refine .rK ?_
    refine .ghs (fr 14 [(2, (.slice none 0 0)), (3, (zI x0))]) (hp 0 []) (.k0 [] [] [2, 3]) ?_
    refine .ghs (Fr.puts (fr 14 [(2, (.slice none 0 0)), (3, (zI x0))]) [(2, (Sl.v 1 (Sl.mk 0 2 [])))]) (hp 0 []) (.freeze 0 2 1 (by kernel_rfl) (by kernel_rfl) (GhS.id _ _)) ?_
    refine .ret ?_
    exact fin_ret (.tuple ⟨[(Sl.v 1 (Sl.mk 0 2 [])), (zI x0)]⟩) (by kernel_rfl) (by kernel_rfl) hm
  · refine .ifF (nt (ieq x0 (0 : Int))) (by kernel_rfl) h1 ?_
    refine .skip ?_
    refine .ghs (fr 14 [(0, (Sl.v 1 s0))]) (hp 0 []) (.k0 [] [] [0]) ?_
    refine .then ?_
    replace hm := oo_inv hm; obtain ⟨v1, h2, hm⟩ := hm
    replace hm := inv_vAgg hm; obtain ⟨q0, rfl, hm⟩ := hm
    replace hm := bb_inv hm; obtain ⟨h3, hm⟩ := hm
    replace hm := oo_inv hm; obtain ⟨v2, h4, hm⟩ := hm
    replace hm := inv_vAgg hm; obtain ⟨q1, rfl, hm⟩ := hm
    replace hm := bb_inv hm; obtain ⟨h5, hm⟩ := hm
    replace hm := bb_inv hm; obtain ⟨h6, hm⟩ := hm
    replace hm := oo_inv hm; obtain ⟨v3, h7, hm⟩ := hm
    replace hm := inv_toSl hm; obtain ⟨s1, rfl, hm⟩ := hm
    replace hm := bb_inv hm; obtain ⟨h8, hm⟩ := hm
    refine .reg (eC 1 ((oo (pu 29 [(Sl.v 1 s0)]) none fun v => some (v, (hp 0 [])))) (call_eq h2) (eD (bb (allL closed2 [(.agg ⟨q0⟩)]) (oo (pu 30 [(.agg ⟨q0⟩)]) none fun v => some (v, (hp 0 []))) (oo (mapO (purify (hp 0 [])) [(.agg ⟨q0⟩)]) none fun l1 => oo (pu 30 l1) none fun v => bb (plainT v) (some (v, (hp 0 []))) none)) (callc_eq h6 h4) (eD (bb (allL closed2 [(.agg ⟨q1⟩)]) (oo (pu 31 [(.agg ⟨q1⟩)]) none fun v => oo (toSl 1 v) none fun s => some (((sc 0 0 1 (Sl.n s) (d2 (Sl.n s))), (hp 1 [(oC (Sl.cs s))])) : Value × AHeap)) none) ((bb_true' h8).trans (live_eq (sz := 1) (k := fun s => (((sc 0 0 1 (Sl.n s) (d2 (Sl.n s))), (hp 1 [(oC (Sl.cs s))])) : Value × AHeap)) h7)) (eE)))) ?_
    replace hm := bb_inv hm; obtain ⟨h9, hm⟩ := hm
    refine .ghs (fr 14 [(2, (sc 0 0 1 (Sl.n s1) (d2 (Sl.n s1)))), (3, (zI (0 : Int)))]) (hp 1 [(oC (Sl.cs s1))]) (.k [0] [] [.tmp 2 false] [2, 3] ⟨trE (by kernel_rfl) h9, trivial⟩) ?_
    replace hm := bb_inv hm; obtain ⟨h10, hm⟩ := hm
    refine .ghs (Fr.puts (fr 14 [(2, (sc 0 0 1 (Sl.n s1) (d2 (Sl.n s1)))), (3, (zI (0 : Int)))]) [(2, (Sl.v 1 (Sl.mk (Sl.n s1) 0 (takeL ((Sl.n s1) * 1) (dropL 0 (Sl.cs s1))))))]) (hp 1 [.dead]) (.freezeC 0 2 1 (an (Nat.ble (0 + (Sl.n s1) * 1) (len (Sl.cs s1))) (allL closed1 (takeL ((Sl.n s1) * 1) (dropL 0 (Sl.cs s1))))) (F1 := (Fr.puts (fr 14 [(2, (sc 0 0 1 (Sl.n s1) (d2 (Sl.n s1)))), (3, (zI (0 : Int)))]) [(2, (Sl.v 1 (Sl.mk (Sl.n s1) 0 (takeL ((Sl.n s1) * 1) (dropL 0 (Sl.cs s1))))))])) (H1 := (hp 1 [.dead])) (by kernel_rfl) (by kernel_rfl) h10 (GhS.id _ _)) ?_
    refine .ret ?_
    exact fin_ret (.tuple ⟨[(Sl.v 1 (Sl.mk (Sl.n s1) 0 (takeL ((Sl.n s1) * 1) (dropL 0 (Sl.cs s1))))), (zI (0 : Int))]⟩) (by kernel_rfl) (by kernel_rfl) hm

def m8_ (pu : PureF) (n : Nat) (s0 : Sl) : Option Value :=
  (oo (pu 15 [(Sl.v 1 s0)]) none fun v0 => (oo (toI .i64 v0) none fun x0 => (bb (nt (ieq x0 (0 : Int))) (some (.tuple ⟨[(Sl.v 1 (Sl.mk 0 2 [])), (.int .i64 x0)]⟩)) (oo (pu 32 [(Sl.v 1 s0)]) none fun v1 => (oo (toSl 1 v1) none fun s1 => (some (.tuple ⟨[(Sl.v 1 s1), (.int .i64 (0 : Int))]⟩)))))))
def m8 (pu : PureF) (n : Nat) (args : List Value) : Option Value :=
  (ll args none fun a0 args => (ll args (oo (toSl 1 a0) none fun s0 => (m8_ pu n s0)) fun _ _ => none))
theorem r8 {call : CallF} (pu : PureF) (n : Nat) (hcall : call = callP tabs isP pu (inl pu)) {args : List Value} {v : Value} (hm : m8 pu n args = some v) (_ : ∀ x ∈ args, closed2 x = true) : args.length ≤ 12 ∧ Run tt call 0 c8_11 (Fr.made 12 args) (pureHeap tabs) (Fin tt 0 [.tmp 2, .tmp 3] v) := by
  subst hcall
  unfold m8 at hm
  replace hm := ll_uncons hm; obtain ⟨a0, args_0, rfl, hm⟩ := hm
  replace hm := ll_end hm; obtain ⟨rfl, hm⟩ := hm
  replace hm := inv_toSl hm; obtain ⟨s0, rfl, hm⟩ := hm
  unfold m8_ at hm
  refine ⟨by simp, ?_⟩
  refine .same (F' := (fr 12 [(0, (Sl.v 1 s0))])) (H' := (hp 0 [])) (by kernel_rfl) (by kernel_rfl) ?_
  refine .then ?_
  refine .rK ?_
  refine .ghs (fr 12 [(0, (Sl.v 1 s0))]) (hp 0 []) (.k0 [] [] [0]) ?_
  refine .then ?_
  replace hm := oo_inv hm; obtain ⟨v0, h0, hm⟩ := hm
  replace hm := inv_toI hm; obtain ⟨x0, rfl, hm⟩ := hm
  refine .reg (eC 1 ((oo (pu 15 [(Sl.v 1 s0)]) none fun v => some (v, (hp 0 [])))) (call_eq h0) (eE)) ?_
  refine .ghs (fr 12 [(0, (Sl.v 1 s0)), (4, (zI x0))]) (hp 0 []) (.k0 [] [] [0, 4]) ?_
  refine .then ?_
  refine .then ?_
  refine .rK ?_
  refine .ghs (fr 12 [(0, (Sl.v 1 s0)), (4, (zI x0)), (8, (zB (nt (ieq x0 (0 : Int)))))]) (hp 0 []) (.k0 [] [] [0, 4, 8]) ?_
  replace hm := bb_cases hm; rcases hm with ⟨h1, hm⟩ | ⟨h1, hm⟩
  · refine .ifT (nt (ieq x0 (0 : Int))) (by kernel_rfl) h1 ?_
    refine .then ?_
    refine .rK ?_
    refine .ghs (fr 12 [(2, (.slice none 0 0)), (3, (zI x0))]) (hp 0 []) (.k0 [] [] [2, 3]) ?_
    refine .ghs (Fr.puts (fr 12 [(2, (.slice none 0 0)), (3, (zI x0))]) [(2, (Sl.v 1 (Sl.mk 0 2 [])))]) (hp 0 []) (.freeze 0 2 1 (by kernel_rfl) (by kernel_rfl) (GhS.id _ _)) ?_
    refine .ret ?_
    exact fin_ret (.tuple ⟨[(Sl.v 1 (Sl.mk 0 2 [])), (zI x0)]⟩) (by kernel_rfl) (by kernel_rfl) hm
  · refine .ifF (nt (ieq x0 (0 : Int))) (by kernel_rfl) h1 ?_
    refine .skip ?_
    refine .ghs (fr 12 [(0, (Sl.v 1 s0))]) (hp 0 []) (.k0 [] [] [0]) ?_
    refine .then ?_
    replace hm := oo_inv hm; obtain ⟨v1, h2, hm⟩ := hm
    replace hm := inv_toSl hm; obtain ⟨s1, rfl, hm⟩ := hm
    refine .reg (eC 1 ((oo (pu 32 [(Sl.v 1 s0)]) none fun v => some (v, (hp 0 [])))) (call_eq h2) (eE)) ?_
    refine .ghs (fr 12 [(2, (Sl.v 1 s1)), (3, (zI (0 : Int)))]) (hp 0 []) (.k0 [] [] [2, 3]) ?_
    refine .ret ?_
    exact fin_ret (.tuple ⟨[(Sl.v 1 s1), (zI (0 : Int))]⟩) (by kernel_rfl) (by kernel_rfl) hm
def m9_0 (pu : PureF) (n : Nat) (q0 : List Value) : Option Value :=
  (bb (Nat.ble (0 + 22) (len q0)) (oo (pu 31 [(.agg ⟨(takeL 22 (dropL 0 q0))⟩)]) none fun v0 => (oo (toSl 1 v0) none fun s0 => (bb (allL closed2 [(.agg ⟨(takeL 22 (dropL 0 q0))⟩)]) (bb (allL closed1 (Sl.cs s0)) (bb (an (Nat.ble (0 + (Sl.n s0) * 1) (len (Sl.cs s0))) (allL closed1 (takeL ((Sl.n s0) * 1) (dropL 0 (Sl.cs s0))))) (some (.tuple ⟨[(Sl.v 1 (Sl.mk (Sl.n s0) 0 (takeL ((Sl.n s0) * 1) (dropL 0 (Sl.cs s0))))), (.int .i64 (0 : Int))]⟩)) none) none) none))) none)
def m9_2 (pu : PureF) (n : Nat) (ih0 : Int → List Value → Option Value) (z0 : Int) (q0 : List Value) : Option Value :=
  (bb (Nat.ble (0 + 22) (len q0)) (oo (pu 30 [(.agg ⟨(takeL 22 (dropL 0 q0))⟩)]) none fun v0 => (oo (vAgg v0) none fun q1 => (bb (an (Nat.beq (len q1) 22) (allL closed1 q1)) (bb (allL closed2 [(.agg ⟨(takeL 22 (dropL 0 q0))⟩)]) (bb (Nat.beq (len q1) 22) (bb (an (Nat.ble (0 + len q1) (len q0)) (allL scalarB q1)) (bb (allL closed1 (setL q1 0 q0)) (ih0 (wrapF .i64 (Int.sub z0 (1 : Int))) (setL q1 0 q0)) none) none) none) none) none))) none)
def b9_1 (pu : PureF) (n : Nat) (ih0 : Int → List Value → Option Value) (z0 : Int) (q0 : List Value) : Option Value :=
  (bb (allL closed1 q0) (bb (ilt (0 : Int) z0) (bb (Nat.ble (0 + 22) (len q0)) (oo (pu 34 [(.agg ⟨(takeL 22 (dropL 0 q0))⟩)]) none fun v0 => (oo (vBool v0) none fun b0 => (bb (allL closed2 [(.agg ⟨(takeL 22 (dropL 0 q0))⟩)]) (bb b0 (bb (Nat.ble (0 + 22) (len q0)) (oo (pu 36 [(.agg ⟨(takeL 22 (dropL 0 q0))⟩)]) none fun v1 => (oo (toI .i64 v1) none fun x0 => (bb (allL closed2 [(.agg ⟨(takeL 22 (dropL 0 q0))⟩)]) (oo (pu 35 [(.int .i64 x0)]) none fun v2 => (oo (vTup v2) none fun l0 => (ll l0 none fun v3 l0 => (ll l0 none fun v4 l0 => (ll l0 (oo (toI .i64 v3) none fun x1 => (oo (toI .i64 v4) none fun x2 => (bb (nt (ieq (wrapF .i64 (Int.add x1 (1 : Int))) (0 : Int))) (m9_2 pu n ih0 (wrapF .i64 (Int.add (Int.tmod (wrapF .i64 (Int.sub z0 (1 : Int))) (wrapF .i64 (Int.add x1 (1 : Int)))) (1 : Int))) q0) none))) fun _ _ => none))))) none))) none) (m9_2 pu n ih0 z0 q0)) none))) none) (m9_0 pu n q0)) none)
def l9_1 (pu : PureF) (n : Nat) (w : Nat) : Int → List Value → Option Value :=
  Nat.rec (motive := fun _ => Int → List Value → Option Value) (fun _ _ => none) (fun _ ih0 => b9_1 pu n ih0) w
def m9_ (pu : PureF) (n : Nat) (s0 : Sl) (x0 : Int) : Option Value :=
  (oo (pu 14 [(Sl.v 1 s0)]) none fun v0 => (oo (toI .i64 v0) none fun x1 => (bb (nt (ieq x1 (0 : Int))) (some (.tuple ⟨[(Sl.v 1 (Sl.mk 0 2 [])), (.int .i64 x1)]⟩)) (oo (pu 33 [(.int .i64 (0 : Int)), (.int .i64 x0), (.int .i64 (1000000000 : Int))]) none fun v1 => (oo (vBool v1) none fun b0 => (bb (nt b0) (some (.tuple ⟨[(Sl.v 1 (Sl.mk 0 2 [])), (.int .i64 (1 : Int))]⟩)) (oo (pu 29 [(Sl.v 1 s0)]) none fun v2 => (oo (vAgg v2) none fun q0 => (bb (an (Nat.beq (len q0) 22) (allL closed1 q0)) (bb (Nat.beq (len q0) 22) (bb (an (Nat.ble (0 + len q0) (len zA53)) (allL scalarB q0)) (bb (allL closed1 (setL q0 0 zA53)) (l9_1 pu n n x0 (setL q0 0 zA53)) none) none) none) none)))))))))
def m9 (pu : PureF) (n : Nat) (args : List Value) : Option Value :=
  (ll args none fun a0 args => (ll args none fun a1 args => (ll args (oo (toSl 1 a0) none fun s0 => (oo (toI .i64 a1) none fun x0 => (m9_ pu n s0 x0))) fun _ _ => none)))
theorem w9_0 (pu : PureF) (n : Nat) (q0 : List Value) {v : Value} (hm : m9_0 pu n q0 = some v) : Run tt (callP tabs isP pu (inl pu)) 0 c9_32 (fr 44 [(7, (pt 0 0))]) (hp 1 [(oC q0)]) (Fin tt 0 [.tmp 4, .tmp 5] v) := by
  unfold m9_0 at hm
  refine .then ?_
  replace hm := bb_inv hm; obtain ⟨h0, hm⟩ := hm
  replace hm := oo_inv hm; obtain ⟨v0, h1, hm⟩ := hm
  replace hm := inv_toSl hm; obtain ⟨s0, rfl, hm⟩ := hm
  replace hm := bb_inv hm; obtain ⟨h2, hm⟩ := hm
  refine .reg (eD (keep (hp 1 [(oC q0)]) (bb (Nat.ble (0 + 22) (len q0)) (some (.agg ⟨(takeL 22 (dropL 0 q0))⟩)) none)) (keep_bb h0) (eD (bb (allL closed2 [(.agg ⟨(takeL 22 (dropL 0 q0))⟩)]) (oo (pu 31 [(.agg ⟨(takeL 22 (dropL 0 q0))⟩)]) none fun v => oo (toSl 1 v) none fun s => some (((sc 1 0 1 (Sl.n s) (d2 (Sl.n s))), (hp 2 [(oC q0), (oC (Sl.cs s))])) : Value × AHeap)) none) ((bb_true' h2).trans (live_eq (sz := 1) (k := fun s => (((sc 1 0 1 (Sl.n s) (d2 (Sl.n s))), (hp 2 [(oC q0), (oC (Sl.cs s))])) : Value × AHeap)) h1)) (eE))) ?_
  replace hm := bb_inv hm; obtain ⟨h3, hm⟩ := hm
  refine .ghs (fr 44 [(4, (sc 0 0 1 (Sl.n s0) (d2 (Sl.n s0)))), (5, (zI (0 : Int)))]) (hp 1 [(oC (Sl.cs s0))]) (.k [1] [] [.tmp 4 false] [4, 5] ⟨trE (by kernel_rfl) h3, trivial⟩) ?_
  replace hm := bb_inv hm; obtain ⟨h4, hm⟩ := hm
  refine .ghs (Fr.puts (fr 44 [(4, (sc 0 0 1 (Sl.n s0) (d2 (Sl.n s0)))), (5, (zI (0 : Int)))]) [(4, (Sl.v 1 (Sl.mk (Sl.n s0) 0 (takeL ((Sl.n s0) * 1) (dropL 0 (Sl.cs s0))))))]) (hp 1 [.dead]) (.freezeC 0 4 1 (an (Nat.ble (0 + (Sl.n s0) * 1) (len (Sl.cs s0))) (allL closed1 (takeL ((Sl.n s0) * 1) (dropL 0 (Sl.cs s0))))) (F1 := (Fr.puts (fr 44 [(4, (sc 0 0 1 (Sl.n s0) (d2 (Sl.n s0)))), (5, (zI (0 : Int)))]) [(4, (Sl.v 1 (Sl.mk (Sl.n s0) 0 (takeL ((Sl.n s0) * 1) (dropL 0 (Sl.cs s0))))))])) (H1 := (hp 1 [.dead])) (by kernel_rfl) (by kernel_rfl) h4 (GhS.id _ _)) ?_
  refine .ret ?_
  exact fin_ret (.tuple ⟨[(Sl.v 1 (Sl.mk (Sl.n s0) 0 (takeL ((Sl.n s0) * 1) (dropL 0 (Sl.cs s0))))), (zI (0 : Int))]⟩) (by kernel_rfl) (by kernel_rfl) hm
theorem r9 {call : CallF} (pu : PureF) (n : Nat) (hcall : call = callP tabs isP pu (inl pu)) {args : List Value} {v : Value} (hm : m9 pu n args = some v) (_ : ∀ x ∈ args, closed2 x = true) : args.length ≤ 44 ∧ Run tt call 0 c9_37 (Fr.made 44 args) (pureHeap tabs) (Fin tt 0 [.tmp 4, .tmp 5] v) := by
  subst hcall
  unfold m9 at hm
  replace hm := ll_uncons hm; obtain ⟨a0, args_0, rfl, hm⟩ := hm
  replace hm := ll_uncons hm; obtain ⟨a1, args_1, rfl, hm⟩ := hm
  replace hm := ll_end hm; obtain ⟨rfl, hm⟩ := hm
  replace hm := inv_toSl hm; obtain ⟨s0, rfl, hm⟩ := hm
  replace hm := inv_toI hm; obtain ⟨x0, rfl, hm⟩ := hm
  unfold m9_ at hm
  refine ⟨by simp, ?_⟩
  refine .same (F' := (fr 44 [(0, (Sl.v 1 s0)), (1, (zI x0))])) (H' := (hp 0 [])) (by kernel_rfl) (by kernel_rfl) ?_
  refine .then ?_
  refine .rK ?_
  refine .ghs (fr 44 [(0, (Sl.v 1 s0)), (1, (zI x0))]) (hp 0 []) (.k0 [] [] [0, 1]) ?_
  refine .then ?_
  replace hm := oo_inv hm; obtain ⟨v0, h0, hm⟩ := hm
  replace hm := inv_toI hm; obtain ⟨x1, rfl, hm⟩ := hm
  refine .reg (eC 1 ((oo (pu 14 [(Sl.v 1 s0)]) none fun v => some (v, (hp 0 [])))) (call_eq h0) (eE)) ?_
  refine .ghs (fr 44 [(0, (Sl.v 1 s0)), (1, (zI x0)), (6, (zI x1))]) (hp 0 []) (.k0 [] [] [0, 1, 6]) ?_
  refine .then ?_
  refine .block ?_
  refine .then ?_
  refine .rK ?_
  refine .ghs (fr 44 [(0, (Sl.v 1 s0)), (1, (zI x0)), (6, (zI x1)), (12, (zB (nt (ieq x1 (0 : Int)))))]) (hp 0 []) (.k0 [] [] [0, 1, 6, 12]) ?_
  replace hm := bb_cases hm; rcases hm with ⟨h1, hm⟩ | ⟨h1, hm⟩
  · refine .ifT (nt (ieq x1 (0 : Int))) (by kernel_rfl) h1 ?_
    refine .then ?_
    refine .rK ?_
    refine .ghs (fr 44 [(4, (.slice none 0 0)), (5, (zI x1))]) (hp 0 []) (.k0 [] [] [4, 5]) ?_
    refine .ghs (Fr.puts (fr 44 [(4, (.slice none 0 0)), (5, (zI x1))]) [(4, (Sl.v 1 (Sl.mk 0 2 [])))]) (hp 0 []) (.freeze 0 4 1 (by kernel_rfl) (by kernel_rfl) (GhS.id _ _)) ?_
    refine .ret ?_
    exact fin_ret (.tuple ⟨[(Sl.v 1 (Sl.mk 0 2 [])), (zI x1)]⟩) (by kernel_rfl) (by kernel_rfl) hm
  · refine .ifF (nt (ieq x1 (0 : Int))) (by kernel_rfl) h1 ?_
    refine .then ?_
    replace hm := oo_inv hm; obtain ⟨v1, h2, hm⟩ := hm
    replace hm := inv_vBool hm; obtain ⟨b0, rfl, hm⟩ := hm
    refine .reg (eC 1 ((oo (pu 33 [(zI (0 : Int)), (zI x0), (zI (1000000000 : Int))]) none fun v => some (v, (hp 0 [])))) (call_eq h2) (eE)) ?_
    refine .ghs (fr 44 [(0, (Sl.v 1 s0)), (1, (zI x0)), (16, (zB (nt b0)))]) (hp 0 []) (.k0 [] [] [0, 1, 16]) ?_
    replace hm := bb_cases hm; rcases hm with ⟨h3, hm⟩ | ⟨h3, hm⟩
    · refine .ifT (nt b0) (by kernel_rfl) h3 ?_
      refine .then ?_
      refine .rK ?_
      refine .ghs (fr 44 [(4, (.slice none 0 0)), (5, (zI (1 : Int)))]) (hp 0 []) (.k0 [] [] [4, 5]) ?_
      refine .ghs (Fr.puts (fr 44 [(4, (.slice none 0 0)), (5, (zI (1 : Int)))]) [(4, (Sl.v 1 (Sl.mk 0 2 [])))]) (hp 0 []) (.freeze 0 4 1 (by kernel_rfl) (by kernel_rfl) (GhS.id _ _)) ?_
      refine .ret ?_
      exact fin_ret (.tuple ⟨[(Sl.v 1 (Sl.mk 0 2 [])), (zI (1 : Int))]⟩) (by kernel_rfl) (by kernel_rfl) hm
    · refine .ifF (nt b0) (by kernel_rfl) h3 ?_
      refine .skip ?_
      refine .ghs (fr 44 [(0, (Sl.v 1 s0)), (1, (zI x0))]) (hp 0 []) (.k0 [] [] [0, 1]) ?_
      refine .then ?_
      replace hm := oo_inv hm; obtain ⟨v2, h4, hm⟩ := hm
      replace hm := inv_vAgg hm; obtain ⟨q0, rfl, hm⟩ := hm
      replace hm := bb_inv hm; obtain ⟨h5, hm⟩ := hm
      replace hm := bb_inv hm; obtain ⟨h6, hm⟩ := hm
      replace hm := bb_inv hm; obtain ⟨h7, hm⟩ := hm
      refine .reg (eC 1 ((oo (pu 29 [(Sl.v 1 s0)]) none fun v => some (v, (hp 0 [])))) (call_eq h4) (eC 1 (done (bb (Nat.beq (len q0) 22) (bb (an (Nat.ble (0 + len q0) (len zA53)) (allL scalarB q0)) (some (hp 1 [(oC (setL q0 0 zA53))])) none) none) undef) (done_bb2 h6 h7) (eE))) ?_
      replace hm := bb_inv hm; obtain ⟨h8, hm⟩ := hm
      refine .ghs (fr 44 [(1, (zI x0)), (7, (pt 0 0))]) (hp 1 [(oC (setL q0 0 zA53))]) (.k [0] [] [.tmp 7 false] [1, 7] ⟨trE (by kernel_rfl) h8, trivial⟩) ?_
      refine .join (v := v) (fun y : List Value => ((fr 44 [(7, (pt 0 0))]), (hp 1 [(oC y)]))) (fun y => m9_0 pu n y) ?_ ?_
      · rintro q1 hm
        exact w9_0 pu n q1 hm
      · refine .block ?_
        refine .loopM (v := v) (fun y : Int × List Value => ((fr 44 [(1, (zI y.1)), (7, (pt 0 0))]), (hp 1 [(oC y.2)]))) (fun w y => l9_1 pu n w y.1 y.2) n ⟨(x0, (setL q0 0 zA53)), hm, (.k [0] [] [.tmp 7 false] [1, 7] ⟨trE (by kernel_rfl) h8, trivial⟩)⟩ (fun _ => rfl) ?_
        rintro w0 ⟨z0, q2⟩ hm
        replace hm : b9_1 pu n (l9_1 pu n w0) z0 q2 = some v := hm
        unfold b9_1 at hm
        refine .then ?_
        refine .then ?_
        refine .rK ?_
        replace hm := bb_inv hm; obtain ⟨h9, hm⟩ := hm
        refine .ghs (fr 44 [(1, (zI z0)), (7, (pt 0 0)), (23, (zB (ilt (0 : Int) z0)))]) (hp 1 [(oC q2)]) (.k [0] [] [.tmp 7 false] [1, 7, 23] ⟨trE (by kernel_rfl) h9, trivial⟩) ?_
        replace hm := bb_cases hm; rcases hm with ⟨h10, hm⟩ | ⟨h10, hm⟩
        · refine .ifT (ilt (0 : Int) z0) (by kernel_rfl) h10 ?_
          refine .skip ?_
          refine .ghs (fr 44 [(1, (zI z0)), (7, (pt 0 0))]) (hp 1 [(oC q2)]) (.k [0] [] [.tmp 7 false] [1, 7] ⟨trE (by kernel_rfl) h9, trivial⟩) ?_
          refine .then ?_
          refine .block ?_
          refine .join (v := v) (fun y : Int × List Value => ((fr 44 [(1, (zI y.1)), (7, (pt 0 0))]), (hp 1 [(oC y.2)]))) (fun y => m9_2 pu n (l9_1 pu n w0) y.1 y.2) ?_ ?_
          · rintro ⟨z1, q3⟩ hm
            unfold m9_2 at hm
            replace hm := bb_inv hm; obtain ⟨h11, hm⟩ := hm
            replace hm := oo_inv hm; obtain ⟨v3, h12, hm⟩ := hm
            replace hm := inv_vAgg hm; obtain ⟨q4, rfl, hm⟩ := hm
            replace hm := bb_inv hm; obtain ⟨h13, hm⟩ := hm
            replace hm := bb_inv hm; obtain ⟨h14, hm⟩ := hm
            replace hm := bb_inv hm; obtain ⟨h15, hm⟩ := hm
            replace hm := bb_inv hm; obtain ⟨h16, hm⟩ := hm
            refine .reg (eD (keep (hp 1 [(oC q3)]) (bb (Nat.ble (0 + 22) (len q3)) (some (.agg ⟨(takeL 22 (dropL 0 q3))⟩)) none)) (keep_bb h11) (eD (bb (allL closed2 [(.agg ⟨(takeL 22 (dropL 0 q3))⟩)]) (oo (pu 30 [(.agg ⟨(takeL 22 (dropL 0 q3))⟩)]) none fun v => some (v, (hp 1 [(oC q3)]))) (oo (mapO (purify (hp 1 [(oC q3)])) [(.agg ⟨(takeL 22 (dropL 0 q3))⟩)]) none fun l1 => oo (pu 30 l1) none fun v => bb (plainT v) (some (v, (hp 1 [(oC q3)]))) none)) (callc_eq h14 h12) (eD (done (bb (Nat.beq (len q4) 22) (bb (an (Nat.ble (0 + len q4) (len q3)) (allL scalarB q4)) (some (hp 1 [(oC (setL q4 0 q3))])) none) none) undef) (done_bb2 h15 h16) (eE)))) ?_
            replace hm := bb_inv hm; obtain ⟨h17, hm⟩ := hm
            refine .ghs (fr 44 [(1, (zI z1)), (7, (pt 0 0))]) (hp 1 [(oC (setL q4 0 q3))]) (.k [0] [] [.tmp 7 false] [1, 7] ⟨trE (by kernel_rfl) h17, trivial⟩) ?_
            refine .rK ?_
            exact ⟨((wrapF .i64 (Int.sub z1 (1 : Int))), (setL q4 0 q3)), hm, (.k [0] [] [.tmp 7 false] [1, 7] ⟨trE (by kernel_rfl) h17, trivial⟩)⟩
          · refine .then ?_
            replace hm := bb_inv hm; obtain ⟨h18, hm⟩ := hm
            replace hm := oo_inv hm; obtain ⟨v4, h19, hm⟩ := hm
            replace hm := inv_vBool hm; obtain ⟨b1, rfl, hm⟩ := hm
            replace hm := bb_inv hm; obtain ⟨h20, hm⟩ := hm
            refine .reg (eD (keep (hp 1 [(oC q2)]) (bb (Nat.ble (0 + 22) (len q2)) (some (.agg ⟨(takeL 22 (dropL 0 q2))⟩)) none)) (keep_bb h18) (eD (bb (allL closed2 [(.agg ⟨(takeL 22 (dropL 0 q2))⟩)]) (oo (pu 34 [(.agg ⟨(takeL 22 (dropL 0 q2))⟩)]) none fun v => some (v, (hp 1 [(oC q2)]))) (oo (mapO (purify (hp 1 [(oC q2)])) [(.agg ⟨(takeL 22 (dropL 0 q2))⟩)]) none fun l1 => oo (pu 34 l1) none fun v => bb (plainT v) (some (v, (hp 1 [(oC q2)]))) none)) (callc_eq h20 h19) (eE))) ?_
            refine .ghs (fr 44 [(1, (zI z0)), (7, (pt 0 0)), (27, (zB b1))]) (hp 1 [(oC q2)]) (.k [0] [] [.tmp 7 false] [1, 7, 27] ⟨trE (by kernel_rfl) h9, trivial⟩) ?_
            replace hm := bb_cases hm; rcases hm with ⟨h21, hm⟩ | ⟨h21, hm⟩
            · refine .ifT b1 (by kernel_rfl) h21 ?_
              refine .then ?_
              replace hm := bb_inv hm; obtain ⟨h22, hm⟩ := hm
              replace hm := oo_inv hm; obtain ⟨v5, h23, hm⟩ := hm
              replace hm := inv_toI hm; obtain ⟨x2, rfl, hm⟩ := hm
              replace hm := bb_inv hm; obtain ⟨h24, hm⟩ := hm
              replace hm := oo_inv hm; obtain ⟨v6, h25, hm⟩ := hm
              replace hm := inv_vTup hm; obtain ⟨l0, rfl, hm⟩ := hm
              replace hm := ll_uncons hm; obtain ⟨v7, l613_0, rfl, hm⟩ := hm
              replace hm := ll_uncons hm; obtain ⟨v8, l613_1, rfl, hm⟩ := hm
              replace hm := ll_end hm; obtain ⟨rfl, hm⟩ := hm
              replace hm := inv_toI hm; obtain ⟨x3, rfl, hm⟩ := hm
              replace hm := inv_toI hm; obtain ⟨x4, rfl, hm⟩ := hm
              refine .reg (eD (keep (hp 1 [(oC q2)]) (bb (Nat.ble (0 + 22) (len q2)) (some (.agg ⟨(takeL 22 (dropL 0 q2))⟩)) none)) (keep_bb h22) (eD (bb (allL closed2 [(.agg ⟨(takeL 22 (dropL 0 q2))⟩)]) (oo (pu 36 [(.agg ⟨(takeL 22 (dropL 0 q2))⟩)]) none fun v => some (v, (hp 1 [(oC q2)]))) (oo (mapO (purify (hp 1 [(oC q2)])) [(.agg ⟨(takeL 22 (dropL 0 q2))⟩)]) none fun l1 => oo (pu 36 l1) none fun v => bb (plainT v) (some (v, (hp 1 [(oC q2)]))) none)) (callc_eq h24 h23) (eD ((oo (pu 35 [(zI x2)]) none fun v => some (v, (hp 1 [(oC q2)])))) (call_eq h25) (eE)))) ?_
              refine .ghs (fr 44 [(1, (zI z0)), (7, (pt 0 0)), (8, (zI x3))]) (hp 1 [(oC q2)]) (.k [0] [] [.tmp 7 false] [1, 7, 8] ⟨trE (by kernel_rfl) h9, trivial⟩) ?_
              replace hm := bb_inv hm; obtain ⟨h26, hm⟩ := hm
              refine .reg (eC 4 (keep (hp 1 [(oC q2)]) (bb (ieq (wrapF .i64 (Int.add x3 (1 : Int))) (0 : Int)) none (some (zI (Int.tmod (wrapF .i64 (Int.sub z0 (1 : Int))) (wrapF .i64 (Int.add x3 (1 : Int)))))))) (keep_nb h26) (eE)) ?_
              exact ⟨((wrapF .i64 (Int.add (Int.tmod (wrapF .i64 (Int.sub z0 (1 : Int))) (wrapF .i64 (Int.add x3 (1 : Int)))) (1 : Int))), q2), hm, (.k [0] [] [.tmp 7 false] [1, 7] ⟨trE (by kernel_rfl) h9, trivial⟩)⟩
            · refine .ifF b1 (by kernel_rfl) h21 ?_
              refine .skip ?_
              exact ⟨(z0, q2), hm, (.k [0] [] [.tmp 7 false] [1, 7] ⟨trE (by kernel_rfl) h9, trivial⟩)⟩
        · refine .ifF (ilt (0 : Int) z0) (by kernel_rfl) h10 ?_
          refine .exit ?_
          exact ⟨q2, hm, (.k [0] [] [.tmp 7 false] [7] ⟨trE (by kernel_rfl) h9, trivial⟩)⟩
def m10_3 (pu : PureF) (n : Nat) (s0 : Sl) : Option Value :=
  (some (.tuple ⟨[(Sl.v 1 s0), (.int .i64 (0 : Int))]⟩))
def b10_4 (pu : PureF) (n : Nat) (ih0 : Int → Sl → Int → Option Value) (z0 : Int) (s0 : Sl) (z1 : Int) : Option Value :=
  (bb (ilt z1 z0) (oo (pu 32 [(Sl.v 1 s0)]) none fun v0 => (oo (toSl 1 v0) none fun s1 => (ih0 z0 s1 (wrapF .i64 (Int.add z1 (1 : Int)))))) (m10_3 pu n s0))
def l10_4 (pu : PureF) (n : Nat) (w : Nat) : Int → Sl → Int → Option Value :=
  Nat.rec (motive := fun _ => Int → Sl → Int → Option Value) (fun _ _ _ => none) (fun _ ih0 => b10_4 pu n ih0) w
def m10_2 (pu : PureF) (n : Nat) (z0 : Int) (s0 : Sl) : Option Value :=
  (l10_4 pu n n z0 s0 (0 : Int))
def m10_1 (pu : PureF) (n : Nat) (z0 : Int) (s0 : Sl) : Option Value :=
  (bb (ilt (0 : Int) z0) (oo (pu 39 [(Sl.v 1 s0)]) none fun v0 => (oo (toSl 1 v0) none fun s1 => (bb (nt (ieq (Int.ofNat (Sl.n s1)) (0 : Int))) (m10_2 pu n (Int.tmod z0 (Int.ofNat (Sl.n s1))) s0) none))) (m10_2 pu n z0 s0))
def m10_6 (pu : PureF) (n : Nat) (ih0 : Int → Sl → Option Value) (z0 : Int) (s0 : Sl) (b0 : Bool) : Option Value :=
  (bb b0 (oo (pu 32 [(Sl.v 1 s0)]) none fun v0 => (oo (toSl 1 v0) none fun s1 => (ih0 (wrapF .i64 (Int.sub z0 (1 : Int))) s1))) (m10_1 pu n z0 s0))
def b10_5 (pu : PureF) (n : Nat) (ih0 : Int → Sl → Option Value) (z0 : Int) (s0 : Sl) : Option Value :=
  (bb (ilt (0 : Int) z0) (oo (pu 38 [(Sl.v 1 s0)]) none fun v0 => (oo (vBool v0) none fun b0 => (m10_6 pu n ih0 z0 s0 (nt b0)))) (m10_6 pu n ih0 z0 s0 false))
def l10_5 (pu : PureF) (n : Nat) (w : Nat) : Int → Sl → Option Value :=
  Nat.rec (motive := fun _ => Int → Sl → Option Value) (fun _ _ => none) (fun _ ih0 => b10_5 pu n ih0) w
def m10_9 (pu : PureF) (n : Nat) (s0 : Sl) : Option Value :=
  (some (.tuple ⟨[(Sl.v 1 s0), (.int .i64 (0 : Int))]⟩))
def b10_10 (pu : PureF) (n : Nat) (ih0 : Int → Sl → Int → Option Value) (z0 : Int) (s0 : Sl) (z1 : Int) : Option Value :=
  (bb (ilt z1 z0) (oo (pu 32 [(Sl.v 1 s0)]) none fun v0 => (oo (toSl 1 v0) none fun s1 => (ih0 z0 s1 (wrapF .i64 (Int.add z1 (1 : Int)))))) (m10_9 pu n s0))
def l10_10 (pu : PureF) (n : Nat) (w : Nat) : Int → Sl → Int → Option Value :=
  Nat.rec (motive := fun _ => Int → Sl → Int → Option Value) (fun _ _ _ => none) (fun _ ih0 => b10_10 pu n ih0) w
def m10_8 (pu : PureF) (n : Nat) (z0 : Int) (s0 : Sl) : Option Value :=
  (l10_10 pu n n z0 s0 (0 : Int))
def m10_7 (pu : PureF) (n : Nat) (z0 : Int) (s0 : Sl) : Option Value :=
  (bb (ilt (0 : Int) z0) (oo (pu 39 [(Sl.v 1 s0)]) none fun v0 => (oo (toSl 1 v0) none fun s1 => (bb (nt (ieq (Int.ofNat (Sl.n s1)) (0 : Int))) (m10_8 pu n (Int.tmod z0 (Int.ofNat (Sl.n s1))) s0) none))) (m10_8 pu n z0 s0))
def m10_12 (pu : PureF) (n : Nat) (ih0 : Int → Sl → Option Value) (z0 : Int) (s0 : Sl) (b0 : Bool) : Option Value :=
  (bb b0 (oo (pu 32 [(Sl.v 1 s0)]) none fun v0 => (oo (toSl 1 v0) none fun s1 => (ih0 (wrapF .i64 (Int.sub z0 (1 : Int))) s1))) (m10_7 pu n z0 s0))
def b10_11 (pu : PureF) (n : Nat) (ih0 : Int → Sl → Option Value) (z0 : Int) (s0 : Sl) : Option Value :=
  (bb (ilt (0 : Int) z0) (oo (pu 38 [(Sl.v 1 s0)]) none fun v0 => (oo (vBool v0) none fun b0 => (m10_12 pu n ih0 z0 s0 (nt b0)))) (m10_12 pu n ih0 z0 s0 false))
def l10_11 (pu : PureF) (n : Nat) (w : Nat) : Int → Sl → Option Value :=
  Nat.rec (motive := fun _ => Int → Sl → Option Value) (fun _ _ => none) (fun _ ih0 => b10_11 pu n ih0) w
def m10_0 (pu : PureF) (n : Nat) (s0 : Sl) (z0 : Int) (z1 : Int) : Option Value :=
  (bb (nt (ieq z1 (0 : Int))) (some (.tuple ⟨[(Sl.v 1 (Sl.mk 0 2 [])), (.int .i64 z1)]⟩)) (bb (Nat.beq (Sl.n s0) 0) (l10_5 pu n n z0 (Sl.mk 0 0 (takeL (0 * 1) (dropL 0 ([] : List Value))))) (bb (roomy (0 + (Sl.n s0)) 8) (bb (allL closed1 (takeL ((Sl.n s0) * 1) (Sl.cs s0))) (bb (an (Nat.ble (0 + (0 + (Sl.n s0)) * 1) (len (takeL ((Sl.n s0) * 1) (Sl.cs s0)))) (allL closed1 (takeL ((0 + (Sl.n s0)) * 1) (dropL 0 (takeL ((Sl.n s0) * 1) (Sl.cs s0)))))) (l10_11 pu n n z0 (Sl.mk (0 + (Sl.n s0)) 0 (takeL ((0 + (Sl.n s0)) * 1) (dropL 0 (takeL ((Sl.n s0) * 1) (Sl.cs s0)))))) none) none) none)))
def m10_13 (pu : PureF) (n : Nat) (s0 : Sl) (z0 : Int) (z1 : Int) (b0 : Bool) : Option Value :=
  (bb b0 (m10_0 pu n s0 z0 (1 : Int)) (m10_0 pu n s0 z0 z1))
def m10_ (pu : PureF) (n : Nat) (s0 : Sl) (x0 : Int) : Option Value :=
  (oo (pu 15 [(Sl.v 1 s0)]) none fun v0 => (oo (toI .i64 v0) none fun x1 => (bb (ieq x1 (0 : Int)) (oo (pu 37 [(.int .i64 x0), (.int .i64 (0 : Int)), (.int .i64 (1000000000 : Int))]) none fun v1 => (oo (vBool v1) none fun b0 => (m10_13 pu n s0 x0 x1 (nt b0)))) (m10_13 pu n s0 x0 x1 false))))
def m10 (pu : PureF) (n : Nat) (args : List Value) : Option Value :=
  (ll args none fun a0 args => (ll args none fun a1 args => (ll args (oo (toSl 1 a0) none fun s0 => (oo (toI .i64 a1) none fun x0 => (m10_ pu n s0 x0))) fun _ _ => none)))
theorem w10_3 (pu : PureF) (n : Nat) (s0 : Sl) {v : Value} (hm : m10_3 pu n s0 = some v) : Run tt (callP tabs isP pu (inl pu)) 0 c10_39 (fr 50 [(7, (Sl.v 1 s0))]) (hp 0 []) (Fin tt 0 [.tmp 4, .tmp 5] v) := by
  unfold m10_3 at hm
  refine .then ?_
  refine .rK ?_
  refine .ghs (fr 50 [(4, (Sl.v 1 s0)), (5, (zI (0 : Int)))]) (hp 0 []) (.k0 [] [] [4, 5]) ?_
  refine .ret ?_
  exact fin_ret (.tuple ⟨[(Sl.v 1 s0), (zI (0 : Int))]⟩) (by kernel_rfl) (by kernel_rfl) hm
theorem w10_2 (pu : PureF) (n : Nat) (z0 : Int) (s0 : Sl) {v : Value} (hm : m10_2 pu n z0 s0 = some v) : Run tt (callP tabs isP pu (inl pu)) 0 c10_40 (fr 50 [(1, (zI z0)), (7, (Sl.v 1 s0))]) (hp 0 []) (Fin tt 0 [.tmp 4, .tmp 5] v) := by
  unfold m10_2 at hm
  refine .join (v := v) (fun y : Sl => ((fr 50 [(7, (Sl.v 1 y))]), (hp 0 []))) (fun y => m10_3 pu n y) ?_ ?_
  · rintro s1 hm
    exact w10_3 pu n s1 hm
  · refine .then ?_
    refine .rK ?_
    refine .ghs (fr 50 [(1, (zI z0)), (7, (Sl.v 1 s0)), (8, (zI (0 : Int)))]) (hp 0 []) (.k0 [] [] [1, 7, 8]) ?_
    refine .block ?_
    refine .loopM (v := v) (fun y : Int × Sl × Int => ((fr 50 [(1, (zI y.1)), (7, (Sl.v 1 y.2.1)), (8, (zI y.2.2))]), (hp 0 []))) (fun w y => l10_4 pu n w y.1 y.2.1 y.2.2) n ⟨(z0, s0, (0 : Int)), hm, (.k0 [] [] [1, 7, 8])⟩ (fun _ => rfl) ?_
    rintro w0 ⟨z1, s2, z2⟩ hm
    replace hm : b10_4 pu n (l10_4 pu n w0) z1 s2 z2 = some v := hm
    unfold b10_4 at hm
    refine .then ?_
    refine .then ?_
    refine .rK ?_
    refine .ghs (fr 50 [(1, (zI z1)), (7, (Sl.v 1 s2)), (8, (zI z2)), (44, (zB (ilt z2 z1)))]) (hp 0 []) (.k0 [] [] [1, 7, 8, 44]) ?_
    replace hm := bb_cases hm; rcases hm with ⟨h0, hm⟩ | ⟨h0, hm⟩
    · refine .ifT (ilt z2 z1) (by kernel_rfl) h0 ?_
      refine .skip ?_
      refine .ghs (fr 50 [(1, (zI z1)), (7, (Sl.v 1 s2)), (8, (zI z2))]) (hp 0 []) (.k0 [] [] [1, 7, 8]) ?_
      refine .then ?_
      refine .block ?_
      replace hm := oo_inv hm; obtain ⟨v0, h1, hm⟩ := hm
      replace hm := inv_toSl hm; obtain ⟨s3, rfl, hm⟩ := hm
      refine .reg (eC 1 ((oo (pu 32 [(Sl.v 1 s2)]) none fun v => some (v, (hp 0 [])))) (call_eq h1) (eE)) ?_
      refine .ghs (fr 50 [(1, (zI z1)), (7, (Sl.v 1 s3)), (8, (zI z2))]) (hp 0 []) (.k0 [] [] [1, 7, 8]) ?_
      refine .rK ?_
      exact ⟨(z1, s3, (wrapF .i64 (Int.add z2 (1 : Int)))), hm, (.k0 [] [] [1, 7, 8])⟩
    · refine .ifF (ilt z2 z1) (by kernel_rfl) h0 ?_
      refine .exit ?_
      exact ⟨s2, hm, (.k0 [] [] [7])⟩
theorem w10_1 (pu : PureF) (n : Nat) (z0 : Int) (s0 : Sl) {v : Value} (hm : m10_1 pu n z0 s0 = some v) : Run tt (callP tabs isP pu (inl pu)) 0 c10_41 (fr 50 [(1, (zI z0)), (7, (Sl.v 1 s0))]) (hp 0 []) (Fin tt 0 [.tmp 4, .tmp 5] v) := by
  unfold m10_1 at hm
  refine .join (v := v) (fun y : Int × Sl => ((fr 50 [(1, (zI y.1)), (7, (Sl.v 1 y.2))]), (hp 0 []))) (fun y => m10_2 pu n y.1 y.2) ?_ ?_
  · rintro ⟨z1, s1⟩ hm
    exact w10_2 pu n z1 s1 hm
  · refine .then ?_
    refine .rK ?_
    refine .ghs (fr 50 [(1, (zI z0)), (7, (Sl.v 1 s0)), (36, (zB (ilt (0 : Int) z0)))]) (hp 0 []) (.k0 [] [] [1, 7, 36]) ?_
    replace hm := bb_cases hm; rcases hm with ⟨h0, hm⟩ | ⟨h0, hm⟩
    · refine .ifT (ilt (0 : Int) z0) (by kernel_rfl) h0 ?_
      replace hm := oo_inv hm; obtain ⟨v0, h1, hm⟩ := hm
      replace hm := inv_toSl hm; obtain ⟨s2, rfl, hm⟩ := hm
      replace hm := bb_inv hm; obtain ⟨h2, hm⟩ := hm
      refine .reg (eC 2 ((oo (pu 39 [(Sl.v 1 s0)]) none fun v => some (v, (hp 0 [])))) (call_eq h1) (eC 1 (keep (hp 0 []) (bb (ieq (Int.ofNat (Sl.n s2)) (0 : Int)) none (some (zI (Int.tmod z0 (Int.ofNat (Sl.n s2))))))) (keep_nb h2) (eE))) ?_
      exact ⟨((Int.tmod z0 (Int.ofNat (Sl.n s2))), s0), hm, (.k0 [] [] [1, 7])⟩
    · refine .ifF (ilt (0 : Int) z0) (by kernel_rfl) h0 ?_
      refine .skip ?_
      exact ⟨(z0, s0), hm, (.k0 [] [] [1, 7])⟩
theorem w10_9 (pu : PureF) (n : Nat) (s0 : Sl) {v : Value} (hm : m10_9 pu n s0 = some v) : Run tt (callP tabs isP pu (inl pu)) 0 c10_39 (fr 50 [(7, (Sl.v 1 s0))]) (hp 0 []) (Fin tt 0 [.tmp 4, .tmp 5] v) := by
  unfold m10_9 at hm
  refine .then ?_
  refine .rK ?_
  refine .ghs (fr 50 [(4, (Sl.v 1 s0)), (5, (zI (0 : Int)))]) (hp 0 []) (.k0 [] [] [4, 5]) ?_
  refine .ret ?_
  exact fin_ret (.tuple ⟨[(Sl.v 1 s0), (zI (0 : Int))]⟩) (by kernel_rfl) (by kernel_rfl) hm
theorem w10_8 (pu : PureF) (n : Nat) (z0 : Int) (s0 : Sl) {v : Value} (hm : m10_8 pu n z0 s0 = some v) : Run tt (callP tabs isP pu (inl pu)) 0 c10_40 (fr 50 [(1, (zI z0)), (7, (Sl.v 1 s0))]) (hp 0 []) (Fin tt 0 [.tmp 4, .tmp 5] v) := by
  unfold m10_8 at hm
  refine .join (v := v) (fun y : Sl => ((fr 50 [(7, (Sl.v 1 y))]), (hp 0 []))) (fun y => m10_9 pu n y) ?_ ?_
  · rintro s1 hm
    exact w10_9 pu n s1 hm
  · refine .then ?_
    refine .rK ?_
    refine .ghs (fr 50 [(1, (zI z0)), (7, (Sl.v 1 s0)), (8, (zI (0 : Int)))]) (hp 0 []) (.k0 [] [] [1, 7, 8]) ?_
    refine .block ?_
    refine .loopM (v := v) (fun y : Int × Sl × Int => ((fr 50 [(1, (zI y.1)), (7, (Sl.v 1 y.2.1)), (8, (zI y.2.2))]), (hp 0 []))) (fun w y => l10_10 pu n w y.1 y.2.1 y.2.2) n ⟨(z0, s0, (0 : Int)), hm, (.k0 [] [] [1, 7, 8])⟩ (fun _ => rfl) ?_
    rintro w0 ⟨z1, s2, z2⟩ hm
    replace hm : b10_10 pu n (l10_10 pu n w0) z1 s2 z2 = some v := hm
    unfold b10_10 at hm
    refine .then ?_
    refine .then ?_
    refine .rK ?_
    refine .ghs (fr 50 [(1, (zI z1)), (7, (Sl.v 1 s2)), (8, (zI z2)), (44, (zB (ilt z2 z1)))]) (hp 0 []) (.k0 [] [] [1, 7, 8, 44]) ?_
    replace hm := bb_cases hm; rcases hm with ⟨h0, hm⟩ | ⟨h0, hm⟩
    · refine .ifT (ilt z2 z1) (by kernel_rfl) h0 ?_
      refine .skip ?_
      refine .ghs (fr 50 [(1, (zI z1)), (7, (Sl.v 1 s2)), (8, (zI z2))]) (hp 0 []) (.k0 [] [] [1, 7, 8]) ?_
      refine .then ?_
      refine .block ?_
      replace hm := oo_inv hm; obtain ⟨v0, h1, hm⟩ := hm
      replace hm := inv_toSl hm; obtain ⟨s3, rfl, hm⟩ := hm
      refine .reg (eC 1 ((oo (pu 32 [(Sl.v 1 s2)]) none fun v => some (v, (hp 0 [])))) (call_eq h1) (eE)) ?_
      refine .ghs (fr 50 [(1, (zI z1)), (7, (Sl.v 1 s3)), (8, (zI z2))]) (hp 0 []) (.k0 [] [] [1, 7, 8]) ?_
      refine .rK ?_
      exact ⟨(z1, s3, (wrapF .i64 (Int.add z2 (1 : Int)))), hm, (.k0 [] [] [1, 7, 8])⟩
    · refine .ifF (ilt z2 z1) (by kernel_rfl) h0 ?_
      refine .exit ?_
      exact ⟨s2, hm, (.k0 [] [] [7])⟩
theorem w10_7 (pu : PureF) (n : Nat) (z0 : Int) (s0 : Sl) {v : Value} (hm : m10_7 pu n z0 s0 = some v) : Run tt (callP tabs isP pu (inl pu)) 0 c10_41 (fr 50 [(1, (zI z0)), (7, (Sl.v 1 s0))]) (hp 0 []) (Fin tt 0 [.tmp 4, .tmp 5] v) := by
  unfold m10_7 at hm
  refine .join (v := v) (fun y : Int × Sl => ((fr 50 [(1, (zI y.1)), (7, (Sl.v 1 y.2))]), (hp 0 []))) (fun y => m10_8 pu n y.1 y.2) ?_ ?_
  · rintro ⟨z1, s1⟩ hm
    exact w10_8 pu n z1 s1 hm
  · refine .then ?_
    refine .rK ?_
    refine .ghs (fr 50 [(1, (zI z0)), (7, (Sl.v 1 s0)), (36, (zB (ilt (0 : Int) z0)))]) (hp 0 []) (.k0 [] [] [1, 7, 36]) ?_
    replace hm := bb_cases hm; rcases hm with ⟨h0, hm⟩ | ⟨h0, hm⟩
    · refine .ifT (ilt (0 : Int) z0) (by kernel_rfl) h0 ?_
      replace hm := oo_inv hm; obtain ⟨v0, h1, hm⟩ := hm
      replace hm := inv_toSl hm; obtain ⟨s2, rfl, hm⟩ := hm
      replace hm := bb_inv hm; obtain ⟨h2, hm⟩ := hm
      refine .reg (eC 2 ((oo (pu 39 [(Sl.v 1 s0)]) none fun v => some (v, (hp 0 [])))) (call_eq h1) (eC 1 (keep (hp 0 []) (bb (ieq (Int.ofNat (Sl.n s2)) (0 : Int)) none (some (zI (Int.tmod z0 (Int.ofNat (Sl.n s2))))))) (keep_nb h2) (eE))) ?_
      exact ⟨((Int.tmod z0 (Int.ofNat (Sl.n s2))), s0), hm, (.k0 [] [] [1, 7])⟩
    · refine .ifF (ilt (0 : Int) z0) (by kernel_rfl) h0 ?_
      refine .skip ?_
      exact ⟨(z0, s0), hm, (.k0 [] [] [1, 7])⟩
theorem w10_0 (pu : PureF) (n : Nat) (s0 : Sl) (z0 : Int) (z1 : Int) {v : Value} (hm : m10_0 pu n s0 z0 z1 = some v) : Run tt (callP tabs isP pu (inl pu)) 0 c10_44 (fr 50 [(0, (Sl.v 1 s0)), (1, (zI z0)), (6, (zI z1))]) (hp 0 []) (Fin tt 0 [.tmp 4, .tmp 5] v) := by
  unfold m10_0 at hm
  refine .then ?_
  refine .then ?_
  refine .rK ?_
  refine .ghs (fr 50 [(0, (Sl.v 1 s0)), (1, (zI z0)), (6, (zI z1)), (19, (zB (nt (ieq z1 (0 : Int)))))]) (hp 0 []) (.k0 [] [] [0, 1, 6, 19]) ?_
  replace hm := bb_cases hm; rcases hm with ⟨h0, hm⟩ | ⟨h0, hm⟩
  · refine .ifT (nt (ieq z1 (0 : Int))) (by kernel_rfl) h0 ?_
    refine .then ?_
    refine .rK ?_
    refine .ghs (fr 50 [(4, (.slice none 0 0)), (5, (zI z1))]) (hp 0 []) (.k0 [] [] [4, 5]) ?_
    refine .ghs (Fr.puts (fr 50 [(4, (.slice none 0 0)), (5, (zI z1))]) [(4, (Sl.v 1 (Sl.mk 0 2 [])))]) (hp 0 []) (.freeze 0 4 1 (by kernel_rfl) (by kernel_rfl) (GhS.id _ _)) ?_
    refine .ret ?_
    exact fin_ret (.tuple ⟨[(Sl.v 1 (Sl.mk 0 2 [])), (zI z1)]⟩) (by kernel_rfl) (by kernel_rfl) hm
  · refine .ifF (nt (ieq z1 (0 : Int))) (by kernel_rfl) h0 ?_
    refine .skip ?_
    refine .ghs (fr 50 [(0, (Sl.v 1 s0)), (1, (zI z0))]) (hp 0 []) (.k0 [] [] [0, 1]) ?_
    refine .then ?_
    replace hm := bb_cases hm; rcases hm with ⟨h1, hm⟩ | ⟨h1, hm⟩
    · refine .reg (eC 2 (appFs (hp 1 [(oC [])]) 1 8 (sc 0 0 1 0 1) s0) (appFs_sl0 h1) (eE)) ?_
      refine .ghs (fr 50 [(1, (zI z0)), (7, (sc 0 0 1 0 1))]) (hp 1 [(oC [])]) (.k0 [] [.tmp 7 false] [1, 7]) ?_
      refine .join (v := v) (fun y : Int × Sl => ((fr 50 [(1, (zI y.1)), (7, (Sl.v 1 y.2))]), (hp 0 []))) (fun y => m10_1 pu n y.1 y.2) ?_ ?_
      · rintro ⟨z2, s1⟩ hm
        exact w10_1 pu n z2 s1 hm
      · refine .block ?_
        refine .loopM (v := v) (fun y : Int × Sl => ((fr 50 [(1, (zI y.1)), (7, (Sl.v 1 y.2))]), (hp 0 []))) (fun w y => l10_5 pu n w y.1 y.2) n ⟨(z0, (Sl.mk 0 0 (takeL (0 * 1) (dropL 0 ([] : List Value))))), hm, (.freeze 0 7 1 (by kernel_rfl) (by kernel_rfl) (.k0 [] [] [1, 7]))⟩ (fun _ => rfl) ?_
        rintro w0 ⟨z3, s2⟩ hm
        replace hm : b10_5 pu n (l10_5 pu n w0) z3 s2 = some v := hm
        unfold b10_5 at hm
        refine .then ?_
        refine .join (v := v) (fun y : Int × Sl × Bool => ((fr 50 [(1, (zI y.1)), (7, (Sl.v 1 y.2.1)), (30, (zB y.2.2))]), (hp 0 []))) (fun y => m10_6 pu n (l10_5 pu n w0) y.1 y.2.1 y.2.2) ?_ ?_
        · rintro ⟨z4, s3, b0⟩ hm
          unfold m10_6 at hm
          replace hm := bb_cases hm; rcases hm with ⟨h2, hm⟩ | ⟨h2, hm⟩
          · refine .ifT b0 (by kernel_rfl) h2 ?_
            refine .skip ?_
            refine .ghs (fr 50 [(1, (zI z4)), (7, (Sl.v 1 s3))]) (hp 0 []) (.k0 [] [] [1, 7]) ?_
            refine .block ?_
            refine .then ?_
            replace hm := oo_inv hm; obtain ⟨v0, h3, hm⟩ := hm
            replace hm := inv_toSl hm; obtain ⟨s4, rfl, hm⟩ := hm
            refine .reg (eC 1 ((oo (pu 32 [(Sl.v 1 s3)]) none fun v => some (v, (hp 0 [])))) (call_eq h3) (eE)) ?_
            refine .ghs (fr 50 [(1, (zI z4)), (7, (Sl.v 1 s4))]) (hp 0 []) (.k0 [] [] [1, 7]) ?_
            refine .rK ?_
            exact ⟨((wrapF .i64 (Int.sub z4 (1 : Int))), s4), hm, (.k0 [] [] [1, 7])⟩
          · refine .ifF b0 (by kernel_rfl) h2 ?_
            refine .exit ?_
            exact ⟨(z4, s3), hm, (.k0 [] [] [1, 7])⟩
        · replace hm := bb_cases hm; rcases hm with ⟨h4, hm⟩ | ⟨h4, hm⟩
          · replace hm := oo_inv hm; obtain ⟨v1, h5, hm⟩ := hm
            replace hm := inv_vBool hm; obtain ⟨b1, rfl, hm⟩ := hm
            refine .reg (eC 1 (some ((zB (ilt (0 : Int) z3)), (hp 0 []))) (show _ = some ((zB true), _) from (by rw [h4])) (eC 2 ((oo (pu 38 [(Sl.v 1 s2)]) none fun v => some (v, (hp 0 [])))) (call_eq h5) (eE))) ?_
            exact ⟨(z3, s2, (nt b1)), hm, (.k0 [] [] [1, 7, 30])⟩
          · refine .reg (eC 1 (some ((zB (ilt (0 : Int) z3)), (hp 0 []))) (show _ = some ((zB false), _) from (by rw [h4])) (eE)) ?_
            exact ⟨(z3, s2, false), hm, (.k0 [] [] [1, 7, 30])⟩
    · replace hm := bb_inv hm; obtain ⟨h6, hm⟩ := hm
      refine .reg (eC 2 (appFs (hp 1 [(oC [])]) 1 8 (sc 0 0 1 0 1) s0) (appFs_new h1 h6 (by kernel_rfl)) (eE)) ?_
      replace hm := bb_inv hm; obtain ⟨h7, hm⟩ := hm
      refine .ghs (fr 50 [(1, (zI z0)), (7, (sc 0 0 1 (0 + (Sl.n s0)) (d2 (0 + (Sl.n s0)))))]) (hp 1 [(oC (takeL ((Sl.n s0) * 1) (Sl.cs s0)))]) (.k [1] [] [.tmp 7 false] [1, 7] ⟨trE (by kernel_rfl) h7, trivial⟩) ?_
      refine .join (v := v) (fun y : Int × Sl => ((fr 50 [(1, (zI y.1)), (7, (Sl.v 1 y.2))]), (hp 0 []))) (fun y => m10_7 pu n y.1 y.2) ?_ ?_
      · rintro ⟨z5, s5⟩ hm
        exact w10_7 pu n z5 s5 hm
      · refine .block ?_
        replace hm := bb_inv hm; obtain ⟨h8, hm⟩ := hm
        refine .loopM (v := v) (fun y : Int × Sl => ((fr 50 [(1, (zI y.1)), (7, (Sl.v 1 y.2))]), (hp 0 []))) (fun w y => l10_11 pu n w y.1 y.2) n ⟨(z0, (Sl.mk (0 + (Sl.n s0)) 0 (takeL ((0 + (Sl.n s0)) * 1) (dropL 0 (takeL ((Sl.n s0) * 1) (Sl.cs s0)))))), hm, (.freezeC 0 7 1 (an (Nat.ble (0 + (0 + (Sl.n s0)) * 1) (len (takeL ((Sl.n s0) * 1) (Sl.cs s0)))) (allL closed1 (takeL ((0 + (Sl.n s0)) * 1) (dropL 0 (takeL ((Sl.n s0) * 1) (Sl.cs s0)))))) (F1 := (Fr.puts (fr 50 [(1, (zI z0)), (7, (sc 0 0 1 (0 + (Sl.n s0)) (d2 (0 + (Sl.n s0)))))]) [(7, (Sl.v 1 (Sl.mk (0 + (Sl.n s0)) 0 (takeL ((0 + (Sl.n s0)) * 1) (dropL 0 (takeL ((Sl.n s0) * 1) (Sl.cs s0)))))))])) (H1 := (hp 1 [.dead])) (by kernel_rfl) (by kernel_rfl) h8 (.k0 [] [] [1, 7]))⟩ (fun _ => rfl) ?_
        rintro w0 ⟨z6, s6⟩ hm
        replace hm : b10_11 pu n (l10_11 pu n w0) z6 s6 = some v := hm
        unfold b10_11 at hm
        refine .then ?_
        refine .join (v := v) (fun y : Int × Sl × Bool => ((fr 50 [(1, (zI y.1)), (7, (Sl.v 1 y.2.1)), (30, (zB y.2.2))]), (hp 0 []))) (fun y => m10_12 pu n (l10_11 pu n w0) y.1 y.2.1 y.2.2) ?_ ?_
        · rintro ⟨z7, s7, b2⟩ hm
          unfold m10_12 at hm
          replace hm := bb_cases hm; rcases hm with ⟨h9, hm⟩ | ⟨h9, hm⟩
          · refine .ifT b2 (by kernel_rfl) h9 ?_
            refine .skip ?_
            refine .ghs (fr 50 [(1, (zI z7)), (7, (Sl.v 1 s7))]) (hp 0 []) (.k0 [] [] [1, 7]) ?_
            refine .block ?_
            refine .then ?_
            replace hm := oo_inv hm; obtain ⟨v2, h10, hm⟩ := hm
            replace hm := inv_toSl hm; obtain ⟨s8, rfl, hm⟩ := hm
            refine .reg (eC 1 ((oo (pu 32 [(Sl.v 1 s7)]) none fun v => some (v, (hp 0 [])))) (call_eq h10) (eE)) ?_
            refine .ghs (fr 50 [(1, (zI z7)), (7, (Sl.v 1 s8))]) (hp 0 []) (.k0 [] [] [1, 7]) ?_
            refine .rK ?_
            exact ⟨((wrapF .i64 (Int.sub z7 (1 : Int))), s8), hm, (.k0 [] [] [1, 7])⟩
          · refine .ifF b2 (by kernel_rfl) h9 ?_
            refine .exit ?_
            exact ⟨(z7, s7), hm, (.k0 [] [] [1, 7])⟩
        · replace hm := bb_cases hm; rcases hm with ⟨h11, hm⟩ | ⟨h11, hm⟩
          · replace hm := oo_inv hm; obtain ⟨v3, h12, hm⟩ := hm
            replace hm := inv_vBool hm; obtain ⟨b4, rfl, hm⟩ := hm
            refine .reg (eC 1 (some ((zB (ilt (0 : Int) z6)), (hp 0 []))) (show _ = some ((zB true), _) from (by rw [h11])) (eC 2 ((oo (pu 38 [(Sl.v 1 s6)]) none fun v => some (v, (hp 0 [])))) (call_eq h12) (eE))) ?_
            exact ⟨(z6, s6, (nt b4)), hm, (.k0 [] [] [1, 7, 30])⟩
          · refine .reg (eC 1 (some ((zB (ilt (0 : Int) z6)), (hp 0 []))) (show _ = some ((zB false), _) from (by rw [h11])) (eE)) ?_
            exact ⟨(z6, s6, false), hm, (.k0 [] [] [1, 7, 30])⟩
theorem r10 {call : CallF} (pu : PureF) (n : Nat) (hcall : call = callP tabs isP pu (inl pu)) {args : List Value} {v : Value} (hm : m10 pu n args = some v) (_ : ∀ x ∈ args, closed2 x = true) : args.length ≤ 50 ∧ Run tt call 0 c10_47 (Fr.made 50 args) (pureHeap tabs) (Fin tt 0 [.tmp 4, .tmp 5] v) := by
  subst hcall
  unfold m10 at hm
  replace hm := ll_uncons hm; obtain ⟨a0, args_0, rfl, hm⟩ := hm
  replace hm := ll_uncons hm; obtain ⟨a1, args_1, rfl, hm⟩ := hm
  replace hm := ll_end hm; obtain ⟨rfl, hm⟩ := hm
  replace hm := inv_toSl hm; obtain ⟨s0, rfl, hm⟩ := hm
  replace hm := inv_toI hm; obtain ⟨x0, rfl, hm⟩ := hm
  unfold m10_ at hm
  refine ⟨by simp, ?_⟩
  refine .same (F' := (fr 50 [(0, (Sl.v 1 s0)), (1, (zI x0))])) (H' := (hp 0 [])) (by kernel_rfl) (by kernel_rfl) ?_
  refine .then ?_
  refine .rK ?_
  refine .ghs (fr 50 [(0, (Sl.v 1 s0)), (1, (zI x0))]) (hp 0 []) (.k0 [] [] [0, 1]) ?_
  refine .then ?_
  replace hm := oo_inv hm; obtain ⟨v0, h0, hm⟩ := hm
  replace hm := inv_toI hm; obtain ⟨x1, rfl, hm⟩ := hm
  refine .reg (eC 1 ((oo (pu 15 [(Sl.v 1 s0)]) none fun v => some (v, (hp 0 [])))) (call_eq h0) (eE)) ?_
  refine .ghs (fr 50 [(0, (Sl.v 1 s0)), (1, (zI x0)), (6, (zI x1))]) (hp 0 []) (.k0 [] [] [0, 1, 6]) ?_
  refine .join (v := v) (fun y : Sl × Int × Int => ((fr 50 [(0, (Sl.v 1 y.1)), (1, (zI y.2.1)), (6, (zI y.2.2))]), (hp 0 []))) (fun y => m10_0 pu n y.1 y.2.1 y.2.2) ?_ ?_
  · rintro ⟨s1, z0, z1⟩ hm
    exact w10_0 pu n s1 z0 z1 hm
  · refine .join (v := v) (fun y : Sl × Int × Int × Bool => ((fr 50 [(0, (Sl.v 1 y.1)), (1, (zI y.2.1)), (6, (zI y.2.2.1)), (17, (zB y.2.2.2))]), (hp 0 []))) (fun y => m10_13 pu n y.1 y.2.1 y.2.2.1 y.2.2.2) ?_ ?_
    · rintro ⟨s2, z2, z3, b0⟩ hm
      unfold m10_13 at hm
      replace hm := bb_cases hm; rcases hm with ⟨h1, hm⟩ | ⟨h1, hm⟩
      · refine .ifT b0 (by kernel_rfl) h1 ?_
        refine .rK ?_
        exact ⟨(s2, z2, (1 : Int)), hm, (.k0 [] [] [0, 1, 6])⟩
      · refine .ifF b0 (by kernel_rfl) h1 ?_
        refine .skip ?_
        exact ⟨(s2, z2, z3), hm, (.k0 [] [] [0, 1, 6])⟩
    · replace hm := bb_cases hm; rcases hm with ⟨h2, hm⟩ | ⟨h2, hm⟩
      · replace hm := oo_inv hm; obtain ⟨v1, h3, hm⟩ := hm
        replace hm := inv_vBool hm; obtain ⟨b1, rfl, hm⟩ := hm
        refine .reg (eC 1 (some ((zB (ieq x1 (0 : Int))), (hp 0 []))) (show _ = some ((zB true), _) from (by rw [h2])) (eC 2 ((oo (pu 37 [(zI x0), (zI (0 : Int)), (zI (1000000000 : Int))]) none fun v => some (v, (hp 0 [])))) (call_eq h3) (eE))) ?_
        exact ⟨(s0, x0, x1, (nt b1)), hm, (.k0 [] [] [0, 1, 6, 17])⟩
      · refine .reg (eC 1 (some ((zB (ieq x1 (0 : Int))), (hp 0 []))) (show _ = some ((zB false), _) from (by rw [h2])) (eE)) ?_
        exact ⟨(s0, x0, x1, false), hm, (.k0 [] [] [0, 1, 6, 17])⟩
end
end Go.HpRM
