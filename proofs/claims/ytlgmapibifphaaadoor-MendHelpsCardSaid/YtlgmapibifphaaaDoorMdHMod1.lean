/- Models of the program's functions, and the proofs that runs give them: MADE BY PROGRAM (wip/tools/dec.py). -/
import Derived.Test.YtlgmapibifphaaaDoorMdHMod0x

set_option maxRecDepth 100000
set_option maxHeartbeats 20000000
set_option linter.unusedVariables false
namespace Go.MdHM
open Go.Sp Go.MdH
noncomputable section
def m3_1 (pu : PureF) (n : Nat) (b97 : Bool) : Option Value :=
  (some (.bool b97))
def m3_0 (pu : PureF) (n : Nat) (b24 : Bool) (z25 : Int) (s26 : Sl) (s27 : Sl) : Option Value :=
  (bb b24 (oo (pu 12 []) none fun v33 => (oo (vBool v33) none fun b35 => (some (.bool b35)))) (oo (pu 13 [(.agg ⟨[(.int .i64 z25), (Sl.v 1 s26), (Sl.v 1 s27)]⟩)]) none fun v47 => (oo (vTup v47) none fun l49 => (ll l49 none fun v51 l49 => (ll l49 none fun v52 l49 => (ll l49 (oo (toSl 2 v51) none fun s53 => (oo (toI .i64 v52) none fun x55 => (oo (pu 14 [(.agg ⟨[(.int .i64 z25), (Sl.v 1 s26), (Sl.v 1 s27)]⟩)]) none fun v67 => (oo (vTup v67) none fun l69 => (ll l69 none fun v71 l69 => (ll l69 none fun v72 l69 => (ll l69 (oo (toSl 2 v71) none fun s73 => (oo (toI .i64 v72) none fun x75 => (oo (pu 15 [(Sl.v 2 s53), (Sl.v 2 s73)]) none fun v0 => (oo (vBool v0) none fun b0 => (bb b0 (bb (ieq x55 x75) (oo (pu 12 []) none fun v1 => (oo (vBool v1) none fun b1 => (m3_1 pu n b1))) (m3_1 pu n false)) (m3_1 pu n false)))))) fun _ _ => none))))))) fun _ _ => none))))))
def m3_ (pu : PureF) (n : Nat) (x6 : Int) (s8 : Sl) (s10 : Sl) : Option Value :=
  (oo (pu 11 [(.agg ⟨[(.int .i64 x6), (Sl.v 1 s8), (Sl.v 1 s10)]⟩)]) none fun v0 => (oo (vBool v0) none fun b0 => (bb b0 (m3_0 pu n true x6 s8 s10) (bb (ilt (7 : Int) (Int.ofNat (Sl.n s8))) (m3_0 pu n (nt (ilt (10 : Int) (Int.ofNat (Sl.n s8)))) x6 s8 s10) (m3_0 pu n false x6 s8 s10)))))
def m3 (pu : PureF) (n : Nat) (args : List Value) : Option Value :=
  (ll args none fun a0 args => (ll args (oo (vAgg a0) none fun l1 => (ll l1 none fun v3 l1 => (ll l1 none fun v4 l1 => (ll l1 none fun v5 l1 => (ll l1 (oo (toI .i64 v3) none fun x6 => (oo (toSl 1 v4) none fun s8 => (oo (toSl 1 v5) none fun s10 => (m3_ pu n x6 s8 s10)))) fun _ _ => none))))) fun _ _ => none))
theorem w3_1 (pu : PureF) (n : Nat) (b97 : Bool) {v : Value} (hm : m3_1 pu n b97 = some v) : Run tt (callP tabs isP pu (inl pu)) 1 .ret (fr 43 [(2, (zB b97))]) (hp 1 [(oT tab0)]) (Fin tt 1 [.tmp 2] v) := by
  unfold m3_1 at hm
  refine .ret ?_
  exact fin_ret (zB b97) (by kernel_rfl) (by kernel_rfl) hm
theorem r3 {call : CallF} (pu : PureF) (n : Nat) (hcall : call = callP tabs isP pu (inl pu)) {args : List Value} {v : Value} (hm : m3 pu n args = some v) (_ : ∀ x ∈ args, closed2 x = true) : args.length ≤ 43 ∧ Run tt call 1 c3_13 (Fr.made 43 args) (pureHeap tabs) (Fin tt 1 [.tmp 2] v) := by
  subst hcall
  unfold m3 at hm
  replace hm := ll_uncons hm; obtain ⟨a0, args_0, rfl, hm⟩ := hm
  replace hm := ll_end hm; obtain ⟨rfl, hm⟩ := hm
  replace hm := inv_vAgg hm; obtain ⟨l1, rfl, hm⟩ := hm
  replace hm := ll_uncons hm; obtain ⟨v3, l1_0, rfl, hm⟩ := hm
  replace hm := ll_uncons hm; obtain ⟨v4, l1_1, rfl, hm⟩ := hm
  replace hm := ll_uncons hm; obtain ⟨v5, l1_2, rfl, hm⟩ := hm
  replace hm := ll_end hm; obtain ⟨rfl, hm⟩ := hm
  replace hm := inv_toI hm; obtain ⟨x6, rfl, hm⟩ := hm
  replace hm := inv_toSl hm; obtain ⟨s8, rfl, hm⟩ := hm
  replace hm := inv_toSl hm; obtain ⟨s10, rfl, hm⟩ := hm
  unfold m3_ at hm
  refine ⟨by simp, ?_⟩
  refine .same (F' := (fr 43 [(0, (.agg ⟨[(zI x6), (Sl.v 1 s8), (Sl.v 1 s10)]⟩))])) (H' := (hp 1 [(oT tab0)])) (by kernel_rfl) (by kernel_rfl) ?_
  refine .then ?_
  refine .rK ?_
  refine .ghs (fr 43 [(1, (pt 1 0))]) (hp 2 [(oT tab0), (oC [(zI x6), (Sl.v 1 s8), (Sl.v 1 s10)])]) (.k0 [false] [.tmp 1 false] [1]) ?_
  refine .then ?_
  refine .join (v := v) (fun y : Bool × Int × Sl × Sl => ((fr 43 [(1, (pt 1 0)), (20, (zB y.1))]), (hp 2 [(oT tab0), (oC [(zI y.2.1), (Sl.v 1 y.2.2.1), (Sl.v 1 y.2.2.2)])]))) (fun y => m3_0 pu n y.1 y.2.1 y.2.2.1 y.2.2.2) ?_ ?_
  · rintro ⟨b24, z25, s26, s27⟩ hm
    unfold m3_0 at hm
    replace hm := bb_cases hm; rcases hm with ⟨h28, hm⟩ | ⟨h28, hm⟩
    · refine .ifT b24 (by kernel_rfl) h28 ?_
      refine .then ?_
      replace hm := oo_inv hm; obtain ⟨v33, h34, hm⟩ := hm
      replace hm := inv_vBool hm; obtain ⟨b35, rfl, hm⟩ := hm
      refine .reg (eD ((oo (pu 12 []) none fun v => some (v, (hp 2 [(oT tab0), (oC [(zI z25), (Sl.v 1 s26), (Sl.v 1 s27)])])))) (call_eq h34) (eE)) ?_
      refine .ghs (fr 43 [(2, (zB b35))]) (hp 1 [(oT tab0)]) (.k0 [false] [] [2]) ?_
      refine .ret ?_
      exact fin_ret (zB b35) (by kernel_rfl) (by kernel_rfl) hm
    · refine .ifF b24 (by kernel_rfl) h28 ?_
      refine .skip ?_
      refine .ghs (fr 43 [(1, (pt 1 0))]) (hp 2 [(oT tab0), (oC [(zI z25), (Sl.v 1 s26), (Sl.v 1 s27)])]) (.k0 [false] [.tmp 1 false] [1]) ?_
      refine .then ?_
      replace hm := oo_inv hm; obtain ⟨v47, h48, hm⟩ := hm
      replace hm := inv_vTup hm; obtain ⟨l49, rfl, hm⟩ := hm
      replace hm := ll_uncons hm; obtain ⟨v51, l49_0, rfl, hm⟩ := hm
      replace hm := ll_uncons hm; obtain ⟨v52, l49_1, rfl, hm⟩ := hm
      replace hm := ll_end hm; obtain ⟨rfl, hm⟩ := hm
      replace hm := inv_toSl hm; obtain ⟨s53, rfl, hm⟩ := hm
      replace hm := inv_toI hm; obtain ⟨x55, rfl, hm⟩ := hm
      refine .reg (eC 1 ((oo (pu 13 [(.agg ⟨[(zI z25), (Sl.v 1 s26), (Sl.v 1 s27)]⟩)]) none fun v => some (v, (hp 2 [(oT tab0), (oC [(zI z25), (Sl.v 1 s26), (Sl.v 1 s27)])])))) (call_eq h48) (eE)) ?_
      refine .ghs (fr 43 [(1, (pt 1 0)), (3, (Sl.v 2 s53)), (4, (zI x55))]) (hp 2 [(oT tab0), (oC [(zI z25), (Sl.v 1 s26), (Sl.v 1 s27)])]) (.k0 [false] [.tmp 1 false] [1, 3, 4]) ?_
      refine .then ?_
      replace hm := oo_inv hm; obtain ⟨v67, h68, hm⟩ := hm
      replace hm := inv_vTup hm; obtain ⟨l69, rfl, hm⟩ := hm
      replace hm := ll_uncons hm; obtain ⟨v71, l69_0, rfl, hm⟩ := hm
      replace hm := ll_uncons hm; obtain ⟨v72, l69_1, rfl, hm⟩ := hm
      replace hm := ll_end hm; obtain ⟨rfl, hm⟩ := hm
      replace hm := inv_toSl hm; obtain ⟨s73, rfl, hm⟩ := hm
      replace hm := inv_toI hm; obtain ⟨x75, rfl, hm⟩ := hm
      refine .reg (eC 1 ((oo (pu 14 [(.agg ⟨[(zI z25), (Sl.v 1 s26), (Sl.v 1 s27)]⟩)]) none fun v => some (v, (hp 2 [(oT tab0), (oC [(zI z25), (Sl.v 1 s26), (Sl.v 1 s27)])])))) (call_eq h68) (eE)) ?_
      refine .ghs (fr 43 [(3, (Sl.v 2 s53)), (4, (zI x55)), (5, (Sl.v 2 s73)), (6, (zI x75))]) (hp 1 [(oT tab0)]) (.k0 [false] [] [3, 4, 5, 6]) ?_
      refine .join (v := v) (fun y : Bool => ((fr 43 [(2, (zB y))]), (hp 1 [(oT tab0)]))) (fun y => m3_1 pu n y) ?_ ?_
      · rintro b97 hm
        exact w3_1 pu n b97 hm
      · replace hm := oo_inv hm; obtain ⟨v0, h0, hm⟩ := hm
        replace hm := inv_vBool hm; obtain ⟨b0, rfl, hm⟩ := hm
        replace hm := bb_cases hm; rcases hm with ⟨h1, hm⟩ | ⟨h1, hm⟩
        · replace hm := bb_cases hm; rcases hm with ⟨h2, hm⟩ | ⟨h2, hm⟩
          · replace hm := oo_inv hm; obtain ⟨v1, h3, hm⟩ := hm
            replace hm := inv_vBool hm; obtain ⟨b1, rfl, hm⟩ := hm
            refine .reg (eC 2 ((oo (pu 15 [(Sl.v 2 s53), (Sl.v 2 s73)]) none fun v => some (v, (hp 1 [(oT tab0)])))) (show _ = some ((zB true), _) from (by have hz : (oo (pu 15 [(Sl.v 2 s53), (Sl.v 2 s73)]) none fun v => some (v, (hp 1 [(oT tab0)]))) = some ((zB b0), (hp 1 [(oT tab0)])) := (call_eq h0); rw [h1] at hz; exact hz)) (eC 3 (some ((zB (ieq x55 x75)), (hp 1 [(oT tab0)]))) (show _ = some ((zB true), _) from (by rw [h2])) (eC 2 ((oo (pu 12 []) none fun v => some (v, (hp 1 [(oT tab0)])))) (call_eq h3) (eE)))) ?_
            exact ⟨b1, hm, (.k0 [false] [] [2])⟩
          · refine .reg (eC 2 ((oo (pu 15 [(Sl.v 2 s53), (Sl.v 2 s73)]) none fun v => some (v, (hp 1 [(oT tab0)])))) (show _ = some ((zB true), _) from (by have hz : (oo (pu 15 [(Sl.v 2 s53), (Sl.v 2 s73)]) none fun v => some (v, (hp 1 [(oT tab0)]))) = some ((zB b0), (hp 1 [(oT tab0)])) := (call_eq h0); rw [h1] at hz; exact hz)) (eC 3 (some ((zB (ieq x55 x75)), (hp 1 [(oT tab0)]))) (show _ = some ((zB false), _) from (by rw [h2])) (eE))) ?_
            exact ⟨false, hm, (.k0 [false] [] [2])⟩
        · refine .reg (eC 2 ((oo (pu 15 [(Sl.v 2 s53), (Sl.v 2 s73)]) none fun v => some (v, (hp 1 [(oT tab0)])))) (show _ = some ((zB false), _) from (by have hz : (oo (pu 15 [(Sl.v 2 s53), (Sl.v 2 s73)]) none fun v => some (v, (hp 1 [(oT tab0)]))) = some ((zB b0), (hp 1 [(oT tab0)])) := (call_eq h0); rw [h1] at hz; exact hz)) (eE)) ?_
          exact ⟨false, hm, (.k0 [false] [] [2])⟩
  · replace hm := oo_inv hm; obtain ⟨v2, h4, hm⟩ := hm
    replace hm := inv_vBool hm; obtain ⟨b2, rfl, hm⟩ := hm
    replace hm := bb_cases hm; rcases hm with ⟨h5, hm⟩ | ⟨h5, hm⟩
    · refine .reg (eC 1 ((oo (pu 11 [(.agg ⟨[(zI x6), (Sl.v 1 s8), (Sl.v 1 s10)]⟩)]) none fun v => some (v, (hp 2 [(oT tab0), (oC [(zI x6), (Sl.v 1 s8), (Sl.v 1 s10)])])))) (show _ = some ((zB true), _) from (by have hz : (oo (pu 11 [(.agg ⟨[(zI x6), (Sl.v 1 s8), (Sl.v 1 s10)]⟩)]) none fun v => some (v, (hp 2 [(oT tab0), (oC [(zI x6), (Sl.v 1 s8), (Sl.v 1 s10)])]))) = some ((zB b2), (hp 2 [(oT tab0), (oC [(zI x6), (Sl.v 1 s8), (Sl.v 1 s10)])])) := (call_eq h4); rw [h5] at hz; exact hz)) (eE)) ?_
      exact ⟨(true, x6, s8, s10), hm, (.k0 [false] [.tmp 1 false] [1, 20])⟩
    · replace hm := bb_cases hm; rcases hm with ⟨h6, hm⟩ | ⟨h6, hm⟩
      · refine .reg (eC 1 ((oo (pu 11 [(.agg ⟨[(zI x6), (Sl.v 1 s8), (Sl.v 1 s10)]⟩)]) none fun v => some (v, (hp 2 [(oT tab0), (oC [(zI x6), (Sl.v 1 s8), (Sl.v 1 s10)])])))) (show _ = some ((zB false), _) from (by have hz : (oo (pu 11 [(.agg ⟨[(zI x6), (Sl.v 1 s8), (Sl.v 1 s10)]⟩)]) none fun v => some (v, (hp 2 [(oT tab0), (oC [(zI x6), (Sl.v 1 s8), (Sl.v 1 s10)])]))) = some ((zB b2), (hp 2 [(oT tab0), (oC [(zI x6), (Sl.v 1 s8), (Sl.v 1 s10)])])) := (call_eq h4); rw [h5] at hz; exact hz)) (eC 4 (some ((zB (ilt (7 : Int) (Int.ofNat (Sl.n s8)))), (hp 2 [(oT tab0), (oC [(zI x6), (Sl.v 1 s8), (Sl.v 1 s10)])]))) (show _ = some ((zB true), _) from (by rw [h6])) (eE))) ?_
        exact ⟨((nt (ilt (10 : Int) (Int.ofNat (Sl.n s8)))), x6, s8, s10), hm, (.k0 [false] [.tmp 1 false] [1, 20])⟩
      · refine .reg (eC 1 ((oo (pu 11 [(.agg ⟨[(zI x6), (Sl.v 1 s8), (Sl.v 1 s10)]⟩)]) none fun v => some (v, (hp 2 [(oT tab0), (oC [(zI x6), (Sl.v 1 s8), (Sl.v 1 s10)])])))) (show _ = some ((zB false), _) from (by have hz : (oo (pu 11 [(.agg ⟨[(zI x6), (Sl.v 1 s8), (Sl.v 1 s10)]⟩)]) none fun v => some (v, (hp 2 [(oT tab0), (oC [(zI x6), (Sl.v 1 s8), (Sl.v 1 s10)])]))) = some ((zB b2), (hp 2 [(oT tab0), (oC [(zI x6), (Sl.v 1 s8), (Sl.v 1 s10)])])) := (call_eq h4); rw [h5] at hz; exact hz)) (eC 4 (some ((zB (ilt (7 : Int) (Int.ofNat (Sl.n s8)))), (hp 2 [(oT tab0), (oC [(zI x6), (Sl.v 1 s8), (Sl.v 1 s10)])]))) (show _ = some ((zB false), _) from (by rw [h6])) (eE))) ?_
        exact ⟨(false, x6, s8, s10), hm, (.k0 [false] [.tmp 1 false] [1, 20])⟩
def m11_0 (pu : PureF) (n : Nat) (b0 : Bool) : Option Value :=
  (some (.bool b0))
def m11_ (pu : PureF) (n : Nat) (x0 : Int) (s0 : Sl) (s1 : Sl) : Option Value :=
  (bb (ilt (40 : Int) (Int.ofNat (Sl.n s0))) (m11_0 pu n true) (m11_0 pu n (ilt (40 : Int) (Int.ofNat (Sl.n s1)))))
def m11 (pu : PureF) (n : Nat) (args : List Value) : Option Value :=
  (ll args none fun a0 args => (ll args (oo (vAgg a0) none fun l0 => (ll l0 none fun v0 l0 => (ll l0 none fun v1 l0 => (ll l0 none fun v2 l0 => (ll l0 (oo (toI .i64 v0) none fun x0 => (oo (toSl 1 v1) none fun s0 => (oo (toSl 1 v2) none fun s1 => (m11_ pu n x0 s0 s1)))) fun _ _ => none))))) fun _ _ => none))
theorem w11_0 (pu : PureF) (n : Nat) (b0 : Bool) {v : Value} (hm : m11_0 pu n b0 = some v) : Run tt (callP tabs isP pu (inl pu)) 1 .ret (fr 13 [(2, (zB b0))]) (hp 1 [(oT tab0)]) (Fin tt 1 [.tmp 2] v) := by
  unfold m11_0 at hm
  refine .ret ?_
  exact fin_ret (zB b0) (by kernel_rfl) (by kernel_rfl) hm
theorem r11 {call : CallF} (pu : PureF) (n : Nat) (hcall : call = callP tabs isP pu (inl pu)) {args : List Value} {v : Value} (hm : m11 pu n args = some v) (_ : ∀ x ∈ args, closed2 x = true) : args.length ≤ 13 ∧ Run tt call 1 c11_3 (Fr.made 13 args) (pureHeap tabs) (Fin tt 1 [.tmp 2] v) := by
  subst hcall
  unfold m11 at hm
  replace hm := ll_uncons hm; obtain ⟨a0, args_0, rfl, hm⟩ := hm
  replace hm := ll_end hm; obtain ⟨rfl, hm⟩ := hm
  replace hm := inv_vAgg hm; obtain ⟨l0, rfl, hm⟩ := hm
  replace hm := ll_uncons hm; obtain ⟨v0, l130_0, rfl, hm⟩ := hm
  replace hm := ll_uncons hm; obtain ⟨v1, l130_1, rfl, hm⟩ := hm
  replace hm := ll_uncons hm; obtain ⟨v2, l130_2, rfl, hm⟩ := hm
  replace hm := ll_end hm; obtain ⟨rfl, hm⟩ := hm
  replace hm := inv_toI hm; obtain ⟨x0, rfl, hm⟩ := hm
  replace hm := inv_toSl hm; obtain ⟨s0, rfl, hm⟩ := hm
  replace hm := inv_toSl hm; obtain ⟨s1, rfl, hm⟩ := hm
  unfold m11_ at hm
  refine ⟨by simp, ?_⟩
  refine .same (F' := (fr 13 [(0, (.agg ⟨[(zI x0), (Sl.v 1 s0), (Sl.v 1 s1)]⟩))])) (H' := (hp 1 [(oT tab0)])) (by kernel_rfl) (by kernel_rfl) ?_
  refine .then ?_
  refine .rK ?_
  refine .ghs (fr 13 [(1, (pt 1 0))]) (hp 2 [(oT tab0), (oC [(zI x0), (Sl.v 1 s0), (Sl.v 1 s1)])]) (.k0 [false] [.tmp 1 false] [1]) ?_
  refine .join (v := v) (fun y : Bool => ((fr 13 [(2, (zB y))]), (hp 1 [(oT tab0)]))) (fun y => m11_0 pu n y) ?_ ?_
  · rintro b0 hm
    exact w11_0 pu n b0 hm
  · replace hm := bb_cases hm; rcases hm with ⟨h0, hm⟩ | ⟨h0, hm⟩
    · refine .reg (eC 3 (some ((zB (ilt (40 : Int) (Int.ofNat (Sl.n s0)))), (hp 2 [(oT tab0), (oC [(zI x0), (Sl.v 1 s0), (Sl.v 1 s1)])]))) (show _ = some ((zB true), _) from (by rw [h0])) (eE)) ?_
      exact ⟨true, hm, (.k0 [false] [] [2])⟩
    · refine .reg (eC 3 (some ((zB (ilt (40 : Int) (Int.ofNat (Sl.n s0)))), (hp 2 [(oT tab0), (oC [(zI x0), (Sl.v 1 s0), (Sl.v 1 s1)])]))) (show _ = some ((zB false), _) from (by rw [h0])) (eE)) ?_
      exact ⟨(ilt (40 : Int) (Int.ofNat (Sl.n s1))), hm, (.k0 [false] [] [2])⟩
def m13_0 (pu : PureF) (n : Nat) (n0 : Nat) (c0 : Nat) (q0 : List Value) : Option Value :=
  (bb (allL closed1 q0) (bb (an (Nat.ble (0 + n0 * 2) (len q0)) (allL closed1 (takeL (n0 * 2) (dropL 0 q0)))) (some (.tuple ⟨[(Sl.v 2 (Sl.mk n0 0 (takeL (n0 * 2) (dropL 0 q0)))), (.int .i64 (0 : Int))]⟩)) none) none)
def m13_2 (pu : PureF) (n : Nat) (ih0 : Int → Nat → Nat → Int → Int → Int → Sl → Sl → List Value → Option Value) (z0 : Int) (n0 : Nat) (c0 : Nat) (z1 : Int) (z2 : Int) (z3 : Int) (s0 : Sl) (s1 : Sl) (q0 : List Value) : Option Value :=
  (bb (allL closed1 q0) (ih0 z0 n0 c0 z1 (wrapF .i64 (Int.add z2 (1 : Int))) z3 s0 s1 q0) none)
def m13_4 (pu : PureF) (n : Nat) (ih0 : Int → Nat → Nat → Int → Int → Int → Sl → Sl → List Value → Option Value) (ih1 : Int → Nat → Nat → Int → Int → Int → Int → Int → Sl → Sl → List Value → Option Value) (z0 : Int) (n0 : Nat) (c0 : Nat) (z1 : Int) (z2 : Int) (z3 : Int) (z4 : Int) (z5 : Int) (s0 : Sl) (s1 : Sl) (q0 : List Value) : Option Value :=
  (bb (allL closed1 q0) (ih1 z0 n0 c0 z1 (wrapF .i64 (Int.add z2 (1 : Int))) z3 z4 z5 s0 s1 q0) none)
def b13_3 (pu : PureF) (n : Nat) (ih0 : Int → Nat → Nat → Int → Int → Int → Sl → Sl → List Value → Option Value) (ih1 : Int → Nat → Nat → Int → Int → Int → Int → Int → Sl → Sl → List Value → Option Value) (z0 : Int) (n0 : Nat) (c0 : Nat) (z1 : Int) (z2 : Int) (z3 : Int) (z4 : Int) (z5 : Int) (s0 : Sl) (s1 : Sl) (q0 : List Value) : Option Value :=
  (bb (allL closed1 q0) (bb (ilt z2 (Int.ofNat (Sl.n s0))) (oo (pu 43 [(.agg ⟨[(.int .i64 z5), (Sl.v 1 s0), (Sl.v 1 s1)]⟩), (.int .i64 z1), (.int .i64 z2)]) none fun v0 => (oo (vAgg v0) none fun l0 => (ll l0 none fun v1 l0 => (ll l0 none fun v2 l0 => (ll l0 none fun v3 l0 => (ll l0 (oo (toI .i64 v1) none fun x0 => (oo (toSl 1 v2) none fun s2 => (oo (toSl 1 v3) none fun s3 => (oo (pu 44 [(.agg ⟨[(.int .i64 x0), (Sl.v 1 s2), (Sl.v 1 s3)]⟩)]) none fun v4 => (oo (toI .i64 v4) none fun x1 => (bb (ilt x1 z0) (bb (growC 2 16 n0 c0 1 q0) (bb (allL closed1 (appL (dropL 0 q0) [(.int .i64 z1), (.int .i64 z2)])) (m13_4 pu n ih0 ih1 z0 (n0 + 1) (2 * (n0 + 1) + bb false 1 0) z1 z2 z3 z4 z5 s0 s1 (appL (dropL 0 q0) [(.int .i64 z1), (.int .i64 z2)])) none) none) (m13_4 pu n ih0 ih1 z0 n0 c0 z1 z2 z3 z4 z5 s0 s1 q0))))))) fun _ _ => none)))))) (m13_2 pu n ih0 z0 n0 c0 z3 z4 z5 s0 s1 q0)) none)
def l13_3 (pu : PureF) (n : Nat) (ih0 : Int → Nat → Nat → Int → Int → Int → Sl → Sl → List Value → Option Value) (w : Nat) : Int → Nat → Nat → Int → Int → Int → Int → Int → Sl → Sl → List Value → Option Value :=
  Nat.rec (motive := fun _ => Int → Nat → Nat → Int → Int → Int → Int → Int → Sl → Sl → List Value → Option Value) (fun _ _ _ _ _ _ _ _ _ _ _ => none) (fun _ ih1 => b13_3 pu n ih0 ih1) w
def b13_1 (pu : PureF) (n : Nat) (ih0 : Int → Nat → Nat → Int → Int → Int → Sl → Sl → List Value → Option Value) (z0 : Int) (n0 : Nat) (c0 : Nat) (z1 : Int) (z2 : Int) (z3 : Int) (s0 : Sl) (s1 : Sl) (q0 : List Value) : Option Value :=
  (bb (allL closed1 q0) (bb (ilt z2 z1) (l13_3 pu n ih0 n z0 n0 c0 z2 (wrapF .i64 (Int.add z2 (1 : Int))) z1 z2 z3 s0 s1 q0) (m13_0 pu n n0 c0 q0)) none)
def l13_1 (pu : PureF) (n : Nat) (w : Nat) : Int → Nat → Nat → Int → Int → Int → Sl → Sl → List Value → Option Value :=
  Nat.rec (motive := fun _ => Int → Nat → Nat → Int → Int → Int → Sl → Sl → List Value → Option Value) (fun _ _ _ _ _ _ _ _ _ => none) (fun _ ih0 => b13_1 pu n ih0) w
def m13_ (pu : PureF) (n : Nat) (x0 : Int) (s0 : Sl) (s1 : Sl) : Option Value :=
  (oo (pu 29 [(.agg ⟨[(.int .i64 x0), (Sl.v 1 s0), (Sl.v 1 s1)]⟩)]) none fun v0 => (oo (vTup v0) none fun l0 => (ll l0 none fun v1 l0 => (ll l0 none fun v2 l0 => (ll l0 (oo (toI .i64 v1) none fun x1 => (oo (toI .i64 v2) none fun x2 => (bb (nt (ieq x2 (0 : Int))) (some (.tuple ⟨[(Sl.v 2 (Sl.mk 0 2 [])), (.int .i64 x2)]⟩)) (l13_1 pu n n x1 0 0 (Int.ofNat (Sl.n s0)) (0 : Int) x0 s0 s1 ([] : List Value))))) fun _ _ => none)))))
def m13 (pu : PureF) (n : Nat) (args : List Value) : Option Value :=
  (ll args none fun a0 args => (ll args (oo (vAgg a0) none fun l0 => (ll l0 none fun v0 l0 => (ll l0 none fun v1 l0 => (ll l0 none fun v2 l0 => (ll l0 (oo (toI .i64 v0) none fun x0 => (oo (toSl 1 v1) none fun s0 => (oo (toSl 1 v2) none fun s1 => (m13_ pu n x0 s0 s1)))) fun _ _ => none))))) fun _ _ => none))
theorem w13_0 (pu : PureF) (n : Nat) (n0 : Nat) (c0 : Nat) (q0 : List Value) {v : Value} (hm : m13_0 pu n n0 c0 q0 = some v) : Run tt (callP tabs isP pu (inl pu)) 1 c13_37 (fr 47 [(6, (sc 1 0 2 n0 c0))]) (hp 2 [(oT tab0), (oC q0)]) (Fin tt 1 [.tmp 2, .tmp 3] v) := by
  unfold m13_0 at hm
  refine .then ?_
  refine .rK ?_
  replace hm := bb_inv hm; obtain ⟨h0, hm⟩ := hm
  refine .ghs (fr 47 [(2, (sc 1 0 2 n0 c0)), (3, (zI (0 : Int)))]) (hp 2 [(oT tab0), (oC q0)]) (.k [1] [false] [.tmp 2 false] [2, 3] ⟨trE (by kernel_rfl) h0, trivial⟩) ?_
  replace hm := bb_inv hm; obtain ⟨h1, hm⟩ := hm
  refine .ghs (Fr.puts (fr 47 [(2, (sc 1 0 2 n0 c0)), (3, (zI (0 : Int)))]) [(2, (Sl.v 2 (Sl.mk n0 0 (takeL (n0 * 2) (dropL 0 q0)))))]) (hp 2 [(oT tab0), .dead]) (.freezeC 1 2 2 (an (Nat.ble (0 + n0 * 2) (len q0)) (allL closed1 (takeL (n0 * 2) (dropL 0 q0)))) (F1 := (Fr.puts (fr 47 [(2, (sc 1 0 2 n0 c0)), (3, (zI (0 : Int)))]) [(2, (Sl.v 2 (Sl.mk n0 0 (takeL (n0 * 2) (dropL 0 q0)))))])) (H1 := (hp 2 [(oT tab0), .dead])) (by kernel_rfl) (by kernel_rfl) h1 (GhS.id _ _)) ?_
  refine .ret ?_
  exact fin_ret (.tuple ⟨[(Sl.v 2 (Sl.mk n0 0 (takeL (n0 * 2) (dropL 0 q0)))), (zI (0 : Int))]⟩) (by kernel_rfl) (by kernel_rfl) hm
theorem r13 {call : CallF} (pu : PureF) (n : Nat) (hcall : call = callP tabs isP pu (inl pu)) {args : List Value} {v : Value} (hm : m13 pu n args = some v) (_ : ∀ x ∈ args, closed2 x = true) : args.length ≤ 47 ∧ Run tt call 1 c13_42 (Fr.made 47 args) (pureHeap tabs) (Fin tt 1 [.tmp 2, .tmp 3] v) := by
  subst hcall
  unfold m13 at hm
  replace hm := ll_uncons hm; obtain ⟨a0, args_0, rfl, hm⟩ := hm
  replace hm := ll_end hm; obtain ⟨rfl, hm⟩ := hm
  replace hm := inv_vAgg hm; obtain ⟨l0, rfl, hm⟩ := hm
  replace hm := ll_uncons hm; obtain ⟨v0, l146_0, rfl, hm⟩ := hm
  replace hm := ll_uncons hm; obtain ⟨v1, l146_1, rfl, hm⟩ := hm
  replace hm := ll_uncons hm; obtain ⟨v2, l146_2, rfl, hm⟩ := hm
  replace hm := ll_end hm; obtain ⟨rfl, hm⟩ := hm
  replace hm := inv_toI hm; obtain ⟨x0, rfl, hm⟩ := hm
  replace hm := inv_toSl hm; obtain ⟨s0, rfl, hm⟩ := hm
  replace hm := inv_toSl hm; obtain ⟨s1, rfl, hm⟩ := hm
  unfold m13_ at hm
  refine ⟨by simp, ?_⟩
  refine .same (F' := (fr 47 [(0, (.agg ⟨[(zI x0), (Sl.v 1 s0), (Sl.v 1 s1)]⟩))])) (H' := (hp 1 [(oT tab0)])) (by kernel_rfl) (by kernel_rfl) ?_
  refine .then ?_
  refine .rK ?_
  refine .ghs (fr 47 [(1, (pt 1 0))]) (hp 2 [(oT tab0), (oC [(zI x0), (Sl.v 1 s0), (Sl.v 1 s1)])]) (.k0 [false] [.tmp 1 false] [1]) ?_
  refine .then ?_
  replace hm := oo_inv hm; obtain ⟨v3, h0, hm⟩ := hm
  replace hm := inv_vTup hm; obtain ⟨l1, rfl, hm⟩ := hm
  replace hm := ll_uncons hm; obtain ⟨v4, l169_0, rfl, hm⟩ := hm
  replace hm := ll_uncons hm; obtain ⟨v5, l169_1, rfl, hm⟩ := hm
  replace hm := ll_end hm; obtain ⟨rfl, hm⟩ := hm
  replace hm := inv_toI hm; obtain ⟨x1, rfl, hm⟩ := hm
  replace hm := inv_toI hm; obtain ⟨x2, rfl, hm⟩ := hm
  refine .reg (eC 1 ((oo (pu 29 [(.agg ⟨[(zI x0), (Sl.v 1 s0), (Sl.v 1 s1)]⟩)]) none fun v => some (v, (hp 2 [(oT tab0), (oC [(zI x0), (Sl.v 1 s0), (Sl.v 1 s1)])])))) (call_eq h0) (eE)) ?_
  refine .ghs (fr 47 [(1, (pt 1 0)), (4, (zI x1)), (5, (zI x2))]) (hp 2 [(oT tab0), (oC [(zI x0), (Sl.v 1 s0), (Sl.v 1 s1)])]) (.k0 [false] [.tmp 1 false] [1, 4, 5]) ?_
  refine .then ?_
  refine .then ?_
  refine .rK ?_
  refine .ghs (fr 47 [(1, (pt 1 0)), (4, (zI x1)), (5, (zI x2)), (15, (zB (nt (ieq x2 (0 : Int)))))]) (hp 2 [(oT tab0), (oC [(zI x0), (Sl.v 1 s0), (Sl.v 1 s1)])]) (.k0 [false] [.tmp 1 false] [1, 4, 5, 15]) ?_
  replace hm := bb_cases hm; rcases hm with ⟨h1, hm⟩ | ⟨h1, hm⟩
  · refine .ifT (nt (ieq x2 (0 : Int))) (by kernel_rfl) h1 ?_
    refine .then ?_
    refine .rK ?_
    refine .ghs (fr 47 [(2, (.slice none 0 0)), (3, (zI x2))]) (hp 1 [(oT tab0)]) (.k0 [false] [] [2, 3]) ?_
    refine .ghs (Fr.puts (fr 47 [(2, (.slice none 0 0)), (3, (zI x2))]) [(2, (Sl.v 2 (Sl.mk 0 2 [])))]) (hp 1 [(oT tab0)]) (.freeze 1 2 2 (by kernel_rfl) (by kernel_rfl) (GhS.id _ _)) ?_
    refine .ret ?_
    exact fin_ret (.tuple ⟨[(Sl.v 2 (Sl.mk 0 2 [])), (zI x2)]⟩) (by kernel_rfl) (by kernel_rfl) hm
  · refine .ifF (nt (ieq x2 (0 : Int))) (by kernel_rfl) h1 ?_
    refine .skip ?_
    refine .ghs (fr 47 [(1, (pt 1 0)), (4, (zI x1))]) (hp 2 [(oT tab0), (oC [(zI x0), (Sl.v 1 s0), (Sl.v 1 s1)])]) (.k0 [false] [.tmp 1 false] [1, 4]) ?_
    refine .then ?_
    refine .rK ?_
    refine .ghs (fr 47 [(1, (pt 1 0)), (4, (zI x1)), (6, (.slice none 0 0))]) (hp 2 [(oT tab0), (oC [(zI x0), (Sl.v 1 s0), (Sl.v 1 s1)])]) (.k0 [false] [.tmp 1 false] [1, 4, 6]) ?_
    refine .join (v := v) (fun y : Nat × Nat × List Value => ((fr 47 [(6, (sc 1 0 2 y.1 y.2.1))]), (hp 2 [(oT tab0), (oC y.2.2)]))) (fun y => m13_0 pu n y.1 y.2.1 y.2.2) ?_ ?_
    · rintro ⟨n0, c0, q0⟩ hm
      exact w13_0 pu n n0 c0 q0 hm
    · refine .then ?_
      refine .rK ?_
      refine .ghs (fr 47 [(1, (pt 1 0)), (4, (zI x1)), (6, (.slice none 0 0)), (19, (zI (Int.ofNat (Sl.n s0)))), (20, (zI (0 : Int)))]) (hp 2 [(oT tab0), (oC [(zI x0), (Sl.v 1 s0), (Sl.v 1 s1)])]) (.k0 [false] [.tmp 1 false] [1, 4, 6, 19, 20]) ?_
      refine .block ?_
      refine .loopM (v := v) (fun y : Int × Nat × Nat × Int × Int × Int × Sl × Sl × List Value => ((fr 47 [(1, (pt 1 0)), (4, (zI y.1)), (6, (sc 2 0 2 y.2.1 y.2.2.1)), (19, (zI y.2.2.2.1)), (20, (zI y.2.2.2.2.1))]), (hp 3 [(oT tab0), (oC [(zI y.2.2.2.2.2.1), (Sl.v 1 y.2.2.2.2.2.2.1), (Sl.v 1 y.2.2.2.2.2.2.2.1)]), (oC y.2.2.2.2.2.2.2.2)]))) (fun w y => l13_1 pu n w y.1 y.2.1 y.2.2.1 y.2.2.2.1 y.2.2.2.2.1 y.2.2.2.2.2.1 y.2.2.2.2.2.2.1 y.2.2.2.2.2.2.2.1 y.2.2.2.2.2.2.2.2) n ⟨(x1, 0, 0, (Int.ofNat (Sl.n s0)), (0 : Int), x0, s0, s1, ([] : List Value)), hm, (.thaw 6 2 (by kernel_rfl) (.k0 [false] [.tmp 1 false, .tmp 6 false] [1, 4, 6, 19, 20]))⟩ (fun _ => rfl) ?_
      rintro w0 ⟨z0, n1, c1, z1, z2, z3, s2, s3, q1⟩ hm
      replace hm : b13_1 pu n (l13_1 pu n w0) z0 n1 c1 z1 z2 z3 s2 s3 q1 = some v := hm
      unfold b13_1 at hm
      refine .then ?_
      refine .rK ?_
      replace hm := bb_inv hm; obtain ⟨h2, hm⟩ := hm
      refine .ghs (fr 47 [(1, (pt 1 0)), (4, (zI z0)), (6, (sc 2 0 2 n1 c1)), (19, (zI z1)), (20, (zI z2)), (21, (zB (ilt z2 z1)))]) (hp 3 [(oT tab0), (oC [(zI z3), (Sl.v 1 s2), (Sl.v 1 s3)]), (oC q1)]) (.k [2] [false] [.tmp 1 false, .tmp 6 false] [1, 4, 6, 19, 20, 21] ⟨trE (by kernel_rfl) h2, trivial⟩) ?_
      refine .then ?_
      replace hm := bb_cases hm; rcases hm with ⟨h3, hm⟩ | ⟨h3, hm⟩
      · refine .ifT (ilt z2 z1) (by kernel_rfl) h3 ?_
        refine .skip ?_
        refine .ghs (fr 47 [(1, (pt 1 0)), (4, (zI z0)), (6, (sc 2 0 2 n1 c1)), (19, (zI z1)), (20, (zI z2))]) (hp 3 [(oT tab0), (oC [(zI z3), (Sl.v 1 s2), (Sl.v 1 s3)]), (oC q1)]) (.k [2] [false] [.tmp 1 false, .tmp 6 false] [1, 4, 6, 19, 20] ⟨trE (by kernel_rfl) h2, trivial⟩) ?_
        refine .join (v := v) (fun y : Int × Nat × Nat × Int × Int × Int × Sl × Sl × List Value => ((fr 47 [(1, (pt 1 0)), (4, (zI y.1)), (6, (sc 2 0 2 y.2.1 y.2.2.1)), (19, (zI y.2.2.2.1)), (20, (zI y.2.2.2.2.1))]), (hp 3 [(oT tab0), (oC [(zI y.2.2.2.2.2.1), (Sl.v 1 y.2.2.2.2.2.2.1), (Sl.v 1 y.2.2.2.2.2.2.2.1)]), (oC y.2.2.2.2.2.2.2.2)]))) (fun y => m13_2 pu n (l13_1 pu n w0) y.1 y.2.1 y.2.2.1 y.2.2.2.1 y.2.2.2.2.1 y.2.2.2.2.2.1 y.2.2.2.2.2.2.1 y.2.2.2.2.2.2.2.1 y.2.2.2.2.2.2.2.2) ?_ ?_
        · rintro ⟨z4, n2, c2, z5, z6, z7, s4, s5, q2⟩ hm
          unfold m13_2 at hm
          refine .rK ?_
          replace hm := bb_inv hm; obtain ⟨h4, hm⟩ := hm
          exact ⟨(z4, n2, c2, z5, (wrapF .i64 (Int.add z6 (1 : Int))), z7, s4, s5, q2), hm, (.k [2] [false] [.tmp 1 false, .tmp 6 false] [1, 4, 6, 19, 20] ⟨trE (by kernel_rfl) h4, trivial⟩)⟩
        · refine .block ?_
          refine .then ?_
          refine .rK ?_
          refine .ghs (fr 47 [(1, (pt 1 0)), (4, (zI z0)), (6, (sc 2 0 2 n1 c1)), (7, (zI z2)), (19, (zI z1)), (20, (zI z2))]) (hp 3 [(oT tab0), (oC [(zI z3), (Sl.v 1 s2), (Sl.v 1 s3)]), (oC q1)]) (.k [2] [false] [.tmp 1 false, .tmp 6 false] [1, 4, 6, 7, 19, 20] ⟨trE (by kernel_rfl) h2, trivial⟩) ?_
          refine .then ?_
          refine .rK ?_
          refine .ghs (fr 47 [(1, (pt 1 0)), (4, (zI z0)), (6, (sc 2 0 2 n1 c1)), (7, (zI z2)), (8, (zI (wrapF .i64 (Int.add z2 (1 : Int))))), (19, (zI z1)), (20, (zI z2))]) (hp 3 [(oT tab0), (oC [(zI z3), (Sl.v 1 s2), (Sl.v 1 s3)]), (oC q1)]) (.k [2] [false] [.tmp 1 false, .tmp 6 false] [1, 4, 6, 7, 8, 19, 20] ⟨trE (by kernel_rfl) h2, trivial⟩) ?_
          refine .block ?_
          refine .loopM (v := v) (fun y : Int × Nat × Nat × Int × Int × Int × Int × Int × Sl × Sl × List Value => ((fr 47 [(1, (pt 1 0)), (4, (zI y.1)), (6, (sc 2 0 2 y.2.1 y.2.2.1)), (7, (zI y.2.2.2.1)), (8, (zI y.2.2.2.2.1)), (19, (zI y.2.2.2.2.2.1)), (20, (zI y.2.2.2.2.2.2.1))]), (hp 3 [(oT tab0), (oC [(zI y.2.2.2.2.2.2.2.1), (Sl.v 1 y.2.2.2.2.2.2.2.2.1), (Sl.v 1 y.2.2.2.2.2.2.2.2.2.1)]), (oC y.2.2.2.2.2.2.2.2.2.2)]))) (fun w y => l13_3 pu n (l13_1 pu n w0) w y.1 y.2.1 y.2.2.1 y.2.2.2.1 y.2.2.2.2.1 y.2.2.2.2.2.1 y.2.2.2.2.2.2.1 y.2.2.2.2.2.2.2.1 y.2.2.2.2.2.2.2.2.1 y.2.2.2.2.2.2.2.2.2.1 y.2.2.2.2.2.2.2.2.2.2) n ⟨(z0, n1, c1, z2, (wrapF .i64 (Int.add z2 (1 : Int))), z1, z2, z3, s2, s3, q1), hm, (.k [2] [false] [.tmp 1 false, .tmp 6 false] [1, 4, 6, 7, 8, 19, 20] ⟨trE (by kernel_rfl) h2, trivial⟩)⟩ (fun _ => rfl) ?_
          rintro w1 ⟨z8, n3, c4, z9, z10, z11, z12, z13, s6, s7, q3⟩ hm
          replace hm : b13_3 pu n (l13_1 pu n w0) (l13_3 pu n (l13_1 pu n w0) w1) z8 n3 c4 z9 z10 z11 z12 z13 s6 s7 q3 = some v := hm
          unfold b13_3 at hm
          refine .then ?_
          refine .then ?_
          refine .rK ?_
          replace hm := bb_inv hm; obtain ⟨h5, hm⟩ := hm
          refine .ghs (fr 47 [(1, (pt 1 0)), (4, (zI z8)), (6, (sc 2 0 2 n3 c4)), (7, (zI z9)), (8, (zI z10)), (19, (zI z11)), (20, (zI z12)), (29, (zB (ilt z10 (Int.ofNat (Sl.n s6)))))]) (hp 3 [(oT tab0), (oC [(zI z13), (Sl.v 1 s6), (Sl.v 1 s7)]), (oC q3)]) (.k [2] [false] [.tmp 1 false, .tmp 6 false] [1, 4, 6, 7, 8, 19, 20, 29] ⟨trE (by kernel_rfl) h5, trivial⟩) ?_
          replace hm := bb_cases hm; rcases hm with ⟨h6, hm⟩ | ⟨h6, hm⟩
          · refine .ifT (ilt z10 (Int.ofNat (Sl.n s6))) (by kernel_rfl) h6 ?_
            refine .skip ?_
            refine .ghs (fr 47 [(1, (pt 1 0)), (4, (zI z8)), (6, (sc 2 0 2 n3 c4)), (7, (zI z9)), (8, (zI z10)), (19, (zI z11)), (20, (zI z12))]) (hp 3 [(oT tab0), (oC [(zI z13), (Sl.v 1 s6), (Sl.v 1 s7)]), (oC q3)]) (.k [2] [false] [.tmp 1 false, .tmp 6 false] [1, 4, 6, 7, 8, 19, 20] ⟨trE (by kernel_rfl) h5, trivial⟩) ?_
            refine .join (v := v) (fun y : Int × Nat × Nat × Int × Int × Int × Int × Int × Sl × Sl × List Value => ((fr 47 [(1, (pt 1 0)), (4, (zI y.1)), (6, (sc 2 0 2 y.2.1 y.2.2.1)), (7, (zI y.2.2.2.1)), (8, (zI y.2.2.2.2.1)), (19, (zI y.2.2.2.2.2.1)), (20, (zI y.2.2.2.2.2.2.1))]), (hp 3 [(oT tab0), (oC [(zI y.2.2.2.2.2.2.2.1), (Sl.v 1 y.2.2.2.2.2.2.2.2.1), (Sl.v 1 y.2.2.2.2.2.2.2.2.2.1)]), (oC y.2.2.2.2.2.2.2.2.2.2)]))) (fun y => m13_4 pu n (l13_1 pu n w0) (l13_3 pu n (l13_1 pu n w0) w1) y.1 y.2.1 y.2.2.1 y.2.2.2.1 y.2.2.2.2.1 y.2.2.2.2.2.1 y.2.2.2.2.2.2.1 y.2.2.2.2.2.2.2.1 y.2.2.2.2.2.2.2.2.1 y.2.2.2.2.2.2.2.2.2.1 y.2.2.2.2.2.2.2.2.2.2) ?_ ?_
            · rintro ⟨z14, n4, c5, z15, z16, z17, z18, z19, s8, s9, q4⟩ hm
              unfold m13_4 at hm
              refine .rK ?_
              replace hm := bb_inv hm; obtain ⟨h7, hm⟩ := hm
              exact ⟨(z14, n4, c5, z15, (wrapF .i64 (Int.add z16 (1 : Int))), z17, z18, z19, s8, s9, q4), hm, (.k [2] [false] [.tmp 1 false, .tmp 6 false] [1, 4, 6, 7, 8, 19, 20] ⟨trE (by kernel_rfl) h7, trivial⟩)⟩
            · refine .block ?_
              refine .then ?_
              replace hm := oo_inv hm; obtain ⟨v6, h8, hm⟩ := hm
              replace hm := inv_vAgg hm; obtain ⟨l2, rfl, hm⟩ := hm
              replace hm := ll_uncons hm; obtain ⟨v7, l610_0, rfl, hm⟩ := hm
              replace hm := ll_uncons hm; obtain ⟨v8, l610_1, rfl, hm⟩ := hm
              replace hm := ll_uncons hm; obtain ⟨v9, l610_2, rfl, hm⟩ := hm
              replace hm := ll_end hm; obtain ⟨rfl, hm⟩ := hm
              replace hm := inv_toI hm; obtain ⟨x3, rfl, hm⟩ := hm
              replace hm := inv_toSl hm; obtain ⟨s10, rfl, hm⟩ := hm
              replace hm := inv_toSl hm; obtain ⟨s11, rfl, hm⟩ := hm
              replace hm := oo_inv hm; obtain ⟨v10, h9, hm⟩ := hm
              replace hm := inv_toI hm; obtain ⟨x4, rfl, hm⟩ := hm
              refine .reg (eC 3 ((oo (pu 43 [(.agg ⟨[(zI z13), (Sl.v 1 s6), (Sl.v 1 s7)]⟩), (zI z9), (zI z10)]) none fun v => some (v, (hp 3 [(oT tab0), (oC [(zI z13), (Sl.v 1 s6), (Sl.v 1 s7)]), (oC q3)])))) (call_eq h8) (eD ((oo (pu 44 [(.agg ⟨[(zI x3), (Sl.v 1 s10), (Sl.v 1 s11)]⟩)]) none fun v => some (v, (hp 3 [(oT tab0), (oC [(zI z13), (Sl.v 1 s6), (Sl.v 1 s7)]), (oC q3)])))) (call_eq h9) (eE))) ?_
              refine .ghs (fr 47 [(1, (pt 1 0)), (4, (zI z8)), (6, (sc 2 0 2 n3 c4)), (7, (zI z9)), (8, (zI z10)), (19, (zI z11)), (20, (zI z12)), (38, (zB (ilt x4 z8)))]) (hp 3 [(oT tab0), (oC [(zI z13), (Sl.v 1 s6), (Sl.v 1 s7)]), (oC q3)]) (.k [2] [false] [.tmp 1 false, .tmp 6 false] [1, 4, 6, 7, 8, 19, 20, 38] ⟨trE (by kernel_rfl) h5, trivial⟩) ?_
              replace hm := bb_cases hm; rcases hm with ⟨h10, hm⟩ | ⟨h10, hm⟩
              · refine .ifT (ilt x4 z8) (by kernel_rfl) h10 ?_
                replace hm := bb_inv hm; obtain ⟨h11, hm⟩ := hm
                refine .reg (eC 5 (growD 2 16 n3 c4 1 2 q3 [(zI z9), (zI z10)] [] (hp 4 [(oT tab0), (oC [(zI z13), (Sl.v 1 s6), (Sl.v 1 s7)]), (oC q3), (oC [(zI z9), (zI z10)])])) (growD_eq h11) (eE)) ?_
                replace hm := bb_inv hm; obtain ⟨h12, hm⟩ := hm
                exact ⟨(z8, (n3 + 1), (d2 (n3 + 1)), z9, z10, z11, z12, z13, s6, s7, (appL (dropL 0 q3) [(zI z9), (zI z10)])), hm, (.k [4] [false] [.tmp 1 false, .tmp 6 false] [1, 4, 6, 7, 8, 19, 20] ⟨trE (by kernel_rfl) h12, trivial⟩)⟩
              · refine .ifF (ilt x4 z8) (by kernel_rfl) h10 ?_
                refine .skip ?_
                exact ⟨(z8, n3, c4, z9, z10, z11, z12, z13, s6, s7, q3), hm, (.k [2] [false] [.tmp 1 false, .tmp 6 false] [1, 4, 6, 7, 8, 19, 20] ⟨trE (by kernel_rfl) h5, trivial⟩)⟩
          · refine .ifF (ilt z10 (Int.ofNat (Sl.n s6))) (by kernel_rfl) h6 ?_
            refine .exit ?_
            exact ⟨(z8, n3, c4, z11, z12, z13, s6, s7, q3), hm, (.k [2] [false] [.tmp 1 false, .tmp 6 false] [1, 4, 6, 19, 20] ⟨trE (by kernel_rfl) h5, trivial⟩)⟩
      · refine .ifF (ilt z2 z1) (by kernel_rfl) h3 ?_
        refine .exit ?_
        exact ⟨(n1, c1, q1), hm, (.k [2] [false] [.tmp 6 false] [6] ⟨trE (by kernel_rfl) h2, trivial⟩)⟩
def m14_0 (pu : PureF) (n : Nat) (n0 : Nat) (c0 : Nat) (q0 : List Value) : Option Value :=
  (bb (allL closed1 q0) (bb (an (Nat.ble (0 + n0 * 2) (len q0)) (allL closed1 (takeL (n0 * 2) (dropL 0 q0)))) (some (.tuple ⟨[(Sl.v 2 (Sl.mk n0 0 (takeL (n0 * 2) (dropL 0 q0)))), (.int .i64 (0 : Int))]⟩)) none) none)
def m14_2 (pu : PureF) (n : Nat) (ih0 : Int → Nat → Nat → Int → Int → Sl → Sl → List Value → Option Value) (z0 : Int) (n0 : Nat) (c0 : Nat) (z1 : Int) (z2 : Int) (s0 : Sl) (s1 : Sl) (q0 : List Value) : Option Value :=
  (bb (allL closed1 q0) (ih0 z0 n0 c0 (wrapF .i64 (Int.add z1 (1 : Int))) z2 s0 s1 q0) none)
def m14_4 (pu : PureF) (n : Nat) (ih0 : Int → Nat → Nat → Int → Int → Sl → Sl → List Value → Option Value) (ih1 : Int → Nat → Nat → Int → Int → Int → Sl → Sl → List Value → Option Value) (z0 : Int) (n0 : Nat) (c0 : Nat) (z1 : Int) (z2 : Int) (z3 : Int) (s0 : Sl) (s1 : Sl) (q0 : List Value) : Option Value :=
  (bb (allL closed1 q0) (ih1 z0 n0 c0 z1 (wrapF .i64 (Int.add z2 (1 : Int))) z3 s0 s1 q0) none)
def b14_3 (pu : PureF) (n : Nat) (ih0 : Int → Nat → Nat → Int → Int → Sl → Sl → List Value → Option Value) (ih1 : Int → Nat → Nat → Int → Int → Int → Sl → Sl → List Value → Option Value) (z0 : Int) (n0 : Nat) (c0 : Nat) (z1 : Int) (z2 : Int) (z3 : Int) (s0 : Sl) (s1 : Sl) (q0 : List Value) : Option Value :=
  (bb (allL closed1 q0) (bb (ilt z2 (Int.ofNat (Sl.n s0))) (oo (pu 46 [(.agg ⟨[(.int .i64 z3), (Sl.v 1 s0), (Sl.v 1 s1)]⟩), (.int .i64 z1), (.int .i64 z2)]) none fun v0 => (oo (vAgg v0) none fun l0 => (ll l0 none fun v1 l0 => (ll l0 none fun v2 l0 => (ll l0 none fun v3 l0 => (ll l0 (oo (toI .i64 v1) none fun x0 => (oo (toSl 1 v2) none fun s2 => (oo (toSl 1 v3) none fun s3 => (oo (pu 45 [(.agg ⟨[(.int .i64 x0), (Sl.v 1 s2), (Sl.v 1 s3)]⟩)]) none fun v4 => (oo (toI .i64 v4) none fun x1 => (bb (ilt x1 z0) (bb (growC 2 16 n0 c0 1 q0) (bb (allL closed1 (appL (dropL 0 q0) [(.int .i64 z1), (.int .i64 z2)])) (m14_4 pu n ih0 ih1 z0 (n0 + 1) (2 * (n0 + 1) + bb false 1 0) z1 z2 z3 s0 s1 (appL (dropL 0 q0) [(.int .i64 z1), (.int .i64 z2)])) none) none) (m14_4 pu n ih0 ih1 z0 n0 c0 z1 z2 z3 s0 s1 q0))))))) fun _ _ => none)))))) (m14_2 pu n ih0 z0 n0 c0 z1 z3 s0 s1 q0)) none)
def l14_3 (pu : PureF) (n : Nat) (ih0 : Int → Nat → Nat → Int → Int → Sl → Sl → List Value → Option Value) (w : Nat) : Int → Nat → Nat → Int → Int → Int → Sl → Sl → List Value → Option Value :=
  Nat.rec (motive := fun _ => Int → Nat → Nat → Int → Int → Int → Sl → Sl → List Value → Option Value) (fun _ _ _ _ _ _ _ _ _ => none) (fun _ ih1 => b14_3 pu n ih0 ih1) w
def b14_1 (pu : PureF) (n : Nat) (ih0 : Int → Nat → Nat → Int → Int → Sl → Sl → List Value → Option Value) (z0 : Int) (n0 : Nat) (c0 : Nat) (z1 : Int) (z2 : Int) (s0 : Sl) (s1 : Sl) (q0 : List Value) : Option Value :=
  (bb (allL closed1 q0) (bb (ilt z1 (Int.ofNat (Sl.n s0))) (l14_3 pu n ih0 n z0 n0 c0 z1 (wrapF .i64 (Int.add z1 (1 : Int))) z2 s0 s1 q0) (m14_0 pu n n0 c0 q0)) none)
def l14_1 (pu : PureF) (n : Nat) (w : Nat) : Int → Nat → Nat → Int → Int → Sl → Sl → List Value → Option Value :=
  Nat.rec (motive := fun _ => Int → Nat → Nat → Int → Int → Sl → Sl → List Value → Option Value) (fun _ _ _ _ _ _ _ _ => none) (fun _ ih0 => b14_1 pu n ih0) w
def m14_ (pu : PureF) (n : Nat) (x0 : Int) (s0 : Sl) (s1 : Sl) : Option Value :=
  (oo (pu 32 [(.agg ⟨[(.int .i64 x0), (Sl.v 1 s0), (Sl.v 1 s1)]⟩)]) none fun v0 => (oo (vTup v0) none fun l0 => (ll l0 none fun v1 l0 => (ll l0 none fun v2 l0 => (ll l0 (oo (toI .i64 v1) none fun x1 => (oo (toI .i64 v2) none fun x2 => (bb (nt (ieq x2 (0 : Int))) (some (.tuple ⟨[(Sl.v 2 (Sl.mk 0 2 [])), (.int .i64 x2)]⟩)) (l14_1 pu n n x1 0 0 (0 : Int) x0 s0 s1 ([] : List Value))))) fun _ _ => none)))))
def m14 (pu : PureF) (n : Nat) (args : List Value) : Option Value :=
  (ll args none fun a0 args => (ll args (oo (vAgg a0) none fun l0 => (ll l0 none fun v0 l0 => (ll l0 none fun v1 l0 => (ll l0 none fun v2 l0 => (ll l0 (oo (toI .i64 v0) none fun x0 => (oo (toSl 1 v1) none fun s0 => (oo (toSl 1 v2) none fun s1 => (m14_ pu n x0 s0 s1)))) fun _ _ => none))))) fun _ _ => none))
theorem w14_0 (pu : PureF) (n : Nat) (n0 : Nat) (c0 : Nat) (q0 : List Value) {v : Value} (hm : m14_0 pu n n0 c0 q0 = some v) : Run tt (callP tabs isP pu (inl pu)) 1 c14_35 (fr 47 [(6, (sc 1 0 2 n0 c0))]) (hp 2 [(oT tab0), (oC q0)]) (Fin tt 1 [.tmp 2, .tmp 3] v) := by
  unfold m14_0 at hm
  refine .then ?_
  refine .rK ?_
  replace hm := bb_inv hm; obtain ⟨h0, hm⟩ := hm
  refine .ghs (fr 47 [(2, (sc 1 0 2 n0 c0)), (3, (zI (0 : Int)))]) (hp 2 [(oT tab0), (oC q0)]) (.k [1] [false] [.tmp 2 false] [2, 3] ⟨trE (by kernel_rfl) h0, trivial⟩) ?_
  replace hm := bb_inv hm; obtain ⟨h1, hm⟩ := hm
  refine .ghs (Fr.puts (fr 47 [(2, (sc 1 0 2 n0 c0)), (3, (zI (0 : Int)))]) [(2, (Sl.v 2 (Sl.mk n0 0 (takeL (n0 * 2) (dropL 0 q0)))))]) (hp 2 [(oT tab0), .dead]) (.freezeC 1 2 2 (an (Nat.ble (0 + n0 * 2) (len q0)) (allL closed1 (takeL (n0 * 2) (dropL 0 q0)))) (F1 := (Fr.puts (fr 47 [(2, (sc 1 0 2 n0 c0)), (3, (zI (0 : Int)))]) [(2, (Sl.v 2 (Sl.mk n0 0 (takeL (n0 * 2) (dropL 0 q0)))))])) (H1 := (hp 2 [(oT tab0), .dead])) (by kernel_rfl) (by kernel_rfl) h1 (GhS.id _ _)) ?_
  refine .ret ?_
  exact fin_ret (.tuple ⟨[(Sl.v 2 (Sl.mk n0 0 (takeL (n0 * 2) (dropL 0 q0)))), (zI (0 : Int))]⟩) (by kernel_rfl) (by kernel_rfl) hm
theorem r14 {call : CallF} (pu : PureF) (n : Nat) (hcall : call = callP tabs isP pu (inl pu)) {args : List Value} {v : Value} (hm : m14 pu n args = some v) (_ : ∀ x ∈ args, closed2 x = true) : args.length ≤ 47 ∧ Run tt call 1 c14_40 (Fr.made 47 args) (pureHeap tabs) (Fin tt 1 [.tmp 2, .tmp 3] v) := by
  subst hcall
  unfold m14 at hm
  replace hm := ll_uncons hm; obtain ⟨a0, args_0, rfl, hm⟩ := hm
  replace hm := ll_end hm; obtain ⟨rfl, hm⟩ := hm
  replace hm := inv_vAgg hm; obtain ⟨l0, rfl, hm⟩ := hm
  replace hm := ll_uncons hm; obtain ⟨v0, l629_0, rfl, hm⟩ := hm
  replace hm := ll_uncons hm; obtain ⟨v1, l629_1, rfl, hm⟩ := hm
  replace hm := ll_uncons hm; obtain ⟨v2, l629_2, rfl, hm⟩ := hm
  replace hm := ll_end hm; obtain ⟨rfl, hm⟩ := hm
  replace hm := inv_toI hm; obtain ⟨x0, rfl, hm⟩ := hm
  replace hm := inv_toSl hm; obtain ⟨s0, rfl, hm⟩ := hm
  replace hm := inv_toSl hm; obtain ⟨s1, rfl, hm⟩ := hm
  unfold m14_ at hm
  refine ⟨by simp, ?_⟩
  refine .same (F' := (fr 47 [(0, (.agg ⟨[(zI x0), (Sl.v 1 s0), (Sl.v 1 s1)]⟩))])) (H' := (hp 1 [(oT tab0)])) (by kernel_rfl) (by kernel_rfl) ?_
  refine .then ?_
  refine .rK ?_
  refine .ghs (fr 47 [(1, (pt 1 0))]) (hp 2 [(oT tab0), (oC [(zI x0), (Sl.v 1 s0), (Sl.v 1 s1)])]) (.k0 [false] [.tmp 1 false] [1]) ?_
  refine .then ?_
  replace hm := oo_inv hm; obtain ⟨v3, h0, hm⟩ := hm
  replace hm := inv_vTup hm; obtain ⟨l1, rfl, hm⟩ := hm
  replace hm := ll_uncons hm; obtain ⟨v4, l652_0, rfl, hm⟩ := hm
  replace hm := ll_uncons hm; obtain ⟨v5, l652_1, rfl, hm⟩ := hm
  replace hm := ll_end hm; obtain ⟨rfl, hm⟩ := hm
  replace hm := inv_toI hm; obtain ⟨x1, rfl, hm⟩ := hm
  replace hm := inv_toI hm; obtain ⟨x2, rfl, hm⟩ := hm
  refine .reg (eC 1 ((oo (pu 32 [(.agg ⟨[(zI x0), (Sl.v 1 s0), (Sl.v 1 s1)]⟩)]) none fun v => some (v, (hp 2 [(oT tab0), (oC [(zI x0), (Sl.v 1 s0), (Sl.v 1 s1)])])))) (call_eq h0) (eE)) ?_
  refine .ghs (fr 47 [(1, (pt 1 0)), (4, (zI x1)), (5, (zI x2))]) (hp 2 [(oT tab0), (oC [(zI x0), (Sl.v 1 s0), (Sl.v 1 s1)])]) (.k0 [false] [.tmp 1 false] [1, 4, 5]) ?_
  refine .then ?_
  refine .then ?_
  refine .rK ?_
  refine .ghs (fr 47 [(1, (pt 1 0)), (4, (zI x1)), (5, (zI x2)), (15, (zB (nt (ieq x2 (0 : Int)))))]) (hp 2 [(oT tab0), (oC [(zI x0), (Sl.v 1 s0), (Sl.v 1 s1)])]) (.k0 [false] [.tmp 1 false] [1, 4, 5, 15]) ?_
  replace hm := bb_cases hm; rcases hm with ⟨h1, hm⟩ | ⟨h1, hm⟩
  · refine .ifT (nt (ieq x2 (0 : Int))) (by kernel_rfl) h1 ?_
    refine .then ?_
    refine .rK ?_
    refine .ghs (fr 47 [(2, (.slice none 0 0)), (3, (zI x2))]) (hp 1 [(oT tab0)]) (.k0 [false] [] [2, 3]) ?_
    refine .ghs (Fr.puts (fr 47 [(2, (.slice none 0 0)), (3, (zI x2))]) [(2, (Sl.v 2 (Sl.mk 0 2 [])))]) (hp 1 [(oT tab0)]) (.freeze 1 2 2 (by kernel_rfl) (by kernel_rfl) (GhS.id _ _)) ?_
    refine .ret ?_
    exact fin_ret (.tuple ⟨[(Sl.v 2 (Sl.mk 0 2 [])), (zI x2)]⟩) (by kernel_rfl) (by kernel_rfl) hm
  · refine .ifF (nt (ieq x2 (0 : Int))) (by kernel_rfl) h1 ?_
    refine .skip ?_
    refine .ghs (fr 47 [(1, (pt 1 0)), (4, (zI x1))]) (hp 2 [(oT tab0), (oC [(zI x0), (Sl.v 1 s0), (Sl.v 1 s1)])]) (.k0 [false] [.tmp 1 false] [1, 4]) ?_
    refine .then ?_
    refine .rK ?_
    refine .ghs (fr 47 [(1, (pt 1 0)), (4, (zI x1)), (6, (.slice none 0 0))]) (hp 2 [(oT tab0), (oC [(zI x0), (Sl.v 1 s0), (Sl.v 1 s1)])]) (.k0 [false] [.tmp 1 false] [1, 4, 6]) ?_
    refine .join (v := v) (fun y : Nat × Nat × List Value => ((fr 47 [(6, (sc 1 0 2 y.1 y.2.1))]), (hp 2 [(oT tab0), (oC y.2.2)]))) (fun y => m14_0 pu n y.1 y.2.1 y.2.2) ?_ ?_
    · rintro ⟨n0, c0, q0⟩ hm
      exact w14_0 pu n n0 c0 q0 hm
    · refine .then ?_
      refine .rK ?_
      refine .ghs (fr 47 [(1, (pt 1 0)), (4, (zI x1)), (6, (.slice none 0 0)), (7, (zI (0 : Int)))]) (hp 2 [(oT tab0), (oC [(zI x0), (Sl.v 1 s0), (Sl.v 1 s1)])]) (.k0 [false] [.tmp 1 false] [1, 4, 6, 7]) ?_
      refine .block ?_
      refine .loopM (v := v) (fun y : Int × Nat × Nat × Int × Int × Sl × Sl × List Value => ((fr 47 [(1, (pt 1 0)), (4, (zI y.1)), (6, (sc 2 0 2 y.2.1 y.2.2.1)), (7, (zI y.2.2.2.1))]), (hp 3 [(oT tab0), (oC [(zI y.2.2.2.2.1), (Sl.v 1 y.2.2.2.2.2.1), (Sl.v 1 y.2.2.2.2.2.2.1)]), (oC y.2.2.2.2.2.2.2)]))) (fun w y => l14_1 pu n w y.1 y.2.1 y.2.2.1 y.2.2.2.1 y.2.2.2.2.1 y.2.2.2.2.2.1 y.2.2.2.2.2.2.1 y.2.2.2.2.2.2.2) n ⟨(x1, 0, 0, (0 : Int), x0, s0, s1, ([] : List Value)), hm, (.thaw 6 2 (by kernel_rfl) (.k0 [false] [.tmp 1 false, .tmp 6 false] [1, 4, 6, 7]))⟩ (fun _ => rfl) ?_
      rintro w0 ⟨z0, n1, c1, z1, z2, s2, s3, q1⟩ hm
      replace hm : b14_1 pu n (l14_1 pu n w0) z0 n1 c1 z1 z2 s2 s3 q1 = some v := hm
      unfold b14_1 at hm
      refine .then ?_
      refine .then ?_
      refine .rK ?_
      replace hm := bb_inv hm; obtain ⟨h2, hm⟩ := hm
      refine .ghs (fr 47 [(1, (pt 1 0)), (4, (zI z0)), (6, (sc 2 0 2 n1 c1)), (7, (zI z1)), (21, (zB (ilt z1 (Int.ofNat (Sl.n s2)))))]) (hp 3 [(oT tab0), (oC [(zI z2), (Sl.v 1 s2), (Sl.v 1 s3)]), (oC q1)]) (.k [2] [false] [.tmp 1 false, .tmp 6 false] [1, 4, 6, 7, 21] ⟨trE (by kernel_rfl) h2, trivial⟩) ?_
      replace hm := bb_cases hm; rcases hm with ⟨h3, hm⟩ | ⟨h3, hm⟩
      · refine .ifT (ilt z1 (Int.ofNat (Sl.n s2))) (by kernel_rfl) h3 ?_
        refine .skip ?_
        refine .ghs (fr 47 [(1, (pt 1 0)), (4, (zI z0)), (6, (sc 2 0 2 n1 c1)), (7, (zI z1))]) (hp 3 [(oT tab0), (oC [(zI z2), (Sl.v 1 s2), (Sl.v 1 s3)]), (oC q1)]) (.k [2] [false] [.tmp 1 false, .tmp 6 false] [1, 4, 6, 7] ⟨trE (by kernel_rfl) h2, trivial⟩) ?_
        refine .join (v := v) (fun y : Int × Nat × Nat × Int × Int × Sl × Sl × List Value => ((fr 47 [(1, (pt 1 0)), (4, (zI y.1)), (6, (sc 2 0 2 y.2.1 y.2.2.1)), (7, (zI y.2.2.2.1))]), (hp 3 [(oT tab0), (oC [(zI y.2.2.2.2.1), (Sl.v 1 y.2.2.2.2.2.1), (Sl.v 1 y.2.2.2.2.2.2.1)]), (oC y.2.2.2.2.2.2.2)]))) (fun y => m14_2 pu n (l14_1 pu n w0) y.1 y.2.1 y.2.2.1 y.2.2.2.1 y.2.2.2.2.1 y.2.2.2.2.2.1 y.2.2.2.2.2.2.1 y.2.2.2.2.2.2.2) ?_ ?_
        · rintro ⟨z3, n2, c2, z4, z5, s4, s5, q2⟩ hm
          unfold m14_2 at hm
          refine .rK ?_
          replace hm := bb_inv hm; obtain ⟨h4, hm⟩ := hm
          exact ⟨(z3, n2, c2, (wrapF .i64 (Int.add z4 (1 : Int))), z5, s4, s5, q2), hm, (.k [2] [false] [.tmp 1 false, .tmp 6 false] [1, 4, 6, 7] ⟨trE (by kernel_rfl) h4, trivial⟩)⟩
        · refine .block ?_
          refine .then ?_
          refine .rK ?_
          refine .ghs (fr 47 [(1, (pt 1 0)), (4, (zI z0)), (6, (sc 2 0 2 n1 c1)), (7, (zI z1)), (8, (zI (wrapF .i64 (Int.add z1 (1 : Int)))))]) (hp 3 [(oT tab0), (oC [(zI z2), (Sl.v 1 s2), (Sl.v 1 s3)]), (oC q1)]) (.k [2] [false] [.tmp 1 false, .tmp 6 false] [1, 4, 6, 7, 8] ⟨trE (by kernel_rfl) h2, trivial⟩) ?_
          refine .block ?_
          refine .loopM (v := v) (fun y : Int × Nat × Nat × Int × Int × Int × Sl × Sl × List Value => ((fr 47 [(1, (pt 1 0)), (4, (zI y.1)), (6, (sc 2 0 2 y.2.1 y.2.2.1)), (7, (zI y.2.2.2.1)), (8, (zI y.2.2.2.2.1))]), (hp 3 [(oT tab0), (oC [(zI y.2.2.2.2.2.1), (Sl.v 1 y.2.2.2.2.2.2.1), (Sl.v 1 y.2.2.2.2.2.2.2.1)]), (oC y.2.2.2.2.2.2.2.2)]))) (fun w y => l14_3 pu n (l14_1 pu n w0) w y.1 y.2.1 y.2.2.1 y.2.2.2.1 y.2.2.2.2.1 y.2.2.2.2.2.1 y.2.2.2.2.2.2.1 y.2.2.2.2.2.2.2.1 y.2.2.2.2.2.2.2.2) n ⟨(z0, n1, c1, z1, (wrapF .i64 (Int.add z1 (1 : Int))), z2, s2, s3, q1), hm, (.k [2] [false] [.tmp 1 false, .tmp 6 false] [1, 4, 6, 7, 8] ⟨trE (by kernel_rfl) h2, trivial⟩)⟩ (fun _ => rfl) ?_
          rintro w1 ⟨z6, n3, c4, z7, z8, z9, s6, s7, q3⟩ hm
          replace hm : b14_3 pu n (l14_1 pu n w0) (l14_3 pu n (l14_1 pu n w0) w1) z6 n3 c4 z7 z8 z9 s6 s7 q3 = some v := hm
          unfold b14_3 at hm
          refine .then ?_
          refine .then ?_
          refine .rK ?_
          replace hm := bb_inv hm; obtain ⟨h5, hm⟩ := hm
          refine .ghs (fr 47 [(1, (pt 1 0)), (4, (zI z6)), (6, (sc 2 0 2 n3 c4)), (7, (zI z7)), (8, (zI z8)), (30, (zB (ilt z8 (Int.ofNat (Sl.n s6)))))]) (hp 3 [(oT tab0), (oC [(zI z9), (Sl.v 1 s6), (Sl.v 1 s7)]), (oC q3)]) (.k [2] [false] [.tmp 1 false, .tmp 6 false] [1, 4, 6, 7, 8, 30] ⟨trE (by kernel_rfl) h5, trivial⟩) ?_
          replace hm := bb_cases hm; rcases hm with ⟨h6, hm⟩ | ⟨h6, hm⟩
          · refine .ifT (ilt z8 (Int.ofNat (Sl.n s6))) (by kernel_rfl) h6 ?_
            refine .skip ?_
            refine .ghs (fr 47 [(1, (pt 1 0)), (4, (zI z6)), (6, (sc 2 0 2 n3 c4)), (7, (zI z7)), (8, (zI z8))]) (hp 3 [(oT tab0), (oC [(zI z9), (Sl.v 1 s6), (Sl.v 1 s7)]), (oC q3)]) (.k [2] [false] [.tmp 1 false, .tmp 6 false] [1, 4, 6, 7, 8] ⟨trE (by kernel_rfl) h5, trivial⟩) ?_
            refine .join (v := v) (fun y : Int × Nat × Nat × Int × Int × Int × Sl × Sl × List Value => ((fr 47 [(1, (pt 1 0)), (4, (zI y.1)), (6, (sc 2 0 2 y.2.1 y.2.2.1)), (7, (zI y.2.2.2.1)), (8, (zI y.2.2.2.2.1))]), (hp 3 [(oT tab0), (oC [(zI y.2.2.2.2.2.1), (Sl.v 1 y.2.2.2.2.2.2.1), (Sl.v 1 y.2.2.2.2.2.2.2.1)]), (oC y.2.2.2.2.2.2.2.2)]))) (fun y => m14_4 pu n (l14_1 pu n w0) (l14_3 pu n (l14_1 pu n w0) w1) y.1 y.2.1 y.2.2.1 y.2.2.2.1 y.2.2.2.2.1 y.2.2.2.2.2.1 y.2.2.2.2.2.2.1 y.2.2.2.2.2.2.2.1 y.2.2.2.2.2.2.2.2) ?_ ?_
            · rintro ⟨z10, n4, c5, z11, z12, z13, s8, s9, q4⟩ hm
              unfold m14_4 at hm
              refine .rK ?_
              replace hm := bb_inv hm; obtain ⟨h7, hm⟩ := hm
              exact ⟨(z10, n4, c5, z11, (wrapF .i64 (Int.add z12 (1 : Int))), z13, s8, s9, q4), hm, (.k [2] [false] [.tmp 1 false, .tmp 6 false] [1, 4, 6, 7, 8] ⟨trE (by kernel_rfl) h7, trivial⟩)⟩
            · refine .block ?_
              refine .then ?_
              replace hm := oo_inv hm; obtain ⟨v6, h8, hm⟩ := hm
              replace hm := inv_vAgg hm; obtain ⟨l2, rfl, hm⟩ := hm
              replace hm := ll_uncons hm; obtain ⟨v7, l1073_0, rfl, hm⟩ := hm
              replace hm := ll_uncons hm; obtain ⟨v8, l1073_1, rfl, hm⟩ := hm
              replace hm := ll_uncons hm; obtain ⟨v9, l1073_2, rfl, hm⟩ := hm
              replace hm := ll_end hm; obtain ⟨rfl, hm⟩ := hm
              replace hm := inv_toI hm; obtain ⟨x3, rfl, hm⟩ := hm
              replace hm := inv_toSl hm; obtain ⟨s10, rfl, hm⟩ := hm
              replace hm := inv_toSl hm; obtain ⟨s11, rfl, hm⟩ := hm
              replace hm := oo_inv hm; obtain ⟨v10, h9, hm⟩ := hm
              replace hm := inv_toI hm; obtain ⟨x4, rfl, hm⟩ := hm
              refine .reg (eC 3 ((oo (pu 46 [(.agg ⟨[(zI z9), (Sl.v 1 s6), (Sl.v 1 s7)]⟩), (zI z7), (zI z8)]) none fun v => some (v, (hp 3 [(oT tab0), (oC [(zI z9), (Sl.v 1 s6), (Sl.v 1 s7)]), (oC q3)])))) (call_eq h8) (eD ((oo (pu 45 [(.agg ⟨[(zI x3), (Sl.v 1 s10), (Sl.v 1 s11)]⟩)]) none fun v => some (v, (hp 3 [(oT tab0), (oC [(zI z9), (Sl.v 1 s6), (Sl.v 1 s7)]), (oC q3)])))) (call_eq h9) (eE))) ?_
              refine .ghs (fr 47 [(1, (pt 1 0)), (4, (zI z6)), (6, (sc 2 0 2 n3 c4)), (7, (zI z7)), (8, (zI z8)), (39, (zB (ilt x4 z6)))]) (hp 3 [(oT tab0), (oC [(zI z9), (Sl.v 1 s6), (Sl.v 1 s7)]), (oC q3)]) (.k [2] [false] [.tmp 1 false, .tmp 6 false] [1, 4, 6, 7, 8, 39] ⟨trE (by kernel_rfl) h5, trivial⟩) ?_
              replace hm := bb_cases hm; rcases hm with ⟨h10, hm⟩ | ⟨h10, hm⟩
              · refine .ifT (ilt x4 z6) (by kernel_rfl) h10 ?_
                replace hm := bb_inv hm; obtain ⟨h11, hm⟩ := hm
                refine .reg (eC 5 (growD 2 16 n3 c4 1 2 q3 [(zI z7), (zI z8)] [] (hp 4 [(oT tab0), (oC [(zI z9), (Sl.v 1 s6), (Sl.v 1 s7)]), (oC q3), (oC [(zI z7), (zI z8)])])) (growD_eq h11) (eE)) ?_
                replace hm := bb_inv hm; obtain ⟨h12, hm⟩ := hm
                exact ⟨(z6, (n3 + 1), (d2 (n3 + 1)), z7, z8, z9, s6, s7, (appL (dropL 0 q3) [(zI z7), (zI z8)])), hm, (.k [4] [false] [.tmp 1 false, .tmp 6 false] [1, 4, 6, 7, 8] ⟨trE (by kernel_rfl) h12, trivial⟩)⟩
              · refine .ifF (ilt x4 z6) (by kernel_rfl) h10 ?_
                refine .skip ?_
                exact ⟨(z6, n3, c4, z7, z8, z9, s6, s7, q3), hm, (.k [2] [false] [.tmp 1 false, .tmp 6 false] [1, 4, 6, 7, 8] ⟨trE (by kernel_rfl) h5, trivial⟩)⟩
          · refine .ifF (ilt z8 (Int.ofNat (Sl.n s6))) (by kernel_rfl) h6 ?_
            refine .exit ?_
            exact ⟨(z6, n3, c4, z7, z9, s6, s7, q3), hm, (.k [2] [false] [.tmp 1 false, .tmp 6 false] [1, 4, 6, 7] ⟨trE (by kernel_rfl) h5, trivial⟩)⟩
      · refine .ifF (ilt z1 (Int.ofNat (Sl.n s2))) (by kernel_rfl) h3 ?_
        refine .exit ?_
        exact ⟨(n1, c1, q1), hm, (.k [2] [false] [.tmp 6 false] [6] ⟨trE (by kernel_rfl) h2, trivial⟩)⟩
def m15_0 (pu : PureF) (n : Nat) : Option Value :=
  (some (.bool true))
def b15_1 (pu : PureF) (n : Nat) (ih0 : Sl → Sl → Int → Option Value) (s0 : Sl) (s1 : Sl) (z0 : Int) : Option Value :=
  (bb (ilt z0 (Int.ofNat (Sl.n s0))) (oo (toN z0) none fun k1 => (bb (an (Nat.blt k1 (Sl.n s0)) true) (bb (Nat.ble ((k1 * 2) + 2) (len (Sl.cs s0))) (oo (nthL (Sl.cs s0) (k1 * 2)) none fun v0 => (oo (toI .i64 v0) none fun x0 => (oo (nthL (Sl.cs s0) ((k1 * 2) + 1)) none fun v1 => (oo (toI .i64 v1) none fun x1 => (bb (an (Nat.blt k1 (Sl.n s1)) true) (bb (Nat.ble ((k1 * 2) + 2) (len (Sl.cs s1))) (oo (nthL (Sl.cs s1) (k1 * 2)) none fun v2 => (oo (toI .i64 v2) none fun x2 => (oo (nthL (Sl.cs s1) ((k1 * 2) + 1)) none fun v3 => (oo (toI .i64 v3) none fun x3 => (bb (bq false (an (ieq x0 x2) (an (ieq x1 x3) true))) (some (.bool false)) (ih0 s0 s1 (wrapF .i64 (Int.add (Int.ofNat k1) (1 : Int))))))))) none) none))))) none) none)) (m15_0 pu n))
def l15_1 (pu : PureF) (n : Nat) (w : Nat) : Sl → Sl → Int → Option Value :=
  Nat.rec (motive := fun _ => Sl → Sl → Int → Option Value) (fun _ _ _ => none) (fun _ ih0 => b15_1 pu n ih0) w
def m15_ (pu : PureF) (n : Nat) (s0 : Sl) (s1 : Sl) : Option Value :=
  (bb (nt (ieq (Int.ofNat (Sl.n s0)) (Int.ofNat (Sl.n s1)))) (some (.bool false)) (l15_1 pu n n s0 s1 (0 : Int)))
def m15 (pu : PureF) (n : Nat) (args : List Value) : Option Value :=
  (ll args none fun a0 args => (ll args none fun a1 args => (ll args (oo (toSl 2 a0) none fun s0 => (oo (toSl 2 a1) none fun s1 => (m15_ pu n s0 s1))) fun _ _ => none)))
theorem w15_0 (pu : PureF) (n : Nat) {v : Value} (hm : m15_0 pu n = some v) : Run tt (callP tabs isP pu (inl pu)) 1 c15_23 (fr 26 []) (hp 1 [(oT tab0)]) (Fin tt 1 [.tmp 4] v) := by
  unfold m15_0 at hm
  refine .then ?_
  refine .rK ?_
  refine .ghs (fr 26 [(4, (zB true))]) (hp 1 [(oT tab0)]) (.k0 [false] [] [4]) ?_
  refine .ret ?_
  exact fin_ret (zB true) (by kernel_rfl) (by kernel_rfl) hm
theorem r15 {call : CallF} (pu : PureF) (n : Nat) (hcall : call = callP tabs isP pu (inl pu)) {args : List Value} {v : Value} (hm : m15 pu n args = some v) (_ : ∀ x ∈ args, closed2 x = true) : args.length ≤ 26 ∧ Run tt call 1 c15_26 (Fr.made 26 args) (pureHeap tabs) (Fin tt 1 [.tmp 4] v) := by
  subst hcall
  unfold m15 at hm
  replace hm := ll_uncons hm; obtain ⟨a0, args_0, rfl, hm⟩ := hm
  replace hm := ll_uncons hm; obtain ⟨a1, args_1, rfl, hm⟩ := hm
  replace hm := ll_end hm; obtain ⟨rfl, hm⟩ := hm
  replace hm := inv_toSl hm; obtain ⟨s0, rfl, hm⟩ := hm
  replace hm := inv_toSl hm; obtain ⟨s1, rfl, hm⟩ := hm
  unfold m15_ at hm
  refine ⟨by simp, ?_⟩
  refine .same (F' := (fr 26 [(0, (Sl.v 2 s0)), (1, (Sl.v 2 s1))])) (H' := (hp 1 [(oT tab0)])) (by kernel_rfl) (by kernel_rfl) ?_
  refine .then ?_
  refine .rK ?_
  refine .ghs (fr 26 [(0, (Sl.v 2 s0)), (1, (Sl.v 2 s1))]) (hp 1 [(oT tab0)]) (.k0 [false] [] [0, 1]) ?_
  refine .then ?_
  refine .then ?_
  refine .rK ?_
  refine .ghs (fr 26 [(0, (Sl.v 2 s0)), (1, (Sl.v 2 s1)), (10, (zB (nt (ieq (Int.ofNat (Sl.n s0)) (Int.ofNat (Sl.n s1))))))]) (hp 1 [(oT tab0)]) (.k0 [false] [] [0, 1, 10]) ?_
  replace hm := bb_cases hm; rcases hm with ⟨h0, hm⟩ | ⟨h0, hm⟩
  · refine .ifT (nt (ieq (Int.ofNat (Sl.n s0)) (Int.ofNat (Sl.n s1)))) (by kernel_rfl) h0 ?_
    refine .then ?_
    refine .rK ?_
    refine .ghs (fr 26 [(4, (zB false))]) (hp 1 [(oT tab0)]) (.k0 [false] [] [4]) ?_
    refine .ret ?_
    exact fin_ret (zB false) (by kernel_rfl) (by kernel_rfl) hm
  · refine .ifF (nt (ieq (Int.ofNat (Sl.n s0)) (Int.ofNat (Sl.n s1)))) (by kernel_rfl) h0 ?_
    refine .skip ?_
    refine .ghs (fr 26 [(0, (Sl.v 2 s0)), (1, (Sl.v 2 s1))]) (hp 1 [(oT tab0)]) (.k0 [false] [] [0, 1]) ?_
    refine .join (v := v) (fun y : Unit => ((fr 26 []), (hp 1 [(oT tab0)]))) (fun y => m15_0 pu n) ?_ ?_
    · rintro _ hm
      exact w15_0 pu n hm
    · refine .then ?_
      refine .rK ?_
      refine .ghs (fr 26 [(0, (Sl.v 2 s0)), (1, (Sl.v 2 s1)), (5, (zI (0 : Int)))]) (hp 1 [(oT tab0)]) (.k0 [false] [] [0, 1, 5]) ?_
      refine .block ?_
      refine .loopM (v := v) (fun y : Sl × Sl × Int => ((fr 26 [(0, (Sl.v 2 y.1)), (1, (Sl.v 2 y.2.1)), (5, (zI y.2.2))]), (hp 1 [(oT tab0)]))) (fun w y => l15_1 pu n w y.1 y.2.1 y.2.2) n ⟨(s0, s1, (0 : Int)), hm, (.k0 [false] [] [0, 1, 5])⟩ (fun _ => rfl) ?_
      rintro w0 ⟨s2, s3, z0⟩ hm
      replace hm : b15_1 pu n (l15_1 pu n w0) s2 s3 z0 = some v := hm
      unfold b15_1 at hm
      refine .then ?_
      refine .then ?_
      refine .rK ?_
      refine .ghs (fr 26 [(0, (Sl.v 2 s2)), (1, (Sl.v 2 s3)), (5, (zI z0)), (14, (zB (ilt z0 (Int.ofNat (Sl.n s2)))))]) (hp 1 [(oT tab0)]) (.k0 [false] [] [0, 1, 5, 14]) ?_
      replace hm := bb_cases hm; rcases hm with ⟨h1, hm⟩ | ⟨h1, hm⟩
      · refine .ifT (ilt z0 (Int.ofNat (Sl.n s2))) (by kernel_rfl) h1 ?_
        refine .skip ?_
        refine .ghs (fr 26 [(0, (Sl.v 2 s2)), (1, (Sl.v 2 s3)), (5, (zI z0))]) (hp 1 [(oT tab0)]) (.k0 [false] [] [0, 1, 5]) ?_
        refine .then ?_
        refine .block ?_
        refine .then ?_
        replace hm := oo_inv hm; obtain ⟨k1, h2, hm⟩ := hm
        obtain rfl := toN_some h2
        replace hm := bb_inv hm; obtain ⟨h3, hm⟩ := hm
        replace hm := bb_inv hm; obtain ⟨h4, hm⟩ := hm
        replace hm := oo_inv hm; obtain ⟨v0, h5, hm⟩ := hm
        replace hm := inv_toI hm; obtain ⟨x0, rfl, hm⟩ := hm
        replace hm := oo_inv hm; obtain ⟨v1, h6, hm⟩ := hm
        replace hm := inv_toI hm; obtain ⟨x1, rfl, hm⟩ := hm
        replace hm := bb_inv hm; obtain ⟨h7, hm⟩ := hm
        replace hm := bb_inv hm; obtain ⟨h8, hm⟩ := hm
        replace hm := oo_inv hm; obtain ⟨v2, h9, hm⟩ := hm
        replace hm := inv_toI hm; obtain ⟨x2, rfl, hm⟩ := hm
        replace hm := oo_inv hm; obtain ⟨v3, h10, hm⟩ := hm
        replace hm := inv_toI hm; obtain ⟨x3, rfl, hm⟩ := hm
        refine .reg (eC 2 (keep (hp 1 [(oT tab0)]) (bb (an (Nat.blt k1 (Sl.n s2)) true) (some (fpV (k1 * 2) (Sl.cs s2))) none)) (keep_bb h3) (eD (keep (hp 1 [(oT tab0)]) (bb (Nat.ble ((k1 * 2) + 2) (len (Sl.cs s2))) (some (.agg ⟨takeL 2 (dropL (k1 * 2) (Sl.cs s2))⟩)) none)) (keep_agg h4 (takeL_cons h5 (takeL_cons h6 rfl))) (eC 2 (keep (hp 1 [(oT tab0)]) (bb (an (Nat.blt k1 (Sl.n s3)) true) (some (fpV (k1 * 2) (Sl.cs s3))) none)) (keep_bb h7) (eD (keep (hp 1 [(oT tab0)]) (bb (Nat.ble ((k1 * 2) + 2) (len (Sl.cs s3))) (some (.agg ⟨takeL 2 (dropL (k1 * 2) (Sl.cs s3))⟩)) none)) (keep_agg h8 (takeL_cons h9 (takeL_cons h10 rfl))) (eE))))) ?_
        refine .ghs (fr 26 [(0, (Sl.v 2 s2)), (1, (Sl.v 2 s3)), (5, (zI (Int.ofNat k1))), (25, (zB (bq false (an (ieq x0 x2) (an (ieq x1 x3) true)))))]) (hp 1 [(oT tab0)]) (.k0 [false] [] [0, 1, 5, 25]) ?_
        replace hm := bb_cases hm; rcases hm with ⟨h11, hm⟩ | ⟨h11, hm⟩
        · refine .ifT (bq false (an (ieq x0 x2) (an (ieq x1 x3) true))) (by kernel_rfl) h11 ?_
          refine .then ?_
          refine .rK ?_
          refine .ghs (fr 26 [(4, (zB false))]) (hp 1 [(oT tab0)]) (.k0 [false] [] [4]) ?_
          refine .ret ?_
          exact fin_ret (zB false) (by kernel_rfl) (by kernel_rfl) hm
        · refine .ifF (bq false (an (ieq x0 x2) (an (ieq x1 x3) true))) (by kernel_rfl) h11 ?_
          refine .skip ?_
          refine .ghs (fr 26 [(0, (Sl.v 2 s2)), (1, (Sl.v 2 s3)), (5, (zI (Int.ofNat k1)))]) (hp 1 [(oT tab0)]) (.k0 [false] [] [0, 1, 5]) ?_
          refine .rK ?_
          exact ⟨(s2, s3, (wrapF .i64 (Int.add (Int.ofNat k1) (1 : Int)))), hm, (.k0 [false] [] [0, 1, 5])⟩
      · refine .ifF (ilt z0 (Int.ofNat (Sl.n s2))) (by kernel_rfl) h1 ?_
        refine .exit ?_
        exact ⟨(), hm, (.k0 [false] [] [])⟩
end
end Go.MdHM
