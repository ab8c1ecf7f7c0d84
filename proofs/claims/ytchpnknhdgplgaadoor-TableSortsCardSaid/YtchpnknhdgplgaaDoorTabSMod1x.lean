/- What stands behind the models: the code, and the contracts of slices.Sort and slices.Compact. -/
import Derived.Test.YtchpnknhdgplgaaDoorSpSortKx
import Derived.Test.YtchpnknhdgplgaaDoorTabSCode
import Derived.KernelRfl

/- Models of the program's functions, and the proofs that runs give them: MADE BY PROGRAM (wip/tools/dec.py). -/
set_option maxRecDepth 100000
set_option linter.unusedVariables false
namespace Go.TabSM
open Go.Sp Go.TabS
noncomputable section
def tab0 : List Value := [.int .u8 0, .int .u8 1, .int .u8 56, .int .u8 2, .int .u8 57, .int .u8 49, .int .u8 28, .int .u8 3, .int .u8 61, .int .u8 58, .int .u8 42, .int .u8 50, .int .u8 38, .int .u8 29, .int .u8 17, .int .u8 4, .int .u8 62, .int .u8 47, .int .u8 59, .int .u8 36, .int .u8 45, .int .u8 43, .int .u8 51, .int .u8 22, .int .u8 53, .int .u8 39, .int .u8 33, .int .u8 30, .int .u8 24, .int .u8 18, .int .u8 12, .int .u8 5, .int .u8 63, .int .u8 55, .int .u8 48, .int .u8 27, .int .u8 60, .int .u8 41, .int .u8 37, .int .u8 16, .int .u8 46, .int .u8 35, .int .u8 44, .int .u8 21, .int .u8 52, .int .u8 32, .int .u8 23, .int .u8 11, .int .u8 54, .int .u8 26, .int .u8 40, .int .u8 15, .int .u8 34, .int .u8 20, .int .u8 31, .int .u8 10, .int .u8 25, .int .u8 14, .int .u8 19, .int .u8 9, .int .u8 13, .int .u8 8, .int .u8 7, .int .u8 6]
def tabs : List (List Value) := [tab0]
def plist : List Nat := [3, 8, 9, 10, 11, 12, 13, 14, 15, 16, 38, 39, 40, 41, 43, 44, 45, 46, 49, 50, 51, 52, 53, 56, 60, 61, 62]
def isP : FuncId → Bool := fun g => memN g plist
def inl (pu : PureF) : CallF := fun g args H => bb (Nat.beq g 26) (sortF args H) (bb (Nat.beq g 48) (compactF args H) (bb (Nat.beq g 47) (liveF tabs 1 (pu 47) args H) (bb (Nat.beq g 7) (giveF tabs 1 (pu 7) args H) (bb (Nat.beq g 42) (giveF tabs 1 (pu 42) args H) (none)))))
def zA73 : List Value := [(.int .u64 (0 : Int)), (.int .u64 (0 : Int)), (.int .u64 (0 : Int)), (.int .u64 (0 : Int)), (.int .u64 (0 : Int)), (.int .u64 (0 : Int)), (.int .u64 (0 : Int)), (.int .u64 (0 : Int)), (.int .u64 (0 : Int)), (.int .u64 (0 : Int)), (.int .u64 (0 : Int)), (.int .u64 (0 : Int)), (.int .u64 (0 : Int)), (.int .u64 (0 : Int))]
end
end Go.TabSM
/- Models of the program's functions, and the proofs that runs give them: MADE BY PROGRAM (wip/tools/dec.py). -/
set_option maxRecDepth 100000
set_option linter.unusedVariables false
namespace Go.TabSM
open Go.Sp Go.TabS
noncomputable section
/-- spadille/spadillelaw07.TableSorts -/
def m3_0 (pu : PureF) (n : Nat) (b96 : Bool) : Option Value :=
  (some (.bool b96))
def m3_ (pu : PureF) (n : Nat) (x5 : Int) (s7 : Sl) : Option Value :=
  (oo (pu 7 [(.agg ⟨[(.int .i64 x5), (Sl.v 2 s7)]⟩), (Sl.v 1 (Sl.mk 0 2 []))]) none fun v9 => (oo (vBool v9) none fun b11 => (bb b11 (oo (pu 8 []) none fun v14 => (oo (vBool v14) none fun b16 => (some (.bool b16)))) (oo (pu 9 [(.agg ⟨[(.int .i64 x5), (Sl.v 2 s7)]⟩)]) none fun v18 => (oo (vTup v18) none fun l20 => (ll l20 none fun v22 l20 => (ll l20 none fun v23 l20 => (ll l20 (oo (vBool v22) none fun b24 => (oo (toI .i64 v23) none fun x26 => (oo (pu 10 [(.agg ⟨[(.int .i64 x5), (Sl.v 2 s7)]⟩)]) none fun v28 => (oo (vTup v28) none fun l30 => (ll l30 none fun v32 l30 => (ll l30 none fun v33 l30 => (ll l30 (oo (vBool v32) none fun b34 => (oo (toI .i64 v33) none fun x36 => (oo (pu 11 [(.agg ⟨[(.int .i64 x5), (Sl.v 2 s7)]⟩)]) none fun v38 => (oo (vTup v38) none fun l40 => (ll l40 none fun v42 l40 => (ll l40 none fun v43 l40 => (ll l40 (oo (toSl 1 v42) none fun s44 => (oo (toI .i64 v43) none fun x46 => (oo (pu 12 [(.agg ⟨[(.int .i64 x5), (Sl.v 2 s7)]⟩)]) none fun v48 => (oo (vTup v48) none fun l50 => (ll l50 none fun v52 l50 => (ll l50 none fun v53 l50 => (ll l50 (oo (toSl 1 v52) none fun s54 => (oo (toI .i64 v53) none fun x56 => (oo (pu 13 [(.agg ⟨[(.int .i64 x5), (Sl.v 2 s7)]⟩)]) none fun v58 => (oo (vTup v58) none fun l60 => (ll l60 none fun v62 l60 => (ll l60 none fun v63 l60 => (ll l60 (oo (toSl 1 v62) none fun s64 => (oo (toI .i64 v63) none fun x66 => (oo (pu 14 [(.agg ⟨[(.int .i64 x5), (Sl.v 2 s7)]⟩)]) none fun v68 => (oo (vTup v68) none fun l70 => (ll l70 none fun v72 l70 => (ll l70 none fun v73 l70 => (ll l70 (oo (toSl 1 v72) none fun s74 => (oo (toI .i64 v73) none fun x76 => (bb (bq true (bq b24 b34)) (bb (ieq x26 x36) (oo (pu 15 [(Sl.v 1 s44), (Sl.v 1 s54)]) none fun v99 => (oo (vBool v99) none fun b101 => (bb b101 (bb (ieq x46 x56) (oo (pu 16 [(Sl.v 1 s64), (Sl.v 1 s74)]) none fun v105 => (oo (vBool v105) none fun b107 => (bb b107 (bb (ieq x66 x76) (oo (pu 8 []) none fun v111 => (oo (vBool v111) none fun b113 => (m3_0 pu n b113))) (m3_0 pu n false)) (m3_0 pu n false)))) (m3_0 pu n false)) (m3_0 pu n false)))) (m3_0 pu n false)) (m3_0 pu n false)))) fun _ _ => none))))))) fun _ _ => none))))))) fun _ _ => none))))))) fun _ _ => none))))))) fun _ _ => none))))))) fun _ _ => none))))))))
def m3 (pu : PureF) (n : Nat) (args : List Value) : Option Value :=
  (ll args none fun a0 args => (ll args (oo (vAgg a0) none fun l1 => (ll l1 none fun v3 l1 => (ll l1 none fun v4 l1 => (ll l1 (oo (toI .i64 v3) none fun x5 => (oo (toSl 2 v4) none fun s7 => (m3_ pu n x5 s7))) fun _ _ => none)))) fun _ _ => none))
theorem r3 {call : CallF} (pu : PureF) (n : Nat) (hcall : call = callP tabs isP pu (inl pu)) {args : List Value} {v : Value} (hm : m3 pu n args = some v) (_ : ∀ x ∈ args, closed2 x = true) : args.length ≤ 81 ∧ Run tt call 1 c3_23 (Fr.made 81 args) (pureHeap tabs) (Fin tt 1 [.tmp 2] v) := by
  subst hcall
  unfold m3 at hm
  have hq := ll_uncons hm; clear hm; obtain ⟨a0, args_0, rfl, hm⟩ := hq
  have hq := ll_end hm; clear hm; obtain ⟨rfl, hm⟩ := hq
  have hq := oo_inv hm; clear hm; obtain ⟨l1, h2, hm⟩ := hq
  obtain rfl := vAgg_some h2
  have hq := ll_uncons hm; clear hm; obtain ⟨v3, l1_0, rfl, hm⟩ := hq
  have hq := ll_uncons hm; clear hm; obtain ⟨v4, l1_1, rfl, hm⟩ := hq
  have hq := ll_end hm; clear hm; obtain ⟨rfl, hm⟩ := hq
  have hq := oo_inv hm; clear hm; obtain ⟨x5, h6, hm⟩ := hq
  obtain rfl := toI_some h6
  have hq := oo_inv hm; clear hm; obtain ⟨s7, h8, hm⟩ := hq
  obtain rfl := toSl_some h8
  unfold m3_ at hm
  refine ⟨by simp, ?_⟩
  refine .same (F' := (fr 81 [(0, (.agg ⟨[(zI x5), (Sl.v 2 s7)]⟩))])) (H' := (hp 1 [(oT tab0)])) (by kernel_rfl) (by kernel_rfl) ?_
  refine .then ?_
  refine .rK ?_
  refine .ghs (fr 81 [(1, (pt 1 0))]) (hp 2 [(oT tab0), (oC [(zI x5), (Sl.v 2 s7)])]) (.k0 [false] [.tmp 1 false] [1]) ?_
  refine .then ?_
  refine .then ?_
  have hq := oo_inv hm; clear hm; obtain ⟨v9, h10, hm⟩ := hq
  have hq := oo_inv hm; clear hm; obtain ⟨b11, h12, hm⟩ := hq
  obtain rfl := vBool_some h12
  refine .reg (eC 1 (giveF tabs 1 (pu 7) [(.agg ⟨[(zI x5), (Sl.v 2 s7)]⟩), (.slice none 0 0)] (hp 2 [(oT tab0), (oC [(zI x5), (Sl.v 2 s7)])])) (giveF_eq (giveL_cons (giveV_cl (z := 1) (v := (.agg ⟨[(zI x5), (Sl.v 2 s7)]⟩)) (H := (hp 2 [(oT tab0), (oC [(zI x5), (Sl.v 2 s7)])])) (by kernel_rfl) (by kernel_rfl) (by kernel_rfl)) (giveL_cons (giveV_nil (z := 1) (H := (hp 2 [(oT tab0), (oC [(zI x5), (Sl.v 2 s7)])]))) giveL_nil)) (by kernel_rfl) h10) (eE)) ?_
  refine .ghs (fr 81 [(1, (pt 1 0)), (17, (zB b11))]) (hp 2 [(oT tab0), (oC [(zI x5), (Sl.v 2 s7)])]) (.k0 [false] [.tmp 1 false] [1, 17]) ?_
  have hq := bb_cases hm; clear hm; rcases hq with ⟨h13, hm⟩ | ⟨h13, hm⟩
  · refine .ifT b11 (by kernel_rfl) h13 ?_
    refine .then ?_
    have hq := oo_inv hm; clear hm; obtain ⟨v14, h15, hm⟩ := hq
    have hq := oo_inv hm; clear hm; obtain ⟨b16, h17, hm⟩ := hq
    obtain rfl := vBool_some h17
    refine .reg (eD ((oo (pu 8 []) none fun v => some (v, (hp 2 [(oT tab0), (oC [(zI x5), (Sl.v 2 s7)])])))) (call_eq h15) (eE)) ?_
    refine .ghs (fr 81 [(2, (zB b16))]) (hp 1 [(oT tab0)]) (.k0 [false] [] [2]) ?_
    refine .ret ?_
    exact fin_ret (zB b16) (by kernel_rfl) (by kernel_rfl) hm
  · refine .ifF b11 (by kernel_rfl) h13 ?_
    refine .skip ?_
    refine .ghs (fr 81 [(1, (pt 1 0))]) (hp 2 [(oT tab0), (oC [(zI x5), (Sl.v 2 s7)])]) (.k0 [false] [.tmp 1 false] [1]) ?_
    refine .then ?_
    refine .rK ?_
    refine .ghs (fr 81 [(1, (pt 1 0)), (3, (pt 2 0))]) (hp 3 [(oT tab0), (oC [(zI x5), (Sl.v 2 s7)]), (oC [(zI x5), (Sl.v 2 s7)])]) (.k0 [false] [.tmp 1 false, .tmp 3 false] [1, 3]) ?_
    refine .then ?_
    have hq := oo_inv hm; clear hm; obtain ⟨v18, h19, hm⟩ := hq
    have hq := oo_inv hm; clear hm; obtain ⟨l20, h21, hm⟩ := hq
    obtain rfl := vTup_some h21
    have hq := ll_uncons hm; clear hm; obtain ⟨v22, l20_0, rfl, hm⟩ := hq
    have hq := ll_uncons hm; clear hm; obtain ⟨v23, l20_1, rfl, hm⟩ := hq
    have hq := ll_end hm; clear hm; obtain ⟨rfl, hm⟩ := hq
    have hq := oo_inv hm; clear hm; obtain ⟨b24, h25, hm⟩ := hq
    obtain rfl := vBool_some h25
    have hq := oo_inv hm; clear hm; obtain ⟨x26, h27, hm⟩ := hq
    obtain rfl := toI_some h27
    refine .reg (eC 1 ((oo (pu 9 [(.agg ⟨[(zI x5), (Sl.v 2 s7)]⟩)]) none fun v => some (v, (hp 3 [(oT tab0), (oC [(zI x5), (Sl.v 2 s7)]), (oC [(zI x5), (Sl.v 2 s7)])])))) (call_eq h19) (eE)) ?_
    refine .ghs (fr 81 [(1, (pt 1 0)), (3, (pt 2 0)), (4, (zB b24)), (5, (zI x26))]) (hp 3 [(oT tab0), (oC [(zI x5), (Sl.v 2 s7)]), (oC [(zI x5), (Sl.v 2 s7)])]) (.k0 [false] [.tmp 1 false, .tmp 3 false] [1, 3, 4, 5]) ?_
    refine .then ?_
    have hq := oo_inv hm; clear hm; obtain ⟨v28, h29, hm⟩ := hq
    have hq := oo_inv hm; clear hm; obtain ⟨l30, h31, hm⟩ := hq
    obtain rfl := vTup_some h31
    have hq := ll_uncons hm; clear hm; obtain ⟨v32, l30_0, rfl, hm⟩ := hq
    have hq := ll_uncons hm; clear hm; obtain ⟨v33, l30_1, rfl, hm⟩ := hq
    have hq := ll_end hm; clear hm; obtain ⟨rfl, hm⟩ := hq
    have hq := oo_inv hm; clear hm; obtain ⟨b34, h35, hm⟩ := hq
    obtain rfl := vBool_some h35
    have hq := oo_inv hm; clear hm; obtain ⟨x36, h37, hm⟩ := hq
    obtain rfl := toI_some h37
    refine .reg (eC 1 ((oo (pu 10 [(.agg ⟨[(zI x5), (Sl.v 2 s7)]⟩)]) none fun v => some (v, (hp 3 [(oT tab0), (oC [(zI x5), (Sl.v 2 s7)]), (oC [(zI x5), (Sl.v 2 s7)])])))) (call_eq h29) (eE)) ?_
    refine .ghs (fr 81 [(1, (pt 1 0)), (3, (pt 2 0)), (4, (zB b24)), (5, (zI x26)), (6, (zB b34)), (7, (zI x36))]) (hp 3 [(oT tab0), (oC [(zI x5), (Sl.v 2 s7)]), (oC [(zI x5), (Sl.v 2 s7)])]) (.k0 [false] [.tmp 1 false, .tmp 3 false] [1, 3, 4, 5, 6, 7]) ?_
    refine .then ?_
    have hq := oo_inv hm; clear hm; obtain ⟨v38, h39, hm⟩ := hq
    have hq := oo_inv hm; clear hm; obtain ⟨l40, h41, hm⟩ := hq
    obtain rfl := vTup_some h41
    have hq := ll_uncons hm; clear hm; obtain ⟨v42, l40_0, rfl, hm⟩ := hq
    have hq := ll_uncons hm; clear hm; obtain ⟨v43, l40_1, rfl, hm⟩ := hq
    have hq := ll_end hm; clear hm; obtain ⟨rfl, hm⟩ := hq
    have hq := oo_inv hm; clear hm; obtain ⟨s44, h45, hm⟩ := hq
    obtain rfl := toSl_some h45
    have hq := oo_inv hm; clear hm; obtain ⟨x46, h47, hm⟩ := hq
    obtain rfl := toI_some h47
    refine .reg (eC 1 ((oo (pu 11 [(.agg ⟨[(zI x5), (Sl.v 2 s7)]⟩)]) none fun v => some (v, (hp 3 [(oT tab0), (oC [(zI x5), (Sl.v 2 s7)]), (oC [(zI x5), (Sl.v 2 s7)])])))) (call_eq h39) (eE)) ?_
    refine .ghs (fr 81 [(1, (pt 1 0)), (3, (pt 2 0)), (4, (zB b24)), (5, (zI x26)), (6, (zB b34)), (7, (zI x36)), (8, (Sl.v 1 s44)), (9, (zI x46))]) (hp 3 [(oT tab0), (oC [(zI x5), (Sl.v 2 s7)]), (oC [(zI x5), (Sl.v 2 s7)])]) (.k0 [false] [.tmp 1 false, .tmp 3 false] [1, 3, 4, 5, 6, 7, 8, 9]) ?_
    refine .then ?_
    have hq := oo_inv hm; clear hm; obtain ⟨v48, h49, hm⟩ := hq
    have hq := oo_inv hm; clear hm; obtain ⟨l50, h51, hm⟩ := hq
    obtain rfl := vTup_some h51
    have hq := ll_uncons hm; clear hm; obtain ⟨v52, l50_0, rfl, hm⟩ := hq
    have hq := ll_uncons hm; clear hm; obtain ⟨v53, l50_1, rfl, hm⟩ := hq
    have hq := ll_end hm; clear hm; obtain ⟨rfl, hm⟩ := hq
    have hq := oo_inv hm; clear hm; obtain ⟨s54, h55, hm⟩ := hq
    obtain rfl := toSl_some h55
    have hq := oo_inv hm; clear hm; obtain ⟨x56, h57, hm⟩ := hq
    obtain rfl := toI_some h57
    refine .reg (eC 1 ((oo (pu 12 [(.agg ⟨[(zI x5), (Sl.v 2 s7)]⟩)]) none fun v => some (v, (hp 3 [(oT tab0), (oC [(zI x5), (Sl.v 2 s7)]), (oC [(zI x5), (Sl.v 2 s7)])])))) (call_eq h49) (eE)) ?_
    refine .ghs (fr 81 [(1, (pt 1 0)), (3, (pt 2 0)), (4, (zB b24)), (5, (zI x26)), (6, (zB b34)), (7, (zI x36)), (8, (Sl.v 1 s44)), (9, (zI x46)), (10, (Sl.v 1 s54)), (11, (zI x56))]) (hp 3 [(oT tab0), (oC [(zI x5), (Sl.v 2 s7)]), (oC [(zI x5), (Sl.v 2 s7)])]) (.k0 [false] [.tmp 1 false, .tmp 3 false] [1, 3, 4, 5, 6, 7, 8, 9, 10, 11]) ?_
    refine .then ?_
    have hq := oo_inv hm; clear hm; obtain ⟨v58, h59, hm⟩ := hq
    have hq := oo_inv hm; clear hm; obtain ⟨l60, h61, hm⟩ := hq
    obtain rfl := vTup_some h61
    have hq := ll_uncons hm; clear hm; obtain ⟨v62, l60_0, rfl, hm⟩ := hq
    have hq := ll_uncons hm; clear hm; obtain ⟨v63, l60_1, rfl, hm⟩ := hq
    have hq := ll_end hm; clear hm; obtain ⟨rfl, hm⟩ := hq
    have hq := oo_inv hm; clear hm; obtain ⟨s64, h65, hm⟩ := hq
    obtain rfl := toSl_some h65
    have hq := oo_inv hm; clear hm; obtain ⟨x66, h67, hm⟩ := hq
    obtain rfl := toI_some h67
    refine .reg (eC 1 ((oo (pu 13 [(.agg ⟨[(zI x5), (Sl.v 2 s7)]⟩)]) none fun v => some (v, (hp 3 [(oT tab0), (oC [(zI x5), (Sl.v 2 s7)]), (oC [(zI x5), (Sl.v 2 s7)])])))) (call_eq h59) (eE)) ?_
    refine .ghs (fr 81 [(3, (pt 1 0)), (4, (zB b24)), (5, (zI x26)), (6, (zB b34)), (7, (zI x36)), (8, (Sl.v 1 s44)), (9, (zI x46)), (10, (Sl.v 1 s54)), (11, (zI x56)), (12, (Sl.v 1 s64)), (13, (zI x66))]) (hp 2 [(oT tab0), (oC [(zI x5), (Sl.v 2 s7)])]) (.k0 [false] [.tmp 3 false] [3, 4, 5, 6, 7, 8, 9, 10, 11, 12, 13]) ?_
    refine .then ?_
    have hq := oo_inv hm; clear hm; obtain ⟨v68, h69, hm⟩ := hq
    have hq := oo_inv hm; clear hm; obtain ⟨l70, h71, hm⟩ := hq
    obtain rfl := vTup_some h71
    have hq := ll_uncons hm; clear hm; obtain ⟨v72, l70_0, rfl, hm⟩ := hq
    have hq := ll_uncons hm; clear hm; obtain ⟨v73, l70_1, rfl, hm⟩ := hq
    have hq := ll_end hm; clear hm; obtain ⟨rfl, hm⟩ := hq
    have hq := oo_inv hm; clear hm; obtain ⟨s74, h75, hm⟩ := hq
    obtain rfl := toSl_some h75
    have hq := oo_inv hm; clear hm; obtain ⟨x76, h77, hm⟩ := hq
    obtain rfl := toI_some h77
    refine .reg (eC 1 ((oo (pu 14 [(.agg ⟨[(zI x5), (Sl.v 2 s7)]⟩)]) none fun v => some (v, (hp 2 [(oT tab0), (oC [(zI x5), (Sl.v 2 s7)])])))) (call_eq h69) (eE)) ?_
    refine .ghs (fr 81 [(4, (zB b24)), (5, (zI x26)), (6, (zB b34)), (7, (zI x36)), (8, (Sl.v 1 s44)), (9, (zI x46)), (10, (Sl.v 1 s54)), (11, (zI x56)), (12, (Sl.v 1 s64)), (13, (zI x66)), (14, (Sl.v 1 s74)), (15, (zI x76))]) (hp 1 [(oT tab0)]) (.k0 [false] [] [4, 5, 6, 7, 8, 9, 10, 11, 12, 13, 14, 15]) ?_
    refine .join (v := v) (fun y : Bool => ((fr 81 [(2, (zB y))]), (hp 1 [(oT tab0)]))) (fun y => m3_0 pu n y) ?_ ?_
    · rintro b96 hm
      unfold m3_0 at hm
      refine .ret ?_
      exact fin_ret (zB b96) (by kernel_rfl) (by kernel_rfl) hm
    · skip
      have hq := bb_cases hm; clear hm; rcases hq with ⟨h97, hm⟩ | ⟨h97, hm⟩
      · skip
        have hq := bb_cases hm; clear hm; rcases hq with ⟨h98, hm⟩ | ⟨h98, hm⟩
        · skip
          have hq := oo_inv hm; clear hm; obtain ⟨v99, h100, hm⟩ := hq
          have hq := oo_inv hm; clear hm; obtain ⟨b101, h102, hm⟩ := hq
          obtain rfl := vBool_some h102
          have hq := bb_cases hm; clear hm; rcases hq with ⟨h103, hm⟩ | ⟨h103, hm⟩
          · skip
            have hq := bb_cases hm; clear hm; rcases hq with ⟨h104, hm⟩ | ⟨h104, hm⟩
            · skip
              have hq := oo_inv hm; clear hm; obtain ⟨v105, h106, hm⟩ := hq
              have hq := oo_inv hm; clear hm; obtain ⟨b107, h108, hm⟩ := hq
              obtain rfl := vBool_some h108
              have hq := bb_cases hm; clear hm; rcases hq with ⟨h109, hm⟩ | ⟨h109, hm⟩
              · skip
                have hq := bb_cases hm; clear hm; rcases hq with ⟨h110, hm⟩ | ⟨h110, hm⟩
                · skip
                  have hq := oo_inv hm; clear hm; obtain ⟨v111, h112, hm⟩ := hq
                  have hq := oo_inv hm; clear hm; obtain ⟨b113, h114, hm⟩ := hq
                  obtain rfl := vBool_some h114
                  refine .reg (eC 2 (some ((zB (bq true (bq b24 b34))), (hp 1 [(oT tab0)]))) (show _ = some ((zB true), _) from (by rw [h97])) (eC 3 (some ((zB (ieq x26 x36)), (hp 1 [(oT tab0)]))) (show _ = some ((zB true), _) from (by rw [h98])) (eC 4 ((oo (pu 15 [(Sl.v 1 s44), (Sl.v 1 s54)]) none fun v => some (v, (hp 1 [(oT tab0)])))) (show _ = some ((zB true), _) from (by have hz : (oo (pu 15 [(Sl.v 1 s44), (Sl.v 1 s54)]) none fun v => some (v, (hp 1 [(oT tab0)]))) = some ((zB b101), (hp 1 [(oT tab0)])) := (call_eq h100); rw [h103] at hz; exact hz)) (eC 4 (some ((zB (ieq x46 x56)), (hp 1 [(oT tab0)]))) (show _ = some ((zB true), _) from (by rw [h104])) (eC 4 ((oo (pu 16 [(Sl.v 1 s64), (Sl.v 1 s74)]) none fun v => some (v, (hp 1 [(oT tab0)])))) (show _ = some ((zB true), _) from (by have hz : (oo (pu 16 [(Sl.v 1 s64), (Sl.v 1 s74)]) none fun v => some (v, (hp 1 [(oT tab0)]))) = some ((zB b107), (hp 1 [(oT tab0)])) := (call_eq h106); rw [h109] at hz; exact hz)) (eC 4 (some ((zB (ieq x66 x76)), (hp 1 [(oT tab0)]))) (show _ = some ((zB true), _) from (by rw [h110])) (eC 2 ((oo (pu 8 []) none fun v => some (v, (hp 1 [(oT tab0)])))) (call_eq h112) (eE)))))))) ?_
                  exact ⟨b113, hm, (.k0 [false] [] [2])⟩
                · skip
                  refine .reg (eC 2 (some ((zB (bq true (bq b24 b34))), (hp 1 [(oT tab0)]))) (show _ = some ((zB true), _) from (by rw [h97])) (eC 3 (some ((zB (ieq x26 x36)), (hp 1 [(oT tab0)]))) (show _ = some ((zB true), _) from (by rw [h98])) (eC 4 ((oo (pu 15 [(Sl.v 1 s44), (Sl.v 1 s54)]) none fun v => some (v, (hp 1 [(oT tab0)])))) (show _ = some ((zB true), _) from (by have hz : (oo (pu 15 [(Sl.v 1 s44), (Sl.v 1 s54)]) none fun v => some (v, (hp 1 [(oT tab0)]))) = some ((zB b101), (hp 1 [(oT tab0)])) := (call_eq h100); rw [h103] at hz; exact hz)) (eC 4 (some ((zB (ieq x46 x56)), (hp 1 [(oT tab0)]))) (show _ = some ((zB true), _) from (by rw [h104])) (eC 4 ((oo (pu 16 [(Sl.v 1 s64), (Sl.v 1 s74)]) none fun v => some (v, (hp 1 [(oT tab0)])))) (show _ = some ((zB true), _) from (by have hz : (oo (pu 16 [(Sl.v 1 s64), (Sl.v 1 s74)]) none fun v => some (v, (hp 1 [(oT tab0)]))) = some ((zB b107), (hp 1 [(oT tab0)])) := (call_eq h106); rw [h109] at hz; exact hz)) (eC 4 (some ((zB (ieq x66 x76)), (hp 1 [(oT tab0)]))) (show _ = some ((zB false), _) from (by rw [h110])) (eE))))))) ?_
                  exact ⟨false, hm, (.k0 [false] [] [2])⟩
              · skip
                refine .reg (eC 2 (some ((zB (bq true (bq b24 b34))), (hp 1 [(oT tab0)]))) (show _ = some ((zB true), _) from (by rw [h97])) (eC 3 (some ((zB (ieq x26 x36)), (hp 1 [(oT tab0)]))) (show _ = some ((zB true), _) from (by rw [h98])) (eC 4 ((oo (pu 15 [(Sl.v 1 s44), (Sl.v 1 s54)]) none fun v => some (v, (hp 1 [(oT tab0)])))) (show _ = some ((zB true), _) from (by have hz : (oo (pu 15 [(Sl.v 1 s44), (Sl.v 1 s54)]) none fun v => some (v, (hp 1 [(oT tab0)]))) = some ((zB b101), (hp 1 [(oT tab0)])) := (call_eq h100); rw [h103] at hz; exact hz)) (eC 4 (some ((zB (ieq x46 x56)), (hp 1 [(oT tab0)]))) (show _ = some ((zB true), _) from (by rw [h104])) (eC 4 ((oo (pu 16 [(Sl.v 1 s64), (Sl.v 1 s74)]) none fun v => some (v, (hp 1 [(oT tab0)])))) (show _ = some ((zB false), _) from (by have hz : (oo (pu 16 [(Sl.v 1 s64), (Sl.v 1 s74)]) none fun v => some (v, (hp 1 [(oT tab0)]))) = some ((zB b107), (hp 1 [(oT tab0)])) := (call_eq h106); rw [h109] at hz; exact hz)) (eE)))))) ?_
                exact ⟨false, hm, (.k0 [false] [] [2])⟩
            · skip
              refine .reg (eC 2 (some ((zB (bq true (bq b24 b34))), (hp 1 [(oT tab0)]))) (show _ = some ((zB true), _) from (by rw [h97])) (eC 3 (some ((zB (ieq x26 x36)), (hp 1 [(oT tab0)]))) (show _ = some ((zB true), _) from (by rw [h98])) (eC 4 ((oo (pu 15 [(Sl.v 1 s44), (Sl.v 1 s54)]) none fun v => some (v, (hp 1 [(oT tab0)])))) (show _ = some ((zB true), _) from (by have hz : (oo (pu 15 [(Sl.v 1 s44), (Sl.v 1 s54)]) none fun v => some (v, (hp 1 [(oT tab0)]))) = some ((zB b101), (hp 1 [(oT tab0)])) := (call_eq h100); rw [h103] at hz; exact hz)) (eC 4 (some ((zB (ieq x46 x56)), (hp 1 [(oT tab0)]))) (show _ = some ((zB false), _) from (by rw [h104])) (eE))))) ?_
              exact ⟨false, hm, (.k0 [false] [] [2])⟩
          · skip
            refine .reg (eC 2 (some ((zB (bq true (bq b24 b34))), (hp 1 [(oT tab0)]))) (show _ = some ((zB true), _) from (by rw [h97])) (eC 3 (some ((zB (ieq x26 x36)), (hp 1 [(oT tab0)]))) (show _ = some ((zB true), _) from (by rw [h98])) (eC 4 ((oo (pu 15 [(Sl.v 1 s44), (Sl.v 1 s54)]) none fun v => some (v, (hp 1 [(oT tab0)])))) (show _ = some ((zB false), _) from (by have hz : (oo (pu 15 [(Sl.v 1 s44), (Sl.v 1 s54)]) none fun v => some (v, (hp 1 [(oT tab0)]))) = some ((zB b101), (hp 1 [(oT tab0)])) := (call_eq h100); rw [h103] at hz; exact hz)) (eE)))) ?_
            exact ⟨false, hm, (.k0 [false] [] [2])⟩
        · skip
          refine .reg (eC 2 (some ((zB (bq true (bq b24 b34))), (hp 1 [(oT tab0)]))) (show _ = some ((zB true), _) from (by rw [h97])) (eC 3 (some ((zB (ieq x26 x36)), (hp 1 [(oT tab0)]))) (show _ = some ((zB false), _) from (by rw [h98])) (eE))) ?_
          exact ⟨false, hm, (.k0 [false] [] [2])⟩
      · skip
        refine .reg (eC 2 (some ((zB (bq true (bq b24 b34))), (hp 1 [(oT tab0)]))) (show _ = some ((zB false), _) from (by rw [h97])) (eE)) ?_
        exact ⟨false, hm, (.k0 [false] [] [2])⟩
/-- spadille/spadillelaw07.large -/
def m7_0 (pu : PureF) (n : Nat) (b126 : Bool) : Option Value :=
  (some (.bool b126))
def m7_ (pu : PureF) (n : Nat) (x119 : Int) (s121 : Sl) (s123 : Sl) : Option Value :=
  (bb (ilt (60 : Int) (Int.ofNat (Sl.n s121))) (m7_0 pu n true) (m7_0 pu n (ilt (40 : Int) (Int.ofNat (Sl.n s123)))))
def m7 (pu : PureF) (n : Nat) (args : List Value) : Option Value :=
  (ll args none fun a0 args => (ll args none fun a1 args => (ll args (oo (vAgg a0) none fun l115 => (ll l115 none fun v117 l115 => (ll l115 none fun v118 l115 => (ll l115 (oo (toI .i64 v117) none fun x119 => (oo (toSl 2 v118) none fun s121 => (oo (toSl 1 a1) none fun s123 => (m7_ pu n x119 s121 s123)))) fun _ _ => none)))) fun _ _ => none)))
theorem r7 {call : CallF} (pu : PureF) (n : Nat) (hcall : call = callP tabs isP pu (inl pu)) {args : List Value} {v : Value} (hm : m7 pu n args = some v) (_ : ∀ x ∈ args, closed2 x = true) : args.length ≤ 14 ∧ Run tt call 1 c7_3 (Fr.made 14 args) (pureHeap tabs) (Fin tt 1 [.tmp 4] v) := by
  subst hcall
  unfold m7 at hm
  have hq := ll_uncons hm; clear hm; obtain ⟨a0, args_0, rfl, hm⟩ := hq
  have hq := ll_uncons hm; clear hm; obtain ⟨a1, args_1, rfl, hm⟩ := hq
  have hq := ll_end hm; clear hm; obtain ⟨rfl, hm⟩ := hq
  have hq := oo_inv hm; clear hm; obtain ⟨l115, h116, hm⟩ := hq
  obtain rfl := vAgg_some h116
  have hq := ll_uncons hm; clear hm; obtain ⟨v117, l115_0, rfl, hm⟩ := hq
  have hq := ll_uncons hm; clear hm; obtain ⟨v118, l115_1, rfl, hm⟩ := hq
  have hq := ll_end hm; clear hm; obtain ⟨rfl, hm⟩ := hq
  have hq := oo_inv hm; clear hm; obtain ⟨x119, h120, hm⟩ := hq
  obtain rfl := toI_some h120
  have hq := oo_inv hm; clear hm; obtain ⟨s121, h122, hm⟩ := hq
  obtain rfl := toSl_some h122
  have hq := oo_inv hm; clear hm; obtain ⟨s123, h124, hm⟩ := hq
  obtain rfl := toSl_some h124
  unfold m7_ at hm
  refine ⟨by simp, ?_⟩
  refine .same (F' := (fr 14 [(0, (.agg ⟨[(zI x119), (Sl.v 2 s121)]⟩)), (1, (Sl.v 1 s123))])) (H' := (hp 1 [(oT tab0)])) (by kernel_rfl) (by kernel_rfl) ?_
  refine .then ?_
  refine .rK ?_
  refine .ghs (fr 14 [(1, (Sl.v 1 s123)), (2, (pt 1 0))]) (hp 2 [(oT tab0), (oC [(zI x119), (Sl.v 2 s121)])]) (.k0 [false] [.tmp 2 false] [1, 2]) ?_
  refine .join (v := v) (fun y : Bool => ((fr 14 [(4, (zB y))]), (hp 1 [(oT tab0)]))) (fun y => m7_0 pu n y) ?_ ?_
  · rintro b126 hm
    unfold m7_0 at hm
    refine .ret ?_
    exact fin_ret (zB b126) (by kernel_rfl) (by kernel_rfl) hm
  · skip
    have hq := bb_cases hm; clear hm; rcases hq with ⟨h127, hm⟩ | ⟨h127, hm⟩
    · skip
      refine .reg (eC 3 (some ((zB (ilt (60 : Int) (Int.ofNat (Sl.n s121)))), (hp 2 [(oT tab0), (oC [(zI x119), (Sl.v 2 s121)])]))) (show _ = some ((zB true), _) from (by rw [h127])) (eE)) ?_
      exact ⟨true, hm, (.k0 [false] [] [4])⟩
    · skip
      refine .reg (eC 3 (some ((zB (ilt (60 : Int) (Int.ofNat (Sl.n s121)))), (hp 2 [(oT tab0), (oC [(zI x119), (Sl.v 2 s121)])]))) (show _ = some ((zB false), _) from (by rw [h127])) (eE)) ?_
      exact ⟨(ilt (40 : Int) (Int.ofNat (Sl.n s123))), hm, (.k0 [false] [] [4])⟩
/-- spadille/table.Sorts -/

def m9_ (pu : PureF) (n : Nat) (x132 : Int) (s134 : Sl) : Option Value :=
  (oo (pu 38 [(.agg ⟨[(.int .i64 x132), (Sl.v 2 s134)]⟩)]) none fun v136 => (oo (vTup v136) none fun l138 => (ll l138 none fun v140 l138 => (ll l138 none fun v141 l138 => (ll l138 (oo (vAgg v140) none fun q142 => (bb (an (Nat.beq (len q142) 14) (allL closed1 q142)) (oo (toI .i64 v141) none fun x145 => (bb (Nat.beq (len q142) 14) (bb (an (Nat.ble (0 + len q142) (len zA73)) (allL scalarB q142)) (bb (allL closed1 (setL q142 0 zA73)) (bb (nt (ieq x145 (0 : Int))) (some (.tuple ⟨[(.bool false), (.int .i64 x145)]⟩)) (bb (Nat.ble (0 + 14) (len (setL q142 0 zA73))) (oo (pu 39 [(.agg ⟨(takeL 14 (dropL 0 (setL q142 0 zA73)))⟩), (.int .i64 x132)]) none fun v152 => (oo (toI .i64 v152) none fun x154 => (bb (allL closed2 [(.agg ⟨(takeL 14 (dropL 0 (setL q142 0 zA73)))⟩), (.int .i64 x132)]) (some (.tuple ⟨[(.bool (ilt x154 (0 : Int))), (.int .i64 (0 : Int))]⟩)) none))) none)) none) none) none)) none)) fun _ _ => none)))))
def m9 (pu : PureF) (n : Nat) (args : List Value) : Option Value :=
  (ll args none fun a0 args => (ll args (oo (vAgg a0) none fun l128 => (ll l128 none fun v130 l128 => (ll l128 none fun v131 l128 => (ll l128 (oo (toI .i64 v130) none fun x132 => (oo (toSl 2 v131) none fun s134 => (m9_ pu n x132 s134))) fun _ _ => none)))) fun _ _ => none))
theorem r9 {call : CallF} (pu : PureF) (n : Nat) (hcall : call = callP tabs isP pu (inl pu)) {args : List Value} {v : Value} (hm : m9 pu n args = some v) (_ : ∀ x ∈ args, closed2 x = true) : args.length ≤ 19 ∧ Run tt call 1 c9_11 (Fr.made 19 args) (pureHeap tabs) (Fin tt 1 [.tmp 2, .tmp 3] v) := by
  subst hcall
  unfold m9 at hm
  have hq := ll_uncons hm; clear hm; obtain ⟨a0, args_0, rfl, hm⟩ := hq
  have hq := ll_end hm; clear hm; obtain ⟨rfl, hm⟩ := hq
  have hq := oo_inv hm; clear hm; obtain ⟨l128, h129, hm⟩ := hq
  obtain rfl := vAgg_some h129
  have hq := ll_uncons hm; clear hm; obtain ⟨v130, l128_0, rfl, hm⟩ := hq
  have hq := ll_uncons hm; clear hm; obtain ⟨v131, l128_1, rfl, hm⟩ := hq
  have hq := ll_end hm; clear hm; obtain ⟨rfl, hm⟩ := hq
  have hq := oo_inv hm; clear hm; obtain ⟨x132, h133, hm⟩ := hq
  obtain rfl := toI_some h133
  have hq := oo_inv hm; clear hm; obtain ⟨s134, h135, hm⟩ := hq
  obtain rfl := toSl_some h135
  unfold m9_ at hm
  refine ⟨by simp, ?_⟩
  refine .same (F' := (fr 19 [(0, (.agg ⟨[(zI x132), (Sl.v 2 s134)]⟩))])) (H' := (hp 1 [(oT tab0)])) (by kernel_rfl) (by kernel_rfl) ?_
  refine .then ?_
  refine .rK ?_
  refine .ghs (fr 19 [(1, (pt 1 0))]) (hp 2 [(oT tab0), (oC [(zI x132), (Sl.v 2 s134)])]) (.k0 [false] [.tmp 1 false] [1]) ?_
  refine .then ?_
  have hq := oo_inv hm; clear hm; obtain ⟨v136, h137, hm⟩ := hq
  have hq := oo_inv hm; clear hm; obtain ⟨l138, h139, hm⟩ := hq
  obtain rfl := vTup_some h139
  have hq := ll_uncons hm; clear hm; obtain ⟨v140, l138_0, rfl, hm⟩ := hq
  have hq := ll_uncons hm; clear hm; obtain ⟨v141, l138_1, rfl, hm⟩ := hq
  have hq := ll_end hm; clear hm; obtain ⟨rfl, hm⟩ := hq
  have hq := oo_inv hm; clear hm; obtain ⟨q142, h143, hm⟩ := hq
  obtain rfl := vAgg_some h143
  replace hm := bb_inv hm; obtain ⟨h144, hm⟩ := hm
  have hq := oo_inv hm; clear hm; obtain ⟨x145, h146, hm⟩ := hq
  obtain rfl := toI_some h146
  replace hm := bb_inv hm; obtain ⟨h147, hm⟩ := hm
  replace hm := bb_inv hm; obtain ⟨h148, hm⟩ := hm
  refine .reg (eC 1 ((oo (pu 38 [(.agg ⟨[(zI x132), (Sl.v 2 s134)]⟩)]) none fun v => some (v, (hp 2 [(oT tab0), (oC [(zI x132), (Sl.v 2 s134)])])))) (call_eq h137) (eC 4 (done (bb (Nat.beq (len q142) 14) (bb (an (Nat.ble (0 + len q142) (len zA73)) (allL scalarB q142)) (some (hp 3 [(oT tab0), (oC [(zI x132), (Sl.v 2 s134)]), (oC (setL q142 0 zA73))])) none) none) undef) (done_bb2 h147 h148) (eE))) ?_
  replace hm := bb_inv hm; obtain ⟨h149, hm⟩ := hm
  refine .ghs (fr 19 [(1, (pt 1 0)), (4, (pt 2 0)), (5, (zI x145))]) (hp 3 [(oT tab0), (oC [(zI x132), (Sl.v 2 s134)]), (oC (setL q142 0 zA73))]) (.k [2] [false] [.tmp 1 false, .tmp 4 false] [1, 4, 5] ⟨trE (by kernel_rfl) h149, trivial⟩) ?_
  refine .then ?_
  refine .then ?_
  refine .rK ?_
  refine .ghs (fr 19 [(1, (pt 1 0)), (4, (pt 2 0)), (5, (zI x145)), (12, (zB (nt (ieq x145 (0 : Int)))))]) (hp 3 [(oT tab0), (oC [(zI x132), (Sl.v 2 s134)]), (oC (setL q142 0 zA73))]) (.k [2] [false] [.tmp 1 false, .tmp 4 false] [1, 4, 5, 12] ⟨trE (by kernel_rfl) h149, trivial⟩) ?_
  have hq := bb_cases hm; clear hm; rcases hq with ⟨h150, hm⟩ | ⟨h150, hm⟩
  · refine .ifT (nt (ieq x145 (0 : Int))) (by kernel_rfl) h150 ?_
    refine .then ?_
    refine .rK ?_
    refine .ghs (fr 19 [(2, (zB false)), (3, (zI x145))]) (hp 1 [(oT tab0)]) (.k0 [false] [] [2, 3]) ?_
    refine .ret ?_
    exact fin_ret (.tuple ⟨[(zB false), (zI x145)]⟩) (by kernel_rfl) (by kernel_rfl) hm
  · refine .ifF (nt (ieq x145 (0 : Int))) (by kernel_rfl) h150 ?_
    refine .skip ?_
    refine .ghs (fr 19 [(1, (pt 1 0)), (4, (pt 2 0))]) (hp 3 [(oT tab0), (oC [(zI x132), (Sl.v 2 s134)]), (oC (setL q142 0 zA73))]) (.k [2] [false] [.tmp 1 false, .tmp 4 false] [1, 4] ⟨trE (by kernel_rfl) h149, trivial⟩) ?_
    refine .then ?_
    replace hm := bb_inv hm; obtain ⟨h151, hm⟩ := hm
    have hq := oo_inv hm; clear hm; obtain ⟨v152, h153, hm⟩ := hq
    have hq := oo_inv hm; clear hm; obtain ⟨x154, h155, hm⟩ := hq
    obtain rfl := toI_some h155
    replace hm := bb_inv hm; obtain ⟨h156, hm⟩ := hm
    refine .reg (eD (keep (hp 3 [(oT tab0), (oC [(zI x132), (Sl.v 2 s134)]), (oC (setL q142 0 zA73))]) (bb (Nat.ble (0 + 14) (len (setL q142 0 zA73))) (some (.agg ⟨(takeL 14 (dropL 0 (setL q142 0 zA73)))⟩)) none)) (keep_bb h151) (eC 2 (bb (allL closed2 [(.agg ⟨(takeL 14 (dropL 0 (setL q142 0 zA73)))⟩), (zI x132)]) (oo (pu 39 [(.agg ⟨(takeL 14 (dropL 0 (setL q142 0 zA73)))⟩), (zI x132)]) none fun v => some (v, (hp 3 [(oT tab0), (oC [(zI x132), (Sl.v 2 s134)]), (oC (setL q142 0 zA73))]))) (oo (mapO (purify (hp 3 [(oT tab0), (oC [(zI x132), (Sl.v 2 s134)]), (oC (setL q142 0 zA73))])) [(.agg ⟨(takeL 14 (dropL 0 (setL q142 0 zA73)))⟩), (zI x132)]) none fun l1 => oo (pu 39 l1) none fun v => bb (plainT v) (some (v, (hp 3 [(oT tab0), (oC [(zI x132), (Sl.v 2 s134)]), (oC (setL q142 0 zA73))]))) none)) (callc_eq h156 h153) (eE))) ?_
    refine .ghs (fr 19 [(2, (zB (ilt x154 (0 : Int)))), (3, (zI (0 : Int)))]) (hp 1 [(oT tab0)]) (.k0 [false] [] [2, 3]) ?_
    refine .ret ?_
    exact fin_ret (.tuple ⟨[(zB (ilt x154 (0 : Int))), (zI (0 : Int))]⟩) (by kernel_rfl) (by kernel_rfl) hm
/-- spadille/spadilleref07.Sorts -/

def m10_ (pu : PureF) (n : Nat) (x161 : Int) (s163 : Sl) : Option Value :=
  (oo (pu 40 [(.agg ⟨[(.int .i64 x161), (Sl.v 2 s163)]⟩)]) none fun v165 => (oo (toI .i64 v165) none fun x167 => (bb (nt (ieq x167 (0 : Int))) (some (.tuple ⟨[(.bool false), (.int .i64 x167)]⟩)) (oo (pu 42 [(.int .i64 x161), (Sl.v 1 (Sl.mk 0 2 []))]) none fun v170 => (oo (toSl 1 v170) none fun s172 => (oo (pu 41 [(.agg ⟨[(.int .i64 x161), (Sl.v 2 s163)]⟩), (Sl.v 1 s172), (.int .i64 (-1 : Int))]) none fun v174 => (oo (vBool v174) none fun b176 => (some (.tuple ⟨[(.bool b176), (.int .i64 (0 : Int))]⟩)))))))))
def m10 (pu : PureF) (n : Nat) (args : List Value) : Option Value :=
  (ll args none fun a0 args => (ll args (oo (vAgg a0) none fun l157 => (ll l157 none fun v159 l157 => (ll l157 none fun v160 l157 => (ll l157 (oo (toI .i64 v159) none fun x161 => (oo (toSl 2 v160) none fun s163 => (m10_ pu n x161 s163))) fun _ _ => none)))) fun _ _ => none))
theorem r10 {call : CallF} (pu : PureF) (n : Nat) (hcall : call = callP tabs isP pu (inl pu)) {args : List Value} {v : Value} (hm : m10 pu n args = some v) (_ : ∀ x ∈ args, closed2 x = true) : args.length ≤ 15 ∧ Run tt call 1 c10_11 (Fr.made 15 args) (pureHeap tabs) (Fin tt 1 [.tmp 2, .tmp 3] v) := by
  subst hcall
  unfold m10 at hm
  have hq := ll_uncons hm; clear hm; obtain ⟨a0, args_0, rfl, hm⟩ := hq
  have hq := ll_end hm; clear hm; obtain ⟨rfl, hm⟩ := hq
  have hq := oo_inv hm; clear hm; obtain ⟨l157, h158, hm⟩ := hq
  obtain rfl := vAgg_some h158
  have hq := ll_uncons hm; clear hm; obtain ⟨v159, l157_0, rfl, hm⟩ := hq
  have hq := ll_uncons hm; clear hm; obtain ⟨v160, l157_1, rfl, hm⟩ := hq
  have hq := ll_end hm; clear hm; obtain ⟨rfl, hm⟩ := hq
  have hq := oo_inv hm; clear hm; obtain ⟨x161, h162, hm⟩ := hq
  obtain rfl := toI_some h162
  have hq := oo_inv hm; clear hm; obtain ⟨s163, h164, hm⟩ := hq
  obtain rfl := toSl_some h164
  unfold m10_ at hm
  refine ⟨by simp, ?_⟩
  refine .same (F' := (fr 15 [(0, (.agg ⟨[(zI x161), (Sl.v 2 s163)]⟩))])) (H' := (hp 1 [(oT tab0)])) (by kernel_rfl) (by kernel_rfl) ?_
  refine .then ?_
  refine .rK ?_
  refine .ghs (fr 15 [(1, (pt 1 0))]) (hp 2 [(oT tab0), (oC [(zI x161), (Sl.v 2 s163)])]) (.k0 [false] [.tmp 1 false] [1]) ?_
  refine .then ?_
  have hq := oo_inv hm; clear hm; obtain ⟨v165, h166, hm⟩ := hq
  have hq := oo_inv hm; clear hm; obtain ⟨x167, h168, hm⟩ := hq
  obtain rfl := toI_some h168
  refine .reg (eC 1 ((oo (pu 40 [(.agg ⟨[(zI x161), (Sl.v 2 s163)]⟩)]) none fun v => some (v, (hp 2 [(oT tab0), (oC [(zI x161), (Sl.v 2 s163)])])))) (call_eq h166) (eE)) ?_
  refine .ghs (fr 15 [(1, (pt 1 0)), (4, (zI x167))]) (hp 2 [(oT tab0), (oC [(zI x161), (Sl.v 2 s163)])]) (.k0 [false] [.tmp 1 false] [1, 4]) ?_
  refine .then ?_
  refine .then ?_
  refine .rK ?_
  refine .ghs (fr 15 [(1, (pt 1 0)), (4, (zI x167)), (8, (zB (nt (ieq x167 (0 : Int)))))]) (hp 2 [(oT tab0), (oC [(zI x161), (Sl.v 2 s163)])]) (.k0 [false] [.tmp 1 false] [1, 4, 8]) ?_
  have hq := bb_cases hm; clear hm; rcases hq with ⟨h169, hm⟩ | ⟨h169, hm⟩
  · refine .ifT (nt (ieq x167 (0 : Int))) (by kernel_rfl) h169 ?_
    refine .then ?_
    refine .rK ?_
    refine .ghs (fr 15 [(2, (zB false)), (3, (zI x167))]) (hp 1 [(oT tab0)]) (.k0 [false] [] [2, 3]) ?_
    refine .ret ?_
    exact fin_ret (.tuple ⟨[(zB false), (zI x167)]⟩) (by kernel_rfl) (by kernel_rfl) hm
  · refine .ifF (nt (ieq x167 (0 : Int))) (by kernel_rfl) h169 ?_
    refine .skip ?_
    refine .ghs (fr 15 [(1, (pt 1 0))]) (hp 2 [(oT tab0), (oC [(zI x161), (Sl.v 2 s163)])]) (.k0 [false] [.tmp 1 false] [1]) ?_
    refine .then ?_
    have hq := oo_inv hm; clear hm; obtain ⟨v170, h171, hm⟩ := hq
    have hq := oo_inv hm; clear hm; obtain ⟨s172, h173, hm⟩ := hq
    obtain rfl := toSl_some h173
    have hq := oo_inv hm; clear hm; obtain ⟨v174, h175, hm⟩ := hq
    have hq := oo_inv hm; clear hm; obtain ⟨b176, h177, hm⟩ := hq
    obtain rfl := vBool_some h177
    refine .reg (eC 3 (giveF tabs 1 (pu 42) [(zI x161), (.slice none 0 0)] (hp 2 [(oT tab0), (oC [(zI x161), (Sl.v 2 s163)])])) (giveF_eq (giveL_cons (giveV_cl (z := 1) (v := (zI x161)) (H := (hp 2 [(oT tab0), (oC [(zI x161), (Sl.v 2 s163)])])) (by kernel_rfl) (by kernel_rfl) (by kernel_rfl)) (giveL_cons (giveV_nil (z := 1) (H := (hp 2 [(oT tab0), (oC [(zI x161), (Sl.v 2 s163)])]))) giveL_nil)) (by kernel_rfl) h171) (eD ((oo (pu 41 [(.agg ⟨[(zI x161), (Sl.v 2 s163)]⟩), (Sl.v 1 s172), (zI (-1 : Int))]) none fun v => some (v, (hp 2 [(oT tab0), (oC [(zI x161), (Sl.v 2 s163)])])))) (call_eq h175) (eE))) ?_
    refine .ghs (fr 15 [(2, (zB b176)), (3, (zI (0 : Int)))]) (hp 1 [(oT tab0)]) (.k0 [false] [] [2, 3]) ?_
    refine .ret ?_
    exact fin_ret (.tuple ⟨[(zB b176), (zI (0 : Int))]⟩) (by kernel_rfl) (by kernel_rfl) hm
/-- spadille/table.Unsorted -/

def m11_ (pu : PureF) (n : Nat) (x182 : Int) (s184 : Sl) : Option Value :=
  (oo (pu 38 [(.agg ⟨[(.int .i64 x182), (Sl.v 2 s184)]⟩)]) none fun v186 => (oo (vTup v186) none fun l188 => (ll l188 none fun v190 l188 => (ll l188 none fun v191 l188 => (ll l188 (oo (vAgg v190) none fun q192 => (bb (an (Nat.beq (len q192) 14) (allL closed1 q192)) (oo (toI .i64 v191) none fun x195 => (bb (Nat.beq (len q192) 14) (bb (an (Nat.ble (0 + len q192) (len zA73)) (allL scalarB q192)) (bb (allL closed1 (setL q192 0 zA73)) (bb (nt (ieq x195 (0 : Int))) (some (.tuple ⟨[(Sl.v 1 (Sl.mk 0 2 [])), (.int .i64 x195)]⟩)) (bb (Nat.ble (0 + 14) (len (setL q192 0 zA73))) (oo (pu 39 [(.agg ⟨(takeL 14 (dropL 0 (setL q192 0 zA73)))⟩), (.int .i64 x182)]) none fun v202 => (oo (toI .i64 v202) none fun x204 => (bb (allL closed2 [(.agg ⟨(takeL 14 (dropL 0 (setL q192 0 zA73)))⟩), (.int .i64 x182)]) (bb (ilt x204 (0 : Int)) (some (.tuple ⟨[(Sl.v 1 (Sl.mk 0 2 [])), (.int .i64 (13 : Int))]⟩)) (oo (pu 43 [(.int .i64 x182), (.int .i64 x204)]) none fun v208 => (oo (toSl 1 v208) none fun s210 => (some (.tuple ⟨[(Sl.v 1 s210), (.int .i64 (0 : Int))]⟩))))) none))) none)) none) none) none)) none)) fun _ _ => none)))))
def m11 (pu : PureF) (n : Nat) (args : List Value) : Option Value :=
  (ll args none fun a0 args => (ll args (oo (vAgg a0) none fun l178 => (ll l178 none fun v180 l178 => (ll l178 none fun v181 l178 => (ll l178 (oo (toI .i64 v180) none fun x182 => (oo (toSl 2 v181) none fun s184 => (m11_ pu n x182 s184))) fun _ _ => none)))) fun _ _ => none))
theorem r11 {call : CallF} (pu : PureF) (n : Nat) (hcall : call = callP tabs isP pu (inl pu)) {args : List Value} {v : Value} (hm : m11 pu n args = some v) (_ : ∀ x ∈ args, closed2 x = true) : args.length ≤ 25 ∧ Run tt call 1 c11_19 (Fr.made 25 args) (pureHeap tabs) (Fin tt 1 [.tmp 2, .tmp 3] v) := by
  subst hcall
  unfold m11 at hm
  have hq := ll_uncons hm; clear hm; obtain ⟨a0, args_0, rfl, hm⟩ := hq
  have hq := ll_end hm; clear hm; obtain ⟨rfl, hm⟩ := hq
  have hq := oo_inv hm; clear hm; obtain ⟨l178, h179, hm⟩ := hq
  obtain rfl := vAgg_some h179
  have hq := ll_uncons hm; clear hm; obtain ⟨v180, l178_0, rfl, hm⟩ := hq
  have hq := ll_uncons hm; clear hm; obtain ⟨v181, l178_1, rfl, hm⟩ := hq
  have hq := ll_end hm; clear hm; obtain ⟨rfl, hm⟩ := hq
  have hq := oo_inv hm; clear hm; obtain ⟨x182, h183, hm⟩ := hq
  obtain rfl := toI_some h183
  have hq := oo_inv hm; clear hm; obtain ⟨s184, h185, hm⟩ := hq
  obtain rfl := toSl_some h185
  unfold m11_ at hm
  refine ⟨by simp, ?_⟩
  refine .same (F' := (fr 25 [(0, (.agg ⟨[(zI x182), (Sl.v 2 s184)]⟩))])) (H' := (hp 1 [(oT tab0)])) (by kernel_rfl) (by kernel_rfl) ?_
  refine .then ?_
  refine .rK ?_
  refine .ghs (fr 25 [(1, (pt 1 0))]) (hp 2 [(oT tab0), (oC [(zI x182), (Sl.v 2 s184)])]) (.k0 [false] [.tmp 1 false] [1]) ?_
  refine .then ?_
  have hq := oo_inv hm; clear hm; obtain ⟨v186, h187, hm⟩ := hq
  have hq := oo_inv hm; clear hm; obtain ⟨l188, h189, hm⟩ := hq
  obtain rfl := vTup_some h189
  have hq := ll_uncons hm; clear hm; obtain ⟨v190, l188_0, rfl, hm⟩ := hq
  have hq := ll_uncons hm; clear hm; obtain ⟨v191, l188_1, rfl, hm⟩ := hq
  have hq := ll_end hm; clear hm; obtain ⟨rfl, hm⟩ := hq
  have hq := oo_inv hm; clear hm; obtain ⟨q192, h193, hm⟩ := hq
  obtain rfl := vAgg_some h193
  replace hm := bb_inv hm; obtain ⟨h194, hm⟩ := hm
  have hq := oo_inv hm; clear hm; obtain ⟨x195, h196, hm⟩ := hq
  obtain rfl := toI_some h196
  replace hm := bb_inv hm; obtain ⟨h197, hm⟩ := hm
  replace hm := bb_inv hm; obtain ⟨h198, hm⟩ := hm
  refine .reg (eC 1 ((oo (pu 38 [(.agg ⟨[(zI x182), (Sl.v 2 s184)]⟩)]) none fun v => some (v, (hp 2 [(oT tab0), (oC [(zI x182), (Sl.v 2 s184)])])))) (call_eq h187) (eC 4 (done (bb (Nat.beq (len q192) 14) (bb (an (Nat.ble (0 + len q192) (len zA73)) (allL scalarB q192)) (some (hp 3 [(oT tab0), (oC [(zI x182), (Sl.v 2 s184)]), (oC (setL q192 0 zA73))])) none) none) undef) (done_bb2 h197 h198) (eE))) ?_
  replace hm := bb_inv hm; obtain ⟨h199, hm⟩ := hm
  refine .ghs (fr 25 [(1, (pt 1 0)), (4, (pt 2 0)), (5, (zI x195))]) (hp 3 [(oT tab0), (oC [(zI x182), (Sl.v 2 s184)]), (oC (setL q192 0 zA73))]) (.k [2] [false] [.tmp 1 false, .tmp 4 false] [1, 4, 5] ⟨trE (by kernel_rfl) h199, trivial⟩) ?_
  refine .then ?_
  refine .then ?_
  refine .rK ?_
  refine .ghs (fr 25 [(1, (pt 1 0)), (4, (pt 2 0)), (5, (zI x195)), (13, (zB (nt (ieq x195 (0 : Int)))))]) (hp 3 [(oT tab0), (oC [(zI x182), (Sl.v 2 s184)]), (oC (setL q192 0 zA73))]) (.k [2] [false] [.tmp 1 false, .tmp 4 false] [1, 4, 5, 13] ⟨trE (by kernel_rfl) h199, trivial⟩) ?_
  have hq := bb_cases hm; clear hm; rcases hq with ⟨h200, hm⟩ | ⟨h200, hm⟩
  · refine .ifT (nt (ieq x195 (0 : Int))) (by kernel_rfl) h200 ?_
    refine .then ?_
    refine .rK ?_
    refine .ghs (fr 25 [(2, (.slice none 0 0)), (3, (zI x195))]) (hp 1 [(oT tab0)]) (.k0 [false] [] [2, 3]) ?_
    refine .ghs (Fr.puts (fr 25 [(2, (.slice none 0 0)), (3, (zI x195))]) [(2, (Sl.v 1 (Sl.mk 0 2 [])))]) (hp 1 [(oT tab0)]) (.freeze 1 2 1 (by kernel_rfl) (by kernel_rfl) (GhS.id _ _)) ?_
    refine .ret ?_
    exact fin_ret (.tuple ⟨[(Sl.v 1 (Sl.mk 0 2 [])), (zI x195)]⟩) (by kernel_rfl) (by kernel_rfl) hm
  · refine .ifF (nt (ieq x195 (0 : Int))) (by kernel_rfl) h200 ?_
    refine .skip ?_
    refine .ghs (fr 25 [(1, (pt 1 0)), (4, (pt 2 0))]) (hp 3 [(oT tab0), (oC [(zI x182), (Sl.v 2 s184)]), (oC (setL q192 0 zA73))]) (.k [2] [false] [.tmp 1 false, .tmp 4 false] [1, 4] ⟨trE (by kernel_rfl) h199, trivial⟩) ?_
    refine .then ?_
    replace hm := bb_inv hm; obtain ⟨h201, hm⟩ := hm
    have hq := oo_inv hm; clear hm; obtain ⟨v202, h203, hm⟩ := hq
    have hq := oo_inv hm; clear hm; obtain ⟨x204, h205, hm⟩ := hq
    obtain rfl := toI_some h205
    replace hm := bb_inv hm; obtain ⟨h206, hm⟩ := hm
    refine .reg (eD (keep (hp 3 [(oT tab0), (oC [(zI x182), (Sl.v 2 s184)]), (oC (setL q192 0 zA73))]) (bb (Nat.ble (0 + 14) (len (setL q192 0 zA73))) (some (.agg ⟨(takeL 14 (dropL 0 (setL q192 0 zA73)))⟩)) none)) (keep_bb h201) (eC 2 (bb (allL closed2 [(.agg ⟨(takeL 14 (dropL 0 (setL q192 0 zA73)))⟩), (zI x182)]) (oo (pu 39 [(.agg ⟨(takeL 14 (dropL 0 (setL q192 0 zA73)))⟩), (zI x182)]) none fun v => some (v, (hp 3 [(oT tab0), (oC [(zI x182), (Sl.v 2 s184)]), (oC (setL q192 0 zA73))]))) (oo (mapO (purify (hp 3 [(oT tab0), (oC [(zI x182), (Sl.v 2 s184)]), (oC (setL q192 0 zA73))])) [(.agg ⟨(takeL 14 (dropL 0 (setL q192 0 zA73)))⟩), (zI x182)]) none fun l1 => oo (pu 39 l1) none fun v => bb (plainT v) (some (v, (hp 3 [(oT tab0), (oC [(zI x182), (Sl.v 2 s184)]), (oC (setL q192 0 zA73))]))) none)) (callc_eq h206 h203) (eE))) ?_
    refine .ghs (fr 25 [(1, (pt 1 0)), (6, (zI x204))]) (hp 2 [(oT tab0), (oC [(zI x182), (Sl.v 2 s184)])]) (.k0 [false] [.tmp 1 false] [1, 6]) ?_
    refine .then ?_
    refine .then ?_
    refine .rK ?_
    refine .ghs (fr 25 [(1, (pt 1 0)), (6, (zI x204)), (20, (zB (ilt x204 (0 : Int))))]) (hp 2 [(oT tab0), (oC [(zI x182), (Sl.v 2 s184)])]) (.k0 [false] [.tmp 1 false] [1, 6, 20]) ?_
    have hq := bb_cases hm; clear hm; rcases hq with ⟨h207, hm⟩ | ⟨h207, hm⟩
    · refine .ifT (ilt x204 (0 : Int)) (by kernel_rfl) h207 ?_
      refine .then ?_
      refine .rK ?_
      refine .ghs (fr 25 [(2, (.slice none 0 0)), (3, (zI (13 : Int)))]) (hp 1 [(oT tab0)]) (.k0 [false] [] [2, 3]) ?_
      refine .ghs (Fr.puts (fr 25 [(2, (.slice none 0 0)), (3, (zI (13 : Int)))]) [(2, (Sl.v 1 (Sl.mk 0 2 [])))]) (hp 1 [(oT tab0)]) (.freeze 1 2 1 (by kernel_rfl) (by kernel_rfl) (GhS.id _ _)) ?_
      refine .ret ?_
      exact fin_ret (.tuple ⟨[(Sl.v 1 (Sl.mk 0 2 [])), (zI (13 : Int))]⟩) (by kernel_rfl) (by kernel_rfl) hm
    · refine .ifF (ilt x204 (0 : Int)) (by kernel_rfl) h207 ?_
      refine .skip ?_
      refine .ghs (fr 25 [(1, (pt 1 0)), (6, (zI x204))]) (hp 2 [(oT tab0), (oC [(zI x182), (Sl.v 2 s184)])]) (.k0 [false] [.tmp 1 false] [1, 6]) ?_
      refine .then ?_
      have hq := oo_inv hm; clear hm; obtain ⟨v208, h209, hm⟩ := hq
      have hq := oo_inv hm; clear hm; obtain ⟨s210, h211, hm⟩ := hq
      obtain rfl := toSl_some h211
      refine .reg (eC 3 ((oo (pu 43 [(zI x182), (zI x204)]) none fun v => some (v, (hp 2 [(oT tab0), (oC [(zI x182), (Sl.v 2 s184)])])))) (call_eq h209) (eE)) ?_
      refine .ghs (fr 25 [(2, (Sl.v 1 s210)), (3, (zI (0 : Int)))]) (hp 1 [(oT tab0)]) (.k0 [false] [] [2, 3]) ?_
      refine .ret ?_
      exact fin_ret (.tuple ⟨[(Sl.v 1 s210), (zI (0 : Int))]⟩) (by kernel_rfl) (by kernel_rfl) hm
/-- spadille/spadilleref07.Unsorted -/
def m12_0 (pu : PureF) (n : Nat) : Option Value :=
  (some (.tuple ⟨[(Sl.v 1 (Sl.mk 0 2 [])), (.int .i64 (13 : Int))]⟩))
def b12_1 (pu : PureF) (n : Nat) (ih0 : Int → Int → Sl → Option Value) (z248 : Int) (z249 : Int) (s250 : Sl) : Option Value :=
  (oo (toN z249) none fun k251 => (bb (ilt z248 (shlI .i64 (1 : Int) k251)) (oo (pu 46 [(.int .i64 (Int.ofNat k251)), (.int .i64 z248)]) none fun v254 => (oo (toSl 1 v254) none fun s256 => (oo (pu 45 [(.agg ⟨[(.int .i64 (Int.ofNat k251)), (Sl.v 2 s250)]⟩), (Sl.v 1 s256), (.int .i64 (-1 : Int))]) none fun v258 => (oo (toSl 1 v258) none fun s260 => (oo (pu 44 [(Sl.v 1 s260)]) none fun v262 => (oo (vBool v262) none fun b264 => (bb (nt b264) (oo (pu 46 [(.int .i64 (Int.ofNat k251)), (.int .i64 z248)]) none fun v267 => (oo (toSl 1 v267) none fun s269 => (some (.tuple ⟨[(Sl.v 1 s269), (.int .i64 (0 : Int))]⟩)))) (ih0 (wrapF .i64 (Int.add z248 (1 : Int))) (Int.ofNat k251) s250)))))))) (m12_0 pu n)))
def l12_1 (pu : PureF) (n : Nat) (w : Nat) : Int → Int → Sl → Option Value :=
  Nat.rec (motive := fun _ => Int → Int → Sl → Option Value) (fun _ _ _ => none) (fun _ ih0 => b12_1 pu n ih0) w
def m12_ (pu : PureF) (n : Nat) (x216 : Int) (s218 : Sl) : Option Value :=
  (oo (pu 40 [(.agg ⟨[(.int .i64 x216), (Sl.v 2 s218)]⟩)]) none fun v220 => (oo (toI .i64 v220) none fun x222 => (bb (nt (ieq x222 (0 : Int))) (some (.tuple ⟨[(Sl.v 1 (Sl.mk 0 2 [])), (.int .i64 x222)]⟩)) (l12_1 pu n n (0 : Int) x216 s218))))
def m12 (pu : PureF) (n : Nat) (args : List Value) : Option Value :=
  (ll args none fun a0 args => (ll args (oo (vAgg a0) none fun l212 => (ll l212 none fun v214 l212 => (ll l212 none fun v215 l212 => (ll l212 (oo (toI .i64 v214) none fun x216 => (oo (toSl 2 v215) none fun s218 => (m12_ pu n x216 s218))) fun _ _ => none)))) fun _ _ => none))
theorem r12 {call : CallF} (pu : PureF) (n : Nat) (hcall : call = callP tabs isP pu (inl pu)) {args : List Value} {v : Value} (hm : m12 pu n args = some v) (_ : ∀ x ∈ args, closed2 x = true) : args.length ≤ 30 ∧ Run tt call 1 c12_28 (Fr.made 30 args) (pureHeap tabs) (Fin tt 1 [.tmp 2, .tmp 3] v) := by
  subst hcall
  unfold m12 at hm
  have hq := ll_uncons hm; clear hm; obtain ⟨a0, args_0, rfl, hm⟩ := hq
  have hq := ll_end hm; clear hm; obtain ⟨rfl, hm⟩ := hq
  have hq := oo_inv hm; clear hm; obtain ⟨l212, h213, hm⟩ := hq
  obtain rfl := vAgg_some h213
  have hq := ll_uncons hm; clear hm; obtain ⟨v214, l212_0, rfl, hm⟩ := hq
  have hq := ll_uncons hm; clear hm; obtain ⟨v215, l212_1, rfl, hm⟩ := hq
  have hq := ll_end hm; clear hm; obtain ⟨rfl, hm⟩ := hq
  have hq := oo_inv hm; clear hm; obtain ⟨x216, h217, hm⟩ := hq
  obtain rfl := toI_some h217
  have hq := oo_inv hm; clear hm; obtain ⟨s218, h219, hm⟩ := hq
  obtain rfl := toSl_some h219
  unfold m12_ at hm
  refine ⟨by simp, ?_⟩
  refine .same (F' := (fr 30 [(0, (.agg ⟨[(zI x216), (Sl.v 2 s218)]⟩))])) (H' := (hp 1 [(oT tab0)])) (by kernel_rfl) (by kernel_rfl) ?_
  refine .then ?_
  refine .rK ?_
  refine .ghs (fr 30 [(1, (pt 1 0))]) (hp 2 [(oT tab0), (oC [(zI x216), (Sl.v 2 s218)])]) (.k0 [false] [.tmp 1 false] [1]) ?_
  refine .then ?_
  have hq := oo_inv hm; clear hm; obtain ⟨v220, h221, hm⟩ := hq
  have hq := oo_inv hm; clear hm; obtain ⟨x222, h223, hm⟩ := hq
  obtain rfl := toI_some h223
  refine .reg (eC 1 ((oo (pu 40 [(.agg ⟨[(zI x216), (Sl.v 2 s218)]⟩)]) none fun v => some (v, (hp 2 [(oT tab0), (oC [(zI x216), (Sl.v 2 s218)])])))) (call_eq h221) (eE)) ?_
  refine .ghs (fr 30 [(1, (pt 1 0)), (4, (zI x222))]) (hp 2 [(oT tab0), (oC [(zI x216), (Sl.v 2 s218)])]) (.k0 [false] [.tmp 1 false] [1, 4]) ?_
  refine .then ?_
  refine .then ?_
  refine .rK ?_
  refine .ghs (fr 30 [(1, (pt 1 0)), (4, (zI x222)), (9, (zB (nt (ieq x222 (0 : Int)))))]) (hp 2 [(oT tab0), (oC [(zI x216), (Sl.v 2 s218)])]) (.k0 [false] [.tmp 1 false] [1, 4, 9]) ?_
  have hq := bb_cases hm; clear hm; rcases hq with ⟨h224, hm⟩ | ⟨h224, hm⟩
  · refine .ifT (nt (ieq x222 (0 : Int))) (by kernel_rfl) h224 ?_
    refine .then ?_
    refine .rK ?_
    refine .ghs (fr 30 [(2, (.slice none 0 0)), (3, (zI x222))]) (hp 1 [(oT tab0)]) (.k0 [false] [] [2, 3]) ?_
    refine .ghs (Fr.puts (fr 30 [(2, (.slice none 0 0)), (3, (zI x222))]) [(2, (Sl.v 1 (Sl.mk 0 2 [])))]) (hp 1 [(oT tab0)]) (.freeze 1 2 1 (by kernel_rfl) (by kernel_rfl) (GhS.id _ _)) ?_
    refine .ret ?_
    exact fin_ret (.tuple ⟨[(Sl.v 1 (Sl.mk 0 2 [])), (zI x222)]⟩) (by kernel_rfl) (by kernel_rfl) hm
  · refine .ifF (nt (ieq x222 (0 : Int))) (by kernel_rfl) h224 ?_
    refine .skip ?_
    refine .ghs (fr 30 [(1, (pt 1 0))]) (hp 2 [(oT tab0), (oC [(zI x216), (Sl.v 2 s218)])]) (.k0 [false] [.tmp 1 false] [1]) ?_
    refine .join (v := v) (fun y : Unit => ((fr 30 []), (hp 1 [(oT tab0)]))) (fun y => m12_0 pu n) ?_ ?_
    · rintro _ hm
      unfold m12_0 at hm
      refine .then ?_
      refine .rK ?_
      refine .ghs (fr 30 [(2, (.slice none 0 0)), (3, (zI (13 : Int)))]) (hp 1 [(oT tab0)]) (.k0 [false] [] [2, 3]) ?_
      refine .ghs (Fr.puts (fr 30 [(2, (.slice none 0 0)), (3, (zI (13 : Int)))]) [(2, (Sl.v 1 (Sl.mk 0 2 [])))]) (hp 1 [(oT tab0)]) (.freeze 1 2 1 (by kernel_rfl) (by kernel_rfl) (GhS.id _ _)) ?_
      refine .ret ?_
      exact fin_ret (.tuple ⟨[(Sl.v 1 (Sl.mk 0 2 [])), (zI (13 : Int))]⟩) (by kernel_rfl) (by kernel_rfl) hm
    · skip
      refine .then ?_
      refine .rK ?_
      refine .ghs (fr 30 [(1, (pt 1 0)), (5, (zI (0 : Int)))]) (hp 2 [(oT tab0), (oC [(zI x216), (Sl.v 2 s218)])]) (.k0 [false] [.tmp 1 false] [1, 5]) ?_
      refine .block ?_
      refine .loopM (v := v) (fun y : Int × Int × Sl => ((fr 30 [(1, (pt 1 0)), (5, (zI y.1))]), (hp 2 [(oT tab0), (oC [(zI y.2.1), (Sl.v 2 y.2.2)])]))) (fun w y => l12_1 pu n w y.1 y.2.1 y.2.2) n ⟨((0 : Int), x216, s218), hm, (.k0 [false] [.tmp 1 false] [1, 5])⟩ (fun _ => rfl) ?_
      rintro w0 ⟨z248, z249, s250⟩ hm
      refine .then ?_
      refine .then ?_
      have hq := oo_inv hm; clear hm; obtain ⟨k251, h252, hm⟩ := hq
      obtain rfl := toN_some h252
      refine .rK ?_
      refine .ghs (fr 30 [(1, (pt 1 0)), (5, (zI z248)), (15, (zB (ilt z248 (shlI .i64 (1 : Int) k251))))]) (hp 2 [(oT tab0), (oC [(zI (Int.ofNat k251)), (Sl.v 2 s250)])]) (.k0 [false] [.tmp 1 false] [1, 5, 15]) ?_
      have hq := bb_cases hm; clear hm; rcases hq with ⟨h253, hm⟩ | ⟨h253, hm⟩
      · refine .ifT (ilt z248 (shlI .i64 (1 : Int) k251)) (by kernel_rfl) h253 ?_
        refine .skip ?_
        refine .ghs (fr 30 [(1, (pt 1 0)), (5, (zI z248))]) (hp 2 [(oT tab0), (oC [(zI (Int.ofNat k251)), (Sl.v 2 s250)])]) (.k0 [false] [.tmp 1 false] [1, 5]) ?_
        refine .then ?_
        refine .block ?_
        refine .then ?_
        have hq := oo_inv hm; clear hm; obtain ⟨v254, h255, hm⟩ := hq
        have hq := oo_inv hm; clear hm; obtain ⟨s256, h257, hm⟩ := hq
        obtain rfl := toSl_some h257
        have hq := oo_inv hm; clear hm; obtain ⟨v258, h259, hm⟩ := hq
        have hq := oo_inv hm; clear hm; obtain ⟨s260, h261, hm⟩ := hq
        obtain rfl := toSl_some h261
        have hq := oo_inv hm; clear hm; obtain ⟨v262, h263, hm⟩ := hq
        have hq := oo_inv hm; clear hm; obtain ⟨b264, h265, hm⟩ := hq
        obtain rfl := vBool_some h265
        refine .reg (eC 4 ((oo (pu 46 [(zI (Int.ofNat k251)), (zI z248)]) none fun v => some (v, (hp 2 [(oT tab0), (oC [(zI (Int.ofNat k251)), (Sl.v 2 s250)])])))) (call_eq h255) (eD ((oo (pu 45 [(.agg ⟨[(zI (Int.ofNat k251)), (Sl.v 2 s250)]⟩), (Sl.v 1 s256), (zI (-1 : Int))]) none fun v => some (v, (hp 2 [(oT tab0), (oC [(zI (Int.ofNat k251)), (Sl.v 2 s250)])])))) (call_eq h259) (eD ((oo (pu 44 [(Sl.v 1 s260)]) none fun v => some (v, (hp 2 [(oT tab0), (oC [(zI (Int.ofNat k251)), (Sl.v 2 s250)])])))) (call_eq h263) (eE)))) ?_
        refine .ghs (fr 30 [(1, (pt 1 0)), (5, (zI z248)), (25, (zB (nt b264)))]) (hp 2 [(oT tab0), (oC [(zI (Int.ofNat k251)), (Sl.v 2 s250)])]) (.k0 [false] [.tmp 1 false] [1, 5, 25]) ?_
        have hq := bb_cases hm; clear hm; rcases hq with ⟨h266, hm⟩ | ⟨h266, hm⟩
        · refine .ifT (nt b264) (by kernel_rfl) h266 ?_
          refine .then ?_
          have hq := oo_inv hm; clear hm; obtain ⟨v267, h268, hm⟩ := hq
          have hq := oo_inv hm; clear hm; obtain ⟨s269, h270, hm⟩ := hq
          obtain rfl := toSl_some h270
          refine .reg (eC 3 ((oo (pu 46 [(zI (Int.ofNat k251)), (zI z248)]) none fun v => some (v, (hp 2 [(oT tab0), (oC [(zI (Int.ofNat k251)), (Sl.v 2 s250)])])))) (call_eq h268) (eE)) ?_
          refine .ghs (fr 30 [(2, (Sl.v 1 s269)), (3, (zI (0 : Int)))]) (hp 1 [(oT tab0)]) (.k0 [false] [] [2, 3]) ?_
          refine .ret ?_
          exact fin_ret (.tuple ⟨[(Sl.v 1 s269), (zI (0 : Int))]⟩) (by kernel_rfl) (by kernel_rfl) hm
        · refine .ifF (nt b264) (by kernel_rfl) h266 ?_
          refine .skip ?_
          refine .ghs (fr 30 [(1, (pt 1 0)), (5, (zI z248))]) (hp 2 [(oT tab0), (oC [(zI (Int.ofNat k251)), (Sl.v 2 s250)])]) (.k0 [false] [.tmp 1 false] [1, 5]) ?_
          refine .rK ?_
          exact ⟨((wrapF .i64 (Int.add z248 (1 : Int))), (Int.ofNat k251), s250), hm, (.k0 [false] [.tmp 1 false] [1, 5])⟩
      · refine .ifF (ilt z248 (shlI .i64 (1 : Int) k251)) (by kernel_rfl) h253 ?_
        refine .exit ?_
        exact ⟨(), hm, (.k0 [false] [] [])⟩
/-- spadille/table.Outcomes -/
def m13_0 (pu : PureF) (n : Nat) (n335 : Nat) (c336 : Nat) (q337 : List Value) : Option Value :=
  (bb (allL closed1 q337) (bb (an (Nat.ble (0 + n335 * 1) (len q337)) (allL closed1 (takeL (n335 * 1) (dropL 0 q337)))) (some (.tuple ⟨[(Sl.v 1 (Sl.mk n335 0 (takeL (n335 * 1) (dropL 0 q337)))), (.int .i64 (0 : Int))]⟩)) none) none)
def b13_1 (pu : PureF) (n : Nat) (ih0 : Nat → Nat → Nat → Nat → Int → Int → Int → Sl → List Value → List Value → Option Value) (n344 : Nat) (c345 : Nat) (n346 : Nat) (c347 : Nat) (z348 : Int) (z349 : Int) (z350 : Int) (s351 : Sl) (q352 : List Value) (q353 : List Value) : Option Value :=
  (bb (allL closed1 q352) (bb (allL closed1 q353) (bb (ilt z349 z348) (oo (toN z349) none fun k357 => (bb (an (Nat.blt k357 n346) true) (oo (nthL q353 (0 + k357 * 1)) none fun v360 => (oo (toI .i64 v360) none fun x362 => (oo (pu 43 [(.int .i64 z350), (.int .i64 x362)]) none fun v364 => (oo (toSl 1 v364) none fun s366 => (bb (growC 1 24 n344 c345 1 q352) (bb (allL closed1 (appL (dropL 0 q352) [(Sl.v 1 s366)])) (ih0 (n344 + 1) (2 * (n344 + 1) + bb false 1 0) n346 c347 z348 (wrapF .i64 (Int.add (Int.ofNat k357) (1 : Int))) z350 s351 (appL (dropL 0 q352) [(Sl.v 1 s366)]) q353) none) none))))) none)) (m13_0 pu n n344 c345 q352)) none) none)
def l13_1 (pu : PureF) (n : Nat) (w : Nat) : Nat → Nat → Nat → Nat → Int → Int → Int → Sl → List Value → List Value → Option Value :=
  Nat.rec (motive := fun _ => Nat → Nat → Nat → Nat → Int → Int → Int → Sl → List Value → List Value → Option Value) (fun _ _ _ _ _ _ _ _ _ _ => none) (fun _ ih0 => b13_1 pu n ih0) w
def m13_ (pu : PureF) (n : Nat) (x275 : Int) (s277 : Sl) : Option Value :=
  (oo (pu 38 [(.agg ⟨[(.int .i64 x275), (Sl.v 2 s277)]⟩)]) none fun v279 => (oo (vTup v279) none fun l281 => (ll l281 none fun v283 l281 => (ll l281 none fun v284 l281 => (ll l281 (oo (vAgg v283) none fun q285 => (bb (an (Nat.beq (len q285) 14) (allL closed1 q285)) (oo (toI .i64 v284) none fun x288 => (bb (Nat.beq (len q285) 14) (bb (an (Nat.ble (0 + len q285) (len zA73)) (allL scalarB q285)) (bb (allL closed1 (setL q285 0 zA73)) (bb (nt (ieq x288 (0 : Int))) (some (.tuple ⟨[(Sl.v 1 (Sl.mk 0 2 [])), (.int .i64 x288)]⟩)) (bb (Nat.ble (0 + 14) (len (setL q285 0 zA73))) (oo (pu 47 [(.agg ⟨(takeL 14 (dropL 0 (setL q285 0 zA73)))⟩), (.int .i64 x275)]) none fun v295 => (oo (toSl 1 v295) none fun s297 => (bb (allL closed2 [(.agg ⟨(takeL 14 (dropL 0 (setL q285 0 zA73)))⟩), (.int .i64 x275)]) (bb (allL closed1 (Sl.cs s297)) (oo (mapO (toI .i64) (Sl.cs s297)) none fun zs301 => (bb (wholeC 0 1 (len (Sl.cs s297)) (Sl.n s297)) (bb (allL closed1 (mapL I64 (srtZ zs301))) (oo (mapO (toI .i64) (mapL I64 (srtZ zs301))) none fun zs340 => (bb (wholeC 0 1 (len (mapL I64 (srtZ zs301))) (Sl.n s297)) (bb (allL closed1 (mapL I64 (cmpR zs340))) (l13_1 pu n n 0 0 (len (cmpZ zs340)) (2 * (Sl.n s297) + bb false 1 0) (Int.ofNat (len (cmpZ zs340))) (0 : Int) x275 s277 ([] : List Value) (mapL I64 (cmpR zs340))) none) none)) none) none)) none) none))) none)) none) none) none)) none)) fun _ _ => none)))))
def m13 (pu : PureF) (n : Nat) (args : List Value) : Option Value :=
  (ll args none fun a0 args => (ll args (oo (vAgg a0) none fun l271 => (ll l271 none fun v273 l271 => (ll l271 none fun v274 l271 => (ll l271 (oo (toI .i64 v273) none fun x275 => (oo (toSl 2 v274) none fun s277 => (m13_ pu n x275 s277))) fun _ _ => none)))) fun _ _ => none))
theorem r13 {call : CallF} (pu : PureF) (n : Nat) (hcall : call = callP tabs isP pu (inl pu)) {args : List Value} {v : Value} (hm : m13 pu n args = some v) (_ : ∀ x ∈ args, closed2 x = true) : args.length ≤ 40 ∧ Run tt call 1 c13_32 (Fr.made 40 args) (pureHeap tabs) (Fin tt 1 [.tmp 2, .tmp 3] v) := by
  subst hcall
  unfold m13 at hm
  have hq := ll_uncons hm; clear hm; obtain ⟨a0, args_0, rfl, hm⟩ := hq
  have hq := ll_end hm; clear hm; obtain ⟨rfl, hm⟩ := hq
  have hq := oo_inv hm; clear hm; obtain ⟨l271, h272, hm⟩ := hq
  obtain rfl := vAgg_some h272
  have hq := ll_uncons hm; clear hm; obtain ⟨v273, l271_0, rfl, hm⟩ := hq
  have hq := ll_uncons hm; clear hm; obtain ⟨v274, l271_1, rfl, hm⟩ := hq
  have hq := ll_end hm; clear hm; obtain ⟨rfl, hm⟩ := hq
  have hq := oo_inv hm; clear hm; obtain ⟨x275, h276, hm⟩ := hq
  obtain rfl := toI_some h276
  have hq := oo_inv hm; clear hm; obtain ⟨s277, h278, hm⟩ := hq
  obtain rfl := toSl_some h278
  unfold m13_ at hm
  refine ⟨by simp, ?_⟩
  refine .same (F' := (fr 40 [(0, (.agg ⟨[(zI x275), (Sl.v 2 s277)]⟩))])) (H' := (hp 1 [(oT tab0)])) (by kernel_rfl) (by kernel_rfl) ?_
  refine .then ?_
  refine .rK ?_
  refine .ghs (fr 40 [(1, (pt 1 0))]) (hp 2 [(oT tab0), (oC [(zI x275), (Sl.v 2 s277)])]) (.k0 [false] [.tmp 1 false] [1]) ?_
  refine .then ?_
  have hq := oo_inv hm; clear hm; obtain ⟨v279, h280, hm⟩ := hq
  have hq := oo_inv hm; clear hm; obtain ⟨l281, h282, hm⟩ := hq
  obtain rfl := vTup_some h282
  have hq := ll_uncons hm; clear hm; obtain ⟨v283, l281_0, rfl, hm⟩ := hq
  have hq := ll_uncons hm; clear hm; obtain ⟨v284, l281_1, rfl, hm⟩ := hq
  have hq := ll_end hm; clear hm; obtain ⟨rfl, hm⟩ := hq
  have hq := oo_inv hm; clear hm; obtain ⟨q285, h286, hm⟩ := hq
  obtain rfl := vAgg_some h286
  replace hm := bb_inv hm; obtain ⟨h287, hm⟩ := hm
  have hq := oo_inv hm; clear hm; obtain ⟨x288, h289, hm⟩ := hq
  obtain rfl := toI_some h289
  replace hm := bb_inv hm; obtain ⟨h290, hm⟩ := hm
  replace hm := bb_inv hm; obtain ⟨h291, hm⟩ := hm
  refine .reg (eC 1 ((oo (pu 38 [(.agg ⟨[(zI x275), (Sl.v 2 s277)]⟩)]) none fun v => some (v, (hp 2 [(oT tab0), (oC [(zI x275), (Sl.v 2 s277)])])))) (call_eq h280) (eC 4 (done (bb (Nat.beq (len q285) 14) (bb (an (Nat.ble (0 + len q285) (len zA73)) (allL scalarB q285)) (some (hp 3 [(oT tab0), (oC [(zI x275), (Sl.v 2 s277)]), (oC (setL q285 0 zA73))])) none) none) undef) (done_bb2 h290 h291) (eE))) ?_
  replace hm := bb_inv hm; obtain ⟨h292, hm⟩ := hm
  refine .ghs (fr 40 [(1, (pt 1 0)), (4, (pt 2 0)), (5, (zI x288))]) (hp 3 [(oT tab0), (oC [(zI x275), (Sl.v 2 s277)]), (oC (setL q285 0 zA73))]) (.k [2] [false] [.tmp 1 false, .tmp 4 false] [1, 4, 5] ⟨trE (by kernel_rfl) h292, trivial⟩) ?_
  refine .then ?_
  refine .then ?_
  refine .rK ?_
  refine .ghs (fr 40 [(1, (pt 1 0)), (4, (pt 2 0)), (5, (zI x288)), (16, (zB (nt (ieq x288 (0 : Int)))))]) (hp 3 [(oT tab0), (oC [(zI x275), (Sl.v 2 s277)]), (oC (setL q285 0 zA73))]) (.k [2] [false] [.tmp 1 false, .tmp 4 false] [1, 4, 5, 16] ⟨trE (by kernel_rfl) h292, trivial⟩) ?_
  have hq := bb_cases hm; clear hm; rcases hq with ⟨h293, hm⟩ | ⟨h293, hm⟩
  · refine .ifT (nt (ieq x288 (0 : Int))) (by kernel_rfl) h293 ?_
    refine .then ?_
    refine .rK ?_
    refine .ghs (fr 40 [(2, (.slice none 0 0)), (3, (zI x288))]) (hp 1 [(oT tab0)]) (.k0 [false] [] [2, 3]) ?_
    refine .ghs (Fr.puts (fr 40 [(2, (.slice none 0 0)), (3, (zI x288))]) [(2, (Sl.v 1 (Sl.mk 0 2 [])))]) (hp 1 [(oT tab0)]) (.freeze 1 2 1 (by kernel_rfl) (by kernel_rfl) (GhS.id _ _)) ?_
    refine .ret ?_
    exact fin_ret (.tuple ⟨[(Sl.v 1 (Sl.mk 0 2 [])), (zI x288)]⟩) (by kernel_rfl) (by kernel_rfl) hm
  · refine .ifF (nt (ieq x288 (0 : Int))) (by kernel_rfl) h293 ?_
    refine .skip ?_
    refine .ghs (fr 40 [(1, (pt 1 0)), (4, (pt 2 0))]) (hp 3 [(oT tab0), (oC [(zI x275), (Sl.v 2 s277)]), (oC (setL q285 0 zA73))]) (.k [2] [false] [.tmp 1 false, .tmp 4 false] [1, 4] ⟨trE (by kernel_rfl) h292, trivial⟩) ?_
    refine .then ?_
    replace hm := bb_inv hm; obtain ⟨h294, hm⟩ := hm
    have hq := oo_inv hm; clear hm; obtain ⟨v295, h296, hm⟩ := hq
    have hq := oo_inv hm; clear hm; obtain ⟨s297, h298, hm⟩ := hq
    obtain rfl := toSl_some h298
    replace hm := bb_inv hm; obtain ⟨h299, hm⟩ := hm
    refine .reg (eD (keep (hp 3 [(oT tab0), (oC [(zI x275), (Sl.v 2 s277)]), (oC (setL q285 0 zA73))]) (bb (Nat.ble (0 + 14) (len (setL q285 0 zA73))) (some (.agg ⟨(takeL 14 (dropL 0 (setL q285 0 zA73)))⟩)) none)) (keep_bb h294) (eC 2 (bb (allL closed2 [(.agg ⟨(takeL 14 (dropL 0 (setL q285 0 zA73)))⟩), (zI x275)]) (oo (pu 47 [(.agg ⟨(takeL 14 (dropL 0 (setL q285 0 zA73)))⟩), (zI x275)]) none fun v => oo (toSl 1 v) none fun s => some (((sc 3 0 1 (Sl.n s) (d2 (Sl.n s))), (hp 4 [(oT tab0), (oC [(zI x275), (Sl.v 2 s277)]), (oC (setL q285 0 zA73)), (oC (Sl.cs s))])) : Value × AHeap)) none) ((bb_true' h299).trans (live_eq (sz := 1) (k := fun s => (((sc 3 0 1 (Sl.n s) (d2 (Sl.n s))), (hp 4 [(oT tab0), (oC [(zI x275), (Sl.v 2 s277)]), (oC (setL q285 0 zA73)), (oC (Sl.cs s))])) : Value × AHeap)) h296)) (eE))) ?_
    replace hm := bb_inv hm; obtain ⟨h300, hm⟩ := hm
    refine .ghs (fr 40 [(1, (pt 1 0)), (6, (sc 2 0 1 (Sl.n s297) (d2 (Sl.n s297))))]) (hp 3 [(oT tab0), (oC [(zI x275), (Sl.v 2 s277)]), (oC (Sl.cs s297))]) (.k [3] [false] [.tmp 1 false, .tmp 6 false] [1, 6] ⟨trE (by kernel_rfl) h300, trivial⟩) ?_
    refine .then ?_
    have hq := oo_inv hm; clear hm; obtain ⟨zs301, h302, hm⟩ := hq
    replace hm := bb_inv hm; obtain ⟨h303, hm⟩ := hm
    refine .reg (eC 1 (sortF [(sc 2 0 1 (Sl.n s297) (d2 (Sl.n s297)))] (hp 3 [(oT tab0), (oC [(zI x275), (Sl.v 2 s277)]), (oC (Sl.cs s297))])) (sortF_eq (x := (sc 2 0 1 (Sl.n s297) (d2 (Sl.n s297)))) (H := (hp 3 [(oT tab0), (oC [(zI x275), (Sl.v 2 s277)]), (oC (Sl.cs s297))])) (id := 2) (ln := (Sl.n s297)) (c2 := (d2 (Sl.n s297))) (xs := (Sl.cs s297)) (anc := []) (by kernel_rfl) (by kernel_rfl) h302 h303) (eE)) ?_
    replace hm := bb_inv hm; obtain ⟨h304, hm⟩ := hm
    refine .ghs (fr 40 [(1, (pt 1 0)), (6, (sc 2 0 1 (Sl.n s297) (d2 (Sl.n s297))))]) (hp 3 [(oT tab0), (oC [(zI x275), (Sl.v 2 s277)]), (oC (mapL I64 (srtZ zs301)))]) (.k [2] [false] [.tmp 1 false, .tmp 6 false] [1, 6] ⟨trE (by kernel_rfl) h304, trivial⟩) ?_
    refine .then ?_
    refine .rK ?_
    refine .ghs (fr 40 [(1, (pt 1 0)), (6, (sc 2 0 1 (Sl.n s297) (d2 (Sl.n s297)))), (7, (.slice none 0 0))]) (hp 3 [(oT tab0), (oC [(zI x275), (Sl.v 2 s277)]), (oC (mapL I64 (srtZ zs301)))]) (.k [2] [false] [.tmp 1 false, .tmp 6 false] [1, 6, 7] ⟨trE (by kernel_rfl) h304, trivial⟩) ?_
    refine .join (v := v) (fun y : Nat × Nat × List Value => ((fr 40 [(7, (sc 1 0 1 y.1 y.2.1))]), (hp 2 [(oT tab0), (oC y.2.2)]))) (fun y => m13_0 pu n y.1 y.2.1 y.2.2) ?_ ?_
    · rintro ⟨n335, c336, q337⟩ hm
      unfold m13_0 at hm
      refine .then ?_
      refine .rK ?_
      replace hm := bb_inv hm; obtain ⟨h338, hm⟩ := hm
      refine .ghs (fr 40 [(2, (sc 1 0 1 n335 c336)), (3, (zI (0 : Int)))]) (hp 2 [(oT tab0), (oC q337)]) (.k [1] [false] [.tmp 2 false] [2, 3] ⟨trE (by kernel_rfl) h338, trivial⟩) ?_
      replace hm := bb_inv hm; obtain ⟨h339, hm⟩ := hm
      refine .ghs (Fr.puts (fr 40 [(2, (sc 1 0 1 n335 c336)), (3, (zI (0 : Int)))]) [(2, (Sl.v 1 (Sl.mk n335 0 (takeL (n335 * 1) (dropL 0 q337)))))]) (hp 2 [(oT tab0), .dead]) (.freezeC 1 2 1 (an (Nat.ble (0 + n335 * 1) (len q337)) (allL closed1 (takeL (n335 * 1) (dropL 0 q337)))) (F1 := (Fr.puts (fr 40 [(2, (sc 1 0 1 n335 c336)), (3, (zI (0 : Int)))]) [(2, (Sl.v 1 (Sl.mk n335 0 (takeL (n335 * 1) (dropL 0 q337)))))])) (H1 := (hp 2 [(oT tab0), .dead])) (by kernel_rfl) (by kernel_rfl) h339 (GhS.id _ _)) ?_
      refine .ret ?_
      exact fin_ret (.tuple ⟨[(Sl.v 1 (Sl.mk n335 0 (takeL (n335 * 1) (dropL 0 q337)))), (zI (0 : Int))]⟩) (by kernel_rfl) (by kernel_rfl) hm
    · skip
      refine .then ?_
      have hq := oo_inv hm; clear hm; obtain ⟨zs340, h341, hm⟩ := hq
      replace hm := bb_inv hm; obtain ⟨h342, hm⟩ := hm
      refine .reg (eC 1 (compactF [(sc 2 0 1 (Sl.n s297) (d2 (Sl.n s297)))] (hp 3 [(oT tab0), (oC [(zI x275), (Sl.v 2 s277)]), (oC (mapL I64 (srtZ zs301)))])) (compactF_eq (x := (sc 2 0 1 (Sl.n s297) (d2 (Sl.n s297)))) (H := (hp 3 [(oT tab0), (oC [(zI x275), (Sl.v 2 s277)]), (oC (mapL I64 (srtZ zs301)))])) (id := 2) (ln := (Sl.n s297)) (c2 := (d2 (Sl.n s297))) (xs := (mapL I64 (srtZ zs301))) (anc := []) (by kernel_rfl) (by kernel_rfl) h341 h342) (eE)) ?_
      replace hm := bb_inv hm; obtain ⟨h343, hm⟩ := hm
      refine .ghs (fr 40 [(1, (pt 1 0)), (7, (.slice none 0 0)), (25, (sc 2 0 1 (len (cmpZ zs340)) (d2 (Sl.n s297)))), (26, (zI (Int.ofNat (len (cmpZ zs340))))), (27, (zI (0 : Int)))]) (hp 3 [(oT tab0), (oC [(zI x275), (Sl.v 2 s277)]), (oC (mapL I64 (cmpR zs340)))]) (.k [2] [false] [.tmp 1 false, .tmp 25 false] [1, 7, 25, 26, 27] ⟨trE (by kernel_rfl) h343, trivial⟩) ?_
      refine .block ?_
      refine .loopM (v := v) (fun y : Nat × Nat × Nat × Nat × Int × Int × Int × Sl × List Value × List Value => ((fr 40 [(1, (pt 1 0)), (7, (sc 2 0 1 y.1 y.2.1)), (25, (sc 3 0 1 y.2.2.1 y.2.2.2.1)), (26, (zI y.2.2.2.2.1)), (27, (zI y.2.2.2.2.2.1))]), (hp 4 [(oT tab0), (oC [(zI y.2.2.2.2.2.2.1), (Sl.v 2 y.2.2.2.2.2.2.2.1)]), (oC y.2.2.2.2.2.2.2.2.1), (oC y.2.2.2.2.2.2.2.2.2)]))) (fun w y => l13_1 pu n w y.1 y.2.1 y.2.2.1 y.2.2.2.1 y.2.2.2.2.1 y.2.2.2.2.2.1 y.2.2.2.2.2.2.1 y.2.2.2.2.2.2.2.1 y.2.2.2.2.2.2.2.2.1 y.2.2.2.2.2.2.2.2.2) n ⟨(0, 0, (len (cmpZ zs340)), (d2 (Sl.n s297)), (Int.ofNat (len (cmpZ zs340))), (0 : Int), x275, s277, ([] : List Value), (mapL I64 (cmpR zs340))), hm, (.thaw 7 1 (by kernel_rfl) (.k [2] [false] [.tmp 1 false, .tmp 7 false, .tmp 25 false] [1, 7, 25, 26, 27] ⟨trE (by kernel_rfl) h343, trivial⟩))⟩ (fun _ => rfl) ?_
      rintro w0 ⟨n344, c345, n346, c347, z348, z349, z350, s351, q352, q353⟩ hm
      refine .then ?_
      refine .rK ?_
      replace hm := bb_inv hm; obtain ⟨h354, hm⟩ := hm
      replace hm := bb_inv hm; obtain ⟨h355, hm⟩ := hm
      refine .ghs (fr 40 [(1, (pt 1 0)), (7, (sc 2 0 1 n344 c345)), (25, (sc 3 0 1 n346 c347)), (26, (zI z348)), (27, (zI z349)), (28, (zB (ilt z349 z348)))]) (hp 4 [(oT tab0), (oC [(zI z350), (Sl.v 2 s351)]), (oC q352), (oC q353)]) (.k [2, 3] [false] [.tmp 1 false, .tmp 7 false, .tmp 25 false] [1, 7, 25, 26, 27, 28] ⟨trE (by kernel_rfl) h354, trE (by kernel_rfl) h355, trivial⟩) ?_
      refine .then ?_
      have hq := bb_cases hm; clear hm; rcases hq with ⟨h356, hm⟩ | ⟨h356, hm⟩
      · refine .ifT (ilt z349 z348) (by kernel_rfl) h356 ?_
        refine .skip ?_
        refine .ghs (fr 40 [(1, (pt 1 0)), (7, (sc 2 0 1 n344 c345)), (25, (sc 3 0 1 n346 c347)), (26, (zI z348)), (27, (zI z349))]) (hp 4 [(oT tab0), (oC [(zI z350), (Sl.v 2 s351)]), (oC q352), (oC q353)]) (.k [2, 3] [false] [.tmp 1 false, .tmp 7 false, .tmp 25 false] [1, 7, 25, 26, 27] ⟨trE (by kernel_rfl) h354, trE (by kernel_rfl) h355, trivial⟩) ?_
        refine .then ?_
        refine .block ?_
        refine .then ?_
        have hq := oo_inv hm; clear hm; obtain ⟨k357, h358, hm⟩ := hq
        obtain rfl := toN_some h358
        replace hm := bb_inv hm; obtain ⟨h359, hm⟩ := hm
        have hq := oo_inv hm; clear hm; obtain ⟨v360, h361, hm⟩ := hq
        have hq := oo_inv hm; clear hm; obtain ⟨x362, h363, hm⟩ := hq
        obtain rfl := toI_some h363
        refine .reg (eD (keep (hp 4 [(oT tab0), (oC [(zI z350), (Sl.v 2 s351)]), (oC q352), (oC q353)]) (bb (an (Nat.blt k357 n346) true) (some (.pointer (some ⟨3, (0 + k357 * 1), none⟩))) none)) (keep_bb h359) (eD (keep (hp 4 [(oT tab0), (oC [(zI z350), (Sl.v 2 s351)]), (oC q352), (oC q353)]) (nthL q353 (0 + k357 * 1))) (keep_eq h361) (eE))) ?_
        refine .ghs (fr 40 [(1, (pt 1 0)), (7, (sc 2 0 1 n344 c345)), (9, (zI x362)), (25, (sc 3 0 1 n346 c347)), (26, (zI z348)), (27, (zI (Int.ofNat k357)))]) (hp 4 [(oT tab0), (oC [(zI z350), (Sl.v 2 s351)]), (oC q352), (oC q353)]) (.k [2, 3] [false] [.tmp 1 false, .tmp 7 false, .tmp 25 false] [1, 7, 9, 25, 26, 27] ⟨trE (by kernel_rfl) h354, trE (by kernel_rfl) h355, trivial⟩) ?_
        have hq := oo_inv hm; clear hm; obtain ⟨v364, h365, hm⟩ := hq
        have hq := oo_inv hm; clear hm; obtain ⟨s366, h367, hm⟩ := hq
        obtain rfl := toSl_some h367
        replace hm := bb_inv hm; obtain ⟨h368, hm⟩ := hm
        refine .reg (eC 4 ((oo (pu 43 [(zI z350), (zI x362)]) none fun v => some (v, (hp 4 [(oT tab0), (oC [(zI z350), (Sl.v 2 s351)]), (oC q352), (oC q353)])))) (call_eq h365) (eC 1 (growD 1 24 n344 c345 1 2 q352 [(Sl.v 1 s366)] [] (hp 5 [(oT tab0), (oC [(zI z350), (Sl.v 2 s351)]), (oC q352), (oC q353), (oC [(Sl.v 1 s366)])])) (growD_eq h368) (eE))) ?_
        replace hm := bb_inv hm; obtain ⟨h369, hm⟩ := hm
        refine .ghs (fr 40 [(1, (pt 1 0)), (7, (sc 2 0 1 (n344 + 1) (d2 (n344 + 1)))), (25, (sc 3 0 1 n346 c347)), (26, (zI z348)), (27, (zI (Int.ofNat k357)))]) (hp 4 [(oT tab0), (oC [(zI z350), (Sl.v 2 s351)]), (oC (appL (dropL 0 q352) [(Sl.v 1 s366)])), (oC q353)]) (.k [5, 3] [false] [.tmp 1 false, .tmp 7 false, .tmp 25 false] [1, 7, 25, 26, 27] ⟨trE (by kernel_rfl) h369, trE (by kernel_rfl) h355, trivial⟩) ?_
        refine .rK ?_
        exact ⟨((n344 + 1), (d2 (n344 + 1)), n346, c347, z348, (wrapF .i64 (Int.add (Int.ofNat k357) (1 : Int))), z350, s351, (appL (dropL 0 q352) [(Sl.v 1 s366)]), q353), hm, (.k [2, 3] [false] [.tmp 1 false, .tmp 7 false, .tmp 25 false] [1, 7, 25, 26, 27] ⟨trE (by kernel_rfl) h369, trE (by kernel_rfl) h355, trivial⟩)⟩
      · refine .ifF (ilt z349 z348) (by kernel_rfl) h356 ?_
        refine .exit ?_
        exact ⟨(n344, c345, q352), hm, (.k [2] [false] [.tmp 7 false] [7] ⟨trE (by kernel_rfl) h354, trivial⟩)⟩
end
end Go.TabSM
