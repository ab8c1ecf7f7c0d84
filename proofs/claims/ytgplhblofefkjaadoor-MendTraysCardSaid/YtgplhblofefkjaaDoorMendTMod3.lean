/- Models of the program's functions, and the proofs that runs give them: MADE BY PROGRAM (wip/tools/dec.py). -/
import Derived.Test.YtgplhblofefkjaaDoorMendTMod0x

set_option maxRecDepth 100000
set_option linter.unusedVariables false
namespace Go.MendM
open Go.Sp Go.MendT
noncomputable section
/-- spadille/spadillelaw09.same -/
def o20_0 : List ROp := [
  ⟨(some 4), .assign (.const (.bool false)), 4, none, []⟩]
def c20_0 : RC := .reg [] o20_0
def o20_1 : List ROp := [
  ⟨(some 6), .move (.tmp 0), 22, none, []⟩,
  ⟨(some 7), .call ⟨.builtin .len, #[(.tmp 6)], #[22]⟩, 3, none, []⟩,
  ⟨(some 8), .move (.tmp 1), 22, none, []⟩,
  ⟨(some 9), .call ⟨.builtin .len, #[(.tmp 8)], #[22]⟩, 3, none, []⟩,
  ⟨(some 10), .binOp .neq 3 (.tmp 7) (.tmp 9) 3, 4, none, []⟩]
def c20_1 : RC := .reg [] o20_1
def o20_2 : List ROp := [
  ⟨(some 4), .assign (.const (.bool false)), 4, none, []⟩]
def c20_2 : RC := .reg [] o20_2
def c20_3 : RC := .seq c20_2 .ret
def c20_4 : RC := .cond (.tmp 10) c20_3 .skip
def c20_5 : RC := .seq c20_1 c20_4
def o20_6 : List ROp := [
  ⟨(some 5), .assign (.const (.int .i64 0)), 3, none, []⟩]
def c20_6 : RC := .reg [] o20_6
def o20_7 : List ROp := [
  ⟨(some 11), .move (.tmp 5), 3, none, []⟩,
  ⟨(some 12), .move (.tmp 0), 22, none, []⟩,
  ⟨(some 13), .call ⟨.builtin .len, #[(.tmp 12)], #[22]⟩, 3, none, []⟩,
  ⟨(some 14), .binOp .lss 3 (.tmp 11) (.tmp 13) 3, 4, none, []⟩]
def c20_7 : RC := .reg [] o20_7
def c20_8 : RC := .cond (.tmp 14) .skip (.exit 0)
def c20_9 : RC := .seq c20_7 c20_8
def o20_10 : List ROp := [
  ⟨(some 17), .move (.tmp 0), 22, none, []⟩,
  ⟨(some 18), .move (.tmp 5), 3, none, []⟩,
  ⟨(some 19), .indexAddr 22 (.tmp 17) (.tmp 18), 0, none, []⟩,
  ⟨(some 20), .load 3 (.tmp 19), 3, none, []⟩,
  ⟨(some 21), .move (.tmp 1), 22, none, []⟩,
  ⟨(some 22), .move (.tmp 5), 3, none, []⟩,
  ⟨(some 23), .indexAddr 22 (.tmp 21) (.tmp 22), 0, none, []⟩,
  ⟨(some 24), .load 3 (.tmp 23), 3, none, []⟩,
  ⟨(some 25), .binOp .neq 3 (.tmp 20) (.tmp 24) 3, 4, none, []⟩]
def c20_10 : RC := .reg [0, 1, 2, 3, 4, 5, 6, 7, 8] o20_10
def o20_11 : List ROp := [
  ⟨(some 4), .assign (.const (.bool false)), 4, none, []⟩]
def c20_11 : RC := .reg [] o20_11
def c20_12 : RC := .seq c20_11 .ret
def c20_13 : RC := .cond (.tmp 25) c20_12 .skip
def c20_14 : RC := .seq c20_10 c20_13
def c20_15 : RC := .block 1 c20_14
def o20_16 : List ROp := [
  ⟨(some 15), .move (.tmp 5), 3, none, []⟩,
  ⟨(some 16), .binOp .add 3 (.tmp 15) (.const (.int .i64 1)) 3, 3, none, []⟩,
  ⟨(some 5), .assign (.tmp 16), 3, none, []⟩]
def c20_16 : RC := .reg [] o20_16
def c20_17 : RC := .seq c20_15 c20_16
def c20_18 : RC := .seq c20_9 c20_17
def c20_19 : RC := .loop c20_18
def c20_20 : RC := .block 0 c20_19
def c20_21 : RC := .seq c20_6 c20_20
def o20_22 : List ROp := [
  ⟨(some 4), .assign (.const (.bool true)), 4, none, []⟩]
def c20_22 : RC := .reg [] o20_22
def c20_23 : RC := .seq c20_22 .ret
def c20_24 : RC := .seq c20_21 c20_23
def c20_25 : RC := .seq c20_5 c20_24
def c20_26 : RC := .seq c20_0 c20_25
def m20_0 (pu : PureF) (n : Nat) : Option Value :=
  (some (.bool true))
def b20_1 (pu : PureF) (n : Nat) (ih0 : Sl → Sl → Int → Option Value) (s326 : Sl) (s327 : Sl) (z328 : Int) : Option Value :=
  (bb (ilt z328 (Int.ofNat (Sl.n s326))) (oo (toN z328) none fun k330 => (bb (an (Nat.blt k330 (Sl.n s326)) true) (oo (nthL (Sl.cs s326) (k330 * 1)) none fun v333 => (oo (toI .i64 v333) none fun x335 => (bb (an (Nat.blt k330 (Sl.n s327)) true) (oo (nthL (Sl.cs s327) (k330 * 1)) none fun v338 => (oo (toI .i64 v338) none fun x340 => (bb (nt (ieq x335 x340)) (some (.bool false)) (ih0 s326 s327 (wrapF .i64 (Int.add (Int.ofNat k330) (1 : Int))))))) none))) none)) (m20_0 pu n))
def l20_1 (pu : PureF) (n : Nat) (w : Nat) : Sl → Sl → Int → Option Value :=
  Nat.rec (motive := fun _ => Sl → Sl → Int → Option Value) (fun _ _ _ => none) (fun _ ih0 => b20_1 pu n ih0) w
def m20_ (pu : PureF) (n : Nat) (s304 : Sl) (s306 : Sl) : Option Value :=
  (bb (nt (ieq (Int.ofNat (Sl.n s304)) (Int.ofNat (Sl.n s306)))) (some (.bool false)) (l20_1 pu n n s304 s306 (0 : Int)))
def m20 (pu : PureF) (n : Nat) (args : List Value) : Option Value :=
  (ll args none fun a0 args => (ll args none fun a1 args => (ll args (oo (toSl 1 a0) none fun s304 => (oo (toSl 1 a1) none fun s306 => (m20_ pu n s304 s306))) fun _ _ => none)))
theorem r20 {call : CallF} (pu : PureF) (n : Nat) (hcall : call = callP tabs isP pu inl) {args : List Value} {v : Value} (hm : m20 pu n args = some v) (_ : ∀ x ∈ args, closed2 x = true) : args.length ≤ 26 ∧ Run tt call 1 c20_26 (Fr.made 26 args) (pureHeap tabs) (Fin tt 1 [.tmp 4] v) := by
  subst hcall
  unfold m20 at hm
  have hq := ll_uncons hm; clear hm; obtain ⟨a0, args_0, rfl, hm⟩ := hq
  have hq := ll_uncons hm; clear hm; obtain ⟨a1, args_1, rfl, hm⟩ := hq
  have hq := ll_end hm; clear hm; obtain ⟨rfl, hm⟩ := hq
  have hq := oo_inv hm; clear hm; obtain ⟨s304, h305, hm⟩ := hq
  obtain rfl := toSl_some h305
  have hq := oo_inv hm; clear hm; obtain ⟨s306, h307, hm⟩ := hq
  obtain rfl := toSl_some h307
  unfold m20_ at hm
  refine ⟨by simp, ?_⟩
  refine .same (F' := (⟨26, frTr [(0, (Sl.v 1 s304)), (1, (Sl.v 1 s306))] .nil⟩ : Fr)) (H' := (⟨1, objTr [(.cells tab0 true false [])] 0 .nil, true⟩ : AHeap)) (by kernel_rfl) (by kernel_rfl) ?_
  refine .then ?_
  refine .reg (F' := (Fr.puts (⟨26, frTr [(0, (Sl.v 1 s304)), (1, (Sl.v 1 s306))] .nil⟩ : Fr) [(4, (.bool false))])) (H' := (⟨1, objTr [(.cells tab0 true false [])] 0 .nil, true⟩ : AHeap)) (by kernel_rfl) ?_
  refine .ghs (⟨26, frTr [(0, (Sl.v 1 s304)), (1, (Sl.v 1 s306))] .nil⟩ : Fr) (⟨1, objTr [(.cells tab0 true false [])] 0 .nil, true⟩ : AHeap) (.gc [] [false] [] [0, 1] (by kernel_rfl) trivial (by kernel_rfl)) ?_
  refine .then ?_
  refine .then ?_
  refine .reg (F' := (Fr.puts (⟨26, frTr [(0, (Sl.v 1 s304)), (1, (Sl.v 1 s306))] .nil⟩ : Fr) [(6, (Sl.v 1 s304)), (7, (.int .i64 (Int.ofNat (Sl.n s304)))), (8, (Sl.v 1 s306)), (9, (.int .i64 (Int.ofNat (Sl.n s306)))), (10, (.bool (nt (ieq (Int.ofNat (Sl.n s304)) (Int.ofNat (Sl.n s306))))))])) (H' := (⟨1, objTr [(.cells tab0 true false [])] 0 .nil, true⟩ : AHeap)) (by kernel_rfl) ?_
  refine .ghs (⟨26, frTr [(0, (Sl.v 1 s304)), (1, (Sl.v 1 s306)), (10, (.bool (nt (ieq (Int.ofNat (Sl.n s304)) (Int.ofNat (Sl.n s306))))))] .nil⟩ : Fr) (⟨1, objTr [(.cells tab0 true false [])] 0 .nil, true⟩ : AHeap) (.gc [] [false] [] [0, 1, 10] (by kernel_rfl) trivial (by kernel_rfl)) ?_
  have hq := bb_cases hm; clear hm; rcases hq with ⟨h308, hm⟩ | ⟨h308, hm⟩
  · refine .ifT (nt (ieq (Int.ofNat (Sl.n s304)) (Int.ofNat (Sl.n s306)))) (by kernel_rfl) h308 ?_
    refine .then ?_
    refine .reg (F' := (Fr.puts (⟨26, frTr [(0, (Sl.v 1 s304)), (1, (Sl.v 1 s306)), (10, (.bool (nt (ieq (Int.ofNat (Sl.n s304)) (Int.ofNat (Sl.n s306))))))] .nil⟩ : Fr) [(4, (.bool false))])) (H' := (⟨1, objTr [(.cells tab0 true false [])] 0 .nil, true⟩ : AHeap)) (by kernel_rfl) ?_
    refine .ghs (⟨26, frTr [(4, (.bool false))] .nil⟩ : Fr) (⟨1, objTr [(.cells tab0 true false [])] 0 .nil, true⟩ : AHeap) (.gc [] [false] [] [4] (by kernel_rfl) trivial (by kernel_rfl)) ?_
    refine .ret ?_
    exact fin_ret (.bool false) (by kernel_rfl) (by kernel_rfl) hm
  · refine .ifF (nt (ieq (Int.ofNat (Sl.n s304)) (Int.ofNat (Sl.n s306)))) (by kernel_rfl) h308 ?_
    refine .skip ?_
    refine .ghs (⟨26, frTr [(0, (Sl.v 1 s304)), (1, (Sl.v 1 s306))] .nil⟩ : Fr) (⟨1, objTr [(.cells tab0 true false [])] 0 .nil, true⟩ : AHeap) (.gc [] [false] [] [0, 1] (by kernel_rfl) trivial (by kernel_rfl)) ?_
    refine .join (v := v) (fun y : Unit => ((⟨26, frTr [] .nil⟩ : Fr), (⟨1, objTr [(.cells tab0 true false [])] 0 .nil, true⟩ : AHeap))) (fun y => m20_0 pu n) ?_ ?_
    · rintro _ hm
      unfold m20_0 at hm
      refine .then ?_
      refine .reg (F' := (Fr.puts (⟨26, frTr [] .nil⟩ : Fr) [(4, (.bool true))])) (H' := (⟨1, objTr [(.cells tab0 true false [])] 0 .nil, true⟩ : AHeap)) (by kernel_rfl) ?_
      refine .ghs (⟨26, frTr [(4, (.bool true))] .nil⟩ : Fr) (⟨1, objTr [(.cells tab0 true false [])] 0 .nil, true⟩ : AHeap) (.gc [] [false] [] [4] (by kernel_rfl) trivial (by kernel_rfl)) ?_
      refine .ret ?_
      exact fin_ret (.bool true) (by kernel_rfl) (by kernel_rfl) hm
    · skip
      refine .then ?_
      refine .reg (F' := (Fr.puts (⟨26, frTr [(0, (Sl.v 1 s304)), (1, (Sl.v 1 s306))] .nil⟩ : Fr) [(5, (.int .i64 (0 : Int)))])) (H' := (⟨1, objTr [(.cells tab0 true false [])] 0 .nil, true⟩ : AHeap)) (by kernel_rfl) ?_
      refine .ghs (⟨26, frTr [(0, (Sl.v 1 s304)), (1, (Sl.v 1 s306)), (5, (.int .i64 (0 : Int)))] .nil⟩ : Fr) (⟨1, objTr [(.cells tab0 true false [])] 0 .nil, true⟩ : AHeap) (.gc [] [false] [] [0, 1, 5] (by kernel_rfl) trivial (by kernel_rfl)) ?_
      refine .block ?_
      refine .loopM (v := v) (fun y : Sl × Sl × Int => ((⟨26, frTr [(0, (Sl.v 1 y.1)), (1, (Sl.v 1 y.2.1)), (5, (.int .i64 y.2.2))] .nil⟩ : Fr), (⟨1, objTr [(.cells tab0 true false [])] 0 .nil, true⟩ : AHeap))) (fun w y => l20_1 pu n w y.1 y.2.1 y.2.2) n ⟨(s304, s306, (0 : Int)), hm, (.gc [] [false] [] [0, 1, 5] (by kernel_rfl) trivial (by kernel_rfl))⟩ (fun _ => rfl) ?_
      rintro w0 ⟨s326, s327, z328⟩ hm
      refine .then ?_
      refine .then ?_
      refine .reg (F' := (Fr.puts (⟨26, frTr [(0, (Sl.v 1 s326)), (1, (Sl.v 1 s327)), (5, (.int .i64 z328))] .nil⟩ : Fr) [(11, (.int .i64 z328)), (12, (Sl.v 1 s326)), (13, (.int .i64 (Int.ofNat (Sl.n s326)))), (14, (.bool (ilt z328 (Int.ofNat (Sl.n s326)))))])) (H' := (⟨1, objTr [(.cells tab0 true false [])] 0 .nil, true⟩ : AHeap)) (by kernel_rfl) ?_
      refine .ghs (⟨26, frTr [(0, (Sl.v 1 s326)), (1, (Sl.v 1 s327)), (5, (.int .i64 z328)), (14, (.bool (ilt z328 (Int.ofNat (Sl.n s326)))))] .nil⟩ : Fr) (⟨1, objTr [(.cells tab0 true false [])] 0 .nil, true⟩ : AHeap) (.gc [] [false] [] [0, 1, 5, 14] (by kernel_rfl) trivial (by kernel_rfl)) ?_
      have hq := bb_cases hm; clear hm; rcases hq with ⟨h329, hm⟩ | ⟨h329, hm⟩
      · refine .ifT (ilt z328 (Int.ofNat (Sl.n s326))) (by kernel_rfl) h329 ?_
        refine .skip ?_
        refine .ghs (⟨26, frTr [(0, (Sl.v 1 s326)), (1, (Sl.v 1 s327)), (5, (.int .i64 z328))] .nil⟩ : Fr) (⟨1, objTr [(.cells tab0 true false [])] 0 .nil, true⟩ : AHeap) (.gc [] [false] [] [0, 1, 5] (by kernel_rfl) trivial (by kernel_rfl)) ?_
        refine .then ?_
        refine .block ?_
        refine .then ?_
        have hq := oo_inv hm; clear hm; obtain ⟨k330, h331, hm⟩ := hq
        obtain rfl := toN_some h331
        have hq := bb_inv hm; clear hm; obtain ⟨h332, hm⟩ := hq
        have hq := oo_inv hm; clear hm; obtain ⟨v333, h334, hm⟩ := hq
        have hq := oo_inv hm; clear hm; obtain ⟨x335, h336, hm⟩ := hq
        obtain rfl := toI_some h336
        have hq := bb_inv hm; clear hm; obtain ⟨h337, hm⟩ := hq
        have hq := oo_inv hm; clear hm; obtain ⟨v338, h339, hm⟩ := hq
        have hq := oo_inv hm; clear hm; obtain ⟨x340, h341, hm⟩ := hq
        obtain rfl := toI_some h341
        refine .reg (F' := (Fr.puts (⟨26, frTr [(0, (Sl.v 1 s326)), (1, (Sl.v 1 s327)), (5, (.int .i64 (Int.ofNat k330)))] .nil⟩ : Fr) [(17, (Sl.v 1 s326)), (18, (.int .i64 (Int.ofNat k330))), (19, (fpV (k330 * 1) (Sl.cs s326))), (20, (.int .i64 x335)), (21, (Sl.v 1 s327)), (22, (.int .i64 (Int.ofNat k330))), (23, (fpV (k330 * 1) (Sl.cs s327))), (24, (.int .i64 x340)), (25, (.bool (nt (ieq x335 x340))))])) (H' := (⟨1, objTr [(.cells tab0 true false [])] 0 .nil, true⟩ : AHeap)) (evOps_cut 2 (by kernel_rfl) (evOps_data (keep (⟨1, objTr [(.cells tab0 true false [])] 0 .nil, true⟩ : AHeap) (bb (an (Nat.blt k330 (Sl.n s326)) true) (some (fpV (k330 * 1) (Sl.cs s326))) none)) (by kernel_rfl) (keep_bb h332) (okAt_of (by kernel_rfl) (by kernel_rfl)) (evOps_data (keep (⟨1, objTr [(.cells tab0 true false [])] 0 .nil, true⟩ : AHeap) (nthL (Sl.cs s326) (k330 * 1))) (by kernel_rfl) (keep_eq h334) (okAt_of (by kernel_rfl) (by kernel_rfl)) (evOps_cut 2 (by kernel_rfl) (evOps_data (keep (⟨1, objTr [(.cells tab0 true false [])] 0 .nil, true⟩ : AHeap) (bb (an (Nat.blt k330 (Sl.n s327)) true) (some (fpV (k330 * 1) (Sl.cs s327))) none)) (by kernel_rfl) (keep_bb h337) (okAt_of (by kernel_rfl) (by kernel_rfl)) (evOps_data (keep (⟨1, objTr [(.cells tab0 true false [])] 0 .nil, true⟩ : AHeap) (nthL (Sl.cs s327) (k330 * 1))) (by kernel_rfl) (keep_eq h339) (okAt_of (by kernel_rfl) (by kernel_rfl)) (by kernel_rfl))))))) ?_
        refine .ghs (⟨26, frTr [(0, (Sl.v 1 s326)), (1, (Sl.v 1 s327)), (5, (.int .i64 (Int.ofNat k330))), (25, (.bool (nt (ieq x335 x340))))] .nil⟩ : Fr) (⟨1, objTr [(.cells tab0 true false [])] 0 .nil, true⟩ : AHeap) (.gc [] [false] [] [0, 1, 5, 25] (by kernel_rfl) trivial (by kernel_rfl)) ?_
        have hq := bb_cases hm; clear hm; rcases hq with ⟨h342, hm⟩ | ⟨h342, hm⟩
        · refine .ifT (nt (ieq x335 x340)) (by kernel_rfl) h342 ?_
          refine .then ?_
          refine .reg (F' := (Fr.puts (⟨26, frTr [(0, (Sl.v 1 s326)), (1, (Sl.v 1 s327)), (5, (.int .i64 (Int.ofNat k330))), (25, (.bool (nt (ieq x335 x340))))] .nil⟩ : Fr) [(4, (.bool false))])) (H' := (⟨1, objTr [(.cells tab0 true false [])] 0 .nil, true⟩ : AHeap)) (by kernel_rfl) ?_
          refine .ghs (⟨26, frTr [(4, (.bool false))] .nil⟩ : Fr) (⟨1, objTr [(.cells tab0 true false [])] 0 .nil, true⟩ : AHeap) (.gc [] [false] [] [4] (by kernel_rfl) trivial (by kernel_rfl)) ?_
          refine .ret ?_
          exact fin_ret (.bool false) (by kernel_rfl) (by kernel_rfl) hm
        · refine .ifF (nt (ieq x335 x340)) (by kernel_rfl) h342 ?_
          refine .skip ?_
          refine .ghs (⟨26, frTr [(0, (Sl.v 1 s326)), (1, (Sl.v 1 s327)), (5, (.int .i64 (Int.ofNat k330)))] .nil⟩ : Fr) (⟨1, objTr [(.cells tab0 true false [])] 0 .nil, true⟩ : AHeap) (.gc [] [false] [] [0, 1, 5] (by kernel_rfl) trivial (by kernel_rfl)) ?_
          refine .reg (F' := (Fr.puts (⟨26, frTr [(0, (Sl.v 1 s326)), (1, (Sl.v 1 s327)), (5, (.int .i64 (Int.ofNat k330)))] .nil⟩ : Fr) [(15, (.int .i64 (Int.ofNat k330))), (16, (.int .i64 (wrapF .i64 (Int.add (Int.ofNat k330) (1 : Int))))), (5, (.int .i64 (wrapF .i64 (Int.add (Int.ofNat k330) (1 : Int)))))])) (H' := (⟨1, objTr [(.cells tab0 true false [])] 0 .nil, true⟩ : AHeap)) (by kernel_rfl) ?_
          exact ⟨(s326, s327, (wrapF .i64 (Int.add (Int.ofNat k330) (1 : Int)))), hm, (.gc [] [false] [] [0, 1, 5] (by kernel_rfl) trivial (by kernel_rfl))⟩
      · refine .ifF (ilt z328 (Int.ofNat (Sl.n s326))) (by kernel_rfl) h329 ?_
        refine .exit ?_
        exact ⟨(), hm, (.gc [] [false] [] [] (by kernel_rfl) trivial (by kernel_rfl))⟩
/-- spadille/mend.Check -/
def o21_0 : List ROp := [
  ⟨(some 1), .box 24 (.tmp 0), 0, none, []⟩,
  ⟨(some 2), .assign (.const (.int .i64 0)), 28, none, []⟩]
def c21_0 : RC := .reg [] o21_0
def o21_1 : List ROp := [
  ⟨(some 8), .fieldAddr 24 (.tmp 1) 0, 0, none, []⟩,
  ⟨(some 9), .load 3 (.tmp 8), 3, none, []⟩,
  ⟨(some 10), .call ⟨.value (.func 60), #[(.const (.int .i64 1)), (.tmp 9), (.const (.int .i64 5))], #[3, 3, 3]⟩, 4, none, []⟩,
  ⟨(some 11), .unOp .not 4 (.tmp 10), 4, none, []⟩,
  ⟨(some 7), .assign (.tmp 11), 4, none, []⟩]
def c21_1 : RC := .reg [] o21_1
def o21_2 : List ROp := [
  ⟨(some 2), .assign (.const (.int .i64 1)), 28, none, []⟩]
def c21_2 : RC := .reg [] o21_2
def c21_3 : RC := .seq c21_2 .ret
def o21_4 : List ROp := [
  ⟨(some 13), .fieldAddr 24 (.tmp 1) 1, 0, none, []⟩,
  ⟨(some 14), .load 22 (.tmp 13), 22, none, []⟩,
  ⟨(some 15), .call ⟨.builtin .len, #[(.tmp 14)], #[22]⟩, 3, none, []⟩,
  ⟨(some 16), .binOp .eql 3 (.tmp 15) (.const (.int .i64 0)) 3, 4, none, []⟩,
  ⟨(some 12), .assign (.tmp 16), 4, none, []⟩]
def c21_4 : RC := .reg [] o21_4
def o21_5 : List ROp := [
  ⟨(some 2), .assign (.const (.int .i64 4)), 28, none, []⟩]
def c21_5 : RC := .reg [] o21_5
def c21_6 : RC := .seq c21_5 .ret
def o21_7 : List ROp := [
  ⟨(some 18), .fieldAddr 24 (.tmp 1) 1, 0, none, []⟩,
  ⟨(some 19), .load 22 (.tmp 18), 22, none, []⟩,
  ⟨(some 20), .call ⟨.builtin .len, #[(.tmp 19)], #[22]⟩, 3, none, []⟩,
  ⟨(some 21), .binOp .gtr 3 (.tmp 20) (.const (.int .i64 10)) 3, 4, none, []⟩,
  ⟨(some 17), .assign (.tmp 21), 4, none, []⟩]
def c21_7 : RC := .reg [] o21_7
def o21_8 : List ROp := [
  ⟨(some 2), .assign (.const (.int .i64 3)), 28, none, []⟩]
def c21_8 : RC := .reg [] o21_8
def c21_9 : RC := .seq c21_8 .ret
def o21_10 : List ROp := [
  ⟨(some 23), .fieldAddr 24 (.tmp 1) 2, 0, none, []⟩,
  ⟨(some 24), .load 22 (.tmp 23), 22, none, []⟩,
  ⟨(some 25), .call ⟨.builtin .len, #[(.tmp 24)], #[22]⟩, 3, none, []⟩,
  ⟨(some 26), .fieldAddr 24 (.tmp 1) 1, 0, none, []⟩,
  ⟨(some 27), .load 22 (.tmp 26), 22, none, []⟩,
  ⟨(some 28), .call ⟨.builtin .len, #[(.tmp 27)], #[22]⟩, 3, none, []⟩,
  ⟨(some 29), .binOp .neq 3 (.tmp 25) (.tmp 28) 3, 4, none, []⟩,
  ⟨(some 22), .assign (.tmp 29), 4, none, []⟩]
def c21_10 : RC := .reg [] o21_10
def o21_11 : List ROp := [
  ⟨(some 2), .assign (.const (.int .i64 5)), 28, none, []⟩]
def c21_11 : RC := .reg [] o21_11
def c21_12 : RC := .seq c21_11 .ret
def c21_13 : RC := .cond (.tmp 22) c21_12 .skip
def c21_14 : RC := .seq c21_10 c21_13
def c21_15 : RC := .cond (.tmp 17) c21_9 c21_14
def c21_16 : RC := .seq c21_7 c21_15
def c21_17 : RC := .cond (.tmp 12) c21_6 c21_16
def c21_18 : RC := .seq c21_4 c21_17
def c21_19 : RC := .cond (.tmp 7) c21_3 c21_18
def c21_20 : RC := .seq c21_1 c21_19
def c21_21 : RC := .block 0 c21_20
def o21_22 : List ROp := [
  ⟨(some 3), .alloc 87, 0, none, []⟩]
def c21_22 : RC := .reg [] o21_22
def o21_23 : List ROp := [
  ⟨(some 30), .fieldAddr 24 (.tmp 1) 1, 0, none, []⟩,
  ⟨(some 31), .load 22 (.tmp 30), 22, none, []⟩,
  ⟨(some 32), .call ⟨.builtin .len, #[(.tmp 31)], #[22]⟩, 3, none, []⟩,
  ⟨(some 33), .move (.const (.int .i64 0)), 3, none, []⟩]
def c21_23 : RC := .reg [] o21_23
def o21_24 : List ROp := [
  ⟨(some 34), .binOp .lss 3 (.tmp 33) (.tmp 32) 3, 0, none, []⟩]
def c21_24 : RC := .reg [] o21_24
def c21_25 : RC := .cond (.tmp 34) .skip (.exit 1)
def o21_26 : List ROp := [
  ⟨(some 35), .move (.tmp 33), 3, none, []⟩,
  ⟨(some 36), .indexAddr 22 (.tmp 31) (.tmp 33), 0, none, []⟩,
  ⟨(some 37), .load 3 (.tmp 36), 3, none, []⟩,
  ⟨(some 4), .assign (.tmp 35), 3, none, []⟩,
  ⟨(some 5), .assign (.tmp 37), 3, none, []⟩]
def c21_26 : RC := .reg [] o21_26
def o21_27 : List ROp := [
  ⟨(some 38), .fieldAddr 24 (.tmp 1) 2, 0, none, []⟩,
  ⟨(some 39), .load 22 (.tmp 38), 22, none, []⟩,
  ⟨(some 40), .move (.tmp 4), 3, none, []⟩,
  ⟨(some 41), .indexAddr 22 (.tmp 39) (.tmp 40), 0, none, []⟩,
  ⟨(some 42), .load 3 (.tmp 41), 3, none, []⟩,
  ⟨(some 6), .assign (.tmp 42), 3, none, []⟩]
def c21_27 : RC := .reg [] o21_27
def o21_28 : List ROp := [
  ⟨(some 43), .move (.tmp 5), 3, none, []⟩,
  ⟨(some 44), .move (.tmp 6), 3, none, []⟩,
  ⟨(some 45), .call ⟨.builtin .min, #[(.tmp 43), (.tmp 44)], #[3, 3]⟩, 3, none, []⟩,
  ⟨(some 46), .fieldAddr 24 (.tmp 1) 0, 0, none, []⟩,
  ⟨(some 47), .load 3 (.tmp 46), 3, none, []⟩,
  ⟨(some 48), .binOp .sub 3 (.tmp 47) (.const (.int .i64 1)) 3, 3, none, []⟩,
  ⟨(some 49), .call ⟨.value (.func 60), #[(.const (.int .i64 0)), (.tmp 45), (.tmp 48)], #[3, 3, 3]⟩, 4, none, []⟩,
  ⟨(some 50), .unOp .not 4 (.tmp 49), 4, none, []⟩,
  ⟨(some 51), .move (.tmp 50), 4, none, []⟩,
  ⟨(some 52), .move (.tmp 5), 3, (some ((some 51), false)), []⟩,
  ⟨(some 53), .move (.tmp 6), 3, (some ((some 51), false)), []⟩,
  ⟨(some 54), .call ⟨.builtin .max, #[(.tmp 52), (.tmp 53)], #[3, 3]⟩, 3, (some ((some 51), false)), []⟩,
  ⟨(some 55), .fieldAddr 24 (.tmp 1) 0, 0, (some ((some 51), false)), []⟩,
  ⟨(some 56), .load 3 (.tmp 55), 3, (some ((some 51), false)), []⟩,
  ⟨(some 57), .binOp .geq 3 (.tmp 54) (.tmp 56) 3, 4, (some ((some 51), false)), []⟩,
  ⟨(some 58), .pick (.tmp 51) (.const (.bool true)) (.tmp 57), 4, none, []⟩]
def c21_28 : RC := .reg [] o21_28
def o21_29 : List ROp := [
  ⟨(some 2), .assign (.const (.int .i64 2)), 28, none, []⟩]
def c21_29 : RC := .reg [] o21_29
def c21_30 : RC := .seq c21_29 .ret
def c21_31 : RC := .cond (.tmp 58) c21_30 .skip
def c21_32 : RC := .seq c21_28 c21_31
def o21_33 : List ROp := [
  ⟨(some 59), .move (.tmp 5), 3, none, []⟩,
  ⟨(some 60), .indexAddr 87 (.tmp 3) (.tmp 59), 0, none, []⟩,
  ⟨(some 61), .load 3 (.tmp 60), 3, none, []⟩,
  ⟨(some 62), .binOp .add 3 (.tmp 61) (.const (.int .i64 1)) 3, 3, none, []⟩,
  ⟨(some 63), .indexAddr 87 (.tmp 3) (.tmp 59), 0, none, []⟩,
  ⟨none, .store 3 (.tmp 63) (.tmp 62), 0, none, []⟩]
def c21_33 : RC := .reg [] o21_33
def o21_34 : List ROp := [
  ⟨(some 64), .move (.tmp 6), 3, none, []⟩,
  ⟨(some 65), .indexAddr 87 (.tmp 3) (.tmp 64), 0, none, []⟩,
  ⟨(some 66), .load 3 (.tmp 65), 3, none, []⟩,
  ⟨(some 67), .binOp .sub 3 (.tmp 66) (.const (.int .i64 1)) 3, 3, none, []⟩,
  ⟨(some 68), .indexAddr 87 (.tmp 3) (.tmp 64), 0, none, []⟩,
  ⟨none, .store 3 (.tmp 68) (.tmp 67), 0, none, []⟩]
def c21_34 : RC := .reg [] o21_34
def c21_35 : RC := .seq c21_33 c21_34
def c21_36 : RC := .seq c21_32 c21_35
def c21_37 : RC := .seq c21_27 c21_36
def c21_38 : RC := .seq c21_26 c21_37
def c21_39 : RC := .block 2 c21_38
def o21_40 : List ROp := [
  ⟨(some 69), .binOp .add 3 (.tmp 33) (.const (.int .i64 1)) 3, 3, none, []⟩,
  ⟨(some 33), .move (.tmp 69), 3, none, []⟩]
def c21_40 : RC := .reg [] o21_40
def c21_41 : RC := .seq c21_39 c21_40
def c21_42 : RC := .seq c21_25 c21_41
def c21_43 : RC := .seq c21_24 c21_42
def c21_44 : RC := .loop c21_43
def c21_45 : RC := .block 1 c21_44
def c21_46 : RC := .seq c21_23 c21_45
def o21_47 : List ROp := [
  ⟨(some 70), .load 87 (.tmp 3), 87, none, []⟩,
  ⟨(some 71), .build 87 #[], 87, none, []⟩,
  ⟨(some 72), .binOp .neq 87 (.tmp 70) (.tmp 71) 87, 4, none, []⟩]
def c21_47 : RC := .reg [] o21_47
def o21_48 : List ROp := [
  ⟨(some 2), .assign (.const (.int .i64 17)), 28, none, []⟩]
def c21_48 : RC := .reg [] o21_48
def c21_49 : RC := .seq c21_48 .ret
def c21_50 : RC := .cond (.tmp 72) c21_49 .skip
def c21_51 : RC := .seq c21_47 c21_50
def o21_52 : List ROp := [
  ⟨(some 2), .assign (.const (.int .i64 0)), 28, none, []⟩]
def c21_52 : RC := .reg [] o21_52
def c21_53 : RC := .seq c21_52 .ret
def c21_54 : RC := .seq c21_51 c21_53
def c21_55 : RC := .seq c21_46 c21_54
def c21_56 : RC := .seq c21_22 c21_55
def c21_57 : RC := .seq c21_21 c21_56
def c21_58 : RC := .seq c21_0 c21_57
def m21_0 (pu : PureF) (n : Nat) (q489 : List Value) : Option Value :=
  (bb (Nat.ble (0 + 5) (len q489)) (oo (nthL q489 0) none fun v491 => (oo (toI .i64 v491) none fun x493 => (oo (nthL q489 (0 + 1)) none fun v495 => (oo (toI .i64 v495) none fun x497 => (oo (nthL q489 ((0 + 1) + 1)) none fun v499 => (oo (toI .i64 v499) none fun x501 => (oo (nthL q489 (((0 + 1) + 1) + 1)) none fun v503 => (oo (toI .i64 v503) none fun x505 => (oo (nthL q489 ((((0 + 1) + 1) + 1) + 1)) none fun v507 => (oo (toI .i64 v507) none fun x509 => (bb (bq false (an (ieq x493 (0 : Int)) (an (ieq x497 (0 : Int)) (an (ieq x501 (0 : Int)) (an (ieq x505 (0 : Int)) (an (ieq x509 (0 : Int)) true)))))) (some (.int .i64 (17 : Int))) (some (.int .i64 (0 : Int)))))))))))))) none)
def m21_2 (pu : PureF) (n : Nat) (ih0 : Sl → Int → Int → Int → Sl → Sl → List Value → Option Value) (z602 : Int) (z603 : Int) (s604 : Sl) (z605 : Int) (z606 : Int) (b607 : Bool) (z608 : Int) (s609 : Sl) (s610 : Sl) (q611 : List Value) : Option Value :=
  (bb b607 (some (.int .i64 (2 : Int))) (bb (allL closed1 q611) (oo (toN z602) none fun k614 => (bb (Nat.blt k614 5) (oo (nthL q611 (0 + k614 * 1)) none fun v617 => (oo (toI .i64 v617) none fun x619 => (bb (Nat.blt k614 5) (bb (an (Nat.ble ((0 + k614 * 1) + 1) (len q611)) true) (bb (allL closed1 (setL ([(.int .i64 (wrapF .i64 (Int.add x619 (1 : Int))))] : List Value) (0 + k614 * 1) q611)) (oo (toN z603) none fun k624 => (bb (Nat.blt k624 5) (oo (nthL (setL ([(.int .i64 (wrapF .i64 (Int.add x619 (1 : Int))))] : List Value) (0 + k614 * 1) q611) (0 + k624 * 1)) none fun v627 => (oo (toI .i64 v627) none fun x629 => (bb (Nat.blt k624 5) (bb (an (Nat.ble ((0 + k624 * 1) + 1) (len (setL ([(.int .i64 (wrapF .i64 (Int.add x619 (1 : Int))))] : List Value) (0 + k614 * 1) q611))) true) (bb (allL closed1 (setL ([(.int .i64 (wrapF .i64 (Int.sub x629 (1 : Int))))] : List Value) (0 + k624 * 1) (setL ([(.int .i64 (wrapF .i64 (Int.add x619 (1 : Int))))] : List Value) (0 + k614 * 1) q611))) (ih0 s604 z605 (wrapF .i64 (Int.add z606 (1 : Int))) z608 s609 s610 (setL ([(.int .i64 (wrapF .i64 (Int.sub x629 (1 : Int))))] : List Value) (0 + k624 * 1) (setL ([(.int .i64 (wrapF .i64 (Int.add x619 (1 : Int))))] : List Value) (0 + k614 * 1) q611))) none) none) none))) none)) none) none) none))) none)) none))
def b21_1 (pu : PureF) (n : Nat) (ih0 : Sl → Int → Int → Int → Sl → Sl → List Value → Option Value) (s576 : Sl) (z577 : Int) (z578 : Int) (z579 : Int) (s580 : Sl) (s581 : Sl) (q582 : List Value) : Option Value :=
  (bb (allL closed1 q582) (bb (ilt z578 z577) (oo (toN z578) none fun k585 => (bb (an (Nat.blt k585 (Sl.n s576)) true) (oo (nthL (Sl.cs s576) (k585 * 1)) none fun v588 => (oo (toI .i64 v588) none fun x590 => (bb (an (Nat.blt k585 (Sl.n s581)) true) (oo (nthL (Sl.cs s581) (k585 * 1)) none fun v593 => (oo (toI .i64 v593) none fun x595 => (oo (pu 60 [(.int .i64 (0 : Int)), (.int .i64 (bb (ilt x595 x590) x595 x590)), (.int .i64 (wrapF .i64 (Int.sub z579 (1 : Int))))]) none fun v634 => (oo (vBool v634) none fun b636 => (bb (nt b636) (m21_2 pu n ih0 x590 x595 s576 z577 (Int.ofNat k585) true z579 s580 s581 q582) (m21_2 pu n ih0 x590 x595 s576 z577 (Int.ofNat k585) (nt (ilt (bb (ilt x590 x595) x595 x590) z579)) z579 s580 s581 q582)))))) none))) none)) (m21_0 pu n q582)) none)
def l21_1 (pu : PureF) (n : Nat) (w : Nat) : Sl → Int → Int → Int → Sl → Sl → List Value → Option Value :=
  Nat.rec (motive := fun _ => Sl → Int → Int → Int → Sl → Sl → List Value → Option Value) (fun _ _ _ _ _ _ _ => none) (fun _ ih0 => b21_1 pu n ih0) w
def m21_ (pu : PureF) (n : Nat) (x348 : Int) (s350 : Sl) (s352 : Sl) : Option Value :=
  (oo (pu 60 [(.int .i64 (1 : Int)), (.int .i64 x348), (.int .i64 (5 : Int))]) none fun v354 => (oo (vBool v354) none fun b356 => (bb (nt b356) (some (.int .i64 (1 : Int))) (bb (ieq (Int.ofNat (Sl.n s350)) (0 : Int)) (some (.int .i64 (4 : Int))) (bb (ilt (10 : Int) (Int.ofNat (Sl.n s350))) (some (.int .i64 (3 : Int))) (bb (nt (ieq (Int.ofNat (Sl.n s352)) (Int.ofNat (Sl.n s350)))) (some (.int .i64 (5 : Int))) (l21_1 pu n n s350 (Int.ofNat (Sl.n s350)) (0 : Int) x348 s350 s352 ([(.int .i64 (0 : Int)), (.int .i64 (0 : Int)), (.int .i64 (0 : Int)), (.int .i64 (0 : Int)), (.int .i64 (0 : Int))] : List Value))))))))
def m21 (pu : PureF) (n : Nat) (args : List Value) : Option Value :=
  (ll args none fun a0 args => (ll args (oo (vAgg a0) none fun l343 => (ll l343 none fun v345 l343 => (ll l343 none fun v346 l343 => (ll l343 none fun v347 l343 => (ll l343 (oo (toI .i64 v345) none fun x348 => (oo (toSl 1 v346) none fun s350 => (oo (toSl 1 v347) none fun s352 => (m21_ pu n x348 s350 s352)))) fun _ _ => none))))) fun _ _ => none))
theorem r21 {call : CallF} (pu : PureF) (n : Nat) (hcall : call = callP tabs isP pu inl) {args : List Value} {v : Value} (hm : m21 pu n args = some v) (_ : ∀ x ∈ args, closed2 x = true) : args.length ≤ 73 ∧ Run tt call 1 c21_58 (Fr.made 73 args) (pureHeap tabs) (Fin tt 1 [.tmp 2] v) := by
  subst hcall
  unfold m21 at hm
  have hq := ll_uncons hm; clear hm; obtain ⟨a0, args_0, rfl, hm⟩ := hq
  have hq := ll_end hm; clear hm; obtain ⟨rfl, hm⟩ := hq
  have hq := oo_inv hm; clear hm; obtain ⟨l343, h344, hm⟩ := hq
  obtain rfl := vAgg_some h344
  have hq := ll_uncons hm; clear hm; obtain ⟨v345, l343_0, rfl, hm⟩ := hq
  have hq := ll_uncons hm; clear hm; obtain ⟨v346, l343_1, rfl, hm⟩ := hq
  have hq := ll_uncons hm; clear hm; obtain ⟨v347, l343_2, rfl, hm⟩ := hq
  have hq := ll_end hm; clear hm; obtain ⟨rfl, hm⟩ := hq
  have hq := oo_inv hm; clear hm; obtain ⟨x348, h349, hm⟩ := hq
  obtain rfl := toI_some h349
  have hq := oo_inv hm; clear hm; obtain ⟨s350, h351, hm⟩ := hq
  obtain rfl := toSl_some h351
  have hq := oo_inv hm; clear hm; obtain ⟨s352, h353, hm⟩ := hq
  obtain rfl := toSl_some h353
  unfold m21_ at hm
  refine ⟨by simp, ?_⟩
  refine .same (F' := (⟨73, frTr [(0, (.agg ⟨[(.int .i64 x348), (Sl.v 1 s350), (Sl.v 1 s352)]⟩))] .nil⟩ : Fr)) (H' := (⟨1, objTr [(.cells tab0 true false [])] 0 .nil, true⟩ : AHeap)) (by kernel_rfl) (by kernel_rfl) ?_
  refine .then ?_
  refine .reg (F' := (Fr.puts (⟨73, frTr [(0, (.agg ⟨[(.int .i64 x348), (Sl.v 1 s350), (Sl.v 1 s352)]⟩))] .nil⟩ : Fr) [(1, (.pointer (some ⟨1, 0, none⟩))), (2, (.int .i64 (0 : Int)))])) (H' := (⟨2, objTr [(.cells tab0 true false []), (.cells [(.int .i64 x348), (Sl.v 1 s350), (Sl.v 1 s352)] false false [])] 0 .nil, true⟩ : AHeap)) (by kernel_rfl) ?_
  refine .ghs (⟨73, frTr [(1, (.pointer (some ⟨1, 0, none⟩)))] .nil⟩ : Fr) (⟨2, objTr [(.cells tab0 true false []), (.cells [(.int .i64 x348), (Sl.v 1 s350), (Sl.v 1 s352)] false false [])] 0 .nil, true⟩ : AHeap) (.gc [] [false] [.tmp 1 false] [1] (by kernel_rfl) trivial (by kernel_rfl)) ?_
  refine .then ?_
  refine .block ?_
  refine .then ?_
  have hq := oo_inv hm; clear hm; obtain ⟨v354, h355, hm⟩ := hq
  have hq := oo_inv hm; clear hm; obtain ⟨b356, h357, hm⟩ := hq
  obtain rfl := vBool_some h357
  refine .reg (F' := (Fr.puts (⟨73, frTr [(1, (.pointer (some ⟨1, 0, none⟩)))] .nil⟩ : Fr) [(8, (.pointer (some ⟨1, 0, none⟩))), (9, (.int .i64 x348)), (10, (.bool b356)), (11, (.bool (nt b356))), (7, (.bool (nt b356)))])) (H' := (⟨2, objTr [(.cells tab0 true false []), (.cells [(.int .i64 x348), (Sl.v 1 s350), (Sl.v 1 s352)] false false [])] 0 .nil, true⟩ : AHeap)) (evOps_cut 2 (by kernel_rfl) (evOps_data ((oo (pu 60 [(.int .i64 (1 : Int)), (.int .i64 x348), (.int .i64 (5 : Int))]) none fun v => some (v, (⟨2, objTr [(.cells tab0 true false []), (.cells [(.int .i64 x348), (Sl.v 1 s350), (Sl.v 1 s352)] false false [])] 0 .nil, true⟩ : AHeap)))) (by kernel_rfl) (call_eq h355) (okAt_of (by kernel_rfl) (by kernel_rfl)) (by kernel_rfl))) ?_
  refine .ghs (⟨73, frTr [(1, (.pointer (some ⟨1, 0, none⟩))), (7, (.bool (nt b356)))] .nil⟩ : Fr) (⟨2, objTr [(.cells tab0 true false []), (.cells [(.int .i64 x348), (Sl.v 1 s350), (Sl.v 1 s352)] false false [])] 0 .nil, true⟩ : AHeap) (.gc [] [false] [.tmp 1 false] [1, 7] (by kernel_rfl) trivial (by kernel_rfl)) ?_
  have hq := bb_cases hm; clear hm; rcases hq with ⟨h358, hm⟩ | ⟨h358, hm⟩
  · refine .ifT (nt b356) (by kernel_rfl) h358 ?_
    refine .then ?_
    refine .reg (F' := (Fr.puts (⟨73, frTr [(1, (.pointer (some ⟨1, 0, none⟩))), (7, (.bool (nt b356)))] .nil⟩ : Fr) [(2, (.int .i64 (1 : Int)))])) (H' := (⟨2, objTr [(.cells tab0 true false []), (.cells [(.int .i64 x348), (Sl.v 1 s350), (Sl.v 1 s352)] false false [])] 0 .nil, true⟩ : AHeap)) (by kernel_rfl) ?_
    refine .ghs (⟨73, frTr [(2, (.int .i64 (1 : Int)))] .nil⟩ : Fr) (⟨1, objTr [(.cells tab0 true false [])] 0 .nil, true⟩ : AHeap) (.gc [] [false] [] [2] (by kernel_rfl) trivial (by kernel_rfl)) ?_
    refine .ret ?_
    exact fin_ret (.int .i64 (1 : Int)) (by kernel_rfl) (by kernel_rfl) hm
  · refine .ifF (nt b356) (by kernel_rfl) h358 ?_
    refine .then ?_
    refine .reg (F' := (Fr.puts (⟨73, frTr [(1, (.pointer (some ⟨1, 0, none⟩))), (7, (.bool (nt b356)))] .nil⟩ : Fr) [(13, (.pointer (some ⟨1, 1, none⟩))), (14, (Sl.v 1 s350)), (15, (.int .i64 (Int.ofNat (Sl.n s350)))), (16, (.bool (ieq (Int.ofNat (Sl.n s350)) (0 : Int)))), (12, (.bool (ieq (Int.ofNat (Sl.n s350)) (0 : Int))))])) (H' := (⟨2, objTr [(.cells tab0 true false []), (.cells [(.int .i64 x348), (Sl.v 1 s350), (Sl.v 1 s352)] false false [])] 0 .nil, true⟩ : AHeap)) (by kernel_rfl) ?_
    refine .ghs (⟨73, frTr [(1, (.pointer (some ⟨1, 0, none⟩))), (12, (.bool (ieq (Int.ofNat (Sl.n s350)) (0 : Int))))] .nil⟩ : Fr) (⟨2, objTr [(.cells tab0 true false []), (.cells [(.int .i64 x348), (Sl.v 1 s350), (Sl.v 1 s352)] false false [])] 0 .nil, true⟩ : AHeap) (.gc [] [false] [.tmp 1 false] [1, 12] (by kernel_rfl) trivial (by kernel_rfl)) ?_
    have hq := bb_cases hm; clear hm; rcases hq with ⟨h359, hm⟩ | ⟨h359, hm⟩
    · refine .ifT (ieq (Int.ofNat (Sl.n s350)) (0 : Int)) (by kernel_rfl) h359 ?_
      refine .then ?_
      refine .reg (F' := (Fr.puts (⟨73, frTr [(1, (.pointer (some ⟨1, 0, none⟩))), (12, (.bool (ieq (Int.ofNat (Sl.n s350)) (0 : Int))))] .nil⟩ : Fr) [(2, (.int .i64 (4 : Int)))])) (H' := (⟨2, objTr [(.cells tab0 true false []), (.cells [(.int .i64 x348), (Sl.v 1 s350), (Sl.v 1 s352)] false false [])] 0 .nil, true⟩ : AHeap)) (by kernel_rfl) ?_
      refine .ghs (⟨73, frTr [(2, (.int .i64 (4 : Int)))] .nil⟩ : Fr) (⟨1, objTr [(.cells tab0 true false [])] 0 .nil, true⟩ : AHeap) (.gc [] [false] [] [2] (by kernel_rfl) trivial (by kernel_rfl)) ?_
      refine .ret ?_
      exact fin_ret (.int .i64 (4 : Int)) (by kernel_rfl) (by kernel_rfl) hm
    · refine .ifF (ieq (Int.ofNat (Sl.n s350)) (0 : Int)) (by kernel_rfl) h359 ?_
      refine .then ?_
      refine .reg (F' := (Fr.puts (⟨73, frTr [(1, (.pointer (some ⟨1, 0, none⟩))), (12, (.bool (ieq (Int.ofNat (Sl.n s350)) (0 : Int))))] .nil⟩ : Fr) [(18, (.pointer (some ⟨1, 1, none⟩))), (19, (Sl.v 1 s350)), (20, (.int .i64 (Int.ofNat (Sl.n s350)))), (21, (.bool (ilt (10 : Int) (Int.ofNat (Sl.n s350))))), (17, (.bool (ilt (10 : Int) (Int.ofNat (Sl.n s350)))))])) (H' := (⟨2, objTr [(.cells tab0 true false []), (.cells [(.int .i64 x348), (Sl.v 1 s350), (Sl.v 1 s352)] false false [])] 0 .nil, true⟩ : AHeap)) (by kernel_rfl) ?_
      refine .ghs (⟨73, frTr [(1, (.pointer (some ⟨1, 0, none⟩))), (17, (.bool (ilt (10 : Int) (Int.ofNat (Sl.n s350)))))] .nil⟩ : Fr) (⟨2, objTr [(.cells tab0 true false []), (.cells [(.int .i64 x348), (Sl.v 1 s350), (Sl.v 1 s352)] false false [])] 0 .nil, true⟩ : AHeap) (.gc [] [false] [.tmp 1 false] [1, 17] (by kernel_rfl) trivial (by kernel_rfl)) ?_
      have hq := bb_cases hm; clear hm; rcases hq with ⟨h360, hm⟩ | ⟨h360, hm⟩
      · refine .ifT (ilt (10 : Int) (Int.ofNat (Sl.n s350))) (by kernel_rfl) h360 ?_
        refine .then ?_
        refine .reg (F' := (Fr.puts (⟨73, frTr [(1, (.pointer (some ⟨1, 0, none⟩))), (17, (.bool (ilt (10 : Int) (Int.ofNat (Sl.n s350)))))] .nil⟩ : Fr) [(2, (.int .i64 (3 : Int)))])) (H' := (⟨2, objTr [(.cells tab0 true false []), (.cells [(.int .i64 x348), (Sl.v 1 s350), (Sl.v 1 s352)] false false [])] 0 .nil, true⟩ : AHeap)) (by kernel_rfl) ?_
        refine .ghs (⟨73, frTr [(2, (.int .i64 (3 : Int)))] .nil⟩ : Fr) (⟨1, objTr [(.cells tab0 true false [])] 0 .nil, true⟩ : AHeap) (.gc [] [false] [] [2] (by kernel_rfl) trivial (by kernel_rfl)) ?_
        refine .ret ?_
        exact fin_ret (.int .i64 (3 : Int)) (by kernel_rfl) (by kernel_rfl) hm
      · refine .ifF (ilt (10 : Int) (Int.ofNat (Sl.n s350))) (by kernel_rfl) h360 ?_
        refine .then ?_
        refine .reg (F' := (Fr.puts (⟨73, frTr [(1, (.pointer (some ⟨1, 0, none⟩))), (17, (.bool (ilt (10 : Int) (Int.ofNat (Sl.n s350)))))] .nil⟩ : Fr) [(23, (.pointer (some ⟨1, 2, none⟩))), (24, (Sl.v 1 s352)), (25, (.int .i64 (Int.ofNat (Sl.n s352)))), (26, (.pointer (some ⟨1, 1, none⟩))), (27, (Sl.v 1 s350)), (28, (.int .i64 (Int.ofNat (Sl.n s350)))), (29, (.bool (nt (ieq (Int.ofNat (Sl.n s352)) (Int.ofNat (Sl.n s350)))))), (22, (.bool (nt (ieq (Int.ofNat (Sl.n s352)) (Int.ofNat (Sl.n s350))))))])) (H' := (⟨2, objTr [(.cells tab0 true false []), (.cells [(.int .i64 x348), (Sl.v 1 s350), (Sl.v 1 s352)] false false [])] 0 .nil, true⟩ : AHeap)) (by kernel_rfl) ?_
        refine .ghs (⟨73, frTr [(1, (.pointer (some ⟨1, 0, none⟩))), (22, (.bool (nt (ieq (Int.ofNat (Sl.n s352)) (Int.ofNat (Sl.n s350))))))] .nil⟩ : Fr) (⟨2, objTr [(.cells tab0 true false []), (.cells [(.int .i64 x348), (Sl.v 1 s350), (Sl.v 1 s352)] false false [])] 0 .nil, true⟩ : AHeap) (.gc [] [false] [.tmp 1 false] [1, 22] (by kernel_rfl) trivial (by kernel_rfl)) ?_
        have hq := bb_cases hm; clear hm; rcases hq with ⟨h361, hm⟩ | ⟨h361, hm⟩
        · refine .ifT (nt (ieq (Int.ofNat (Sl.n s352)) (Int.ofNat (Sl.n s350)))) (by kernel_rfl) h361 ?_
          refine .then ?_
          refine .reg (F' := (Fr.puts (⟨73, frTr [(1, (.pointer (some ⟨1, 0, none⟩))), (22, (.bool (nt (ieq (Int.ofNat (Sl.n s352)) (Int.ofNat (Sl.n s350))))))] .nil⟩ : Fr) [(2, (.int .i64 (5 : Int)))])) (H' := (⟨2, objTr [(.cells tab0 true false []), (.cells [(.int .i64 x348), (Sl.v 1 s350), (Sl.v 1 s352)] false false [])] 0 .nil, true⟩ : AHeap)) (by kernel_rfl) ?_
          refine .ghs (⟨73, frTr [(2, (.int .i64 (5 : Int)))] .nil⟩ : Fr) (⟨1, objTr [(.cells tab0 true false [])] 0 .nil, true⟩ : AHeap) (.gc [] [false] [] [2] (by kernel_rfl) trivial (by kernel_rfl)) ?_
          refine .ret ?_
          exact fin_ret (.int .i64 (5 : Int)) (by kernel_rfl) (by kernel_rfl) hm
        · refine .ifF (nt (ieq (Int.ofNat (Sl.n s352)) (Int.ofNat (Sl.n s350)))) (by kernel_rfl) h361 ?_
          refine .skip ?_
          refine .ghs (⟨73, frTr [(1, (.pointer (some ⟨1, 0, none⟩)))] .nil⟩ : Fr) (⟨2, objTr [(.cells tab0 true false []), (.cells [(.int .i64 x348), (Sl.v 1 s350), (Sl.v 1 s352)] false false [])] 0 .nil, true⟩ : AHeap) (.gc [] [false] [.tmp 1 false] [1] (by kernel_rfl) trivial (by kernel_rfl)) ?_
          refine .then ?_
          refine .reg (F' := (Fr.puts (⟨73, frTr [(1, (.pointer (some ⟨1, 0, none⟩)))] .nil⟩ : Fr) [(3, (.pointer (some ⟨2, 0, none⟩)))])) (H' := (⟨3, objTr [(.cells tab0 true false []), (.cells [(.int .i64 x348), (Sl.v 1 s350), (Sl.v 1 s352)] false false []), (.cells [(.int .i64 (0 : Int)), (.int .i64 (0 : Int)), (.int .i64 (0 : Int)), (.int .i64 (0 : Int)), (.int .i64 (0 : Int))] false false [])] 0 .nil, true⟩ : AHeap)) (by kernel_rfl) ?_
          refine .ghs (⟨73, frTr [(1, (.pointer (some ⟨1, 0, none⟩))), (3, (.pointer (some ⟨2, 0, none⟩)))] .nil⟩ : Fr) (⟨3, objTr [(.cells tab0 true false []), (.cells [(.int .i64 x348), (Sl.v 1 s350), (Sl.v 1 s352)] false false []), (.cells [(.int .i64 (0 : Int)), (.int .i64 (0 : Int)), (.int .i64 (0 : Int)), (.int .i64 (0 : Int)), (.int .i64 (0 : Int))] false false [])] 0 .nil, true⟩ : AHeap) (.gc [] [false] [.tmp 1 false, .tmp 3 false] [1, 3] (by kernel_rfl) trivial (by kernel_rfl)) ?_
          refine .join (v := v) (fun y : List Value => ((⟨73, frTr [(3, (.pointer (some ⟨1, 0, none⟩)))] .nil⟩ : Fr), (⟨2, objTr [(.cells tab0 true false []), (.cells y false false [])] 0 .nil, true⟩ : AHeap))) (fun y => m21_0 pu n y) ?_ ?_
          · rintro q489 hm
            unfold m21_0 at hm
            refine .then ?_
            refine .then ?_
            have hq := bb_inv hm; clear hm; obtain ⟨h490, hm⟩ := hq
            have hq := oo_inv hm; clear hm; obtain ⟨v491, h492, hm⟩ := hq
            have hq := oo_inv hm; clear hm; obtain ⟨x493, h494, hm⟩ := hq
            obtain rfl := toI_some h494
            have hq := oo_inv hm; clear hm; obtain ⟨v495, h496, hm⟩ := hq
            have hq := oo_inv hm; clear hm; obtain ⟨x497, h498, hm⟩ := hq
            obtain rfl := toI_some h498
            have hq := oo_inv hm; clear hm; obtain ⟨v499, h500, hm⟩ := hq
            have hq := oo_inv hm; clear hm; obtain ⟨x501, h502, hm⟩ := hq
            obtain rfl := toI_some h502
            have hq := oo_inv hm; clear hm; obtain ⟨v503, h504, hm⟩ := hq
            have hq := oo_inv hm; clear hm; obtain ⟨x505, h506, hm⟩ := hq
            obtain rfl := toI_some h506
            have hq := oo_inv hm; clear hm; obtain ⟨v507, h508, hm⟩ := hq
            have hq := oo_inv hm; clear hm; obtain ⟨x509, h510, hm⟩ := hq
            obtain rfl := toI_some h510
            refine .reg (F' := (Fr.puts (⟨73, frTr [(3, (.pointer (some ⟨1, 0, none⟩)))] .nil⟩ : Fr) [(70, (.agg ⟨[(.int .i64 x493), (.int .i64 x497), (.int .i64 x501), (.int .i64 x505), (.int .i64 x509)]⟩)), (71, (.agg ⟨[(.int .i64 (0 : Int)), (.int .i64 (0 : Int)), (.int .i64 (0 : Int)), (.int .i64 (0 : Int)), (.int .i64 (0 : Int))]⟩)), (72, (.bool (bq false (an (ieq x493 (0 : Int)) (an (ieq x497 (0 : Int)) (an (ieq x501 (0 : Int)) (an (ieq x505 (0 : Int)) (an (ieq x509 (0 : Int)) true))))))))])) (H' := (⟨2, objTr [(.cells tab0 true false []), (.cells q489 false false [])] 0 .nil, true⟩ : AHeap)) (evOps_data (keep (⟨2, objTr [(.cells tab0 true false []), (.cells q489 false false [])] 0 .nil, true⟩ : AHeap) (bb (Nat.ble (0 + 5) (len q489)) (some (.agg ⟨takeL 5 (dropL 0 q489)⟩)) none)) (by kernel_rfl) (keep_agg h490 (takeL_cons h492 (takeL_cons h496 (takeL_cons h500 (takeL_cons h504 (takeL_cons h508 rfl)))))) (okAt_of (by kernel_rfl) (by kernel_rfl)) (by kernel_rfl)) ?_
            refine .ghs (⟨73, frTr [(72, (.bool (bq false (an (ieq x493 (0 : Int)) (an (ieq x497 (0 : Int)) (an (ieq x501 (0 : Int)) (an (ieq x505 (0 : Int)) (an (ieq x509 (0 : Int)) true))))))))] .nil⟩ : Fr) (⟨1, objTr [(.cells tab0 true false [])] 0 .nil, true⟩ : AHeap) (.gc [] [false] [] [72] (by kernel_rfl) trivial (by kernel_rfl)) ?_
            have hq := bb_cases hm; clear hm; rcases hq with ⟨h511, hm⟩ | ⟨h511, hm⟩
            · refine .ifT (bq false (an (ieq x493 (0 : Int)) (an (ieq x497 (0 : Int)) (an (ieq x501 (0 : Int)) (an (ieq x505 (0 : Int)) (an (ieq x509 (0 : Int)) true)))))) (by kernel_rfl) h511 ?_
              refine .then ?_
              refine .reg (F' := (Fr.puts (⟨73, frTr [(72, (.bool (bq false (an (ieq x493 (0 : Int)) (an (ieq x497 (0 : Int)) (an (ieq x501 (0 : Int)) (an (ieq x505 (0 : Int)) (an (ieq x509 (0 : Int)) true))))))))] .nil⟩ : Fr) [(2, (.int .i64 (17 : Int)))])) (H' := (⟨1, objTr [(.cells tab0 true false [])] 0 .nil, true⟩ : AHeap)) (by kernel_rfl) ?_
              refine .ghs (⟨73, frTr [(2, (.int .i64 (17 : Int)))] .nil⟩ : Fr) (⟨1, objTr [(.cells tab0 true false [])] 0 .nil, true⟩ : AHeap) (.gc [] [false] [] [2] (by kernel_rfl) trivial (by kernel_rfl)) ?_
              refine .ret ?_
              exact fin_ret (.int .i64 (17 : Int)) (by kernel_rfl) (by kernel_rfl) hm
            · refine .ifF (bq false (an (ieq x493 (0 : Int)) (an (ieq x497 (0 : Int)) (an (ieq x501 (0 : Int)) (an (ieq x505 (0 : Int)) (an (ieq x509 (0 : Int)) true)))))) (by kernel_rfl) h511 ?_
              refine .skip ?_
              refine .ghs (⟨73, frTr [] .nil⟩ : Fr) (⟨1, objTr [(.cells tab0 true false [])] 0 .nil, true⟩ : AHeap) (.gc [] [false] [] [] (by kernel_rfl) trivial (by kernel_rfl)) ?_
              refine .then ?_
              refine .reg (F' := (Fr.puts (⟨73, frTr [] .nil⟩ : Fr) [(2, (.int .i64 (0 : Int)))])) (H' := (⟨1, objTr [(.cells tab0 true false [])] 0 .nil, true⟩ : AHeap)) (by kernel_rfl) ?_
              refine .ghs (⟨73, frTr [(2, (.int .i64 (0 : Int)))] .nil⟩ : Fr) (⟨1, objTr [(.cells tab0 true false [])] 0 .nil, true⟩ : AHeap) (.gc [] [false] [] [2] (by kernel_rfl) trivial (by kernel_rfl)) ?_
              refine .ret ?_
              exact fin_ret (.int .i64 (0 : Int)) (by kernel_rfl) (by kernel_rfl) hm
          · skip
            refine .then ?_
            refine .reg (F' := (Fr.puts (⟨73, frTr [(1, (.pointer (some ⟨1, 0, none⟩))), (3, (.pointer (some ⟨2, 0, none⟩)))] .nil⟩ : Fr) [(30, (.pointer (some ⟨1, 1, none⟩))), (31, (Sl.v 1 s350)), (32, (.int .i64 (Int.ofNat (Sl.n s350)))), (33, (.int .i64 (0 : Int)))])) (H' := (⟨3, objTr [(.cells tab0 true false []), (.cells [(.int .i64 x348), (Sl.v 1 s350), (Sl.v 1 s352)] false false []), (.cells [(.int .i64 (0 : Int)), (.int .i64 (0 : Int)), (.int .i64 (0 : Int)), (.int .i64 (0 : Int)), (.int .i64 (0 : Int))] false false [])] 0 .nil, true⟩ : AHeap)) (by kernel_rfl) ?_
            refine .ghs (⟨73, frTr [(1, (.pointer (some ⟨1, 0, none⟩))), (3, (.pointer (some ⟨2, 0, none⟩))), (31, (Sl.v 1 s350)), (32, (.int .i64 (Int.ofNat (Sl.n s350)))), (33, (.int .i64 (0 : Int)))] .nil⟩ : Fr) (⟨3, objTr [(.cells tab0 true false []), (.cells [(.int .i64 x348), (Sl.v 1 s350), (Sl.v 1 s352)] false false []), (.cells [(.int .i64 (0 : Int)), (.int .i64 (0 : Int)), (.int .i64 (0 : Int)), (.int .i64 (0 : Int)), (.int .i64 (0 : Int))] false false [])] 0 .nil, true⟩ : AHeap) (.gc [] [false] [.tmp 1 false, .tmp 3 false] [1, 3, 31, 32, 33] (by kernel_rfl) trivial (by kernel_rfl)) ?_
            refine .block ?_
            refine .loopM (v := v) (fun y : Sl × Int × Int × Int × Sl × Sl × List Value => ((⟨73, frTr [(1, (.pointer (some ⟨1, 0, none⟩))), (3, (.pointer (some ⟨2, 0, none⟩))), (31, (Sl.v 1 y.1)), (32, (.int .i64 y.2.1)), (33, (.int .i64 y.2.2.1))] .nil⟩ : Fr), (⟨3, objTr [(.cells tab0 true false []), (.cells [(.int .i64 y.2.2.2.1), (Sl.v 1 y.2.2.2.2.1), (Sl.v 1 y.2.2.2.2.2.1)] false false []), (.cells y.2.2.2.2.2.2 false false [])] 0 .nil, true⟩ : AHeap))) (fun w y => l21_1 pu n w y.1 y.2.1 y.2.2.1 y.2.2.2.1 y.2.2.2.2.1 y.2.2.2.2.2.1 y.2.2.2.2.2.2) n ⟨(s350, (Int.ofNat (Sl.n s350)), (0 : Int), x348, s350, s352, ([(.int .i64 (0 : Int)), (.int .i64 (0 : Int)), (.int .i64 (0 : Int)), (.int .i64 (0 : Int)), (.int .i64 (0 : Int))] : List Value)), hm, (.gc [] [false] [.tmp 1 false, .tmp 3 false] [1, 3, 31, 32, 33] (by kernel_rfl) trivial (by kernel_rfl))⟩ (fun _ => rfl) ?_
            rintro w0 ⟨s576, z577, z578, z579, s580, s581, q582⟩ hm
            refine .then ?_
            refine .reg (F' := (Fr.puts (⟨73, frTr [(1, (.pointer (some ⟨1, 0, none⟩))), (3, (.pointer (some ⟨2, 0, none⟩))), (31, (Sl.v 1 s576)), (32, (.int .i64 z577)), (33, (.int .i64 z578))] .nil⟩ : Fr) [(34, (.bool (ilt z578 z577)))])) (H' := (⟨3, objTr [(.cells tab0 true false []), (.cells [(.int .i64 z579), (Sl.v 1 s580), (Sl.v 1 s581)] false false []), (.cells q582 false false [])] 0 .nil, true⟩ : AHeap)) (by kernel_rfl) ?_
            have hq := bb_inv hm; clear hm; obtain ⟨h583, hm⟩ := hq
            refine .ghs (⟨73, frTr [(1, (.pointer (some ⟨1, 0, none⟩))), (3, (.pointer (some ⟨2, 0, none⟩))), (31, (Sl.v 1 s576)), (32, (.int .i64 z577)), (33, (.int .i64 z578)), (34, (.bool (ilt z578 z577)))] .nil⟩ : Fr) (⟨3, objTr [(.cells tab0 true false []), (.cells [(.int .i64 z579), (Sl.v 1 s580), (Sl.v 1 s581)] false false []), (.cells q582 false false [])] 0 .nil, true⟩ : AHeap) (.gc [2] [false] [.tmp 1 false, .tmp 3 false] [1, 3, 31, 32, 33, 34] (by kernel_rfl) ⟨trE (by kernel_rfl) h583, trivial⟩ (by kernel_rfl)) ?_
            refine .then ?_
            have hq := bb_cases hm; clear hm; rcases hq with ⟨h584, hm⟩ | ⟨h584, hm⟩
            · refine .ifT (ilt z578 z577) (by kernel_rfl) h584 ?_
              refine .skip ?_
              refine .ghs (⟨73, frTr [(1, (.pointer (some ⟨1, 0, none⟩))), (3, (.pointer (some ⟨2, 0, none⟩))), (31, (Sl.v 1 s576)), (32, (.int .i64 z577)), (33, (.int .i64 z578))] .nil⟩ : Fr) (⟨3, objTr [(.cells tab0 true false []), (.cells [(.int .i64 z579), (Sl.v 1 s580), (Sl.v 1 s581)] false false []), (.cells q582 false false [])] 0 .nil, true⟩ : AHeap) (.gc [2] [false] [.tmp 1 false, .tmp 3 false] [1, 3, 31, 32, 33] (by kernel_rfl) ⟨trE (by kernel_rfl) h583, trivial⟩ (by kernel_rfl)) ?_
              refine .then ?_
              refine .block ?_
              refine .then ?_
              have hq := oo_inv hm; clear hm; obtain ⟨k585, h586, hm⟩ := hq
              obtain rfl := toN_some h586
              have hq := bb_inv hm; clear hm; obtain ⟨h587, hm⟩ := hq
              have hq := oo_inv hm; clear hm; obtain ⟨v588, h589, hm⟩ := hq
              have hq := oo_inv hm; clear hm; obtain ⟨x590, h591, hm⟩ := hq
              obtain rfl := toI_some h591
              refine .reg (F' := (Fr.puts (⟨73, frTr [(1, (.pointer (some ⟨1, 0, none⟩))), (3, (.pointer (some ⟨2, 0, none⟩))), (31, (Sl.v 1 s576)), (32, (.int .i64 z577)), (33, (.int .i64 (Int.ofNat k585)))] .nil⟩ : Fr) [(35, (.int .i64 (Int.ofNat k585))), (36, (fpV (k585 * 1) (Sl.cs s576))), (37, (.int .i64 x590)), (4, (.int .i64 (Int.ofNat k585))), (5, (.int .i64 x590))])) (H' := (⟨3, objTr [(.cells tab0 true false []), (.cells [(.int .i64 z579), (Sl.v 1 s580), (Sl.v 1 s581)] false false []), (.cells q582 false false [])] 0 .nil, true⟩ : AHeap)) (evOps_cut 1 (by kernel_rfl) (evOps_data (keep (⟨3, objTr [(.cells tab0 true false []), (.cells [(.int .i64 z579), (Sl.v 1 s580), (Sl.v 1 s581)] false false []), (.cells q582 false false [])] 0 .nil, true⟩ : AHeap) (bb (an (Nat.blt k585 (Sl.n s576)) true) (some (fpV (k585 * 1) (Sl.cs s576))) none)) (by kernel_rfl) (keep_bb h587) (okAt_of (by kernel_rfl) (by kernel_rfl)) (evOps_data (keep (⟨3, objTr [(.cells tab0 true false []), (.cells [(.int .i64 z579), (Sl.v 1 s580), (Sl.v 1 s581)] false false []), (.cells q582 false false [])] 0 .nil, true⟩ : AHeap) (nthL (Sl.cs s576) (k585 * 1))) (by kernel_rfl) (keep_eq h589) (okAt_of (by kernel_rfl) (by kernel_rfl)) (by kernel_rfl)))) ?_
              refine .ghs (⟨73, frTr [(1, (.pointer (some ⟨1, 0, none⟩))), (3, (.pointer (some ⟨2, 0, none⟩))), (4, (.int .i64 (Int.ofNat k585))), (5, (.int .i64 x590)), (31, (Sl.v 1 s576)), (32, (.int .i64 z577)), (33, (.int .i64 (Int.ofNat k585)))] .nil⟩ : Fr) (⟨3, objTr [(.cells tab0 true false []), (.cells [(.int .i64 z579), (Sl.v 1 s580), (Sl.v 1 s581)] false false []), (.cells q582 false false [])] 0 .nil, true⟩ : AHeap) (.gc [2] [false] [.tmp 1 false, .tmp 3 false] [1, 3, 4, 5, 31, 32, 33] (by kernel_rfl) ⟨trE (by kernel_rfl) h583, trivial⟩ (by kernel_rfl)) ?_
              refine .then ?_
              have hq := bb_inv hm; clear hm; obtain ⟨h592, hm⟩ := hq
              have hq := oo_inv hm; clear hm; obtain ⟨v593, h594, hm⟩ := hq
              have hq := oo_inv hm; clear hm; obtain ⟨x595, h596, hm⟩ := hq
              obtain rfl := toI_some h596
              refine .reg (F' := (Fr.puts (⟨73, frTr [(1, (.pointer (some ⟨1, 0, none⟩))), (3, (.pointer (some ⟨2, 0, none⟩))), (4, (.int .i64 (Int.ofNat k585))), (5, (.int .i64 x590)), (31, (Sl.v 1 s576)), (32, (.int .i64 z577)), (33, (.int .i64 (Int.ofNat k585)))] .nil⟩ : Fr) [(38, (.pointer (some ⟨1, 2, none⟩))), (39, (Sl.v 1 s581)), (40, (.int .i64 (Int.ofNat k585))), (41, (fpV (k585 * 1) (Sl.cs s581))), (42, (.int .i64 x595)), (6, (.int .i64 x595))])) (H' := (⟨3, objTr [(.cells tab0 true false []), (.cells [(.int .i64 z579), (Sl.v 1 s580), (Sl.v 1 s581)] false false []), (.cells q582 false false [])] 0 .nil, true⟩ : AHeap)) (evOps_cut 3 (by kernel_rfl) (evOps_data (keep (⟨3, objTr [(.cells tab0 true false []), (.cells [(.int .i64 z579), (Sl.v 1 s580), (Sl.v 1 s581)] false false []), (.cells q582 false false [])] 0 .nil, true⟩ : AHeap) (bb (an (Nat.blt k585 (Sl.n s581)) true) (some (fpV (k585 * 1) (Sl.cs s581))) none)) (by kernel_rfl) (keep_bb h592) (okAt_of (by kernel_rfl) (by kernel_rfl)) (evOps_data (keep (⟨3, objTr [(.cells tab0 true false []), (.cells [(.int .i64 z579), (Sl.v 1 s580), (Sl.v 1 s581)] false false []), (.cells q582 false false [])] 0 .nil, true⟩ : AHeap) (nthL (Sl.cs s581) (k585 * 1))) (by kernel_rfl) (keep_eq h594) (okAt_of (by kernel_rfl) (by kernel_rfl)) (by kernel_rfl)))) ?_
              refine .ghs (⟨73, frTr [(1, (.pointer (some ⟨1, 0, none⟩))), (3, (.pointer (some ⟨2, 0, none⟩))), (5, (.int .i64 x590)), (6, (.int .i64 x595)), (31, (Sl.v 1 s576)), (32, (.int .i64 z577)), (33, (.int .i64 (Int.ofNat k585)))] .nil⟩ : Fr) (⟨3, objTr [(.cells tab0 true false []), (.cells [(.int .i64 z579), (Sl.v 1 s580), (Sl.v 1 s581)] false false []), (.cells q582 false false [])] 0 .nil, true⟩ : AHeap) (.gc [2] [false] [.tmp 1 false, .tmp 3 false] [1, 3, 5, 6, 31, 32, 33] (by kernel_rfl) ⟨trE (by kernel_rfl) h583, trivial⟩ (by kernel_rfl)) ?_
              refine .then ?_
              refine .join (v := v) (fun y : Int × Int × Sl × Int × Int × Bool × Int × Sl × Sl × List Value => ((⟨73, frTr [(1, (.pointer (some ⟨1, 0, none⟩))), (3, (.pointer (some ⟨2, 0, none⟩))), (5, (.int .i64 y.1)), (6, (.int .i64 y.2.1)), (31, (Sl.v 1 y.2.2.1)), (32, (.int .i64 y.2.2.2.1)), (33, (.int .i64 y.2.2.2.2.1)), (58, (.bool y.2.2.2.2.2.1))] .nil⟩ : Fr), (⟨3, objTr [(.cells tab0 true false []), (.cells [(.int .i64 y.2.2.2.2.2.2.1), (Sl.v 1 y.2.2.2.2.2.2.2.1), (Sl.v 1 y.2.2.2.2.2.2.2.2.1)] false false []), (.cells y.2.2.2.2.2.2.2.2.2 false false [])] 0 .nil, true⟩ : AHeap))) (fun y => m21_2 pu n (l21_1 pu n w0) y.1 y.2.1 y.2.2.1 y.2.2.2.1 y.2.2.2.2.1 y.2.2.2.2.2.1 y.2.2.2.2.2.2.1 y.2.2.2.2.2.2.2.1 y.2.2.2.2.2.2.2.2.1 y.2.2.2.2.2.2.2.2.2) ?_ ?_
              · rintro ⟨z602, z603, s604, z605, z606, b607, z608, s609, s610, q611⟩ hm
                unfold m21_2 at hm
                have hq := bb_cases hm; clear hm; rcases hq with ⟨h612, hm⟩ | ⟨h612, hm⟩
                · refine .ifT b607 (by kernel_rfl) h612 ?_
                  refine .then ?_
                  refine .reg (F' := (Fr.puts (⟨73, frTr [(1, (.pointer (some ⟨1, 0, none⟩))), (3, (.pointer (some ⟨2, 0, none⟩))), (5, (.int .i64 z602)), (6, (.int .i64 z603)), (31, (Sl.v 1 s604)), (32, (.int .i64 z605)), (33, (.int .i64 z606)), (58, (.bool b607))] .nil⟩ : Fr) [(2, (.int .i64 (2 : Int)))])) (H' := (⟨3, objTr [(.cells tab0 true false []), (.cells [(.int .i64 z608), (Sl.v 1 s609), (Sl.v 1 s610)] false false []), (.cells q611 false false [])] 0 .nil, true⟩ : AHeap)) (by kernel_rfl) ?_
                  refine .ghs (⟨73, frTr [(2, (.int .i64 (2 : Int)))] .nil⟩ : Fr) (⟨1, objTr [(.cells tab0 true false [])] 0 .nil, true⟩ : AHeap) (.gc [] [false] [] [2] (by kernel_rfl) trivial (by kernel_rfl)) ?_
                  refine .ret ?_
                  exact fin_ret (.int .i64 (2 : Int)) (by kernel_rfl) (by kernel_rfl) hm
                · refine .ifF b607 (by kernel_rfl) h612 ?_
                  refine .skip ?_
                  have hq := bb_inv hm; clear hm; obtain ⟨h613, hm⟩ := hq
                  refine .ghs (⟨73, frTr [(1, (.pointer (some ⟨1, 0, none⟩))), (3, (.pointer (some ⟨2, 0, none⟩))), (5, (.int .i64 z602)), (6, (.int .i64 z603)), (31, (Sl.v 1 s604)), (32, (.int .i64 z605)), (33, (.int .i64 z606))] .nil⟩ : Fr) (⟨3, objTr [(.cells tab0 true false []), (.cells [(.int .i64 z608), (Sl.v 1 s609), (Sl.v 1 s610)] false false []), (.cells q611 false false [])] 0 .nil, true⟩ : AHeap) (.gc [2] [false] [.tmp 1 false, .tmp 3 false] [1, 3, 5, 6, 31, 32, 33] (by kernel_rfl) ⟨trE (by kernel_rfl) h613, trivial⟩ (by kernel_rfl)) ?_
                  refine .then ?_
                  have hq := oo_inv hm; clear hm; obtain ⟨k614, h615, hm⟩ := hq
                  obtain rfl := toN_some h615
                  have hq := bb_inv hm; clear hm; obtain ⟨h616, hm⟩ := hq
                  have hq := oo_inv hm; clear hm; obtain ⟨v617, h618, hm⟩ := hq
                  have hq := oo_inv hm; clear hm; obtain ⟨x619, h620, hm⟩ := hq
                  obtain rfl := toI_some h620
                  have hq := bb_inv hm; clear hm; obtain ⟨h621, hm⟩ := hq
                  have hq := bb_inv hm; clear hm; obtain ⟨h622, hm⟩ := hq
                  refine .reg (F' := (Fr.puts (⟨73, frTr [(1, (.pointer (some ⟨1, 0, none⟩))), (3, (.pointer (some ⟨2, 0, none⟩))), (5, (.int .i64 (Int.ofNat k614))), (6, (.int .i64 z603)), (31, (Sl.v 1 s604)), (32, (.int .i64 z605)), (33, (.int .i64 z606))] .nil⟩ : Fr) [(59, (.int .i64 (Int.ofNat k614))), (60, (.pointer (some ⟨2, (0 + k614 * 1), none⟩))), (61, (.int .i64 x619)), (62, (.int .i64 (wrapF .i64 (Int.add x619 (1 : Int))))), (63, (.pointer (some ⟨2, (0 + k614 * 1), none⟩)))])) (H' := (⟨3, objTr [(.cells tab0 true false []), (.cells [(.int .i64 z608), (Sl.v 1 s609), (Sl.v 1 s610)] false false []), (.cells (setL ([(.int .i64 (wrapF .i64 (Int.add x619 (1 : Int))))] : List Value) (0 + k614 * 1) q611) false false [])] 0 .nil, true⟩ : AHeap)) (evOps_cut 1 (by kernel_rfl) (evOps_data (keep (⟨3, objTr [(.cells tab0 true false []), (.cells [(.int .i64 z608), (Sl.v 1 s609), (Sl.v 1 s610)] false false []), (.cells q611 false false [])] 0 .nil, true⟩ : AHeap) (bb (Nat.blt k614 5) (some (.pointer (some ⟨2, (0 + k614 * 1), none⟩))) none)) (by kernel_rfl) (keep_bb h616) (okAt_of (by kernel_rfl) (by kernel_rfl)) (evOps_data (keep (⟨3, objTr [(.cells tab0 true false []), (.cells [(.int .i64 z608), (Sl.v 1 s609), (Sl.v 1 s610)] false false []), (.cells q611 false false [])] 0 .nil, true⟩ : AHeap) (nthL q611 (0 + k614 * 1))) (by kernel_rfl) (keep_eq h618) (okAt_of (by kernel_rfl) (by kernel_rfl)) (evOps_cut 1 (by kernel_rfl) (evOps_data (keep (⟨3, objTr [(.cells tab0 true false []), (.cells [(.int .i64 z608), (Sl.v 1 s609), (Sl.v 1 s610)] false false []), (.cells q611 false false [])] 0 .nil, true⟩ : AHeap) (bb (Nat.blt k614 5) (some (.pointer (some ⟨2, (0 + k614 * 1), none⟩))) none)) (by kernel_rfl) (keep_bb h621) (okAt_of (by kernel_rfl) (by kernel_rfl)) (evOps_data (done (bb (an (Nat.ble ((0 + k614 * 1) + 1) (len q611)) true) (some (⟨3, objTr [(.cells tab0 true false []), (.cells [(.int .i64 z608), (Sl.v 1 s609), (Sl.v 1 s610)] false false []), (.cells (setL ([(.int .i64 (wrapF .i64 (Int.add x619 (1 : Int))))] : List Value) (0 + k614 * 1) q611) false false [])] 0 .nil, true⟩ : AHeap)) none) undef) (by kernel_rfl) (done_bb h622) (okAt_of (by kernel_rfl) (by kernel_rfl)) (by kernel_rfl))))))) ?_
                  have hq := bb_inv hm; clear hm; obtain ⟨h623, hm⟩ := hq
                  refine .ghs (⟨73, frTr [(1, (.pointer (some ⟨1, 0, none⟩))), (3, (.pointer (some ⟨2, 0, none⟩))), (6, (.int .i64 z603)), (31, (Sl.v 1 s604)), (32, (.int .i64 z605)), (33, (.int .i64 z606))] .nil⟩ : Fr) (⟨3, objTr [(.cells tab0 true false []), (.cells [(.int .i64 z608), (Sl.v 1 s609), (Sl.v 1 s610)] false false []), (.cells (setL ([(.int .i64 (wrapF .i64 (Int.add x619 (1 : Int))))] : List Value) (0 + k614 * 1) q611) false false [])] 0 .nil, true⟩ : AHeap) (.gc [2] [false] [.tmp 1 false, .tmp 3 false] [1, 3, 6, 31, 32, 33] (by kernel_rfl) ⟨trE (by kernel_rfl) h623, trivial⟩ (by kernel_rfl)) ?_
                  have hq := oo_inv hm; clear hm; obtain ⟨k624, h625, hm⟩ := hq
                  obtain rfl := toN_some h625
                  have hq := bb_inv hm; clear hm; obtain ⟨h626, hm⟩ := hq
                  have hq := oo_inv hm; clear hm; obtain ⟨v627, h628, hm⟩ := hq
                  have hq := oo_inv hm; clear hm; obtain ⟨x629, h630, hm⟩ := hq
                  obtain rfl := toI_some h630
                  have hq := bb_inv hm; clear hm; obtain ⟨h631, hm⟩ := hq
                  have hq := bb_inv hm; clear hm; obtain ⟨h632, hm⟩ := hq
                  refine .reg (F' := (Fr.puts (⟨73, frTr [(1, (.pointer (some ⟨1, 0, none⟩))), (3, (.pointer (some ⟨2, 0, none⟩))), (6, (.int .i64 (Int.ofNat k624))), (31, (Sl.v 1 s604)), (32, (.int .i64 z605)), (33, (.int .i64 z606))] .nil⟩ : Fr) [(64, (.int .i64 (Int.ofNat k624))), (65, (.pointer (some ⟨2, (0 + k624 * 1), none⟩))), (66, (.int .i64 x629)), (67, (.int .i64 (wrapF .i64 (Int.sub x629 (1 : Int))))), (68, (.pointer (some ⟨2, (0 + k624 * 1), none⟩)))])) (H' := (⟨3, objTr [(.cells tab0 true false []), (.cells [(.int .i64 z608), (Sl.v 1 s609), (Sl.v 1 s610)] false false []), (.cells (setL ([(.int .i64 (wrapF .i64 (Int.sub x629 (1 : Int))))] : List Value) (0 + k624 * 1) (setL ([(.int .i64 (wrapF .i64 (Int.add x619 (1 : Int))))] : List Value) (0 + k614 * 1) q611)) false false [])] 0 .nil, true⟩ : AHeap)) (evOps_cut 1 (by kernel_rfl) (evOps_data (keep (⟨3, objTr [(.cells tab0 true false []), (.cells [(.int .i64 z608), (Sl.v 1 s609), (Sl.v 1 s610)] false false []), (.cells (setL ([(.int .i64 (wrapF .i64 (Int.add x619 (1 : Int))))] : List Value) (0 + k614 * 1) q611) false false [])] 0 .nil, true⟩ : AHeap) (bb (Nat.blt k624 5) (some (.pointer (some ⟨2, (0 + k624 * 1), none⟩))) none)) (by kernel_rfl) (keep_bb h626) (okAt_of (by kernel_rfl) (by kernel_rfl)) (evOps_data (keep (⟨3, objTr [(.cells tab0 true false []), (.cells [(.int .i64 z608), (Sl.v 1 s609), (Sl.v 1 s610)] false false []), (.cells (setL ([(.int .i64 (wrapF .i64 (Int.add x619 (1 : Int))))] : List Value) (0 + k614 * 1) q611) false false [])] 0 .nil, true⟩ : AHeap) (nthL (setL ([(.int .i64 (wrapF .i64 (Int.add x619 (1 : Int))))] : List Value) (0 + k614 * 1) q611) (0 + k624 * 1))) (by kernel_rfl) (keep_eq h628) (okAt_of (by kernel_rfl) (by kernel_rfl)) (evOps_cut 1 (by kernel_rfl) (evOps_data (keep (⟨3, objTr [(.cells tab0 true false []), (.cells [(.int .i64 z608), (Sl.v 1 s609), (Sl.v 1 s610)] false false []), (.cells (setL ([(.int .i64 (wrapF .i64 (Int.add x619 (1 : Int))))] : List Value) (0 + k614 * 1) q611) false false [])] 0 .nil, true⟩ : AHeap) (bb (Nat.blt k624 5) (some (.pointer (some ⟨2, (0 + k624 * 1), none⟩))) none)) (by kernel_rfl) (keep_bb h631) (okAt_of (by kernel_rfl) (by kernel_rfl)) (evOps_data (done (bb (an (Nat.ble ((0 + k624 * 1) + 1) (len (setL ([(.int .i64 (wrapF .i64 (Int.add x619 (1 : Int))))] : List Value) (0 + k614 * 1) q611))) true) (some (⟨3, objTr [(.cells tab0 true false []), (.cells [(.int .i64 z608), (Sl.v 1 s609), (Sl.v 1 s610)] false false []), (.cells (setL ([(.int .i64 (wrapF .i64 (Int.sub x629 (1 : Int))))] : List Value) (0 + k624 * 1) (setL ([(.int .i64 (wrapF .i64 (Int.add x619 (1 : Int))))] : List Value) (0 + k614 * 1) q611)) false false [])] 0 .nil, true⟩ : AHeap)) none) undef) (by kernel_rfl) (done_bb h632) (okAt_of (by kernel_rfl) (by kernel_rfl)) (by kernel_rfl))))))) ?_
                  have hq := bb_inv hm; clear hm; obtain ⟨h633, hm⟩ := hq
                  refine .ghs (⟨73, frTr [(1, (.pointer (some ⟨1, 0, none⟩))), (3, (.pointer (some ⟨2, 0, none⟩))), (31, (Sl.v 1 s604)), (32, (.int .i64 z605)), (33, (.int .i64 z606))] .nil⟩ : Fr) (⟨3, objTr [(.cells tab0 true false []), (.cells [(.int .i64 z608), (Sl.v 1 s609), (Sl.v 1 s610)] false false []), (.cells (setL ([(.int .i64 (wrapF .i64 (Int.sub x629 (1 : Int))))] : List Value) (0 + k624 * 1) (setL ([(.int .i64 (wrapF .i64 (Int.add x619 (1 : Int))))] : List Value) (0 + k614 * 1) q611)) false false [])] 0 .nil, true⟩ : AHeap) (.gc [2] [false] [.tmp 1 false, .tmp 3 false] [1, 3, 31, 32, 33] (by kernel_rfl) ⟨trE (by kernel_rfl) h633, trivial⟩ (by kernel_rfl)) ?_
                  refine .reg (F' := (Fr.puts (⟨73, frTr [(1, (.pointer (some ⟨1, 0, none⟩))), (3, (.pointer (some ⟨2, 0, none⟩))), (31, (Sl.v 1 s604)), (32, (.int .i64 z605)), (33, (.int .i64 z606))] .nil⟩ : Fr) [(69, (.int .i64 (wrapF .i64 (Int.add z606 (1 : Int))))), (33, (.int .i64 (wrapF .i64 (Int.add z606 (1 : Int)))))])) (H' := (⟨3, objTr [(.cells tab0 true false []), (.cells [(.int .i64 z608), (Sl.v 1 s609), (Sl.v 1 s610)] false false []), (.cells (setL ([(.int .i64 (wrapF .i64 (Int.sub x629 (1 : Int))))] : List Value) (0 + k624 * 1) (setL ([(.int .i64 (wrapF .i64 (Int.add x619 (1 : Int))))] : List Value) (0 + k614 * 1) q611)) false false [])] 0 .nil, true⟩ : AHeap)) (by kernel_rfl) ?_
                  exact ⟨(s604, z605, (wrapF .i64 (Int.add z606 (1 : Int))), z608, s609, s610, (setL ([(.int .i64 (wrapF .i64 (Int.sub x629 (1 : Int))))] : List Value) (0 + k624 * 1) (setL ([(.int .i64 (wrapF .i64 (Int.add x619 (1 : Int))))] : List Value) (0 + k614 * 1) q611))), hm, (.gc [2] [false] [.tmp 1 false, .tmp 3 false] [1, 3, 31, 32, 33] (by kernel_rfl) ⟨trE (by kernel_rfl) h633, trivial⟩ (by kernel_rfl))⟩
              · skip
                have hq := oo_inv hm; clear hm; obtain ⟨v634, h635, hm⟩ := hq
                have hq := oo_inv hm; clear hm; obtain ⟨b636, h637, hm⟩ := hq
                obtain rfl := vBool_some h637
                have hq := bb_cases hm; clear hm; rcases hq with ⟨h638, hm⟩ | ⟨h638, hm⟩
                · skip
                  refine .reg (F' := (Fr.puts (⟨73, frTr [(1, (.pointer (some ⟨1, 0, none⟩))), (3, (.pointer (some ⟨2, 0, none⟩))), (5, (.int .i64 x590)), (6, (.int .i64 x595)), (31, (Sl.v 1 s576)), (32, (.int .i64 z577)), (33, (.int .i64 (Int.ofNat k585)))] .nil⟩ : Fr) [(43, (.int .i64 x590)), (44, (.int .i64 x595)), (45, (.int .i64 (bb (ilt x595 x590) x595 x590))), (46, (.pointer (some ⟨1, 0, none⟩))), (47, (.int .i64 z579)), (48, (.int .i64 (wrapF .i64 (Int.sub z579 (1 : Int))))), (49, (.bool b636)), (50, (.bool true)), (51, (.bool true)), (52, (.tuple ⟨[]⟩)), (53, (.tuple ⟨[]⟩)), (54, (.tuple ⟨[]⟩)), (55, (.tuple ⟨[]⟩)), (56, (.tuple ⟨[]⟩)), (57, (.tuple ⟨[]⟩)), (58, (.bool true))])) (H' := (⟨3, objTr [(.cells tab0 true false []), (.cells [(.int .i64 z579), (Sl.v 1 s580), (Sl.v 1 s581)] false false []), (.cells q582 false false [])] 0 .nil, true⟩ : AHeap)) (evOps_cut 6 (by kernel_rfl) (evOps_data ((oo (pu 60 [(.int .i64 (0 : Int)), (.int .i64 (bb (ilt x595 x590) x595 x590)), (.int .i64 (wrapF .i64 (Int.sub z579 (1 : Int))))]) none fun v => some (v, (⟨3, objTr [(.cells tab0 true false []), (.cells [(.int .i64 z579), (Sl.v 1 s580), (Sl.v 1 s581)] false false []), (.cells q582 false false [])] 0 .nil, true⟩ : AHeap)))) (by kernel_rfl) (call_eq h635) (okAt_of (by kernel_rfl) (by kernel_rfl)) (evOps_data (some ((.bool (nt b636)), (⟨3, objTr [(.cells tab0 true false []), (.cells [(.int .i64 z579), (Sl.v 1 s580), (Sl.v 1 s581)] false false []), (.cells q582 false false [])] 0 .nil, true⟩ : AHeap))) (by kernel_rfl) (show _ = some ((.bool true), _) from (by rw [h638])) (okAt_of (by kernel_rfl) (by kernel_rfl)) (by kernel_rfl)))) ?_
                  exact ⟨(x590, x595, s576, z577, (Int.ofNat k585), true, z579, s580, s581, q582), hm, (.gc [2] [false] [.tmp 1 false, .tmp 3 false] [1, 3, 5, 6, 31, 32, 33, 58] (by kernel_rfl) ⟨trE (by kernel_rfl) h583, trivial⟩ (by kernel_rfl))⟩
                · skip
                  refine .reg (F' := (Fr.puts (⟨73, frTr [(1, (.pointer (some ⟨1, 0, none⟩))), (3, (.pointer (some ⟨2, 0, none⟩))), (5, (.int .i64 x590)), (6, (.int .i64 x595)), (31, (Sl.v 1 s576)), (32, (.int .i64 z577)), (33, (.int .i64 (Int.ofNat k585)))] .nil⟩ : Fr) [(43, (.int .i64 x590)), (44, (.int .i64 x595)), (45, (.int .i64 (bb (ilt x595 x590) x595 x590))), (46, (.pointer (some ⟨1, 0, none⟩))), (47, (.int .i64 z579)), (48, (.int .i64 (wrapF .i64 (Int.sub z579 (1 : Int))))), (49, (.bool b636)), (50, (.bool false)), (51, (.bool false)), (52, (.int .i64 x590)), (53, (.int .i64 x595)), (54, (.int .i64 (bb (ilt x590 x595) x595 x590))), (55, (.pointer (some ⟨1, 0, none⟩))), (56, (.int .i64 z579)), (57, (.bool (nt (ilt (bb (ilt x590 x595) x595 x590) z579)))), (58, (.bool (nt (ilt (bb (ilt x590 x595) x595 x590) z579))))])) (H' := (⟨3, objTr [(.cells tab0 true false []), (.cells [(.int .i64 z579), (Sl.v 1 s580), (Sl.v 1 s581)] false false []), (.cells q582 false false [])] 0 .nil, true⟩ : AHeap)) (evOps_cut 6 (by kernel_rfl) (evOps_data ((oo (pu 60 [(.int .i64 (0 : Int)), (.int .i64 (bb (ilt x595 x590) x595 x590)), (.int .i64 (wrapF .i64 (Int.sub z579 (1 : Int))))]) none fun v => some (v, (⟨3, objTr [(.cells tab0 true false []), (.cells [(.int .i64 z579), (Sl.v 1 s580), (Sl.v 1 s581)] false false []), (.cells q582 false false [])] 0 .nil, true⟩ : AHeap)))) (by kernel_rfl) (call_eq h635) (okAt_of (by kernel_rfl) (by kernel_rfl)) (evOps_data (some ((.bool (nt b636)), (⟨3, objTr [(.cells tab0 true false []), (.cells [(.int .i64 z579), (Sl.v 1 s580), (Sl.v 1 s581)] false false []), (.cells q582 false false [])] 0 .nil, true⟩ : AHeap))) (by kernel_rfl) (show _ = some ((.bool false), _) from (by rw [h638])) (okAt_of (by kernel_rfl) (by kernel_rfl)) (by kernel_rfl)))) ?_
                  exact ⟨(x590, x595, s576, z577, (Int.ofNat k585), (nt (ilt (bb (ilt x590 x595) x595 x590) z579)), z579, s580, s581, q582), hm, (.gc [2] [false] [.tmp 1 false, .tmp 3 false] [1, 3, 5, 6, 31, 32, 33, 58] (by kernel_rfl) ⟨trE (by kernel_rfl) h583, trivial⟩ (by kernel_rfl))⟩
            · refine .ifF (ilt z578 z577) (by kernel_rfl) h584 ?_
              refine .exit ?_
              exact ⟨q582, hm, (.gc [2] [false] [.tmp 3 false] [3] (by kernel_rfl) ⟨trE (by kernel_rfl) h583, trivial⟩ (by kernel_rfl))⟩
end
end Go.MendM
