/- Models of the program's functions, and the proofs that runs give them: MADE BY PROGRAM (wip/tools/dec.py). -/
import Derived.Test.YtgplhblofefkjaaDoorMendNMod1x
import Derived.Test.YtgplhblofefkjaaDoorMendNMod2
import Derived.Test.YtgplhblofefkjaaDoorMendNMod3
import Derived.Test.YtgplhblofefkjaaDoorMendNMod4
import Derived.Test.YtgplhblofefkjaaDoorProg
import Derived.Test.YtgplhblofefkjaaDoorSpLawx
import Derived.Test.YtgplhblofefkjaaDoorMendNCode
import Derived.Test.YtgplhblofefkjaaDoorSpArgsx

set_option maxRecDepth 100000
set_option linter.unusedVariables false
namespace Go.MendNM
open Go.Sp Go.MendN
noncomputable section
/-- spadille/spadilleref09.source -/
def o70_0 : List ROp := [
  ⟨(some 2), .box 27 (.tmp 0), 0, none, []⟩,
  ⟨(some 4), .assign (.const (.int .i64 0)), 3, none, []⟩]
def c70_0 : RC := .reg [] o70_0
def o70_1 : List ROp := [
  ⟨(some 7), .fieldAddr 27 (.tmp 2) 2, 0, none, []⟩,
  ⟨(some 8), .load 22 (.tmp 7), 22, none, []⟩,
  ⟨(some 9), .move (.tmp 1), 3, none, []⟩,
  ⟨(some 10), .slice 22 (.tmp 8) none (some (.tmp 9)) none, 22, none, []⟩,
  ⟨(some 11), .fieldAddr 27 (.tmp 2) 2, 0, none, []⟩,
  ⟨(some 12), .load 22 (.tmp 11), 22, none, []⟩,
  ⟨(some 13), .move (.tmp 1), 3, none, []⟩,
  ⟨(some 14), .indexAddr 22 (.tmp 12) (.tmp 13), 0, none, []⟩,
  ⟨(some 15), .load 3 (.tmp 14), 3, none, []⟩,
  ⟨(some 16), .call ⟨.value (.func 62), #[(.tmp 10), (.tmp 15)], #[22, 3]⟩, 3, none, []⟩,
  ⟨(some 5), .assign (.tmp 16), 3, none, []⟩]
def c70_1 : RC := .reg [0, 1, 2, 3, 4, 5, 6, 7, 8, 9, 10] o70_1
def o70_2 : List ROp := [
  ⟨(some 6), .assign (.const (.int .i64 0)), 3, none, []⟩]
def c70_2 : RC := .reg [] o70_2
def o70_3 : List ROp := [
  ⟨(some 17), .fieldAddr 27 (.tmp 2) 1, 0, none, []⟩,
  ⟨(some 18), .load 22 (.tmp 17), 22, none, []⟩,
  ⟨(some 19), .move (.tmp 6), 3, none, []⟩,
  ⟨(some 20), .indexAddr 22 (.tmp 18) (.tmp 19), 0, none, []⟩,
  ⟨(some 21), .load 3 (.tmp 20), 3, none, []⟩,
  ⟨(some 22), .fieldAddr 27 (.tmp 2) 2, 0, none, []⟩,
  ⟨(some 23), .load 22 (.tmp 22), 22, none, []⟩,
  ⟨(some 24), .move (.tmp 1), 3, none, []⟩,
  ⟨(some 25), .indexAddr 22 (.tmp 23) (.tmp 24), 0, none, []⟩,
  ⟨(some 26), .load 3 (.tmp 25), 3, none, []⟩,
  ⟨(some 27), .binOp .neq 3 (.tmp 21) (.tmp 26) 3, 4, none, []⟩,
  ⟨(some 28), .move (.tmp 27), 4, none, []⟩,
  ⟨(some 29), .fieldAddr 27 (.tmp 2) 1, 0, (some ((some 28), false)), []⟩,
  ⟨(some 30), .load 22 (.tmp 29), 22, (some ((some 28), false)), []⟩,
  ⟨(some 31), .move (.tmp 6), 3, (some ((some 28), false)), []⟩,
  ⟨(some 32), .slice 22 (.tmp 30) none (some (.tmp 31)) none, 22, (some ((some 28), false)), []⟩,
  ⟨(some 33), .fieldAddr 27 (.tmp 2) 1, 0, (some ((some 28), false)), []⟩,
  ⟨(some 34), .load 22 (.tmp 33), 22, (some ((some 28), false)), []⟩,
  ⟨(some 35), .move (.tmp 6), 3, (some ((some 28), false)), []⟩,
  ⟨(some 36), .indexAddr 22 (.tmp 34) (.tmp 35), 0, (some ((some 28), false)), []⟩,
  ⟨(some 37), .load 3 (.tmp 36), 3, (some ((some 28), false)), []⟩,
  ⟨(some 39), .move (.tmp 5), 3, (some ((some 28), false)), []⟩,
  ⟨(some 38), .call ⟨.value (.func 62), #[(.tmp 32), (.tmp 37)], #[22, 3]⟩, 3, (some ((some 28), false)), []⟩,
  ⟨(some 40), .binOp .neq 3 (.tmp 38) (.tmp 39) 3, 4, (some ((some 28), false)), []⟩,
  ⟨(some 41), .pick (.tmp 28) (.const (.bool true)) (.tmp 40), 4, none, []⟩]
def c70_3 : RC := .reg [0, 1, 2, 3, 4, 5, 6, 7, 8, 9, 10, 11, 12, 13, 14, 15, 16, 17, 18, 19, 20, 22, 21, 23, 24] o70_3
def c70_4 : RC := .cond (.tmp 41) .skip (.exit 0)
def c70_5 : RC := .seq c70_3 c70_4
def o70_6 : List ROp := [
  ⟨(some 42), .move (.tmp 6), 3, none, []⟩,
  ⟨(some 43), .binOp .add 3 (.tmp 42) (.const (.int .i64 1)) 3, 3, none, []⟩,
  ⟨(some 6), .assign (.tmp 43), 3, none, []⟩]
def c70_6 : RC := .reg [] o70_6
def c70_7 : RC := .block 1 c70_6
def c70_8 : RC := .seq c70_5 c70_7
def c70_9 : RC := .loop c70_8
def c70_10 : RC := .block 0 c70_9
def o70_11 : List ROp := [
  ⟨(some 44), .move (.tmp 6), 3, none, []⟩,
  ⟨(some 4), .assign (.tmp 44), 3, none, []⟩]
def c70_11 : RC := .reg [] o70_11
def c70_12 : RC := .seq c70_11 .ret
def c70_13 : RC := .seq c70_10 c70_12
def c70_14 : RC := .seq c70_2 c70_13
def c70_15 : RC := .seq c70_1 c70_14
def c70_16 : RC := .seq c70_0 c70_15
def m70_0 (pu : PureF) (n : Nat) (z2439 : Int) : Option Value :=
  (some (.int .i64 z2439))
def m70_2 (pu : PureF) (n : Nat) (ih0 : Int → Int → Int → Int → Sl → Sl → Option Value) (z2472 : Int) (z2473 : Int) (z2474 : Int) (b2475 : Bool) (z2476 : Int) (s2477 : Sl) (s2478 : Sl) : Option Value :=
  (bb b2475 (ih0 z2472 z2473 (wrapF .i64 (Int.add z2474 (1 : Int))) z2476 s2477 s2478) (m70_0 pu n z2474))
def b70_1 (pu : PureF) (n : Nat) (ih0 : Int → Int → Int → Int → Sl → Sl → Option Value) (z2440 : Int) (z2441 : Int) (z2442 : Int) (z2443 : Int) (s2444 : Sl) (s2445 : Sl) : Option Value :=
  (oo (toN z2442) none fun k2480 => (bb (an (Nat.blt k2480 (Sl.n s2444)) true) (oo (nthL (Sl.cs s2444) (k2480 * 1)) none fun v2483 => (oo (toI .i64 v2483) none fun x2485 => (oo (toN z2440) none fun k2487 => (bb (an (Nat.blt k2487 (Sl.n s2445)) true) (oo (nthL (Sl.cs s2445) (k2487 * 1)) none fun v2490 => (oo (toI .i64 v2490) none fun x2492 => (bb (nt (ieq x2485 x2492)) (m70_2 pu n ih0 (Int.ofNat k2487) z2441 (Int.ofNat k2480) true z2443 s2444 s2445) (bb (nt (Nat.beq (Sl.fl s2444) 2)) (bb (Nat.ble k2480 (Sl.n s2444)) (bb (an (Nat.blt k2480 (Sl.n s2444)) true) (oo (nthL (Sl.cs s2444) (k2480 * 1)) none fun v2498 => (oo (toI .i64 v2498) none fun x2500 => (oo (pu 62 [(Sl.v 1 (Sl.mk (k2480 - 0) (bb (an (Nat.beq k2480 (Sl.n s2444)) (orr false (Nat.beq (Sl.fl s2444) 1))) 1 0) (takeL ((k2480 - 0) * 1) (dropL (0 * 1) (Sl.cs s2444))))), (.int .i64 x2500)]) none fun v2502 => (oo (toI .i64 v2502) none fun x2504 => (m70_2 pu n ih0 (Int.ofNat k2487) z2441 (Int.ofNat k2480) (nt (ieq x2504 z2441)) z2443 s2444 s2445))))) none) none) none)))) none)))) none))
def l70_1 (pu : PureF) (n : Nat) (w : Nat) : Int → Int → Int → Int → Sl → Sl → Option Value :=
  Nat.rec (motive := fun _ => Int → Int → Int → Int → Sl → Sl → Option Value) (fun _ _ _ _ _ _ => none) (fun _ ih0 => b70_1 pu n ih0) w
def m70_ (pu : PureF) (n : Nat) (x2352 : Int) (s2354 : Sl) (s2356 : Sl) (x2358 : Int) : Option Value :=
  (bb (nt (Nat.beq (Sl.fl s2356) 2)) (oo (toN x2358) none fun k2361 => (bb (Nat.ble k2361 (Sl.n s2356)) (bb (an (Nat.blt k2361 (Sl.n s2356)) true) (oo (nthL (Sl.cs s2356) (k2361 * 1)) none fun v2365 => (oo (toI .i64 v2365) none fun x2367 => (oo (pu 62 [(Sl.v 1 (Sl.mk (k2361 - 0) (bb (an (Nat.beq k2361 (Sl.n s2356)) (orr false (Nat.beq (Sl.fl s2356) 1))) 1 0) (takeL ((k2361 - 0) * 1) (dropL (0 * 1) (Sl.cs s2356))))), (.int .i64 x2367)]) none fun v2369 => (oo (toI .i64 v2369) none fun x2371 => (l70_1 pu n n (Int.ofNat k2361) x2371 (0 : Int) x2352 s2354 s2356))))) none) none)) none)
def m70 (pu : PureF) (n : Nat) (args : List Value) : Option Value :=
  (ll args none fun a0 args => (ll args none fun a1 args => (ll args (oo (vAgg a0) none fun l2347 => (ll l2347 none fun v2349 l2347 => (ll l2347 none fun v2350 l2347 => (ll l2347 none fun v2351 l2347 => (ll l2347 (oo (toI .i64 v2349) none fun x2352 => (oo (toSl 1 v2350) none fun s2354 => (oo (toSl 1 v2351) none fun s2356 => (oo (toI .i64 a1) none fun x2358 => (m70_ pu n x2352 s2354 s2356 x2358))))) fun _ _ => none))))) fun _ _ => none)))
theorem r70 {call : CallF} (pu : PureF) (n : Nat) (hcall : call = callP tabs isP pu inl) {args : List Value} {v : Value} (hm : m70 pu n args = some v) (_ : ∀ x ∈ args, closed2 x = true) : args.length ≤ 45 ∧ Run tt call 1 c70_16 (Fr.made 45 args) (pureHeap tabs) (Fin tt 1 [.tmp 4] v) := by
  subst hcall
  unfold m70 at hm
  have hq := ll_uncons hm; clear hm; obtain ⟨a0, args_0, rfl, hm⟩ := hq
  have hq := ll_uncons hm; clear hm; obtain ⟨a1, args_1, rfl, hm⟩ := hq
  have hq := ll_end hm; clear hm; obtain ⟨rfl, hm⟩ := hq
  have hq := oo_inv hm; clear hm; obtain ⟨l2347, h2348, hm⟩ := hq
  obtain rfl := vAgg_some h2348
  have hq := ll_uncons hm; clear hm; obtain ⟨v2349, l2347_0, rfl, hm⟩ := hq
  have hq := ll_uncons hm; clear hm; obtain ⟨v2350, l2347_1, rfl, hm⟩ := hq
  have hq := ll_uncons hm; clear hm; obtain ⟨v2351, l2347_2, rfl, hm⟩ := hq
  have hq := ll_end hm; clear hm; obtain ⟨rfl, hm⟩ := hq
  have hq := oo_inv hm; clear hm; obtain ⟨x2352, h2353, hm⟩ := hq
  obtain rfl := toI_some h2353
  have hq := oo_inv hm; clear hm; obtain ⟨s2354, h2355, hm⟩ := hq
  obtain rfl := toSl_some h2355
  have hq := oo_inv hm; clear hm; obtain ⟨s2356, h2357, hm⟩ := hq
  obtain rfl := toSl_some h2357
  have hq := oo_inv hm; clear hm; obtain ⟨x2358, h2359, hm⟩ := hq
  obtain rfl := toI_some h2359
  unfold m70_ at hm
  refine ⟨by simp, ?_⟩
  refine .same (F' := (⟨45, frTr [(0, (.agg ⟨[(.int .i64 x2352), (Sl.v 1 s2354), (Sl.v 1 s2356)]⟩)), (1, (.int .i64 x2358))] .nil⟩ : Fr)) (H' := (⟨1, objTr [(.cells tab0 true false [])] 0 .nil, true⟩ : AHeap)) (by kernel_rfl) (by kernel_rfl) ?_
  refine .then ?_
  refine .reg (F' := (Fr.puts (⟨45, frTr [(0, (.agg ⟨[(.int .i64 x2352), (Sl.v 1 s2354), (Sl.v 1 s2356)]⟩)), (1, (.int .i64 x2358))] .nil⟩ : Fr) [(2, (.pointer (some ⟨1, 0, none⟩))), (4, (.int .i64 (0 : Int)))])) (H' := (⟨2, objTr [(.cells tab0 true false []), (.cells [(.int .i64 x2352), (Sl.v 1 s2354), (Sl.v 1 s2356)] false false [])] 0 .nil, true⟩ : AHeap)) (by kernel_rfl) ?_
  refine .ghs (⟨45, frTr [(1, (.int .i64 x2358)), (2, (.pointer (some ⟨1, 0, none⟩)))] .nil⟩ : Fr) (⟨2, objTr [(.cells tab0 true false []), (.cells [(.int .i64 x2352), (Sl.v 1 s2354), (Sl.v 1 s2356)] false false [])] 0 .nil, true⟩ : AHeap) (.gc [] [false] [.tmp 2 false] [1, 2] (by kernel_rfl) trivial (by kernel_rfl)) ?_
  refine .then ?_
  have hq := bb_inv hm; clear hm; obtain ⟨h2360, hm⟩ := hq
  have hq := oo_inv hm; clear hm; obtain ⟨k2361, h2362, hm⟩ := hq
  obtain rfl := toN_some h2362
  have hq := bb_inv hm; clear hm; obtain ⟨h2363, hm⟩ := hq
  have hq := bb_inv hm; clear hm; obtain ⟨h2364, hm⟩ := hq
  have hq := oo_inv hm; clear hm; obtain ⟨v2365, h2366, hm⟩ := hq
  have hq := oo_inv hm; clear hm; obtain ⟨x2367, h2368, hm⟩ := hq
  obtain rfl := toI_some h2368
  have hq := oo_inv hm; clear hm; obtain ⟨v2369, h2370, hm⟩ := hq
  have hq := oo_inv hm; clear hm; obtain ⟨x2371, h2372, hm⟩ := hq
  obtain rfl := toI_some h2372
  refine .reg (F' := (Fr.puts (⟨45, frTr [(1, (.int .i64 (Int.ofNat k2361))), (2, (.pointer (some ⟨1, 0, none⟩)))] .nil⟩ : Fr) [(7, (.pointer (some ⟨1, 2, none⟩))), (8, (Sl.v 1 s2356)), (9, (.int .i64 (Int.ofNat k2361))), (10, (Sl.v 1 (Sl.mk (k2361 - 0) (bb (an (Nat.beq k2361 (Sl.n s2356)) (orr false (Nat.beq (Sl.fl s2356) 1))) 1 0) (takeL ((k2361 - 0) * 1) (dropL (0 * 1) (Sl.cs s2356)))))), (11, (.pointer (some ⟨1, 2, none⟩))), (12, (Sl.v 1 s2356)), (13, (.int .i64 (Int.ofNat k2361))), (14, (fpV (k2361 * 1) (Sl.cs s2356))), (15, (.int .i64 x2367)), (16, (.int .i64 x2371)), (5, (.int .i64 x2371))])) (H' := (⟨2, objTr [(.cells tab0 true false []), (.cells [(.int .i64 x2352), (Sl.v 1 s2354), (Sl.v 1 s2356)] false false [])] 0 .nil, true⟩ : AHeap)) (evOps_cut 3 (by kernel_rfl) (evOps_data (keep (⟨2, objTr [(.cells tab0 true false []), (.cells [(.int .i64 x2352), (Sl.v 1 s2354), (Sl.v 1 s2356)] false false [])] 0 .nil, true⟩ : AHeap) (asliceFs ti3 ⟨1, (Sl.n s2356), (Sl.fl s2356), (Sl.cs s2356)⟩ none (some (.int .i64 (Int.ofNat k2361))) none)) (by kernel_rfl) (asliceFs_eq (c1 := (Nat.ble k2361 (Sl.n s2356))) (c2 := true) (l := 0) (h := k2361) h2360 (by kernel_rfl) (by kernel_rfl) h2363 (by kernel_rfl) rfl) (okAt_of (by kernel_rfl) (by kernel_rfl)) (evOps_cut 3 (by kernel_rfl) (evOps_data (keep (⟨2, objTr [(.cells tab0 true false []), (.cells [(.int .i64 x2352), (Sl.v 1 s2354), (Sl.v 1 s2356)] false false [])] 0 .nil, true⟩ : AHeap) (bb (an (Nat.blt k2361 (Sl.n s2356)) true) (some (fpV (k2361 * 1) (Sl.cs s2356))) none)) (by kernel_rfl) (keep_bb h2364) (okAt_of (by kernel_rfl) (by kernel_rfl)) (evOps_data (keep (⟨2, objTr [(.cells tab0 true false []), (.cells [(.int .i64 x2352), (Sl.v 1 s2354), (Sl.v 1 s2356)] false false [])] 0 .nil, true⟩ : AHeap) (nthL (Sl.cs s2356) (k2361 * 1))) (by kernel_rfl) (keep_eq h2366) (okAt_of (by kernel_rfl) (by kernel_rfl)) (evOps_data ((oo (pu 62 [(Sl.v 1 (Sl.mk (k2361 - 0) (bb (an (Nat.beq k2361 (Sl.n s2356)) (orr false (Nat.beq (Sl.fl s2356) 1))) 1 0) (takeL ((k2361 - 0) * 1) (dropL (0 * 1) (Sl.cs s2356))))), (.int .i64 x2367)]) none fun v => some (v, (⟨2, objTr [(.cells tab0 true false []), (.cells [(.int .i64 x2352), (Sl.v 1 s2354), (Sl.v 1 s2356)] false false [])] 0 .nil, true⟩ : AHeap)))) (by kernel_rfl) (call_eq h2370) (okAt_of (by kernel_rfl) (by kernel_rfl)) (by kernel_rfl))))))) ?_
  refine .ghs (⟨45, frTr [(1, (.int .i64 (Int.ofNat k2361))), (2, (.pointer (some ⟨1, 0, none⟩))), (5, (.int .i64 x2371))] .nil⟩ : Fr) (⟨2, objTr [(.cells tab0 true false []), (.cells [(.int .i64 x2352), (Sl.v 1 s2354), (Sl.v 1 s2356)] false false [])] 0 .nil, true⟩ : AHeap) (.gc [] [false] [.tmp 2 false] [1, 2, 5] (by kernel_rfl) trivial (by kernel_rfl)) ?_
  refine .then ?_
  refine .reg (F' := (Fr.puts (⟨45, frTr [(1, (.int .i64 (Int.ofNat k2361))), (2, (.pointer (some ⟨1, 0, none⟩))), (5, (.int .i64 x2371))] .nil⟩ : Fr) [(6, (.int .i64 (0 : Int)))])) (H' := (⟨2, objTr [(.cells tab0 true false []), (.cells [(.int .i64 x2352), (Sl.v 1 s2354), (Sl.v 1 s2356)] false false [])] 0 .nil, true⟩ : AHeap)) (by kernel_rfl) ?_
  refine .ghs (⟨45, frTr [(1, (.int .i64 (Int.ofNat k2361))), (2, (.pointer (some ⟨1, 0, none⟩))), (5, (.int .i64 x2371)), (6, (.int .i64 (0 : Int)))] .nil⟩ : Fr) (⟨2, objTr [(.cells tab0 true false []), (.cells [(.int .i64 x2352), (Sl.v 1 s2354), (Sl.v 1 s2356)] false false [])] 0 .nil, true⟩ : AHeap) (.gc [] [false] [.tmp 2 false] [1, 2, 5, 6] (by kernel_rfl) trivial (by kernel_rfl)) ?_
  refine .join (v := v) (fun y : Int => ((⟨45, frTr [(6, (.int .i64 y))] .nil⟩ : Fr), (⟨1, objTr [(.cells tab0 true false [])] 0 .nil, true⟩ : AHeap))) (fun y => m70_0 pu n y) ?_ ?_
  · rintro z2439 hm
    unfold m70_0 at hm
    refine .then ?_
    refine .reg (F' := (Fr.puts (⟨45, frTr [(6, (.int .i64 z2439))] .nil⟩ : Fr) [(44, (.int .i64 z2439)), (4, (.int .i64 z2439))])) (H' := (⟨1, objTr [(.cells tab0 true false [])] 0 .nil, true⟩ : AHeap)) (by kernel_rfl) ?_
    refine .ghs (⟨45, frTr [(4, (.int .i64 z2439))] .nil⟩ : Fr) (⟨1, objTr [(.cells tab0 true false [])] 0 .nil, true⟩ : AHeap) (.gc [] [false] [] [4] (by kernel_rfl) trivial (by kernel_rfl)) ?_
    refine .ret ?_
    exact fin_ret (.int .i64 z2439) (by kernel_rfl) (by kernel_rfl) hm
  · skip
    refine .block ?_
    refine .loopM (v := v) (fun y : Int × Int × Int × Int × Sl × Sl => ((⟨45, frTr [(1, (.int .i64 y.1)), (2, (.pointer (some ⟨1, 0, none⟩))), (5, (.int .i64 y.2.1)), (6, (.int .i64 y.2.2.1))] .nil⟩ : Fr), (⟨2, objTr [(.cells tab0 true false []), (.cells [(.int .i64 y.2.2.2.1), (Sl.v 1 y.2.2.2.2.1), (Sl.v 1 y.2.2.2.2.2)] false false [])] 0 .nil, true⟩ : AHeap))) (fun w y => l70_1 pu n w y.1 y.2.1 y.2.2.1 y.2.2.2.1 y.2.2.2.2.1 y.2.2.2.2.2) n ⟨((Int.ofNat k2361), x2371, (0 : Int), x2352, s2354, s2356), hm, (.gc [] [false] [.tmp 2 false] [1, 2, 5, 6] (by kernel_rfl) trivial (by kernel_rfl))⟩ (fun _ => rfl) ?_
    rintro w0 ⟨z2440, z2441, z2442, z2443, s2444, s2445⟩ hm
    refine .then ?_
    refine .join (v := v) (fun y : Int × Int × Int × Bool × Int × Sl × Sl => ((⟨45, frTr [(1, (.int .i64 y.1)), (2, (.pointer (some ⟨1, 0, none⟩))), (5, (.int .i64 y.2.1)), (6, (.int .i64 y.2.2.1)), (41, (.bool y.2.2.2.1))] .nil⟩ : Fr), (⟨2, objTr [(.cells tab0 true false []), (.cells [(.int .i64 y.2.2.2.2.1), (Sl.v 1 y.2.2.2.2.2.1), (Sl.v 1 y.2.2.2.2.2.2)] false false [])] 0 .nil, true⟩ : AHeap))) (fun y => m70_2 pu n (l70_1 pu n w0) y.1 y.2.1 y.2.2.1 y.2.2.2.1 y.2.2.2.2.1 y.2.2.2.2.2.1 y.2.2.2.2.2.2) ?_ ?_
    · rintro ⟨z2472, z2473, z2474, b2475, z2476, s2477, s2478⟩ hm
      unfold m70_2 at hm
      have hq := bb_cases hm; clear hm; rcases hq with ⟨h2479, hm⟩ | ⟨h2479, hm⟩
      · refine .ifT b2475 (by kernel_rfl) h2479 ?_
        refine .skip ?_
        refine .ghs (⟨45, frTr [(1, (.int .i64 z2472)), (2, (.pointer (some ⟨1, 0, none⟩))), (5, (.int .i64 z2473)), (6, (.int .i64 z2474))] .nil⟩ : Fr) (⟨2, objTr [(.cells tab0 true false []), (.cells [(.int .i64 z2476), (Sl.v 1 s2477), (Sl.v 1 s2478)] false false [])] 0 .nil, true⟩ : AHeap) (.gc [] [false] [.tmp 2 false] [1, 2, 5, 6] (by kernel_rfl) trivial (by kernel_rfl)) ?_
        refine .block ?_
        refine .reg (F' := (Fr.puts (⟨45, frTr [(1, (.int .i64 z2472)), (2, (.pointer (some ⟨1, 0, none⟩))), (5, (.int .i64 z2473)), (6, (.int .i64 z2474))] .nil⟩ : Fr) [(42, (.int .i64 z2474)), (43, (.int .i64 (wrapF .i64 (Int.add z2474 (1 : Int))))), (6, (.int .i64 (wrapF .i64 (Int.add z2474 (1 : Int)))))])) (H' := (⟨2, objTr [(.cells tab0 true false []), (.cells [(.int .i64 z2476), (Sl.v 1 s2477), (Sl.v 1 s2478)] false false [])] 0 .nil, true⟩ : AHeap)) (by kernel_rfl) ?_
        exact ⟨(z2472, z2473, (wrapF .i64 (Int.add z2474 (1 : Int))), z2476, s2477, s2478), hm, (.gc [] [false] [.tmp 2 false] [1, 2, 5, 6] (by kernel_rfl) trivial (by kernel_rfl))⟩
      · refine .ifF b2475 (by kernel_rfl) h2479 ?_
        refine .exit ?_
        exact ⟨z2474, hm, (.gc [] [false] [] [6] (by kernel_rfl) trivial (by kernel_rfl))⟩
    · skip
      have hq := oo_inv hm; clear hm; obtain ⟨k2480, h2481, hm⟩ := hq
      obtain rfl := toN_some h2481
      have hq := bb_inv hm; clear hm; obtain ⟨h2482, hm⟩ := hq
      have hq := oo_inv hm; clear hm; obtain ⟨v2483, h2484, hm⟩ := hq
      have hq := oo_inv hm; clear hm; obtain ⟨x2485, h2486, hm⟩ := hq
      obtain rfl := toI_some h2486
      have hq := oo_inv hm; clear hm; obtain ⟨k2487, h2488, hm⟩ := hq
      obtain rfl := toN_some h2488
      have hq := bb_inv hm; clear hm; obtain ⟨h2489, hm⟩ := hq
      have hq := oo_inv hm; clear hm; obtain ⟨v2490, h2491, hm⟩ := hq
      have hq := oo_inv hm; clear hm; obtain ⟨x2492, h2493, hm⟩ := hq
      obtain rfl := toI_some h2493
      have hq := bb_cases hm; clear hm; rcases hq with ⟨h2494, hm⟩ | ⟨h2494, hm⟩
      · skip
        refine .reg (F' := (Fr.puts (⟨45, frTr [(1, (.int .i64 (Int.ofNat k2487))), (2, (.pointer (some ⟨1, 0, none⟩))), (5, (.int .i64 z2441)), (6, (.int .i64 (Int.ofNat k2480)))] .nil⟩ : Fr) [(17, (.pointer (some ⟨1, 1, none⟩))), (18, (Sl.v 1 s2444)), (19, (.int .i64 (Int.ofNat k2480))), (20, (fpV (k2480 * 1) (Sl.cs s2444))), (21, (.int .i64 x2485)), (22, (.pointer (some ⟨1, 2, none⟩))), (23, (Sl.v 1 s2445)), (24, (.int .i64 (Int.ofNat k2487))), (25, (fpV (k2487 * 1) (Sl.cs s2445))), (26, (.int .i64 x2492)), (27, (.bool true)), (28, (.bool true)), (29, (.tuple ⟨[]⟩)), (30, (.tuple ⟨[]⟩)), (31, (.tuple ⟨[]⟩)), (32, (.tuple ⟨[]⟩)), (33, (.tuple ⟨[]⟩)), (34, (.tuple ⟨[]⟩)), (35, (.tuple ⟨[]⟩)), (36, (.tuple ⟨[]⟩)), (37, (.tuple ⟨[]⟩)), (39, (.tuple ⟨[]⟩)), (38, (.tuple ⟨[]⟩)), (40, (.tuple ⟨[]⟩)), (41, (.bool true))])) (H' := (⟨2, objTr [(.cells tab0 true false []), (.cells [(.int .i64 z2443), (Sl.v 1 s2444), (Sl.v 1 s2445)] false false [])] 0 .nil, true⟩ : AHeap)) (evOps_cut 3 (by kernel_rfl) (evOps_data (keep (⟨2, objTr [(.cells tab0 true false []), (.cells [(.int .i64 z2443), (Sl.v 1 s2444), (Sl.v 1 s2445)] false false [])] 0 .nil, true⟩ : AHeap) (bb (an (Nat.blt k2480 (Sl.n s2444)) true) (some (fpV (k2480 * 1) (Sl.cs s2444))) none)) (by kernel_rfl) (keep_bb h2482) (okAt_of (by kernel_rfl) (by kernel_rfl)) (evOps_data (keep (⟨2, objTr [(.cells tab0 true false []), (.cells [(.int .i64 z2443), (Sl.v 1 s2444), (Sl.v 1 s2445)] false false [])] 0 .nil, true⟩ : AHeap) (nthL (Sl.cs s2444) (k2480 * 1))) (by kernel_rfl) (keep_eq h2484) (okAt_of (by kernel_rfl) (by kernel_rfl)) (evOps_cut 3 (by kernel_rfl) (evOps_data (keep (⟨2, objTr [(.cells tab0 true false []), (.cells [(.int .i64 z2443), (Sl.v 1 s2444), (Sl.v 1 s2445)] false false [])] 0 .nil, true⟩ : AHeap) (bb (an (Nat.blt k2487 (Sl.n s2445)) true) (some (fpV (k2487 * 1) (Sl.cs s2445))) none)) (by kernel_rfl) (keep_bb h2489) (okAt_of (by kernel_rfl) (by kernel_rfl)) (evOps_data (keep (⟨2, objTr [(.cells tab0 true false []), (.cells [(.int .i64 z2443), (Sl.v 1 s2444), (Sl.v 1 s2445)] false false [])] 0 .nil, true⟩ : AHeap) (nthL (Sl.cs s2445) (k2487 * 1))) (by kernel_rfl) (keep_eq h2491) (okAt_of (by kernel_rfl) (by kernel_rfl)) (evOps_data (some ((.bool (nt (ieq x2485 x2492))), (⟨2, objTr [(.cells tab0 true false []), (.cells [(.int .i64 z2443), (Sl.v 1 s2444), (Sl.v 1 s2445)] false false [])] 0 .nil, true⟩ : AHeap))) (by kernel_rfl) (show _ = some ((.bool true), _) from (by rw [h2494])) (okAt_of (by kernel_rfl) (by kernel_rfl)) (by kernel_rfl)))))))) ?_
        exact ⟨((Int.ofNat k2487), z2441, (Int.ofNat k2480), true, z2443, s2444, s2445), hm, (.gc [] [false] [.tmp 2 false] [1, 2, 5, 6, 41] (by kernel_rfl) trivial (by kernel_rfl))⟩
      · skip
        have hq := bb_inv hm; clear hm; obtain ⟨h2495, hm⟩ := hq
        have hq := bb_inv hm; clear hm; obtain ⟨h2496, hm⟩ := hq
        have hq := bb_inv hm; clear hm; obtain ⟨h2497, hm⟩ := hq
        have hq := oo_inv hm; clear hm; obtain ⟨v2498, h2499, hm⟩ := hq
        have hq := oo_inv hm; clear hm; obtain ⟨x2500, h2501, hm⟩ := hq
        obtain rfl := toI_some h2501
        have hq := oo_inv hm; clear hm; obtain ⟨v2502, h2503, hm⟩ := hq
        have hq := oo_inv hm; clear hm; obtain ⟨x2504, h2505, hm⟩ := hq
        obtain rfl := toI_some h2505
        refine .reg (F' := (Fr.puts (⟨45, frTr [(1, (.int .i64 (Int.ofNat k2487))), (2, (.pointer (some ⟨1, 0, none⟩))), (5, (.int .i64 z2441)), (6, (.int .i64 (Int.ofNat k2480)))] .nil⟩ : Fr) [(17, (.pointer (some ⟨1, 1, none⟩))), (18, (Sl.v 1 s2444)), (19, (.int .i64 (Int.ofNat k2480))), (20, (fpV (k2480 * 1) (Sl.cs s2444))), (21, (.int .i64 x2485)), (22, (.pointer (some ⟨1, 2, none⟩))), (23, (Sl.v 1 s2445)), (24, (.int .i64 (Int.ofNat k2487))), (25, (fpV (k2487 * 1) (Sl.cs s2445))), (26, (.int .i64 x2492)), (27, (.bool false)), (28, (.bool false)), (29, (.pointer (some ⟨1, 1, none⟩))), (30, (Sl.v 1 s2444)), (31, (.int .i64 (Int.ofNat k2480))), (32, (Sl.v 1 (Sl.mk (k2480 - 0) (bb (an (Nat.beq k2480 (Sl.n s2444)) (orr false (Nat.beq (Sl.fl s2444) 1))) 1 0) (takeL ((k2480 - 0) * 1) (dropL (0 * 1) (Sl.cs s2444)))))), (33, (.pointer (some ⟨1, 1, none⟩))), (34, (Sl.v 1 s2444)), (35, (.int .i64 (Int.ofNat k2480))), (36, (fpV (k2480 * 1) (Sl.cs s2444))), (37, (.int .i64 x2500)), (39, (.int .i64 z2441)), (38, (.int .i64 x2504)), (40, (.bool (nt (ieq x2504 z2441)))), (41, (.bool (nt (ieq x2504 z2441))))])) (H' := (⟨2, objTr [(.cells tab0 true false []), (.cells [(.int .i64 z2443), (Sl.v 1 s2444), (Sl.v 1 s2445)] false false [])] 0 .nil, true⟩ : AHeap)) (evOps_cut 3 (by kernel_rfl) (evOps_data (keep (⟨2, objTr [(.cells tab0 true false []), (.cells [(.int .i64 z2443), (Sl.v 1 s2444), (Sl.v 1 s2445)] false false [])] 0 .nil, true⟩ : AHeap) (bb (an (Nat.blt k2480 (Sl.n s2444)) true) (some (fpV (k2480 * 1) (Sl.cs s2444))) none)) (by kernel_rfl) (keep_bb h2482) (okAt_of (by kernel_rfl) (by kernel_rfl)) (evOps_data (keep (⟨2, objTr [(.cells tab0 true false []), (.cells [(.int .i64 z2443), (Sl.v 1 s2444), (Sl.v 1 s2445)] false false [])] 0 .nil, true⟩ : AHeap) (nthL (Sl.cs s2444) (k2480 * 1))) (by kernel_rfl) (keep_eq h2484) (okAt_of (by kernel_rfl) (by kernel_rfl)) (evOps_cut 3 (by kernel_rfl) (evOps_data (keep (⟨2, objTr [(.cells tab0 true false []), (.cells [(.int .i64 z2443), (Sl.v 1 s2444), (Sl.v 1 s2445)] false false [])] 0 .nil, true⟩ : AHeap) (bb (an (Nat.blt k2487 (Sl.n s2445)) true) (some (fpV (k2487 * 1) (Sl.cs s2445))) none)) (by kernel_rfl) (keep_bb h2489) (okAt_of (by kernel_rfl) (by kernel_rfl)) (evOps_data (keep (⟨2, objTr [(.cells tab0 true false []), (.cells [(.int .i64 z2443), (Sl.v 1 s2444), (Sl.v 1 s2445)] false false [])] 0 .nil, true⟩ : AHeap) (nthL (Sl.cs s2445) (k2487 * 1))) (by kernel_rfl) (keep_eq h2491) (okAt_of (by kernel_rfl) (by kernel_rfl)) (evOps_data (some ((.bool (nt (ieq x2485 x2492))), (⟨2, objTr [(.cells tab0 true false []), (.cells [(.int .i64 z2443), (Sl.v 1 s2444), (Sl.v 1 s2445)] false false [])] 0 .nil, true⟩ : AHeap))) (by kernel_rfl) (show _ = some ((.bool false), _) from (by rw [h2494])) (okAt_of (by kernel_rfl) (by kernel_rfl)) (evOps_cut 4 (by kernel_rfl) (evOps_data (keep (⟨2, objTr [(.cells tab0 true false []), (.cells [(.int .i64 z2443), (Sl.v 1 s2444), (Sl.v 1 s2445)] false false [])] 0 .nil, true⟩ : AHeap) (asliceFs ti3 ⟨1, (Sl.n s2444), (Sl.fl s2444), (Sl.cs s2444)⟩ none (some (.int .i64 (Int.ofNat k2480))) none)) (by kernel_rfl) (asliceFs_eq (c1 := (Nat.ble k2480 (Sl.n s2444))) (c2 := true) (l := 0) (h := k2480) h2495 (by kernel_rfl) (by kernel_rfl) h2496 (by kernel_rfl) rfl) (okAt_of (by kernel_rfl) (by kernel_rfl)) (evOps_cut 3 (by kernel_rfl) (evOps_data (keep (⟨2, objTr [(.cells tab0 true false []), (.cells [(.int .i64 z2443), (Sl.v 1 s2444), (Sl.v 1 s2445)] false false [])] 0 .nil, true⟩ : AHeap) (bb (an (Nat.blt k2480 (Sl.n s2444)) true) (some (fpV (k2480 * 1) (Sl.cs s2444))) none)) (by kernel_rfl) (keep_bb h2497) (okAt_of (by kernel_rfl) (by kernel_rfl)) (evOps_data (keep (⟨2, objTr [(.cells tab0 true false []), (.cells [(.int .i64 z2443), (Sl.v 1 s2444), (Sl.v 1 s2445)] false false [])] 0 .nil, true⟩ : AHeap) (nthL (Sl.cs s2444) (k2480 * 1))) (by kernel_rfl) (keep_eq h2499) (okAt_of (by kernel_rfl) (by kernel_rfl)) (evOps_cut 1 (by kernel_rfl) (evOps_data ((oo (pu 62 [(Sl.v 1 (Sl.mk (k2480 - 0) (bb (an (Nat.beq k2480 (Sl.n s2444)) (orr false (Nat.beq (Sl.fl s2444) 1))) 1 0) (takeL ((k2480 - 0) * 1) (dropL (0 * 1) (Sl.cs s2444))))), (.int .i64 x2500)]) none fun v => some (v, (⟨2, objTr [(.cells tab0 true false []), (.cells [(.int .i64 z2443), (Sl.v 1 s2444), (Sl.v 1 s2445)] false false [])] 0 .nil, true⟩ : AHeap)))) (by kernel_rfl) (call_eq h2503) (okAt_of (by kernel_rfl) (by kernel_rfl)) (by kernel_rfl))))))))))))))) ?_
        exact ⟨((Int.ofNat k2487), z2441, (Int.ofNat k2480), (nt (ieq x2504 z2441)), z2443, s2444, s2445), hm, (.gc [] [false] [.tmp 2 false] [1, 2, 5, 6, 41] (by kernel_rfl) trivial (by kernel_rfl))⟩
end
end Go.MendNM
/- The models, by fuel: MADE BY PROGRAM (wip/tools/mods.py). -/
set_option maxRecDepth 100000
namespace Go.MendNM
open Go.Sp Go.MendN
noncomputable section
def L : Nat := 100
def disp (pu : PureF) : PureF := fun g args =>
  bb (Nat.beq g 6) (m6 pu L args) (bb (Nat.beq g 14) (m14 pu L args) (bb (Nat.beq g 20) (m20 pu L args) (bb (Nat.beq g 21) (m21 pu L args) (bb (Nat.beq g 22) (m22 pu L args) (bb (Nat.beq g 31) (m31 pu L args) (bb (Nat.beq g 32) (m32 pu L args) (bb (Nat.beq g 33) (m33 pu L args) (bb (Nat.beq g 34) (m34 pu L args) (bb (Nat.beq g 35) (m35 pu L args) (bb (Nat.beq g 36) (m36 pu L args) (bb (Nat.beq g 60) (m60 pu L args) (bb (Nat.beq g 61) (m61 pu L args) (bb (Nat.beq g 62) (m62 pu L args) (bb (Nat.beq g 69) (m69 pu L args) (bb (Nat.beq g 70) (m70 pu L args) (bb (Nat.beq g 15) (ll args (some (.bool true)) fun _ _ => none) (none)))))))))))))))))
def puN : Nat → PureF := fun n => Nat.rec (motive := fun _ => PureF) (fun _ _ => none) (fun _ ih => disp ih) n
end
end Go.MendNM
/- The slim code is the program's. MADE BY PROGRAM (wip/sp/gen2.lean). -/
set_option maxRecDepth 100000
namespace Go.Proofs.YtgplhblofefkjaaDoor.MendN
open Go Go.Sp Go.MendN
theorem b6 : (match Tryd.f6.body with | some c => rcOf c c6 | none => none) = some c6 := by kernel_rfl
theorem p6 : (match Tryd.f6.body with | some c => codeB [0] c | none => false) = true := by kernel_rfl
theorem fok6 : FnOk Tryd.prog [0] 6 ⟨87, c6, [.tmp 6]⟩ := FnOk.by Tryd.func6 b6 p6 Tryd.ntmps6 (by rw [Tryd.results6]) (by kernel_rfl)
theorem b14 : (match Tryd.f14.body with | some c => rcOf c c14 | none => none) = some c14 := by kernel_rfl
theorem p14 : (match Tryd.f14.body with | some c => codeB [0] c | none => false) = true := by kernel_rfl
theorem fok14 : FnOk Tryd.prog [0] 14 ⟨13, c14, [.tmp 2]⟩ := FnOk.by Tryd.func14 b14 p14 Tryd.ntmps14 (by rw [Tryd.results14]) (by kernel_rfl)
theorem b15 : (match Tryd.f15.body with | some c => rcOf c c15 | none => none) = some c15 := by kernel_rfl
theorem p15 : (match Tryd.f15.body with | some c => codeB [0] c | none => false) = true := by kernel_rfl
theorem fok15 : FnOk Tryd.prog [0] 15 ⟨218, c15, [.tmp 0]⟩ := FnOk.by Tryd.func15 b15 p15 Tryd.ntmps15 (by rw [Tryd.results15]) (by kernel_rfl)
theorem b16 : (match Tryd.f16.body with | some c => rcOf c c16 | none => none) = some c16 := by kernel_rfl
theorem p16 : (match Tryd.f16.body with | some c => codeB [0] c | none => false) = true := by kernel_rfl
theorem fok16 : FnOk Tryd.prog [0] 16 ⟨13, c16, [.tmp 2, .tmp 3]⟩ := FnOk.by Tryd.func16 b16 p16 Tryd.ntmps16 (by rw [Tryd.results16]) (by kernel_rfl)
theorem b18 : (match Tryd.f18.body with | some c => rcOf c c18 | none => none) = some c18 := by kernel_rfl
theorem p18 : (match Tryd.f18.body with | some c => codeB [0] c | none => false) = true := by kernel_rfl
theorem fok18 : FnOk Tryd.prog [0] 18 ⟨25, c18, [.cell 6 24, .tmp 7]⟩ := FnOk.by Tryd.func18 b18 p18 Tryd.ntmps18 (by rw [Tryd.results18]) (by kernel_rfl)
theorem b20 : (match Tryd.f20.body with | some c => rcOf c c20 | none => none) = some c20 := by kernel_rfl
theorem p20 : (match Tryd.f20.body with | some c => codeB [0] c | none => false) = true := by kernel_rfl
theorem fok20 : FnOk Tryd.prog [0] 20 ⟨26, c20, [.tmp 4]⟩ := FnOk.by Tryd.func20 b20 p20 Tryd.ntmps20 (by rw [Tryd.results20]) (by kernel_rfl)
theorem b21 : (match Tryd.f21.body with | some c => rcOf c c21 | none => none) = some c21 := by kernel_rfl
theorem p21 : (match Tryd.f21.body with | some c => codeB [0] c | none => false) = true := by kernel_rfl
theorem fok21 : FnOk Tryd.prog [0] 21 ⟨73, c21, [.tmp 2]⟩ := FnOk.by Tryd.func21 b21 p21 Tryd.ntmps21 (by rw [Tryd.results21]) (by kernel_rfl)
theorem b22 : (match Tryd.f22.body with | some c => rcOf c c22 | none => none) = some c22 := by kernel_rfl
theorem p22 : (match Tryd.f22.body with | some c => codeB [0] c | none => false) = true := by kernel_rfl
theorem fok22 : FnOk Tryd.prog [0] 22 ⟨68, c22, [.tmp 2]⟩ := FnOk.by Tryd.func22 b22 p22 Tryd.ntmps22 (by rw [Tryd.results22]) (by kernel_rfl)
theorem b23 : (match Tryd.f23.body with | some c => rcOf c c23 | none => none) = some c23 := by kernel_rfl
theorem p23 : (match Tryd.f23.body with | some c => codeB [0] c | none => false) = true := by kernel_rfl
theorem fok23 : FnOk Tryd.prog [0] 23 ⟨47, c23, [.tmp 2, .tmp 3]⟩ := FnOk.by Tryd.func23 b23 p23 Tryd.ntmps23 (by rw [Tryd.results23]) (by kernel_rfl)
theorem b25 : (match Tryd.f25.body with | some c => rcOf c c25 | none => none) = some c25 := by kernel_rfl
theorem p25 : (match Tryd.f25.body with | some c => codeB [0] c | none => false) = true := by kernel_rfl
theorem fok25 : FnOk Tryd.prog [0] 25 ⟨26, c25, [.tmp 4]⟩ := FnOk.by Tryd.func25 b25 p25 Tryd.ntmps25 (by rw [Tryd.results25]) (by kernel_rfl)
theorem b26 : (match Tryd.f26.body with | some c => rcOf c c26 | none => none) = some c26 := by kernel_rfl
theorem p26 : (match Tryd.f26.body with | some c => codeB [0] c | none => false) = true := by kernel_rfl
theorem fok26 : FnOk Tryd.prog [0] 26 ⟨12, c26, [.tmp 2, .tmp 3]⟩ := FnOk.by Tryd.func26 b26 p26 Tryd.ntmps26 (by rw [Tryd.results26]) (by kernel_rfl)
theorem b28 : (match Tryd.f28.body with | some c => rcOf c c28 | none => none) = some c28 := by kernel_rfl
theorem p28 : (match Tryd.f28.body with | some c => codeB [0] c | none => false) = true := by kernel_rfl
theorem fok28 : FnOk Tryd.prog [0] 28 ⟨91, c28, [.tmp 4, .tmp 5]⟩ := FnOk.by Tryd.func28 b28 p28 Tryd.ntmps28 (by rw [Tryd.results28]) (by kernel_rfl)
theorem b30 : (match Tryd.f30.body with | some c => rcOf c c30 | none => none) = some c30 := by kernel_rfl
theorem p30 : (match Tryd.f30.body with | some c => codeB [0] c | none => false) = true := by kernel_rfl
theorem fok30 : FnOk Tryd.prog [0] 30 ⟨27, c30, [.tmp 4]⟩ := FnOk.by Tryd.func30 b30 p30 Tryd.ntmps30 (by rw [Tryd.results30]) (by kernel_rfl)
theorem b31 : (match Tryd.f31.body with | some c => rcOf c c31 | none => none) = some c31 := by kernel_rfl
theorem p31 : (match Tryd.f31.body with | some c => codeB [0] c | none => false) = true := by kernel_rfl
theorem fok31 : FnOk Tryd.prog [0] 31 ⟨22, c31, [.tmp 4, .tmp 5]⟩ := FnOk.by Tryd.func31 b31 p31 Tryd.ntmps31 (by rw [Tryd.results31]) (by kernel_rfl)
theorem b32 : (match Tryd.f32.body with | some c => rcOf c c32 | none => none) = some c32 := by kernel_rfl
theorem p32 : (match Tryd.f32.body with | some c => codeB [0] c | none => false) = true := by kernel_rfl
theorem fok32 : FnOk Tryd.prog [0] 32 ⟨25, c32, [.tmp 4, .tmp 5]⟩ := FnOk.by Tryd.func32 b32 p32 Tryd.ntmps32 (by rw [Tryd.results32]) (by kernel_rfl)
theorem b33 : (match Tryd.f33.body with | some c => rcOf c c33 | none => none) = some c33 := by kernel_rfl
theorem p33 : (match Tryd.f33.body with | some c => codeB [0] c | none => false) = true := by kernel_rfl
theorem fok33 : FnOk Tryd.prog [0] 33 ⟨12, c33, [.tmp 2, .tmp 3]⟩ := FnOk.by Tryd.func33 b33 p33 Tryd.ntmps33 (by rw [Tryd.results33]) (by kernel_rfl)
theorem b34 : (match Tryd.f34.body with | some c => rcOf c c34 | none => none) = some c34 := by kernel_rfl
theorem p34 : (match Tryd.f34.body with | some c => codeB [0] c | none => false) = true := by kernel_rfl
theorem fok34 : FnOk Tryd.prog [0] 34 ⟨26, c34, [.tmp 2, .tmp 3]⟩ := FnOk.by Tryd.func34 b34 p34 Tryd.ntmps34 (by rw [Tryd.results34]) (by kernel_rfl)
theorem b35 : (match Tryd.f35.body with | some c => rcOf c c35 | none => none) = some c35 := by kernel_rfl
theorem p35 : (match Tryd.f35.body with | some c => codeB [0] c | none => false) = true := by kernel_rfl
theorem fok35 : FnOk Tryd.prog [0] 35 ⟨44, c35, [.tmp 2, .tmp 3]⟩ := FnOk.by Tryd.func35 b35 p35 Tryd.ntmps35 (by rw [Tryd.results35]) (by kernel_rfl)
theorem b36 : (match Tryd.f36.body with | some c => rcOf c c36 | none => none) = some c36 := by kernel_rfl
theorem p36 : (match Tryd.f36.body with | some c => codeB [0] c | none => false) = true := by kernel_rfl
theorem fok36 : FnOk Tryd.prog [0] 36 ⟨43, c36, [.tmp 2, .tmp 3]⟩ := FnOk.by Tryd.func36 b36 p36 Tryd.ntmps36 (by rw [Tryd.results36]) (by kernel_rfl)
theorem b42 : (match Tryd.f42.body with | some c => rcOf c c42 | none => none) = some c42 := by kernel_rfl
theorem p42 : (match Tryd.f42.body with | some c => codeB [0] c | none => false) = true := by kernel_rfl
theorem fok42 : FnOk Tryd.prog [0] 42 ⟨12, c42, [.tmp 2, .tmp 3]⟩ := FnOk.by Tryd.func42 b42 p42 Tryd.ntmps42 (by rw [Tryd.results42]) (by kernel_rfl)
theorem b43 : (match Tryd.f43.body with | some c => rcOf c c43 | none => none) = some c43 := by kernel_rfl
theorem p43 : (match Tryd.f43.body with | some c => codeB [0] c | none => false) = true := by kernel_rfl
theorem fok43 : FnOk Tryd.prog [0] 43 ⟨6, c43, [.cell 0 24]⟩ := FnOk.by Tryd.func43 b43 p43 Tryd.ntmps43 (by rw [Tryd.results43]) (by kernel_rfl)
theorem b44 : (match Tryd.f44.body with | some c => rcOf c c44 | none => none) = some c44 := by kernel_rfl
theorem p44 : (match Tryd.f44.body with | some c => codeB [0] c | none => false) = true := by kernel_rfl
theorem fok44 : FnOk Tryd.prog [0] 44 ⟨6, c44, [.cell 0 24]⟩ := FnOk.by Tryd.func44 b44 p44 Tryd.ntmps44 (by rw [Tryd.results44]) (by kernel_rfl)
theorem b45 : (match Tryd.f45.body with | some c => rcOf c c45 | none => none) = some c45 := by kernel_rfl
theorem p45 : (match Tryd.f45.body with | some c => codeB [0] c | none => false) = true := by kernel_rfl
theorem fok45 : FnOk Tryd.prog [0] 45 ⟨4, c45, [.tmp 2]⟩ := FnOk.by Tryd.func45 b45 p45 Tryd.ntmps45 (by rw [Tryd.results45]) (by kernel_rfl)
theorem b46 : (match Tryd.f46.body with | some c => rcOf c c46 | none => none) = some c46 := by kernel_rfl
theorem p46 : (match Tryd.f46.body with | some c => codeB [0] c | none => false) = true := by kernel_rfl
theorem fok46 : FnOk Tryd.prog [0] 46 ⟨4, c46, [.tmp 2]⟩ := FnOk.by Tryd.func46 b46 p46 Tryd.ntmps46 (by rw [Tryd.results46]) (by kernel_rfl)
theorem b49 : (match Tryd.f49.body with | some c => rcOf c c49 | none => none) = some c49 := by kernel_rfl
theorem p49 : (match Tryd.f49.body with | some c => codeB [0] c | none => false) = true := by kernel_rfl
theorem fok49 : FnOk Tryd.prog [0] 49 ⟨39, c49, [.tmp 4]⟩ := FnOk.by Tryd.func49 b49 p49 Tryd.ntmps49 (by rw [Tryd.results49]) (by kernel_rfl)
end Go.Proofs.YtgplhblofefkjaaDoor.MendN
/- The slim code is the program's. MADE BY PROGRAM (wip/sp/gen2.lean). -/
set_option maxRecDepth 100000
namespace Go.Proofs.YtgplhblofefkjaaDoor.MendN
open Go Go.Sp Go.MendN
theorem b53 : (match Tryd.f53.body with | some c => rcOf c c53 | none => none) = some c53 := by kernel_rfl
theorem p53 : (match Tryd.f53.body with | some c => codeB [0] c | none => false) = true := by kernel_rfl
theorem fok53 : FnOk Tryd.prog [0] 53 ⟨27, c53, [.tmp 2]⟩ := FnOk.by Tryd.func53 b53 p53 Tryd.ntmps53 (by rw [Tryd.results53]) (by kernel_rfl)
theorem b54 : (match Tryd.f54.body with | some c => rcOf c c54 | none => none) = some c54 := by kernel_rfl
theorem p54 : (match Tryd.f54.body with | some c => codeB [0] c | none => false) = true := by kernel_rfl
theorem fok54 : FnOk Tryd.prog [0] 54 ⟨16, c54, [.tmp 2]⟩ := FnOk.by Tryd.func54 b54 p54 Tryd.ntmps54 (by rw [Tryd.results54]) (by kernel_rfl)
theorem b56 : (match Tryd.f56.body with | some c => rcOf c c56 | none => none) = some c56 := by kernel_rfl
theorem p56 : (match Tryd.f56.body with | some c => codeB [0] c | none => false) = true := by kernel_rfl
theorem fok56 : FnOk Tryd.prog [0] 56 ⟨25, c56, [.tmp 6]⟩ := FnOk.by Tryd.func56 b56 p56 Tryd.ntmps56 (by rw [Tryd.results56]) (by kernel_rfl)
theorem b57 : (match Tryd.f57.body with | some c => rcOf c c57 | none => none) = some c57 := by kernel_rfl
theorem p57 : (match Tryd.f57.body with | some c => codeB [0] c | none => false) = true := by kernel_rfl
theorem fok57 : FnOk Tryd.prog [0] 57 ⟨36, c57, [.cell 6 24]⟩ := FnOk.by Tryd.func57 b57 p57 Tryd.ntmps57 (by rw [Tryd.results57]) (by kernel_rfl)
theorem b60 : (match Tryd.f60.body with | some c => rcOf c c60 | none => none) = some c60 := by kernel_rfl
theorem p60 : (match Tryd.f60.body with | some c => codeB [0] c | none => false) = true := by kernel_rfl
theorem fok60 : FnOk Tryd.prog [0] 60 ⟨15, c60, [.tmp 6]⟩ := FnOk.by Tryd.func60 b60 p60 Tryd.ntmps60 (by rw [Tryd.results60]) (by kernel_rfl)
theorem b61 : (match Tryd.f61.body with | some c => rcOf c c61 | none => none) = some c61 := by kernel_rfl
theorem p61 : (match Tryd.f61.body with | some c => codeB [0] c | none => false) = true := by kernel_rfl
theorem fok61 : FnOk Tryd.prog [0] 61 ⟨15, c61, [.tmp 6]⟩ := FnOk.by Tryd.func61 b61 p61 Tryd.ntmps61 (by rw [Tryd.results61]) (by kernel_rfl)
theorem b62 : (match Tryd.f62.body with | some c => rcOf c c62 | none => none) = some c62 := by kernel_rfl
theorem p62 : (match Tryd.f62.body with | some c => codeB [0] c | none => false) = true := by kernel_rfl
theorem fok62 : FnOk Tryd.prog [0] 62 ⟨22, c62, [.tmp 4]⟩ := FnOk.by Tryd.func62 b62 p62 Tryd.ntmps62 (by rw [Tryd.results62]) (by kernel_rfl)
theorem b63 : (match Tryd.f63.body with | some c => rcOf c c63 | none => none) = some c63 := by kernel_rfl
theorem p63 : (match Tryd.f63.body with | some c => codeB [0] c | none => false) = true := by kernel_rfl
theorem fok63 : FnOk Tryd.prog [0] 63 ⟨13, c63, [.tmp 2]⟩ := FnOk.by Tryd.func63 b63 p63 Tryd.ntmps63 (by rw [Tryd.results63]) (by kernel_rfl)
theorem b65 : (match Tryd.f65.body with | some c => rcOf c c65 | none => none) = some c65 := by kernel_rfl
theorem p65 : (match Tryd.f65.body with | some c => codeB [0] c | none => false) = true := by kernel_rfl
theorem fok65 : FnOk Tryd.prog [0] 65 ⟨46, c65, [.tmp 2]⟩ := FnOk.by Tryd.func65 b65 p65 Tryd.ntmps65 (by rw [Tryd.results65]) (by kernel_rfl)
theorem b67 : (match Tryd.f67.body with | some c => rcOf c c67 | none => none) = some c67 := by kernel_rfl
theorem p67 : (match Tryd.f67.body with | some c => codeB [0] c | none => false) = true := by kernel_rfl
theorem fok67 : FnOk Tryd.prog [0] 67 ⟨10, c67, [.tmp 4]⟩ := FnOk.by Tryd.func67 b67 p67 Tryd.ntmps67 (by rw [Tryd.results67]) (by kernel_rfl)
theorem b69 : (match Tryd.f69.body with | some c => rcOf c c69 | none => none) = some c69 := by kernel_rfl
theorem p69 : (match Tryd.f69.body with | some c => codeB [0] c | none => false) = true := by kernel_rfl
theorem fok69 : FnOk Tryd.prog [0] 69 ⟨49, c69, [.tmp 2]⟩ := FnOk.by Tryd.func69 b69 p69 Tryd.ntmps69 (by rw [Tryd.results69]) (by kernel_rfl)
theorem b70 : (match Tryd.f70.body with | some c => rcOf c c70 | none => none) = some c70 := by kernel_rfl
theorem p70 : (match Tryd.f70.body with | some c => codeB [0] c | none => false) = true := by kernel_rfl
theorem fok70 : FnOk Tryd.prog [0] 70 ⟨45, c70, [.tmp 4]⟩ := FnOk.by Tryd.func70 b70 p70 Tryd.ntmps70 (by rw [Tryd.results70]) (by kernel_rfl)
theorem b73 : (match Tryd.f73.body with | some c => rcOf c c73 | none => none) = some c73 := by kernel_rfl
theorem p73 : (match Tryd.f73.body with | some c => codeB [0] c | none => false) = true := by kernel_rfl
theorem fok73 : FnOk Tryd.prog [0] 73 ⟨15, c73, [.tmp 2]⟩ := FnOk.by Tryd.func73 b73 p73 Tryd.ntmps73 (by rw [Tryd.results73]) (by kernel_rfl)
theorem b74 : (match Tryd.f74.body with | some c => rcOf c c74 | none => none) = some c74 := by kernel_rfl
theorem p74 : (match Tryd.f74.body with | some c => codeB [0] c | none => false) = true := by kernel_rfl
theorem fok74 : FnOk Tryd.prog [0] 74 ⟨8, c74, [.tmp 2]⟩ := FnOk.by Tryd.func74 b74 p74 Tryd.ntmps74 (by rw [Tryd.results74]) (by kernel_rfl)
theorem b75 : (match Tryd.f75.body with | some c => rcOf c c75 | none => none) = some c75 := by kernel_rfl
theorem p75 : (match Tryd.f75.body with | some c => codeB [0] c | none => false) = true := by kernel_rfl
theorem fok75 : FnOk Tryd.prog [0] 75 ⟨11, c75, [.tmp 2]⟩ := FnOk.by Tryd.func75 b75 p75 Tryd.ntmps75 (by rw [Tryd.results75]) (by kernel_rfl)
theorem b76 : (match Tryd.f76.body with | some c => rcOf c c76 | none => none) = some c76 := by kernel_rfl
theorem p76 : (match Tryd.f76.body with | some c => codeB [0] c | none => false) = true := by kernel_rfl
theorem fok76 : FnOk Tryd.prog [0] 76 ⟨8, c76, [.tmp 2]⟩ := FnOk.by Tryd.func76 b76 p76 Tryd.ntmps76 (by rw [Tryd.results76]) (by kernel_rfl)
theorem b77 : (match Tryd.f77.body with | some c => rcOf c c77 | none => none) = some c77 := by kernel_rfl
theorem p77 : (match Tryd.f77.body with | some c => codeB [0] c | none => false) = true := by kernel_rfl
theorem fok77 : FnOk Tryd.prog [0] 77 ⟨52, c77, [.tmp 4]⟩ := FnOk.by Tryd.func77 b77 p77 Tryd.ntmps77 (by rw [Tryd.results77]) (by kernel_rfl)
theorem b78 : (match Tryd.f78.body with | some c => rcOf c c78 | none => none) = some c78 := by kernel_rfl
theorem p78 : (match Tryd.f78.body with | some c => codeB [0] c | none => false) = true := by kernel_rfl
theorem fok78 : FnOk Tryd.prog [0] 78 ⟨94, c78, [.tmp 8]⟩ := FnOk.by Tryd.func78 b78 p78 Tryd.ntmps78 (by rw [Tryd.results78]) (by kernel_rfl)
theorem b80 : (match Tryd.f80.body with | some c => rcOf c c80 | none => none) = some c80 := by kernel_rfl
theorem p80 : (match Tryd.f80.body with | some c => codeB [0] c | none => false) = true := by kernel_rfl
theorem fok80 : FnOk Tryd.prog [0] 80 ⟨38, c80, [.tmp 4]⟩ := FnOk.by Tryd.func80 b80 p80 Tryd.ntmps80 (by rw [Tryd.results80]) (by kernel_rfl)
theorem b81 : (match Tryd.f81.body with | some c => rcOf c c81 | none => none) = some c81 := by kernel_rfl
theorem p81 : (match Tryd.f81.body with | some c => codeB [0] c | none => false) = true := by kernel_rfl
theorem fok81 : FnOk Tryd.prog [0] 81 ⟨9, c81, [.tmp 2]⟩ := FnOk.by Tryd.func81 b81 p81 Tryd.ntmps81 (by rw [Tryd.results81]) (by kernel_rfl)
end Go.Proofs.YtgplhblofefkjaaDoor.MendN
/- All the slim code is the program's, and the types are. MADE BY PROGRAM (wip/sp/gen2.lean). -/
set_option maxRecDepth 100000
namespace Go.Proofs.YtgplhblofefkjaaDoor.MendN
open Go Go.Sp Go.MendN
theorem tok3 : TyOk Tryd.prog 3 ti3 := TyOk.by Tryd.underlying3 (inf := Tryd.t3) (by kernel_rfl) (by kernel_rfl) (by kernel_rfl) (by kernel_rfl) (by kernel_rfl) (fun h => by cases h)
theorem tok5 : TyOk Tryd.prog 5 ti5 := TyOk.by Tryd.underlying5 (inf := Tryd.t5) (by kernel_rfl) (by kernel_rfl) (by kernel_rfl) (by kernel_rfl) (by kernel_rfl) (fun h => by cases h)
theorem tok9 : TyOk Tryd.prog 9 ti9 := TyOk.by Tryd.underlying9 (inf := Tryd.t9) (by kernel_rfl) (by kernel_rfl) (by kernel_rfl) (by kernel_rfl) (by kernel_rfl) (fun h => by cases h)
theorem tok22 : TyOk Tryd.prog 22 ti22 := TyOk.by Tryd.underlying22 (inf := Tryd.t22) (by kernel_rfl) (by kernel_rfl) (by kernel_rfl) (by kernel_rfl) (by kernel_rfl) (fun h => by cases h)
theorem tok24 : TyOk Tryd.prog 24 ti24 := TyOk.by Tryd.underlying24 (inf := Tryd.t24) (by kernel_rfl) (by kernel_rfl) (by kernel_rfl) (by kernel_rfl) (by kernel_rfl) (fun h => by cases h)
theorem tok27 : TyOk Tryd.prog 27 ti27 := TyOk.by Tryd.underlying27 (inf := Tryd.t27) (by kernel_rfl) (by kernel_rfl) (by kernel_rfl) (by kernel_rfl) (by kernel_rfl) (fun h => by cases h)
theorem tok28 : TyOk Tryd.prog 28 ti28 := TyOk.by Tryd.underlying28 (inf := Tryd.t28) (by kernel_rfl) (by kernel_rfl) (by kernel_rfl) (by kernel_rfl) (by kernel_rfl) (fun h => by cases h)
theorem tok40 : TyOk Tryd.prog 40 ti40 := TyOk.by Tryd.underlying40 (inf := Tryd.t40) (by kernel_rfl) (by kernel_rfl) (by kernel_rfl) (by kernel_rfl) (by kernel_rfl) (fun h => by cases h)
theorem tok45 : TyOk Tryd.prog 45 ti45 := TyOk.by Tryd.underlying45 (inf := Tryd.t45) (by kernel_rfl) (by kernel_rfl) (by kernel_rfl) (by kernel_rfl) (by kernel_rfl) (fun h => by cases h)
theorem tok65 : TyOk Tryd.prog 65 ti65 := TyOk.by Tryd.underlying65 (inf := Tryd.t65) (by kernel_rfl) (by kernel_rfl) (by kernel_rfl) (by kernel_rfl) (by kernel_rfl) (fun _ => ⟨_, rfl, Fl.ok (d := 8) (⟨by kernel_rfl, .inr (.inr (.inr (.inl ⟨2, 3, [(.int .i64 0)], Tryd.underlying65, ⟨by kernel_rfl, .inl ⟨⟨_, Tryd.underlying3⟩, _, _, rfl⟩⟩, by kernel_rfl⟩)))⟩) (by decide) ⟨_, Tryd.underlying65, rfl⟩ (by kernel_rfl)⟩)
theorem tok78 : TyOk Tryd.prog 78 ti78 := TyOk.by Tryd.underlying78 (inf := Tryd.t78) (by kernel_rfl) (by kernel_rfl) (by kernel_rfl) (by kernel_rfl) (by kernel_rfl) (fun h => by cases h)
theorem tok79 : TyOk Tryd.prog 79 ti79 := TyOk.by Tryd.underlying79 (inf := Tryd.t79) (by kernel_rfl) (by kernel_rfl) (by kernel_rfl) (by kernel_rfl) (by kernel_rfl) (fun h => by cases h)
theorem tok87 : TyOk Tryd.prog 87 ti87 := TyOk.by Tryd.underlying87 (inf := Tryd.t87) (by kernel_rfl) (by kernel_rfl) (by kernel_rfl) (by kernel_rfl) (by kernel_rfl) (fun _ => ⟨_, rfl, Fl.ok (d := 8) (⟨by kernel_rfl, .inr (.inr (.inr (.inl ⟨5, 3, [(.int .i64 0)], Tryd.underlying87, ⟨by kernel_rfl, .inl ⟨⟨_, Tryd.underlying3⟩, _, _, rfl⟩⟩, by kernel_rfl⟩)))⟩) (by decide) ⟨_, Tryd.underlying87, rfl⟩ (by kernel_rfl)⟩)
theorem tok101 : TyOk Tryd.prog 101 ti101 := TyOk.by Tryd.underlying101 (inf := Tryd.t101) (by kernel_rfl) (by kernel_rfl) (by kernel_rfl) (by kernel_rfl) (by kernel_rfl) (fun h => by cases h)
theorem tok106 : TyOk Tryd.prog 106 ti106 := TyOk.by Tryd.underlying106 (inf := Tryd.t106) (by kernel_rfl) (by kernel_rfl) (by kernel_rfl) (by kernel_rfl) (by kernel_rfl) (fun h => by cases h)
theorem tok107 : TyOk Tryd.prog 107 ti107 := TyOk.by Tryd.underlying107 (inf := Tryd.t107) (by kernel_rfl) (by kernel_rfl) (by kernel_rfl) (by kernel_rfl) (by kernel_rfl) (fun _ => ⟨_, rfl, Fl.ok (d := 8) (⟨by kernel_rfl, .inr (.inr (.inr (.inl ⟨32, 5, [(.int .u8 0)], Tryd.underlying107, ⟨by kernel_rfl, .inl ⟨⟨_, Tryd.underlying5⟩, _, _, rfl⟩⟩, by kernel_rfl⟩)))⟩) (by decide) ⟨_, Tryd.underlying107, rfl⟩ (by kernel_rfl)⟩)
theorem tok108 : TyOk Tryd.prog 108 ti108 := TyOk.by Tryd.underlying108 (inf := Tryd.t108) (by kernel_rfl) (by kernel_rfl) (by kernel_rfl) (by kernel_rfl) (by kernel_rfl) (fun h => by cases h)
theorem tok109 : TyOk Tryd.prog 109 ti109 := TyOk.by Tryd.underlying109 (inf := Tryd.t109) (by kernel_rfl) (by kernel_rfl) (by kernel_rfl) (by kernel_rfl) (by kernel_rfl) (fun h => by cases h)
theorem tok110 : TyOk Tryd.prog 110 ti110 := TyOk.by Tryd.underlying110 (inf := Tryd.t110) (by kernel_rfl) (by kernel_rfl) (by kernel_rfl) (by kernel_rfl) (by kernel_rfl) (fun h => by cases h)
theorem tok112 : TyOk Tryd.prog 112 ti112 := TyOk.by Tryd.underlying112 (inf := Tryd.t112) (by kernel_rfl) (by kernel_rfl) (by kernel_rfl) (by kernel_rfl) (by kernel_rfl) (fun h => by cases h)
theorem ttOk : TOk Tryd.prog tt := TOk.of_all (t := ttTr) ⟨trivial, ⟨trivial, ⟨tok3, ⟨trivial, ⟨trivial, trivial, ⟨trivial, ⟨tok79, trivial, trivial⟩, trivial⟩⟩, ⟨trivial, trivial, ⟨trivial, ⟨tok87, trivial, trivial⟩, trivial⟩⟩⟩, ⟨trivial, trivial, ⟨tok27, ⟨trivial, trivial, ⟨tok107, trivial, trivial⟩⟩, trivial⟩⟩⟩, ⟨tok5, ⟨tok9, ⟨trivial, ⟨trivial, ⟨tok65, trivial, trivial⟩, trivial⟩, trivial⟩, trivial⟩, ⟨trivial, ⟨trivial, ⟨trivial, trivial, ⟨tok101, trivial, trivial⟩⟩, trivial⟩, ⟨trivial, ⟨tok45, trivial, ⟨tok109, trivial, trivial⟩⟩, trivial⟩⟩⟩⟩, ⟨trivial, ⟨trivial, ⟨trivial, ⟨trivial, trivial, ⟨trivial, trivial, ⟨tok112, trivial, trivial⟩⟩⟩, ⟨tok24, ⟨tok40, trivial, trivial⟩, trivial⟩⟩, ⟨trivial, trivial, ⟨tok28, ⟨trivial, trivial, ⟨tok108, trivial, trivial⟩⟩, trivial⟩⟩⟩, ⟨trivial, ⟨trivial, trivial, ⟨trivial, ⟨trivial, trivial, ⟨tok106, trivial, trivial⟩⟩, trivial⟩⟩, ⟨trivial, ⟨tok22, trivial, trivial⟩, ⟨trivial, ⟨trivial, ⟨tok78, trivial, trivial⟩, ⟨tok110, trivial, trivial⟩⟩, trivial⟩⟩⟩⟩⟩
theorem fnAll : fnTr.All (FnOk Tryd.prog [0]) := ⟨trivial, ⟨trivial, ⟨trivial, ⟨trivial, ⟨fok15, ⟨fok31, ⟨fok63, trivial, trivial⟩, trivial⟩, trivial⟩, ⟨fok23, trivial, trivial⟩⟩, ⟨trivial, ⟨trivial, ⟨fok35, ⟨fok67, trivial, trivial⟩, trivial⟩, trivial⟩, ⟨trivial, ⟨fok43, ⟨fok75, trivial, trivial⟩, trivial⟩, trivial⟩⟩⟩, ⟨trivial, ⟨trivial, ⟨trivial, ⟨fok33, ⟨fok65, trivial, trivial⟩, trivial⟩, ⟨fok49, ⟨fok81, trivial, trivial⟩, trivial⟩⟩, ⟨fok25, ⟨trivial, ⟨fok73, trivial, trivial⟩, trivial⟩, ⟨fok57, trivial, trivial⟩⟩⟩, ⟨trivial, ⟨fok21, ⟨trivial, ⟨fok69, trivial, trivial⟩, trivial⟩, ⟨fok53, trivial, trivial⟩⟩, ⟨trivial, ⟨fok45, ⟨fok77, trivial, trivial⟩, trivial⟩, ⟨fok61, trivial, trivial⟩⟩⟩⟩⟩, ⟨trivial, ⟨trivial, ⟨trivial, ⟨fok16, ⟨fok32, trivial, trivial⟩, ⟨trivial, ⟨fok80, trivial, trivial⟩, trivial⟩⟩, ⟨trivial, trivial, ⟨fok56, trivial, trivial⟩⟩⟩, ⟨trivial, ⟨fok20, ⟨fok36, trivial, trivial⟩, trivial⟩, ⟨fok28, ⟨fok44, ⟨fok76, trivial, trivial⟩, trivial⟩, ⟨fok60, trivial, trivial⟩⟩⟩⟩, ⟨fok6, ⟨trivial, ⟨fok18, ⟨fok34, trivial, trivial⟩, trivial⟩, ⟨fok26, ⟨fok42, ⟨fok74, trivial, trivial⟩, trivial⟩, trivial⟩⟩, ⟨fok14, ⟨fok22, ⟨trivial, ⟨fok70, trivial, trivial⟩, trivial⟩, ⟨fok54, trivial, trivial⟩⟩, ⟨fok30, ⟨fok46, ⟨fok78, trivial, trivial⟩, trivial⟩, ⟨fok62, trivial, trivial⟩⟩⟩⟩⟩⟩
theorem fnsOk (f : FuncId) (r : RFn) (h : fns f = some r) : FnOk Tryd.prog [0] f r := fnAll.get h
end Go.Proofs.YtgplhblofefkjaaDoor.MendN
/- All promises, by fuel: MADE BY PROGRAM (wip/tools/mods.py). -/
set_option maxRecDepth 100000
namespace Go.Proofs.YtgplhblofefkjaaDoor.MendN
open Go Go.Sp Go.MendNM Go.MendN
noncomputable section
theorem fk6 : FnOk Tryd.prog (List.range tabs.length) 6 ⟨87, c6_23, [.tmp 6]⟩ := by
  have h : c6 = c6_23 := by kernel_rfl
  rw [← h]; exact fok6
theorem fk14 : FnOk Tryd.prog (List.range tabs.length) 14 ⟨13, c14_3, [.tmp 2]⟩ := by
  have h : c14 = c14_3 := by kernel_rfl
  rw [← h]; exact fok14
theorem fk20 : FnOk Tryd.prog (List.range tabs.length) 20 ⟨26, c20_26, [.tmp 4]⟩ := by
  have h : c20 = c20_26 := by kernel_rfl
  rw [← h]; exact fok20
theorem fk21 : FnOk Tryd.prog (List.range tabs.length) 21 ⟨73, c21_58, [.tmp 2]⟩ := by
  have h : c21 = c21_58 := by kernel_rfl
  rw [← h]; exact fok21
theorem fk22 : FnOk Tryd.prog (List.range tabs.length) 22 ⟨68, c22_61, [.tmp 2]⟩ := by
  have h : c22 = c22_61 := by kernel_rfl
  rw [← h]; exact fok22
theorem fk31 : FnOk Tryd.prog (List.range tabs.length) 31 ⟨22, c31_9, [.tmp 4, .tmp 5]⟩ := by
  have h : c31 = c31_9 := by kernel_rfl
  rw [← h]; exact fok31
theorem fk32 : FnOk Tryd.prog (List.range tabs.length) 32 ⟨25, c32_20, [.tmp 4, .tmp 5]⟩ := by
  have h : c32 = c32_20 := by kernel_rfl
  rw [← h]; exact fok32
theorem fk33 : FnOk Tryd.prog (List.range tabs.length) 33 ⟨12, c33_11, [.tmp 2, .tmp 3]⟩ := by
  have h : c33 = c33_11 := by kernel_rfl
  rw [← h]; exact fok33
theorem fk34 : FnOk Tryd.prog (List.range tabs.length) 34 ⟨26, c34_26, [.tmp 2, .tmp 3]⟩ := by
  have h : c34 = c34_26 := by kernel_rfl
  rw [← h]; exact fok34
theorem fk35 : FnOk Tryd.prog (List.range tabs.length) 35 ⟨44, c35_48, [.tmp 2, .tmp 3]⟩ := by
  have h : c35 = c35_48 := by kernel_rfl
  rw [← h]; exact fok35
theorem fk36 : FnOk Tryd.prog (List.range tabs.length) 36 ⟨43, c36_40, [.tmp 2, .tmp 3]⟩ := by
  have h : c36 = c36_40 := by kernel_rfl
  rw [← h]; exact fok36
theorem fk60 : FnOk Tryd.prog (List.range tabs.length) 60 ⟨15, c60_3, [.tmp 6]⟩ := by
  have h : c60 = c60_3 := by kernel_rfl
  rw [← h]; exact fok60
theorem fk61 : FnOk Tryd.prog (List.range tabs.length) 61 ⟨15, c61_3, [.tmp 6]⟩ := by
  have h : c61 = c61_3 := by kernel_rfl
  rw [← h]; exact fok61
theorem fk62 : FnOk Tryd.prog (List.range tabs.length) 62 ⟨22, c62_21, [.tmp 4]⟩ := by
  have h : c62 = c62_21 := by kernel_rfl
  rw [← h]; exact fok62
theorem fk69 : FnOk Tryd.prog (List.range tabs.length) 69 ⟨49, c69_37, [.tmp 2]⟩ := by
  have h : c69 = c69_37 := by kernel_rfl
  rw [← h]; exact fok69
theorem fk70 : FnOk Tryd.prog (List.range tabs.length) 70 ⟨45, c70_16, [.tmp 4]⟩ := by
  have h : c70 = c70_16 := by kernel_rfl
  rw [← h]; exact fok70
theorem inl_ok (hm : Tryd.prog.follows .mixedOrders = true) : CallOk Tryd.prog (List.range tabs.length) inl := fun g args H v H' h => by
  obtain ⟨h1, h2⟩ := bb_inv (show bb (Nat.beq g 74) (cloneF 1 8 args H) none = some (v, H') from h)
  obtain rfl := Nat.eq_of_beq_eq_true h1
  exact clone_ok ttOk fnsOk hm h2
theorem disp_ok (hm : Tryd.prog.follows .mixedOrders = true) (hw : PureOk Tryd.prog tabs 15 (fun args => ll args (some (.bool true)) fun _ _ => none)) {pu : PureF} (hpu : ∀ g, isP g = true → PureOk Tryd.prog tabs g (pu g)) : ∀ g, isP g = true → PureOk Tryd.prog tabs g (disp pu g) := fun g hg => by
  have hcall := callP_ok (P := Tryd.prog) (tabs := tabs) (by intro t ht; simp [tabs] at ht; subst ht; intro h; cases h) (by intro t ht x hx; simp [tabs] at ht; subst ht; simp [tab0] at hx; rcases hx with rfl | rfl | rfl | rfl | rfl | rfl | rfl | rfl | rfl | rfl | rfl | rfl | rfl | rfl | rfl | rfl | rfl | rfl | rfl | rfl | rfl | rfl | rfl | rfl | rfl | rfl | rfl | rfl | rfl | rfl | rfl | rfl <;> rfl) (inl_ok hm) hpu
  have hg : g ∈ plist := memN_iff.1 hg
  simp only [plist, List.mem_cons, List.not_mem_nil, or_false] at hg
  rcases hg with rfl | rfl | rfl | rfl | rfl | rfl | rfl | rfl | rfl | rfl | rfl | rfl | rfl | rfl | rfl | rfl | rfl
  · exact pureOk_of_run (tabs := tabs) (f := m6 pu L) ttOk hm hcall fk6 fun args v h hc => r6 pu L rfl h hc
  · exact pureOk_of_run (tabs := tabs) (f := m14 pu L) ttOk hm hcall fk14 fun args v h hc => r14 pu L rfl h hc
  · exact hw
  · exact pureOk_of_run (tabs := tabs) (f := m20 pu L) ttOk hm hcall fk20 fun args v h hc => r20 pu L rfl h hc
  · exact pureOk_of_run (tabs := tabs) (f := m21 pu L) ttOk hm hcall fk21 fun args v h hc => r21 pu L rfl h hc
  · exact pureOk_of_run (tabs := tabs) (f := m22 pu L) ttOk hm hcall fk22 fun args v h hc => r22 pu L rfl h hc
  · exact pureOk_of_run (tabs := tabs) (f := m31 pu L) ttOk hm hcall fk31 fun args v h hc => r31 pu L rfl h hc
  · exact pureOk_of_run (tabs := tabs) (f := m32 pu L) ttOk hm hcall fk32 fun args v h hc => r32 pu L rfl h hc
  · exact pureOk_of_run (tabs := tabs) (f := m33 pu L) ttOk hm hcall fk33 fun args v h hc => r33 pu L rfl h hc
  · exact pureOk_of_run (tabs := tabs) (f := m34 pu L) ttOk hm hcall fk34 fun args v h hc => r34 pu L rfl h hc
  · exact pureOk_of_run (tabs := tabs) (f := m35 pu L) ttOk hm hcall fk35 fun args v h hc => r35 pu L rfl h hc
  · exact pureOk_of_run (tabs := tabs) (f := m36 pu L) ttOk hm hcall fk36 fun args v h hc => r36 pu L rfl h hc
  · exact pureOk_of_run (tabs := tabs) (f := m60 pu L) ttOk hm hcall fk60 fun args v h hc => r60 pu L rfl h hc
  · exact pureOk_of_run (tabs := tabs) (f := m61 pu L) ttOk hm hcall fk61 fun args v h hc => r61 pu L rfl h hc
  · exact pureOk_of_run (tabs := tabs) (f := m62 pu L) ttOk hm hcall fk62 fun args v h hc => r62 pu L rfl h hc
  · exact pureOk_of_run (tabs := tabs) (f := m69 pu L) ttOk hm hcall fk69 fun args v h hc => r69 pu L rfl h hc
  · exact pureOk_of_run (tabs := tabs) (f := m70 pu L) ttOk hm hcall fk70 fun args v h hc => r70 pu L rfl h hc
theorem pu_ok (hm : Tryd.prog.follows .mixedOrders = true) (hw : PureOk Tryd.prog tabs 15 (fun args => ll args (some (.bool true)) fun _ _ => none)) : ∀ n g, isP g = true → PureOk Tryd.prog tabs g (puN n g) := fun n => by
  induction n with
  | zero =>
    intro g hg
    have hg : g ∈ plist := memN_iff.1 hg
    simp only [plist, List.mem_cons, List.not_mem_nil, or_false] at hg
    rcases hg with rfl | rfl | rfl | rfl | rfl | rfl | rfl | rfl | rfl | rfl | rfl | rfl | rfl | rfl | rfl | rfl | rfl
    · exact ⟨enter_ok fk6, fun args v h => by cases h⟩
    · exact ⟨enter_ok fk14, fun args v h => by cases h⟩
    · exact ⟨hw.1, fun args v h => by cases h⟩
    · exact ⟨enter_ok fk20, fun args v h => by cases h⟩
    · exact ⟨enter_ok fk21, fun args v h => by cases h⟩
    · exact ⟨enter_ok fk22, fun args v h => by cases h⟩
    · exact ⟨enter_ok fk31, fun args v h => by cases h⟩
    · exact ⟨enter_ok fk32, fun args v h => by cases h⟩
    · exact ⟨enter_ok fk33, fun args v h => by cases h⟩
    · exact ⟨enter_ok fk34, fun args v h => by cases h⟩
    · exact ⟨enter_ok fk35, fun args v h => by cases h⟩
    · exact ⟨enter_ok fk36, fun args v h => by cases h⟩
    · exact ⟨enter_ok fk60, fun args v h => by cases h⟩
    · exact ⟨enter_ok fk61, fun args v h => by cases h⟩
    · exact ⟨enter_ok fk62, fun args v h => by cases h⟩
    · exact ⟨enter_ok fk69, fun args v h => by cases h⟩
    · exact ⟨enter_ok fk70, fun args v h => by cases h⟩
  | succ n ih => exact disp_ok hm hw ih
end
end Go.Proofs.YtgplhblofefkjaaDoor.MendN
