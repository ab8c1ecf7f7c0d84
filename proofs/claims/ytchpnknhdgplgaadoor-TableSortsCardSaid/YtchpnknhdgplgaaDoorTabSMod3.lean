/- Models of the program's functions, and the proofs that runs give them: MADE BY PROGRAM (wip/tools/dec.py). -/
import Derived.Test.YtchpnknhdgplgaaDoorTabSMod1x

set_option maxRecDepth 100000
set_option linter.unusedVariables false
namespace Go.TabSM
open Go.Sp Go.TabS
noncomputable section
/-- spadille/spadilleref07.sorts -/
def m41_0 (pu : PureF) (n : Nat) : Option Value :=
  (some (.bool true))
def b41_1 (pu : PureF) (n : Nat) (ih0 : Sl → Int → Int → Int → Sl → Option Value) (s8562 : Sl) (z8563 : Int) (z8564 : Int) (z8565 : Int) (s8566 : Sl) : Option Value :=
  (bb (ilt z8564 (Int.ofNat (Sl.n s8562))) (oo (toN z8564) none fun k8568 => (bb (an (Nat.blt k8568 (Sl.n s8562)) true) (oo (nthL (Sl.cs s8562) (k8568 * 1)) none fun v8571 => (oo (toSl 1 v8571) none fun s8573 => (oo (pu 45 [(.agg ⟨[(.int .i64 z8565), (Sl.v 2 s8566)]⟩), (Sl.v 1 s8573), (.int .i64 z8563)]) none fun v8575 => (oo (toSl 1 v8575) none fun s8577 => (oo (pu 44 [(Sl.v 1 s8577)]) none fun v8579 => (oo (vBool v8579) none fun b8581 => (bb (nt b8581) (some (.bool false)) (ih0 s8562 z8563 (wrapF .i64 (Int.add (Int.ofNat k8568) (1 : Int))) z8565 s8566)))))))) none)) (m41_0 pu n))
def l41_1 (pu : PureF) (n : Nat) (w : Nat) : Sl → Int → Int → Int → Sl → Option Value :=
  Nat.rec (motive := fun _ => Sl → Int → Int → Int → Sl → Option Value) (fun _ _ _ _ _ => none) (fun _ ih0 => b41_1 pu n ih0) w
def m41_ (pu : PureF) (n : Nat) (x8532 : Int) (s8534 : Sl) (s8536 : Sl) (x8538 : Int) : Option Value :=
  (l41_1 pu n n s8536 x8538 (0 : Int) x8532 s8534)
def m41 (pu : PureF) (n : Nat) (args : List Value) : Option Value :=
  (ll args none fun a0 args => (ll args none fun a1 args => (ll args none fun a2 args => (ll args (oo (vAgg a0) none fun l8528 => (ll l8528 none fun v8530 l8528 => (ll l8528 none fun v8531 l8528 => (ll l8528 (oo (toI .i64 v8530) none fun x8532 => (oo (toSl 2 v8531) none fun s8534 => (oo (toSl 1 a1) none fun s8536 => (oo (toI .i64 a2) none fun x8538 => (m41_ pu n x8532 s8534 s8536 x8538))))) fun _ _ => none)))) fun _ _ => none))))
theorem r41 {call : CallF} (pu : PureF) (n : Nat) (hcall : call = callP tabs isP pu (inl pu)) {args : List Value} {v : Value} (hm : m41 pu n args = some v) (_ : ∀ x ∈ args, closed2 x = true) : args.length ≤ 23 ∧ Run tt call 1 c41_20 (Fr.made 23 args) (pureHeap tabs) (Fin tt 1 [.tmp 6] v) := by
  subst hcall
  unfold m41 at hm
  have hq := ll_uncons hm; clear hm; obtain ⟨a0, args_0, rfl, hm⟩ := hq
  have hq := ll_uncons hm; clear hm; obtain ⟨a1, args_1, rfl, hm⟩ := hq
  have hq := ll_uncons hm; clear hm; obtain ⟨a2, args_2, rfl, hm⟩ := hq
  have hq := ll_end hm; clear hm; obtain ⟨rfl, hm⟩ := hq
  have hq := oo_inv hm; clear hm; obtain ⟨l8528, h8529, hm⟩ := hq
  obtain rfl := vAgg_some h8529
  have hq := ll_uncons hm; clear hm; obtain ⟨v8530, l8528_0, rfl, hm⟩ := hq
  have hq := ll_uncons hm; clear hm; obtain ⟨v8531, l8528_1, rfl, hm⟩ := hq
  have hq := ll_end hm; clear hm; obtain ⟨rfl, hm⟩ := hq
  have hq := oo_inv hm; clear hm; obtain ⟨x8532, h8533, hm⟩ := hq
  obtain rfl := toI_some h8533
  have hq := oo_inv hm; clear hm; obtain ⟨s8534, h8535, hm⟩ := hq
  obtain rfl := toSl_some h8535
  have hq := oo_inv hm; clear hm; obtain ⟨s8536, h8537, hm⟩ := hq
  obtain rfl := toSl_some h8537
  have hq := oo_inv hm; clear hm; obtain ⟨x8538, h8539, hm⟩ := hq
  obtain rfl := toI_some h8539
  unfold m41_ at hm
  refine ⟨by simp, ?_⟩
  refine .same (F' := (fr 23 [(0, (.agg ⟨[(zI x8532), (Sl.v 2 s8534)]⟩)), (1, (Sl.v 1 s8536)), (2, (zI x8538))])) (H' := (hp 1 [(oT tab0)])) (by kernel_rfl) (by kernel_rfl) ?_
  refine .then ?_
  refine .rK ?_
  refine .ghs (fr 23 [(1, (Sl.v 1 s8536)), (2, (zI x8538)), (3, (pt 1 0))]) (hp 2 [(oT tab0), (oC [(zI x8532), (Sl.v 2 s8534)])]) (.k0 [false] [.tmp 3 false] [1, 2, 3]) ?_
  refine .join (v := v) (fun y : Unit => ((fr 23 []), (hp 1 [(oT tab0)]))) (fun y => m41_0 pu n) ?_ ?_
  · rintro _ hm
    unfold m41_0 at hm
    refine .then ?_
    refine .rK ?_
    refine .ghs (fr 23 [(6, (zB true))]) (hp 1 [(oT tab0)]) (.k0 [false] [] [6]) ?_
    refine .ret ?_
    exact fin_ret (zB true) (by kernel_rfl) (by kernel_rfl) hm
  · skip
    refine .then ?_
    refine .rK ?_
    refine .ghs (fr 23 [(1, (Sl.v 1 s8536)), (2, (zI x8538)), (3, (pt 1 0)), (7, (zI (0 : Int)))]) (hp 2 [(oT tab0), (oC [(zI x8532), (Sl.v 2 s8534)])]) (.k0 [false] [.tmp 3 false] [1, 2, 3, 7]) ?_
    refine .block ?_
    refine .loopM (v := v) (fun y : Sl × Int × Int × Int × Sl => ((fr 23 [(1, (Sl.v 1 y.1)), (2, (zI y.2.1)), (3, (pt 1 0)), (7, (zI y.2.2.1))]), (hp 2 [(oT tab0), (oC [(zI y.2.2.2.1), (Sl.v 2 y.2.2.2.2)])]))) (fun w y => l41_1 pu n w y.1 y.2.1 y.2.2.1 y.2.2.2.1 y.2.2.2.2) n ⟨(s8536, x8538, (0 : Int), x8532, s8534), hm, (.k0 [false] [.tmp 3 false] [1, 2, 3, 7])⟩ (fun _ => rfl) ?_
    rintro w0 ⟨s8562, z8563, z8564, z8565, s8566⟩ hm
    refine .then ?_
    refine .then ?_
    refine .rK ?_
    refine .ghs (fr 23 [(1, (Sl.v 1 s8562)), (2, (zI z8563)), (3, (pt 1 0)), (7, (zI z8564)), (11, (zB (ilt z8564 (Int.ofNat (Sl.n s8562)))))]) (hp 2 [(oT tab0), (oC [(zI z8565), (Sl.v 2 s8566)])]) (.k0 [false] [.tmp 3 false] [1, 2, 3, 7, 11]) ?_
    have hq := bb_cases hm; clear hm; rcases hq with ⟨h8567, hm⟩ | ⟨h8567, hm⟩
    · refine .ifT (ilt z8564 (Int.ofNat (Sl.n s8562))) (by kernel_rfl) h8567 ?_
      refine .skip ?_
      refine .ghs (fr 23 [(1, (Sl.v 1 s8562)), (2, (zI z8563)), (3, (pt 1 0)), (7, (zI z8564))]) (hp 2 [(oT tab0), (oC [(zI z8565), (Sl.v 2 s8566)])]) (.k0 [false] [.tmp 3 false] [1, 2, 3, 7]) ?_
      refine .then ?_
      refine .block ?_
      refine .then ?_
      have hq := oo_inv hm; clear hm; obtain ⟨k8568, h8569, hm⟩ := hq
      obtain rfl := toN_some h8569
      replace hm := bb_inv hm; obtain ⟨h8570, hm⟩ := hm
      have hq := oo_inv hm; clear hm; obtain ⟨v8571, h8572, hm⟩ := hq
      have hq := oo_inv hm; clear hm; obtain ⟨s8573, h8574, hm⟩ := hq
      obtain rfl := toSl_some h8574
      have hq := oo_inv hm; clear hm; obtain ⟨v8575, h8576, hm⟩ := hq
      have hq := oo_inv hm; clear hm; obtain ⟨s8577, h8578, hm⟩ := hq
      obtain rfl := toSl_some h8578
      have hq := oo_inv hm; clear hm; obtain ⟨v8579, h8580, hm⟩ := hq
      have hq := oo_inv hm; clear hm; obtain ⟨b8581, h8582, hm⟩ := hq
      obtain rfl := vBool_some h8582
      refine .reg (eC 3 (keep (hp 2 [(oT tab0), (oC [(zI z8565), (Sl.v 2 s8566)])]) (bb (an (Nat.blt k8568 (Sl.n s8562)) true) (some (fpV (k8568 * 1) (Sl.cs s8562))) none)) (keep_bb h8570) (eD (keep (hp 2 [(oT tab0), (oC [(zI z8565), (Sl.v 2 s8566)])]) (nthL (Sl.cs s8562) (k8568 * 1))) (keep_eq h8572) (eC 1 ((oo (pu 45 [(.agg ⟨[(zI z8565), (Sl.v 2 s8566)]⟩), (Sl.v 1 s8573), (zI z8563)]) none fun v => some (v, (hp 2 [(oT tab0), (oC [(zI z8565), (Sl.v 2 s8566)])])))) (call_eq h8576) (eD ((oo (pu 44 [(Sl.v 1 s8577)]) none fun v => some (v, (hp 2 [(oT tab0), (oC [(zI z8565), (Sl.v 2 s8566)])])))) (call_eq h8580) (eE))))) ?_
      refine .ghs (fr 23 [(1, (Sl.v 1 s8562)), (2, (zI z8563)), (3, (pt 1 0)), (7, (zI (Int.ofNat k8568))), (22, (zB (nt b8581)))]) (hp 2 [(oT tab0), (oC [(zI z8565), (Sl.v 2 s8566)])]) (.k0 [false] [.tmp 3 false] [1, 2, 3, 7, 22]) ?_
      have hq := bb_cases hm; clear hm; rcases hq with ⟨h8583, hm⟩ | ⟨h8583, hm⟩
      · refine .ifT (nt b8581) (by kernel_rfl) h8583 ?_
        refine .then ?_
        refine .rK ?_
        refine .ghs (fr 23 [(6, (zB false))]) (hp 1 [(oT tab0)]) (.k0 [false] [] [6]) ?_
        refine .ret ?_
        exact fin_ret (zB false) (by kernel_rfl) (by kernel_rfl) hm
      · refine .ifF (nt b8581) (by kernel_rfl) h8583 ?_
        refine .skip ?_
        refine .ghs (fr 23 [(1, (Sl.v 1 s8562)), (2, (zI z8563)), (3, (pt 1 0)), (7, (zI (Int.ofNat k8568)))]) (hp 2 [(oT tab0), (oC [(zI z8565), (Sl.v 2 s8566)])]) (.k0 [false] [.tmp 3 false] [1, 2, 3, 7]) ?_
        refine .rK ?_
        exact ⟨(s8562, z8563, (wrapF .i64 (Int.add (Int.ofNat k8568) (1 : Int))), z8565, s8566), hm, (.k0 [false] [.tmp 3 false] [1, 2, 3, 7])⟩
    · refine .ifF (ilt z8564 (Int.ofNat (Sl.n s8562))) (by kernel_rfl) h8567 ?_
      refine .exit ?_
      exact ⟨(), hm, (.k0 [false] [] [])⟩
/-- spadille/spadilleref07.orders -/
def m42_0 (pu : PureF) (n : Nat) (n8636 : Nat) (c8637 : Nat) (q8638 : List Value) : Option Value :=
  (bb (allL closed1 q8638) (bb (an (Nat.ble (0 + n8636 * 1) (len q8638)) (allL closed1 (takeL (n8636 * 1) (dropL 0 q8638)))) (some (Sl.v 1 (Sl.mk n8636 0 (takeL (n8636 * 1) (dropL 0 q8638))))) none) none)
def m42_2 (pu : PureF) (n : Nat) (ih0 : Int → Sl → Nat → Nat → Int → List Value → Option Value) (z8664 : Int) (s8665 : Sl) (n8666 : Nat) (c8667 : Nat) (z8668 : Int) (q8669 : List Value) : Option Value :=
  (bb (allL closed1 q8669) (ih0 z8664 s8665 n8666 c8667 (wrapF .i64 (Int.add z8668 (1 : Int))) q8669) none)
def b42_1 (pu : PureF) (n : Nat) (ih0 : Int → Sl → Nat → Nat → Int → List Value → Option Value) (z8641 : Int) (s8642 : Sl) (n8643 : Nat) (c8644 : Nat) (z8645 : Int) (q8646 : List Value) : Option Value :=
  (bb (allL closed1 q8646) (bb (ilt z8645 z8641) (oo (pu 62 [(Sl.v 1 s8642), (.int .i64 z8645)]) none fun v8671 => (oo (vBool v8671) none fun b8673 => (bb (nt b8673) (bb (Nat.beq (Sl.n s8642) 0) (oo (pu 42 [(.int .i64 z8641), (Sl.v 1 (Sl.mk 1 0 (takeL (1 * 1) (dropL 0 ([(.int .i64 z8645)] : List Value)))))]) none fun v8677 => (oo (toSl 1 v8677) none fun s8679 => (bb (Nat.beq (Sl.n s8679) 0) (m42_2 pu n ih0 z8641 s8642 n8643 c8644 z8645 q8646) (bb (an (allL scalarB (takeL ((Sl.n s8679) * 1) (Sl.cs s8679))) (growC 1 24 n8643 c8644 (Sl.n s8679) q8646)) (bb (allL closed1 (appL (dropL 0 q8646) (takeL ((Sl.n s8679) * 1) (Sl.cs s8679)))) (m42_2 pu n ih0 z8641 s8642 (n8643 + (Sl.n s8679)) (2 * (n8643 + (Sl.n s8679)) + bb false 1 0) z8645 (appL (dropL 0 q8646) (takeL ((Sl.n s8679) * 1) (Sl.cs s8679)))) none) none)))) (bb (roomy (0 + (Sl.n s8642)) 8) (bb (growC 1 8 (0 + (Sl.n s8642)) (2 * (0 + (Sl.n s8642)) + bb false 1 0) 1 (takeL ((Sl.n s8642) * 1) (Sl.cs s8642))) (bb (an (Nat.ble (0 + ((0 + (Sl.n s8642)) + 1) * 1) (len (appL (dropL 0 (takeL ((Sl.n s8642) * 1) (Sl.cs s8642))) [(.int .i64 z8645)]))) (allL closed1 (takeL (((0 + (Sl.n s8642)) + 1) * 1) (dropL 0 (appL (dropL 0 (takeL ((Sl.n s8642) * 1) (Sl.cs s8642))) [(.int .i64 z8645)]))))) (oo (pu 42 [(.int .i64 z8641), (Sl.v 1 (Sl.mk ((0 + (Sl.n s8642)) + 1) 0 (takeL (((0 + (Sl.n s8642)) + 1) * 1) (dropL 0 (appL (dropL 0 (takeL ((Sl.n s8642) * 1) (Sl.cs s8642))) [(.int .i64 z8645)])))))]) none fun v8680 => (oo (toSl 1 v8680) none fun s8682 => (bb (Nat.beq (Sl.n s8682) 0) (m42_2 pu n ih0 z8641 s8642 n8643 c8644 z8645 q8646) (bb (an (allL scalarB (takeL ((Sl.n s8682) * 1) (Sl.cs s8682))) (growC 1 24 n8643 c8644 (Sl.n s8682) q8646)) (bb (allL closed1 (appL (dropL 0 q8646) (takeL ((Sl.n s8682) * 1) (Sl.cs s8682)))) (m42_2 pu n ih0 z8641 s8642 (n8643 + (Sl.n s8682)) (2 * (n8643 + (Sl.n s8682)) + bb false 1 0) z8645 (appL (dropL 0 q8646) (takeL ((Sl.n s8682) * 1) (Sl.cs s8682)))) none) none)))) none) none) none)) (m42_2 pu n ih0 z8641 s8642 n8643 c8644 z8645 q8646)))) (m42_0 pu n n8643 c8644 q8646)) none)
def l42_1 (pu : PureF) (n : Nat) (w : Nat) : Int → Sl → Nat → Nat → Int → List Value → Option Value :=
  Nat.rec (motive := fun _ => Int → Sl → Nat → Nat → Int → List Value → Option Value) (fun _ _ _ _ _ _ => none) (fun _ ih0 => b42_1 pu n ih0) w
def m42_ (pu : PureF) (n : Nat) (x8584 : Int) (s8586 : Sl) : Option Value :=
  (bb (ieq (Int.ofNat (Sl.n s8586)) x8584) (some (Sl.v 1 (Sl.mk 1 0 (takeL (1 * 1) (dropL 0 ([(Sl.v 1 s8586)] : List Value)))))) (l42_1 pu n n x8584 s8586 0 0 (0 : Int) ([] : List Value)))
def m42 (pu : PureF) (n : Nat) (args : List Value) : Option Value :=
  (ll args none fun a0 args => (ll args none fun a1 args => (ll args (oo (toI .i64 a0) none fun x8584 => (oo (toSl 1 a1) none fun s8586 => (m42_ pu n x8584 s8586))) fun _ _ => none)))
theorem r42 {call : CallF} (pu : PureF) (n : Nat) (hcall : call = callP tabs isP pu (inl pu)) {args : List Value} {v : Value} (hm : m42 pu n args = some v) (_ : ∀ x ∈ args, closed2 x = true) : args.length ≤ 33 ∧ Run tt call 1 c42_27 (Fr.made 33 args) (pureHeap tabs) (Fin tt 1 [.tmp 4] v) := by
  subst hcall
  unfold m42 at hm
  have hq := ll_uncons hm; clear hm; obtain ⟨a0, args_0, rfl, hm⟩ := hq
  have hq := ll_uncons hm; clear hm; obtain ⟨a1, args_1, rfl, hm⟩ := hq
  have hq := ll_end hm; clear hm; obtain ⟨rfl, hm⟩ := hq
  have hq := oo_inv hm; clear hm; obtain ⟨x8584, h8585, hm⟩ := hq
  obtain rfl := toI_some h8585
  have hq := oo_inv hm; clear hm; obtain ⟨s8586, h8587, hm⟩ := hq
  obtain rfl := toSl_some h8587
  unfold m42_ at hm
  refine ⟨by simp, ?_⟩
  refine .same (F' := (fr 33 [(0, (zI x8584)), (1, (Sl.v 1 s8586))])) (H' := (hp 1 [(oT tab0)])) (by kernel_rfl) (by kernel_rfl) ?_
  refine .then ?_
  refine .rK ?_
  refine .ghs (fr 33 [(0, (zI x8584)), (1, (Sl.v 1 s8586))]) (hp 1 [(oT tab0)]) (.k0 [false] [] [0, 1]) ?_
  refine .then ?_
  refine .then ?_
  refine .rK ?_
  refine .ghs (fr 33 [(0, (zI x8584)), (1, (Sl.v 1 s8586)), (10, (zB (ieq (Int.ofNat (Sl.n s8586)) x8584)))]) (hp 1 [(oT tab0)]) (.k0 [false] [] [0, 1, 10]) ?_
  have hq := bb_cases hm; clear hm; rcases hq with ⟨h8588, hm⟩ | ⟨h8588, hm⟩
  · refine .ifT (ieq (Int.ofNat (Sl.n s8586)) x8584) (by kernel_rfl) h8588 ?_
    refine .then ?_
    refine .rK ?_
    refine .ghs (fr 33 [(4, (sc 1 0 1 1 3))]) (hp 2 [(oT tab0), (oC [(Sl.v 1 s8586)])]) (.k0 [false] [.tmp 4 false] [4]) ?_
    refine .ghs (Fr.puts (fr 33 [(4, (sc 1 0 1 1 3))]) [(4, (Sl.v 1 (Sl.mk 1 0 (takeL (1 * 1) (dropL 0 ([(Sl.v 1 s8586)] : List Value))))))]) (hp 2 [(oT tab0), .dead]) (.freeze 1 4 1 (by kernel_rfl) (by kernel_rfl) (GhS.id _ _)) ?_
    refine .ret ?_
    exact fin_ret (Sl.v 1 (Sl.mk 1 0 (takeL (1 * 1) (dropL 0 ([(Sl.v 1 s8586)] : List Value))))) (by kernel_rfl) (by kernel_rfl) hm
  · refine .ifF (ieq (Int.ofNat (Sl.n s8586)) x8584) (by kernel_rfl) h8588 ?_
    refine .skip ?_
    refine .ghs (fr 33 [(0, (zI x8584)), (1, (Sl.v 1 s8586))]) (hp 1 [(oT tab0)]) (.k0 [false] [] [0, 1]) ?_
    refine .then ?_
    refine .rK ?_
    refine .ghs (fr 33 [(0, (zI x8584)), (1, (Sl.v 1 s8586)), (5, (.slice none 0 0))]) (hp 1 [(oT tab0)]) (.k0 [false] [] [0, 1, 5]) ?_
    refine .join (v := v) (fun y : Nat × Nat × List Value => ((fr 33 [(5, (sc 1 0 1 y.1 y.2.1))]), (hp 2 [(oT tab0), (oC y.2.2)]))) (fun y => m42_0 pu n y.1 y.2.1 y.2.2) ?_ ?_
    · rintro ⟨n8636, c8637, q8638⟩ hm
      unfold m42_0 at hm
      refine .then ?_
      refine .rK ?_
      replace hm := bb_inv hm; obtain ⟨h8639, hm⟩ := hm
      refine .ghs (fr 33 [(4, (sc 1 0 1 n8636 c8637))]) (hp 2 [(oT tab0), (oC q8638)]) (.k [1] [false] [.tmp 4 false] [4] ⟨trE (by kernel_rfl) h8639, trivial⟩) ?_
      replace hm := bb_inv hm; obtain ⟨h8640, hm⟩ := hm
      refine .ghs (Fr.puts (fr 33 [(4, (sc 1 0 1 n8636 c8637))]) [(4, (Sl.v 1 (Sl.mk n8636 0 (takeL (n8636 * 1) (dropL 0 q8638)))))]) (hp 2 [(oT tab0), .dead]) (.freezeC 1 4 1 (an (Nat.ble (0 + n8636 * 1) (len q8638)) (allL closed1 (takeL (n8636 * 1) (dropL 0 q8638)))) (F1 := (Fr.puts (fr 33 [(4, (sc 1 0 1 n8636 c8637))]) [(4, (Sl.v 1 (Sl.mk n8636 0 (takeL (n8636 * 1) (dropL 0 q8638)))))])) (H1 := (hp 2 [(oT tab0), .dead])) (by kernel_rfl) (by kernel_rfl) h8640 (GhS.id _ _)) ?_
      refine .ret ?_
      exact fin_ret (Sl.v 1 (Sl.mk n8636 0 (takeL (n8636 * 1) (dropL 0 q8638)))) (by kernel_rfl) (by kernel_rfl) hm
    · skip
      refine .then ?_
      refine .rK ?_
      refine .ghs (fr 33 [(0, (zI x8584)), (1, (Sl.v 1 s8586)), (5, (.slice none 0 0)), (6, (zI (0 : Int)))]) (hp 1 [(oT tab0)]) (.k0 [false] [] [0, 1, 5, 6]) ?_
      refine .block ?_
      refine .loopM (v := v) (fun y : Int × Sl × Nat × Nat × Int × List Value => ((fr 33 [(0, (zI y.1)), (1, (Sl.v 1 y.2.1)), (5, (sc 1 0 1 y.2.2.1 y.2.2.2.1)), (6, (zI y.2.2.2.2.1))]), (hp 2 [(oT tab0), (oC y.2.2.2.2.2)]))) (fun w y => l42_1 pu n w y.1 y.2.1 y.2.2.1 y.2.2.2.1 y.2.2.2.2.1 y.2.2.2.2.2) n ⟨(x8584, s8586, 0, 0, (0 : Int), ([] : List Value)), hm, (.thaw 5 1 (by kernel_rfl) (.k0 [false] [.tmp 5 false] [0, 1, 5, 6]))⟩ (fun _ => rfl) ?_
      rintro w0 ⟨z8641, s8642, n8643, c8644, z8645, q8646⟩ hm
      refine .then ?_
      refine .then ?_
      refine .rK ?_
      replace hm := bb_inv hm; obtain ⟨h8647, hm⟩ := hm
      refine .ghs (fr 33 [(0, (zI z8641)), (1, (Sl.v 1 s8642)), (5, (sc 1 0 1 n8643 c8644)), (6, (zI z8645)), (15, (zB (ilt z8645 z8641)))]) (hp 2 [(oT tab0), (oC q8646)]) (.k [1] [false] [.tmp 5 false] [0, 1, 5, 6, 15] ⟨trE (by kernel_rfl) h8647, trivial⟩) ?_
      have hq := bb_cases hm; clear hm; rcases hq with ⟨h8648, hm⟩ | ⟨h8648, hm⟩
      · refine .ifT (ilt z8645 z8641) (by kernel_rfl) h8648 ?_
        refine .skip ?_
        refine .ghs (fr 33 [(0, (zI z8641)), (1, (Sl.v 1 s8642)), (5, (sc 1 0 1 n8643 c8644)), (6, (zI z8645))]) (hp 2 [(oT tab0), (oC q8646)]) (.k [1] [false] [.tmp 5 false] [0, 1, 5, 6] ⟨trE (by kernel_rfl) h8647, trivial⟩) ?_
        refine .join (v := v) (fun y : Int × Sl × Nat × Nat × Int × List Value => ((fr 33 [(0, (zI y.1)), (1, (Sl.v 1 y.2.1)), (5, (sc 1 0 1 y.2.2.1 y.2.2.2.1)), (6, (zI y.2.2.2.2.1))]), (hp 2 [(oT tab0), (oC y.2.2.2.2.2)]))) (fun y => m42_2 pu n (l42_1 pu n w0) y.1 y.2.1 y.2.2.1 y.2.2.2.1 y.2.2.2.2.1 y.2.2.2.2.2) ?_ ?_
        · rintro ⟨z8664, s8665, n8666, c8667, z8668, q8669⟩ hm
          unfold m42_2 at hm
          refine .rK ?_
          replace hm := bb_inv hm; obtain ⟨h8670, hm⟩ := hm
          exact ⟨(z8664, s8665, n8666, c8667, (wrapF .i64 (Int.add z8668 (1 : Int))), q8669), hm, (.k [1] [false] [.tmp 5 false] [0, 1, 5, 6] ⟨trE (by kernel_rfl) h8670, trivial⟩)⟩
        · skip
          refine .block ?_
          refine .then ?_
          have hq := oo_inv hm; clear hm; obtain ⟨v8671, h8672, hm⟩ := hq
          have hq := oo_inv hm; clear hm; obtain ⟨b8673, h8674, hm⟩ := hq
          obtain rfl := vBool_some h8674
          refine .reg (eC 2 ((oo (pu 62 [(Sl.v 1 s8642), (zI z8645)]) none fun v => some (v, (hp 2 [(oT tab0), (oC q8646)])))) (call_eq h8672) (eE)) ?_
          refine .ghs (fr 33 [(0, (zI z8641)), (1, (Sl.v 1 s8642)), (5, (sc 1 0 1 n8643 c8644)), (6, (zI z8645)), (21, (zB (nt b8673)))]) (hp 2 [(oT tab0), (oC q8646)]) (.k [1] [false] [.tmp 5 false] [0, 1, 5, 6, 21] ⟨trE (by kernel_rfl) h8647, trivial⟩) ?_
          have hq := bb_cases hm; clear hm; rcases hq with ⟨h8675, hm⟩ | ⟨h8675, hm⟩
          · refine .ifT (nt b8673) (by kernel_rfl) h8675 ?_
            have hq := bb_cases hm; clear hm; rcases hq with ⟨h8676, hm⟩ | ⟨h8676, hm⟩
            · skip
              have hq := oo_inv hm; clear hm; obtain ⟨v8677, h8678, hm⟩ := hq
              have hq := oo_inv hm; clear hm; obtain ⟨s8679, h8680, hm⟩ := hq
              obtain rfl := toSl_some h8680
              have hq := bb_cases hm; clear hm; rcases hq with ⟨h8681, hm⟩ | ⟨h8681, hm⟩
              · skip
                refine .reg (eC 4 (appFs (hp 3 [(oT tab0), (oC q8646), (oC [])]) 1 8 (sc 2 0 1 0 1) s8642) (appFs_sl0 h8676) (eC 3 (giveF tabs 1 (pu 42) [(zI z8641), (sc 4 0 1 1 (d2 1))] (hp 5 [(oT tab0), (oC q8646), (oC []), (oC [(zI z8645)]), (oC [(zI z8645)])])) (giveF_eq (giveL_cons (giveV_cl (z := 1) (v := (zI z8641)) (H := (hp 5 [(oT tab0), (oC q8646), (oC []), (oC [(zI z8645)]), (oC [(zI z8645)])])) (by kernel_rfl) (by kernel_rfl) (by kernel_rfl)) (giveL_cons (show giveV 1 (sc 4 0 1 1 (d2 1)) (hp 5 [(oT tab0), (oC q8646), (oC []), (oC [(zI z8645)]), (oC [(zI z8645)])]) = some ((Sl.v 1 (Sl.mk 1 0 (takeL (1 * 1) (dropL 0 ([(zI z8645)] : List Value))))), (hp 5 [(oT tab0), (oC q8646), (oC []), (oC [(zI z8645)]), .dead])) from giveV_sl 4 0 1 1 (d2 1) ([(zI z8645)] : List Value) [] (by kernel_rfl) (by kernel_rfl) (by kernel_rfl)) giveL_nil)) (by kernel_rfl) h8678) (eD (appFs (hp 5 [(oT tab0), (oC q8646), (oC []), (oC [(zI z8645)]), .dead]) 1 24 (sc 1 0 1 n8643 c8644) s8679) (appFs_sl0 h8681) (eE)))) ?_
                exact ⟨(z8641, s8642, n8643, c8644, z8645, q8646), hm, (.k [1] [false] [.tmp 5 false] [0, 1, 5, 6] ⟨trE (by kernel_rfl) h8647, trivial⟩)⟩
              · skip
                replace hm := bb_inv hm; obtain ⟨h8682, hm⟩ := hm
                refine .reg (eC 4 (appFs (hp 3 [(oT tab0), (oC q8646), (oC [])]) 1 8 (sc 2 0 1 0 1) s8642) (appFs_sl0 h8676) (eC 3 (giveF tabs 1 (pu 42) [(zI z8641), (sc 4 0 1 1 (d2 1))] (hp 5 [(oT tab0), (oC q8646), (oC []), (oC [(zI z8645)]), (oC [(zI z8645)])])) (giveF_eq (giveL_cons (giveV_cl (z := 1) (v := (zI z8641)) (H := (hp 5 [(oT tab0), (oC q8646), (oC []), (oC [(zI z8645)]), (oC [(zI z8645)])])) (by kernel_rfl) (by kernel_rfl) (by kernel_rfl)) (giveL_cons (show giveV 1 (sc 4 0 1 1 (d2 1)) (hp 5 [(oT tab0), (oC q8646), (oC []), (oC [(zI z8645)]), (oC [(zI z8645)])]) = some ((Sl.v 1 (Sl.mk 1 0 (takeL (1 * 1) (dropL 0 ([(zI z8645)] : List Value))))), (hp 5 [(oT tab0), (oC q8646), (oC []), (oC [(zI z8645)]), .dead])) from giveV_sl 4 0 1 1 (d2 1) ([(zI z8645)] : List Value) [] (by kernel_rfl) (by kernel_rfl) (by kernel_rfl)) giveL_nil)) (by kernel_rfl) h8678) (eD (appFs (hp 5 [(oT tab0), (oC q8646), (oC []), (oC [(zI z8645)]), .dead]) 1 24 (sc 1 0 1 n8643 c8644) s8679) (appFs_grow (H := (hp 5 [(oT tab0), (oC q8646), (oC []), (oC [(zI z8645)]), .dead])) (id := 1) (n := n8643) (c2 := c8644) (xs := q8646) (anc := []) h8681 (by kernel_rfl) (by kernel_rfl) h8682) (eE)))) ?_
                replace hm := bb_inv hm; obtain ⟨h8686, hm⟩ := hm
                exact ⟨(z8641, s8642, (n8643 + (Sl.n s8679)), (d2 (n8643 + (Sl.n s8679))), z8645, (appL (dropL 0 q8646) (takeL ((Sl.n s8679) * 1) (Sl.cs s8679)))), hm, (.k [5] [false] [.tmp 5 false] [0, 1, 5, 6] ⟨trE (by kernel_rfl) h8686, trivial⟩)⟩
            · skip
              replace hm := bb_inv hm; obtain ⟨h8677, hm⟩ := hm
              replace hm := bb_inv hm; obtain ⟨h8678, hm⟩ := hm
              replace hm := bb_inv hm; obtain ⟨h8679, hm⟩ := hm
              have hq := oo_inv hm; clear hm; obtain ⟨v8680, h8681, hm⟩ := hq
              have hq := oo_inv hm; clear hm; obtain ⟨s8682, h8683, hm⟩ := hq
              obtain rfl := toSl_some h8683
              have hq := bb_cases hm; clear hm; rcases hq with ⟨h8684, hm⟩ | ⟨h8684, hm⟩
              · skip
                refine .reg (eC 4 (appFs (hp 3 [(oT tab0), (oC q8646), (oC [])]) 1 8 (sc 2 0 1 0 1) s8642) (appFs_new h8676 h8677 (by kernel_rfl)) (eC 2 (growD 1 8 (0 + (Sl.n s8642)) (d2 (0 + (Sl.n s8642))) 1 3 (takeL ((Sl.n s8642) * 1) (Sl.cs s8642)) [(zI z8645)] [] (hp 5 [(oT tab0), (oC q8646), (oC []), (oC (takeL ((Sl.n s8642) * 1) (Sl.cs s8642))), (oC [(zI z8645)])])) (growD_eq h8678) (eD (giveF tabs 1 (pu 42) [(zI z8641), (sc 5 0 1 ((0 + (Sl.n s8642)) + 1) (d2 ((0 + (Sl.n s8642)) + 1)))] (hp 6 [(oT tab0), (oC q8646), (oC []), (oS (takeL ((Sl.n s8642) * 1) (Sl.cs s8642))), (oC [(zI z8645)]), (.cells (appL (dropL 0 (takeL ((Sl.n s8642) * 1) (Sl.cs s8642))) [(zI z8645)]) false false [3])])) (giveF_eq (giveL_cons (giveV_cl (z := 1) (v := (zI z8641)) (H := (hp 6 [(oT tab0), (oC q8646), (oC []), (oS (takeL ((Sl.n s8642) * 1) (Sl.cs s8642))), (oC [(zI z8645)]), (.cells (appL (dropL 0 (takeL ((Sl.n s8642) * 1) (Sl.cs s8642))) [(zI z8645)]) false false [3])])) (by kernel_rfl) (by kernel_rfl) (by kernel_rfl)) (giveL_cons (show giveV 1 (sc 5 0 1 ((0 + (Sl.n s8642)) + 1) (d2 ((0 + (Sl.n s8642)) + 1))) (hp 6 [(oT tab0), (oC q8646), (oC []), (oS (takeL ((Sl.n s8642) * 1) (Sl.cs s8642))), (oC [(zI z8645)]), (.cells (appL (dropL 0 (takeL ((Sl.n s8642) * 1) (Sl.cs s8642))) [(zI z8645)]) false false [3])]) = some ((Sl.v 1 (Sl.mk ((0 + (Sl.n s8642)) + 1) 0 (takeL (((0 + (Sl.n s8642)) + 1) * 1) (dropL 0 (appL (dropL 0 (takeL ((Sl.n s8642) * 1) (Sl.cs s8642))) [(zI z8645)]))))), (hp 6 [(oT tab0), (oC q8646), (oC []), (oS (takeL ((Sl.n s8642) * 1) (Sl.cs s8642))), (oC [(zI z8645)]), .dead])) from giveV_sl 5 0 1 ((0 + (Sl.n s8642)) + 1) (d2 ((0 + (Sl.n s8642)) + 1)) (appL (dropL 0 (takeL ((Sl.n s8642) * 1) (Sl.cs s8642))) [(zI z8645)]) [3] (by kernel_rfl) (by kernel_rfl) h8679) giveL_nil)) (by kernel_rfl) h8681) (eD (appFs (hp 6 [(oT tab0), (oC q8646), (oC []), (oS (takeL ((Sl.n s8642) * 1) (Sl.cs s8642))), (oC [(zI z8645)]), .dead]) 1 24 (sc 1 0 1 n8643 c8644) s8682) (appFs_sl0 h8684) (eE))))) ?_
                exact ⟨(z8641, s8642, n8643, c8644, z8645, q8646), hm, (.k [1] [false] [.tmp 5 false] [0, 1, 5, 6] ⟨trE (by kernel_rfl) h8647, trivial⟩)⟩
              · skip
                replace hm := bb_inv hm; obtain ⟨h8685, hm⟩ := hm
                refine .reg (eC 4 (appFs (hp 3 [(oT tab0), (oC q8646), (oC [])]) 1 8 (sc 2 0 1 0 1) s8642) (appFs_new h8676 h8677 (by kernel_rfl)) (eC 2 (growD 1 8 (0 + (Sl.n s8642)) (d2 (0 + (Sl.n s8642))) 1 3 (takeL ((Sl.n s8642) * 1) (Sl.cs s8642)) [(zI z8645)] [] (hp 5 [(oT tab0), (oC q8646), (oC []), (oC (takeL ((Sl.n s8642) * 1) (Sl.cs s8642))), (oC [(zI z8645)])])) (growD_eq h8678) (eD (giveF tabs 1 (pu 42) [(zI z8641), (sc 5 0 1 ((0 + (Sl.n s8642)) + 1) (d2 ((0 + (Sl.n s8642)) + 1)))] (hp 6 [(oT tab0), (oC q8646), (oC []), (oS (takeL ((Sl.n s8642) * 1) (Sl.cs s8642))), (oC [(zI z8645)]), (.cells (appL (dropL 0 (takeL ((Sl.n s8642) * 1) (Sl.cs s8642))) [(zI z8645)]) false false [3])])) (giveF_eq (giveL_cons (giveV_cl (z := 1) (v := (zI z8641)) (H := (hp 6 [(oT tab0), (oC q8646), (oC []), (oS (takeL ((Sl.n s8642) * 1) (Sl.cs s8642))), (oC [(zI z8645)]), (.cells (appL (dropL 0 (takeL ((Sl.n s8642) * 1) (Sl.cs s8642))) [(zI z8645)]) false false [3])])) (by kernel_rfl) (by kernel_rfl) (by kernel_rfl)) (giveL_cons (show giveV 1 (sc 5 0 1 ((0 + (Sl.n s8642)) + 1) (d2 ((0 + (Sl.n s8642)) + 1))) (hp 6 [(oT tab0), (oC q8646), (oC []), (oS (takeL ((Sl.n s8642) * 1) (Sl.cs s8642))), (oC [(zI z8645)]), (.cells (appL (dropL 0 (takeL ((Sl.n s8642) * 1) (Sl.cs s8642))) [(zI z8645)]) false false [3])]) = some ((Sl.v 1 (Sl.mk ((0 + (Sl.n s8642)) + 1) 0 (takeL (((0 + (Sl.n s8642)) + 1) * 1) (dropL 0 (appL (dropL 0 (takeL ((Sl.n s8642) * 1) (Sl.cs s8642))) [(zI z8645)]))))), (hp 6 [(oT tab0), (oC q8646), (oC []), (oS (takeL ((Sl.n s8642) * 1) (Sl.cs s8642))), (oC [(zI z8645)]), .dead])) from giveV_sl 5 0 1 ((0 + (Sl.n s8642)) + 1) (d2 ((0 + (Sl.n s8642)) + 1)) (appL (dropL 0 (takeL ((Sl.n s8642) * 1) (Sl.cs s8642))) [(zI z8645)]) [3] (by kernel_rfl) (by kernel_rfl) h8679) giveL_nil)) (by kernel_rfl) h8681) (eD (appFs (hp 6 [(oT tab0), (oC q8646), (oC []), (oS (takeL ((Sl.n s8642) * 1) (Sl.cs s8642))), (oC [(zI z8645)]), .dead]) 1 24 (sc 1 0 1 n8643 c8644) s8682) (appFs_grow (H := (hp 6 [(oT tab0), (oC q8646), (oC []), (oS (takeL ((Sl.n s8642) * 1) (Sl.cs s8642))), (oC [(zI z8645)]), .dead])) (id := 1) (n := n8643) (c2 := c8644) (xs := q8646) (anc := []) h8684 (by kernel_rfl) (by kernel_rfl) h8685) (eE))))) ?_
                replace hm := bb_inv hm; obtain ⟨h8687, hm⟩ := hm
                exact ⟨(z8641, s8642, (n8643 + (Sl.n s8682)), (d2 (n8643 + (Sl.n s8682))), z8645, (appL (dropL 0 q8646) (takeL ((Sl.n s8682) * 1) (Sl.cs s8682)))), hm, (.k [6] [false] [.tmp 5 false] [0, 1, 5, 6] ⟨trE (by kernel_rfl) h8687, trivial⟩)⟩
          · refine .ifF (nt b8673) (by kernel_rfl) h8675 ?_
            refine .skip ?_
            exact ⟨(z8641, s8642, n8643, c8644, z8645, q8646), hm, (.k [1] [false] [.tmp 5 false] [0, 1, 5, 6] ⟨trE (by kernel_rfl) h8647, trivial⟩)⟩
      · refine .ifF (ilt z8645 z8641) (by kernel_rfl) h8648 ?_
        refine .exit ?_
        exact ⟨(n8643, c8644, q8646), hm, (.k [1] [false] [.tmp 5 false] [5] ⟨trE (by kernel_rfl) h8647, trivial⟩)⟩
/-- spadille/table.row -/
def m43_0 (pu : PureF) (n : Nat) (n8712 : Nat) (c8713 : Nat) (q8714 : List Value) : Option Value :=
  (bb (allL closed1 q8714) (bb (an (Nat.ble (0 + n8712 * 1) (len q8714)) (allL closed1 (takeL (n8712 * 1) (dropL 0 q8714)))) (some (Sl.v 1 (Sl.mk n8712 0 (takeL (n8712 * 1) (dropL 0 q8714))))) none) none)
def b43_1 (pu : PureF) (n : Nat) (ih0 : Int → Int → Nat → Nat → Int → Int → List Value → Option Value) (z8717 : Int) (z8718 : Int) (n8719 : Nat) (c8720 : Nat) (z8721 : Int) (z8722 : Int) (q8723 : List Value) : Option Value :=
  (bb (allL closed1 q8723) (bb (ilt z8722 z8721) (oo (toN (wrapF .i64 (Int.sub (wrapF .i64 (Int.sub z8717 (1 : Int))) z8722))) none fun k8726 => (oo (toN z8722) none fun k8728 => (bb (an (Nat.blt k8728 n8719) true) (bb (an (Nat.ble ((0 + k8728 * 1) + 1) (len q8723)) true) (bb (allL closed1 (setL ([(.int .i64 (aand .i64 (shrI .i64 z8718 k8726) (1 : Int)))] : List Value) (0 + k8728 * 1) q8723)) (ih0 z8717 z8718 n8719 c8720 z8721 (wrapF .i64 (Int.add (Int.ofNat k8728) (1 : Int))) (setL ([(.int .i64 (aand .i64 (shrI .i64 z8718 k8726) (1 : Int)))] : List Value) (0 + k8728 * 1) q8723)) none) none) none))) (m43_0 pu n n8719 c8720 q8723)) none)
def l43_1 (pu : PureF) (n : Nat) (w : Nat) : Int → Int → Nat → Nat → Int → Int → List Value → Option Value :=
  Nat.rec (motive := fun _ => Int → Int → Nat → Nat → Int → Int → List Value → Option Value) (fun _ _ _ _ _ _ _ => none) (fun _ ih0 => b43_1 pu n ih0) w
def m43_ (pu : PureF) (n : Nat) (x8688 : Int) (x8690 : Int) : Option Value :=
  (oo (toN x8688) none fun k8692 => (bb (an (Nat.ble k8692 k8692) (an (Nat.ble (k8692 * 8) 1099511627776) (an (Nat.ble k8692 1099511627776) true))) (bb (allL closed1 (zeroRow ([(.int .i64 (0 : Int))] : List Value) k8692)) (l43_1 pu n n (Int.ofNat k8692) x8690 k8692 (2 * k8692 + bb true 1 0) (Int.ofNat k8692) (0 : Int) (zeroRow ([(.int .i64 (0 : Int))] : List Value) k8692)) none) none))
def m43 (pu : PureF) (n : Nat) (args : List Value) : Option Value :=
  (ll args none fun a0 args => (ll args none fun a1 args => (ll args (oo (toI .i64 a0) none fun x8688 => (oo (toI .i64 a1) none fun x8690 => (m43_ pu n x8688 x8690))) fun _ _ => none)))
theorem r43 {call : CallF} (pu : PureF) (n : Nat) (hcall : call = callP tabs isP pu (inl pu)) {args : List Value} {v : Value} (hm : m43 pu n args = some v) (_ : ∀ x ∈ args, closed2 x = true) : args.length ≤ 26 ∧ Run tt call 1 c43_20 (Fr.made 26 args) (pureHeap tabs) (Fin tt 1 [.tmp 4] v) := by
  subst hcall
  unfold m43 at hm
  have hq := ll_uncons hm; clear hm; obtain ⟨a0, args_0, rfl, hm⟩ := hq
  have hq := ll_uncons hm; clear hm; obtain ⟨a1, args_1, rfl, hm⟩ := hq
  have hq := ll_end hm; clear hm; obtain ⟨rfl, hm⟩ := hq
  have hq := oo_inv hm; clear hm; obtain ⟨x8688, h8689, hm⟩ := hq
  obtain rfl := toI_some h8689
  have hq := oo_inv hm; clear hm; obtain ⟨x8690, h8691, hm⟩ := hq
  obtain rfl := toI_some h8691
  unfold m43_ at hm
  refine ⟨by simp, ?_⟩
  refine .same (F' := (fr 26 [(0, (zI x8688)), (1, (zI x8690))])) (H' := (hp 1 [(oT tab0)])) (by kernel_rfl) (by kernel_rfl) ?_
  refine .then ?_
  refine .rK ?_
  refine .ghs (fr 26 [(0, (zI x8688)), (1, (zI x8690))]) (hp 1 [(oT tab0)]) (.k0 [false] [] [0, 1]) ?_
  refine .then ?_
  have hq := oo_inv hm; clear hm; obtain ⟨k8692, h8693, hm⟩ := hq
  obtain rfl := toN_some h8693
  replace hm := bb_inv hm; obtain ⟨h8694, hm⟩ := hm
  refine .reg (eC 1 (bb (an (Nat.ble k8692 k8692) (an (Nat.ble (k8692 * 8) 1099511627776) (an (Nat.ble k8692 1099511627776) true))) (some ((sc 1 0 1 k8692 (2 * k8692 + bb true 1 0)), (hp 2 [(oT tab0), (oC (zeroRow ([(zI (0 : Int))] : List Value) k8692))]))) none) (bb_some h8694) (eE)) ?_
  replace hm := bb_inv hm; obtain ⟨h8695, hm⟩ := hm
  refine .ghs (fr 26 [(0, (zI (Int.ofNat k8692))), (1, (zI x8690)), (5, (sc 1 0 1 k8692 (2 * k8692 + bb true 1 0)))]) (hp 2 [(oT tab0), (oC (zeroRow ([(zI (0 : Int))] : List Value) k8692))]) (.k [1] [false] [.tmp 5 false] [0, 1, 5] ⟨trE (by kernel_rfl) h8695, trivial⟩) ?_
  refine .join (v := v) (fun y : Nat × Nat × List Value => ((fr 26 [(5, (sc 1 0 1 y.1 y.2.1))]), (hp 2 [(oT tab0), (oC y.2.2)]))) (fun y => m43_0 pu n y.1 y.2.1 y.2.2) ?_ ?_
  · rintro ⟨n8712, c8713, q8714⟩ hm
    unfold m43_0 at hm
    refine .then ?_
    refine .rK ?_
    replace hm := bb_inv hm; obtain ⟨h8715, hm⟩ := hm
    refine .ghs (fr 26 [(4, (sc 1 0 1 n8712 c8713))]) (hp 2 [(oT tab0), (oC q8714)]) (.k [1] [false] [.tmp 4 false] [4] ⟨trE (by kernel_rfl) h8715, trivial⟩) ?_
    replace hm := bb_inv hm; obtain ⟨h8716, hm⟩ := hm
    refine .ghs (Fr.puts (fr 26 [(4, (sc 1 0 1 n8712 c8713))]) [(4, (Sl.v 1 (Sl.mk n8712 0 (takeL (n8712 * 1) (dropL 0 q8714)))))]) (hp 2 [(oT tab0), .dead]) (.freezeC 1 4 1 (an (Nat.ble (0 + n8712 * 1) (len q8714)) (allL closed1 (takeL (n8712 * 1) (dropL 0 q8714)))) (F1 := (Fr.puts (fr 26 [(4, (sc 1 0 1 n8712 c8713))]) [(4, (Sl.v 1 (Sl.mk n8712 0 (takeL (n8712 * 1) (dropL 0 q8714)))))])) (H1 := (hp 2 [(oT tab0), .dead])) (by kernel_rfl) (by kernel_rfl) h8716 (GhS.id _ _)) ?_
    refine .ret ?_
    exact fin_ret (Sl.v 1 (Sl.mk n8712 0 (takeL (n8712 * 1) (dropL 0 q8714)))) (by kernel_rfl) (by kernel_rfl) hm
  · skip
    refine .then ?_
    refine .rK ?_
    refine .ghs (fr 26 [(0, (zI (Int.ofNat k8692))), (1, (zI x8690)), (5, (sc 1 0 1 k8692 (2 * k8692 + bb true 1 0))), (10, (zI (Int.ofNat k8692))), (11, (zI (0 : Int)))]) (hp 2 [(oT tab0), (oC (zeroRow ([(zI (0 : Int))] : List Value) k8692))]) (.k [1] [false] [.tmp 5 false] [0, 1, 5, 10, 11] ⟨trE (by kernel_rfl) h8695, trivial⟩) ?_
    refine .block ?_
    refine .loopM (v := v) (fun y : Int × Int × Nat × Nat × Int × Int × List Value => ((fr 26 [(0, (zI y.1)), (1, (zI y.2.1)), (5, (sc 1 0 1 y.2.2.1 y.2.2.2.1)), (10, (zI y.2.2.2.2.1)), (11, (zI y.2.2.2.2.2.1))]), (hp 2 [(oT tab0), (oC y.2.2.2.2.2.2)]))) (fun w y => l43_1 pu n w y.1 y.2.1 y.2.2.1 y.2.2.2.1 y.2.2.2.2.1 y.2.2.2.2.2.1 y.2.2.2.2.2.2) n ⟨((Int.ofNat k8692), x8690, k8692, (2 * k8692 + bb true 1 0), (Int.ofNat k8692), (0 : Int), (zeroRow ([(zI (0 : Int))] : List Value) k8692)), hm, (.k [1] [false] [.tmp 5 false] [0, 1, 5, 10, 11] ⟨trE (by kernel_rfl) h8695, trivial⟩)⟩ (fun _ => rfl) ?_
    rintro w0 ⟨z8717, z8718, n8719, c8720, z8721, z8722, q8723⟩ hm
    refine .then ?_
    refine .rK ?_
    replace hm := bb_inv hm; obtain ⟨h8724, hm⟩ := hm
    refine .ghs (fr 26 [(0, (zI z8717)), (1, (zI z8718)), (5, (sc 1 0 1 n8719 c8720)), (10, (zI z8721)), (11, (zI z8722)), (12, (zB (ilt z8722 z8721)))]) (hp 2 [(oT tab0), (oC q8723)]) (.k [1] [false] [.tmp 5 false] [0, 1, 5, 10, 11, 12] ⟨trE (by kernel_rfl) h8724, trivial⟩) ?_
    refine .then ?_
    have hq := bb_cases hm; clear hm; rcases hq with ⟨h8725, hm⟩ | ⟨h8725, hm⟩
    · refine .ifT (ilt z8722 z8721) (by kernel_rfl) h8725 ?_
      refine .skip ?_
      refine .ghs (fr 26 [(0, (zI z8717)), (1, (zI z8718)), (5, (sc 1 0 1 n8719 c8720)), (10, (zI z8721)), (11, (zI z8722))]) (hp 2 [(oT tab0), (oC q8723)]) (.k [1] [false] [.tmp 5 false] [0, 1, 5, 10, 11] ⟨trE (by kernel_rfl) h8724, trivial⟩) ?_
      refine .then ?_
      refine .block ?_
      refine .then ?_
      refine .rK ?_
      refine .ghs (fr 26 [(0, (zI z8717)), (1, (zI z8718)), (5, (sc 1 0 1 n8719 c8720)), (6, (zI z8722)), (10, (zI z8721)), (11, (zI z8722))]) (hp 2 [(oT tab0), (oC q8723)]) (.k [1] [false] [.tmp 5 false] [0, 1, 5, 6, 10, 11] ⟨trE (by kernel_rfl) h8724, trivial⟩) ?_
      have hq := oo_inv hm; clear hm; obtain ⟨k8726, h8727, hm⟩ := hq
      have hq := oo_inv hm; clear hm; obtain ⟨k8728, h8729, hm⟩ := hq
      obtain rfl := toN_some h8729
      replace hm := bb_inv hm; obtain ⟨h8730, hm⟩ := hm
      replace hm := bb_inv hm; obtain ⟨h8731, hm⟩ := hm
      refine .reg (eC 6 (some ((zI (wrapF .i64 (Int.sub (wrapF .i64 (Int.sub z8717 (1 : Int))) (Int.ofNat k8728)))), (hp 2 [(oT tab0), (oC q8723)]))) (show _ = some ((zI (Int.ofNat k8726)), _) from (by rw [toN_some h8727])) (eC 2 (keep (hp 2 [(oT tab0), (oC q8723)]) (bb (an (Nat.blt k8728 n8719) true) (some (.pointer (some ⟨1, (0 + k8728 * 1), none⟩))) none)) (keep_bb h8730) (eD (done (bb (an (Nat.ble ((0 + k8728 * 1) + 1) (len q8723)) true) (some (hp 2 [(oT tab0), (oC (setL ([(zI (aand .i64 (shrI .i64 z8718 k8726) (1 : Int)))] : List Value) (0 + k8728 * 1) q8723))])) none) undef) (done_bb h8731) (eE)))) ?_
      replace hm := bb_inv hm; obtain ⟨h8732, hm⟩ := hm
      refine .ghs (fr 26 [(0, (zI z8717)), (1, (zI z8718)), (5, (sc 1 0 1 n8719 c8720)), (10, (zI z8721)), (11, (zI (Int.ofNat k8728)))]) (hp 2 [(oT tab0), (oC (setL ([(zI (aand .i64 (shrI .i64 z8718 k8726) (1 : Int)))] : List Value) (0 + k8728 * 1) q8723))]) (.k [1] [false] [.tmp 5 false] [0, 1, 5, 10, 11] ⟨trE (by kernel_rfl) h8732, trivial⟩) ?_
      refine .rK ?_
      exact ⟨(z8717, z8718, n8719, c8720, z8721, (wrapF .i64 (Int.add (Int.ofNat k8728) (1 : Int))), (setL ([(zI (aand .i64 (shrI .i64 z8718 k8726) (1 : Int)))] : List Value) (0 + k8728 * 1) q8723)), hm, (.k [1] [false] [.tmp 5 false] [0, 1, 5, 10, 11] ⟨trE (by kernel_rfl) h8732, trivial⟩)⟩
    · refine .ifF (ilt z8722 z8721) (by kernel_rfl) h8725 ?_
      refine .exit ?_
      exact ⟨(n8719, c8720, q8723), hm, (.k [1] [false] [.tmp 5 false] [5] ⟨trE (by kernel_rfl) h8724, trivial⟩)⟩
/-- spadille/spadilleref07.sorted -/
def m44_0 (pu : PureF) (n : Nat) : Option Value :=
  (some (.bool true))
def b44_1 (pu : PureF) (n : Nat) (ih0 : Sl → Int → Option Value) (s8753 : Sl) (z8754 : Int) : Option Value :=
  (bb (ilt z8754 (Int.ofNat (Sl.n s8753))) (oo (toN z8754) none fun k8756 => (bb (an (Nat.blt k8756 (Sl.n s8753)) true) (oo (nthL (Sl.cs s8753) (k8756 * 1)) none fun v8759 => (oo (toI .i64 v8759) none fun x8761 => (oo (toN (wrapF .i64 (Int.sub (Int.ofNat k8756) (1 : Int)))) none fun k8763 => (bb (an (Nat.blt k8763 (Sl.n s8753)) true) (oo (nthL (Sl.cs s8753) (k8763 * 1)) none fun v8766 => (oo (toI .i64 v8766) none fun x8768 => (bb (ilt x8761 x8768) (some (.bool false)) (ih0 s8753 (wrapF .i64 (Int.add (Int.ofNat k8756) (1 : Int))))))) none)))) none)) (m44_0 pu n))
def l44_1 (pu : PureF) (n : Nat) (w : Nat) : Sl → Int → Option Value :=
  Nat.rec (motive := fun _ => Sl → Int → Option Value) (fun _ _ => none) (fun _ ih0 => b44_1 pu n ih0) w
def m44_ (pu : PureF) (n : Nat) (s8733 : Sl) : Option Value :=
  (l44_1 pu n n s8733 (1 : Int))
def m44 (pu : PureF) (n : Nat) (args : List Value) : Option Value :=
  (ll args none fun a0 args => (ll args (oo (toSl 1 a0) none fun s8733 => (m44_ pu n s8733)) fun _ _ => none))
theorem r44 {call : CallF} (pu : PureF) (n : Nat) (hcall : call = callP tabs isP pu (inl pu)) {args : List Value} {v : Value} (hm : m44 pu n args = some v) (_ : ∀ x ∈ args, closed2 x = true) : args.length ≤ 20 ∧ Run tt call 1 c44_20 (Fr.made 20 args) (pureHeap tabs) (Fin tt 1 [.tmp 2] v) := by
  subst hcall
  unfold m44 at hm
  have hq := ll_uncons hm; clear hm; obtain ⟨a0, args_0, rfl, hm⟩ := hq
  have hq := ll_end hm; clear hm; obtain ⟨rfl, hm⟩ := hq
  have hq := oo_inv hm; clear hm; obtain ⟨s8733, h8734, hm⟩ := hq
  obtain rfl := toSl_some h8734
  unfold m44_ at hm
  refine ⟨by simp, ?_⟩
  refine .same (F' := (fr 20 [(0, (Sl.v 1 s8733))])) (H' := (hp 1 [(oT tab0)])) (by kernel_rfl) (by kernel_rfl) ?_
  refine .then ?_
  refine .rK ?_
  refine .ghs (fr 20 [(0, (Sl.v 1 s8733))]) (hp 1 [(oT tab0)]) (.k0 [false] [] [0]) ?_
  refine .join (v := v) (fun y : Unit => ((fr 20 []), (hp 1 [(oT tab0)]))) (fun y => m44_0 pu n) ?_ ?_
  · rintro _ hm
    unfold m44_0 at hm
    refine .then ?_
    refine .rK ?_
    refine .ghs (fr 20 [(2, (zB true))]) (hp 1 [(oT tab0)]) (.k0 [false] [] [2]) ?_
    refine .ret ?_
    exact fin_ret (zB true) (by kernel_rfl) (by kernel_rfl) hm
  · skip
    refine .then ?_
    refine .rK ?_
    refine .ghs (fr 20 [(0, (Sl.v 1 s8733)), (3, (zI (1 : Int)))]) (hp 1 [(oT tab0)]) (.k0 [false] [] [0, 3]) ?_
    refine .block ?_
    refine .loopM (v := v) (fun y : Sl × Int => ((fr 20 [(0, (Sl.v 1 y.1)), (3, (zI y.2))]), (hp 1 [(oT tab0)]))) (fun w y => l44_1 pu n w y.1 y.2) n ⟨(s8733, (1 : Int)), hm, (.k0 [false] [] [0, 3])⟩ (fun _ => rfl) ?_
    rintro w0 ⟨s8753, z8754⟩ hm
    refine .then ?_
    refine .then ?_
    refine .rK ?_
    refine .ghs (fr 20 [(0, (Sl.v 1 s8753)), (3, (zI z8754)), (7, (zB (ilt z8754 (Int.ofNat (Sl.n s8753)))))]) (hp 1 [(oT tab0)]) (.k0 [false] [] [0, 3, 7]) ?_
    have hq := bb_cases hm; clear hm; rcases hq with ⟨h8755, hm⟩ | ⟨h8755, hm⟩
    · refine .ifT (ilt z8754 (Int.ofNat (Sl.n s8753))) (by kernel_rfl) h8755 ?_
      refine .skip ?_
      refine .ghs (fr 20 [(0, (Sl.v 1 s8753)), (3, (zI z8754))]) (hp 1 [(oT tab0)]) (.k0 [false] [] [0, 3]) ?_
      refine .then ?_
      refine .block ?_
      refine .then ?_
      have hq := oo_inv hm; clear hm; obtain ⟨k8756, h8757, hm⟩ := hq
      obtain rfl := toN_some h8757
      replace hm := bb_inv hm; obtain ⟨h8758, hm⟩ := hm
      have hq := oo_inv hm; clear hm; obtain ⟨v8759, h8760, hm⟩ := hq
      have hq := oo_inv hm; clear hm; obtain ⟨x8761, h8762, hm⟩ := hq
      obtain rfl := toI_some h8762
      have hq := oo_inv hm; clear hm; obtain ⟨k8763, h8764, hm⟩ := hq
      replace hm := bb_inv hm; obtain ⟨h8765, hm⟩ := hm
      have hq := oo_inv hm; clear hm; obtain ⟨v8766, h8767, hm⟩ := hq
      have hq := oo_inv hm; clear hm; obtain ⟨x8768, h8769, hm⟩ := hq
      obtain rfl := toI_some h8769
      refine .reg (eC 2 (keep (hp 1 [(oT tab0)]) (bb (an (Nat.blt k8756 (Sl.n s8753)) true) (some (fpV (k8756 * 1) (Sl.cs s8753))) none)) (keep_bb h8758) (eD (keep (hp 1 [(oT tab0)]) (nthL (Sl.cs s8753) (k8756 * 1))) (keep_eq h8760) (eC 2 (some ((zI (wrapF .i64 (Int.sub (Int.ofNat k8756) (1 : Int)))), (hp 1 [(oT tab0)]))) (show _ = some ((zI (Int.ofNat k8763)), _) from (by rw [toN_some h8764])) (eD (keep (hp 1 [(oT tab0)]) (bb (an (Nat.blt k8763 (Sl.n s8753)) true) (some (fpV (k8763 * 1) (Sl.cs s8753))) none)) (keep_bb h8765) (eD (keep (hp 1 [(oT tab0)]) (nthL (Sl.cs s8753) (k8763 * 1))) (keep_eq h8767) (eE)))))) ?_
      refine .ghs (fr 20 [(0, (Sl.v 1 s8753)), (3, (zI (Int.ofNat k8756))), (19, (zB (ilt x8761 x8768)))]) (hp 1 [(oT tab0)]) (.k0 [false] [] [0, 3, 19]) ?_
      have hq := bb_cases hm; clear hm; rcases hq with ⟨h8770, hm⟩ | ⟨h8770, hm⟩
      · refine .ifT (ilt x8761 x8768) (by kernel_rfl) h8770 ?_
        refine .then ?_
        refine .rK ?_
        refine .ghs (fr 20 [(2, (zB false))]) (hp 1 [(oT tab0)]) (.k0 [false] [] [2]) ?_
        refine .ret ?_
        exact fin_ret (zB false) (by kernel_rfl) (by kernel_rfl) hm
      · refine .ifF (ilt x8761 x8768) (by kernel_rfl) h8770 ?_
        refine .skip ?_
        refine .ghs (fr 20 [(0, (Sl.v 1 s8753)), (3, (zI (Int.ofNat k8756)))]) (hp 1 [(oT tab0)]) (.k0 [false] [] [0, 3]) ?_
        refine .rK ?_
        exact ⟨(s8753, (wrapF .i64 (Int.add (Int.ofNat k8756) (1 : Int)))), hm, (.k0 [false] [] [0, 3])⟩
    · refine .ifF (ilt z8754 (Int.ofNat (Sl.n s8753))) (by kernel_rfl) h8755 ?_
      refine .exit ?_
      exact ⟨(), hm, (.k0 [false] [] [])⟩
/-- spadille/spadilleref07.run -/
def m45_0 (pu : PureF) (n : Nat) (n19756 : Nat) (c19757 : Nat) (q19758 : List Value) : Option Value :=
  (bb (allL closed1 q19758) (bb (an (Nat.ble (0 + n19756 * 1) (len q19758)) (allL closed1 (takeL (n19756 * 1) (dropL 0 q19758)))) (some (Sl.v 1 (Sl.mk n19756 0 (takeL (n19756 * 1) (dropL 0 q19758))))) none) none)
def m45_2 (pu : PureF) (n : Nat) (ih0 : Int → Nat → Nat → Int → Int → Sl → List Value → Option Value) (z30051 : Int) (n30052 : Nat) (c30053 : Nat) (z30054 : Int) (z30055 : Int) (s30056 : Sl) (q30057 : List Value) : Option Value :=
  (bb (allL closed1 q30057) (ih0 z30051 n30052 c30053 (wrapF .i64 (Int.add z30054 (1 : Int))) z30055 s30056 q30057) none)
def m45_3 (pu : PureF) (n : Nat) (ih0 : Int → Nat → Nat → Int → Int → Sl → List Value → Option Value) (z30686 : Int) (n30687 : Nat) (c30688 : Nat) (z30689 : Int) (z30690 : Int) (z30691 : Int) (b30692 : Bool) (z30693 : Int) (s30694 : Sl) (q30695 : List Value) : Option Value :=
  (bb b30692 (oo (toN z30691) none fun k30697 => (bb (an (Nat.blt k30697 n30687) true) (oo (nthL q30695 (0 + k30697 * 1)) none fun v30700 => (oo (toI .i64 v30700) none fun x30702 => (oo (toN z30690) none fun k30704 => (bb (an (Nat.blt k30704 n30687) true) (oo (nthL q30695 (0 + k30704 * 1)) none fun v30707 => (oo (toI .i64 v30707) none fun x30709 => (bb (an (Nat.blt k30704 n30687) true) (bb (an (Nat.ble ((0 + k30704 * 1) + 1) (len q30695)) true) (bb (an (Nat.blt k30697 n30687) true) (bb (an (Nat.ble ((0 + k30697 * 1) + 1) (len (setL ([(.int .i64 x30702)] : List Value) (0 + k30704 * 1) q30695))) true) (bb (allL closed1 (setL ([(.int .i64 x30709)] : List Value) (0 + k30697 * 1) (setL ([(.int .i64 x30702)] : List Value) (0 + k30704 * 1) q30695))) (m45_2 pu n ih0 z30686 n30687 c30688 z30689 z30693 s30694 (setL ([(.int .i64 x30709)] : List Value) (0 + k30697 * 1) (setL ([(.int .i64 x30702)] : List Value) (0 + k30704 * 1) q30695))) none) none) none) none) none))) none)))) none)) (bb (allL closed1 q30695) (m45_2 pu n ih0 z30686 n30687 c30688 z30689 z30693 s30694 q30695) none))
def b45_1 (pu : PureF) (n : Nat) (ih0 : Int → Nat → Nat → Int → Int → Sl → List Value → Option Value) (z19761 : Int) (n19762 : Nat) (c19763 : Nat) (z19764 : Int) (z19765 : Int) (s19766 : Sl) (q19767 : List Value) : Option Value :=
  (bb (allL closed1 q19767) (bb (ilt z19764 (Int.ofNat (Sl.n s19766))) (oo (toN z19764) none fun k30059 => (bb (an (Nat.blt k30059 (Sl.n s19766)) true) (oo (nthL (Sl.cs s19766) ((k30059 * 2) + 0)) none fun v30062 => (oo (toI .i64 v30062) none fun x30064 => (bb (an (Nat.blt k30059 (Sl.n s19766)) true) (oo (nthL (Sl.cs s19766) ((k30059 * 2) + 1)) none fun v30067 => (oo (toI .i64 v30067) none fun x30069 => (bb (nt (ieq (Int.ofNat k30059) z19761)) (oo (toN x30064) none fun k30718 => (bb (an (Nat.blt k30718 n19762) true) (oo (nthL q19767 (0 + k30718 * 1)) none fun v30721 => (oo (toI .i64 v30721) none fun x30723 => (oo (toN x30069) none fun k30725 => (bb (an (Nat.blt k30725 n19762) true) (oo (nthL q19767 (0 + k30725 * 1)) none fun v30728 => (oo (toI .i64 v30728) none fun x30730 => (m45_3 pu n ih0 z19761 n19762 c19763 (Int.ofNat k30059) (Int.ofNat k30718) (Int.ofNat k30725) (ilt x30730 x30723) z19765 s19766 q19767))) none)))) none)) (m45_3 pu n ih0 z19761 n19762 c19763 (Int.ofNat k30059) x30064 x30069 false z19765 s19766 q19767)))) none))) none)) (m45_0 pu n n19762 c19763 q19767)) none)
def l45_1 (pu : PureF) (n : Nat) (w : Nat) : Int → Nat → Nat → Int → Int → Sl → List Value → Option Value :=
  Nat.rec (motive := fun _ => Int → Nat → Nat → Int → Int → Sl → List Value → Option Value) (fun _ _ _ _ _ _ _ => none) (fun _ ih0 => b45_1 pu n ih0) w
def m45_4 (pu : PureF) (n : Nat) (n41704 : Nat) (c41705 : Nat) (q41706 : List Value) : Option Value :=
  (bb (allL closed1 q41706) (bb (an (Nat.ble (0 + n41704 * 1) (len q41706)) (allL closed1 (takeL (n41704 * 1) (dropL 0 q41706)))) (some (Sl.v 1 (Sl.mk n41704 0 (takeL (n41704 * 1) (dropL 0 q41706))))) none) none)
def m45_6 (pu : PureF) (n : Nat) (ih0 : Int → Nat → Nat → Int → Int → Sl → List Value → Option Value) (z51999 : Int) (n52000 : Nat) (c52001 : Nat) (z52002 : Int) (z52003 : Int) (s52004 : Sl) (q52005 : List Value) : Option Value :=
  (bb (allL closed1 q52005) (ih0 z51999 n52000 c52001 (wrapF .i64 (Int.add z52002 (1 : Int))) z52003 s52004 q52005) none)
def m45_7 (pu : PureF) (n : Nat) (ih0 : Int → Nat → Nat → Int → Int → Sl → List Value → Option Value) (z52634 : Int) (n52635 : Nat) (c52636 : Nat) (z52637 : Int) (z52638 : Int) (z52639 : Int) (b52640 : Bool) (z52641 : Int) (s52642 : Sl) (q52643 : List Value) : Option Value :=
  (bb b52640 (oo (toN z52639) none fun k52645 => (bb (an (Nat.blt k52645 n52635) true) (oo (nthL q52643 (0 + k52645 * 1)) none fun v52648 => (oo (toI .i64 v52648) none fun x52650 => (oo (toN z52638) none fun k52652 => (bb (an (Nat.blt k52652 n52635) true) (oo (nthL q52643 (0 + k52652 * 1)) none fun v52655 => (oo (toI .i64 v52655) none fun x52657 => (bb (an (Nat.blt k52652 n52635) true) (bb (an (Nat.ble ((0 + k52652 * 1) + 1) (len q52643)) true) (bb (an (Nat.blt k52645 n52635) true) (bb (an (Nat.ble ((0 + k52645 * 1) + 1) (len (setL ([(.int .i64 x52650)] : List Value) (0 + k52652 * 1) q52643))) true) (bb (allL closed1 (setL ([(.int .i64 x52657)] : List Value) (0 + k52645 * 1) (setL ([(.int .i64 x52650)] : List Value) (0 + k52652 * 1) q52643))) (m45_6 pu n ih0 z52634 n52635 c52636 z52637 z52641 s52642 (setL ([(.int .i64 x52657)] : List Value) (0 + k52645 * 1) (setL ([(.int .i64 x52650)] : List Value) (0 + k52652 * 1) q52643))) none) none) none) none) none))) none)))) none)) (bb (allL closed1 q52643) (m45_6 pu n ih0 z52634 n52635 c52636 z52637 z52641 s52642 q52643) none))
def b45_5 (pu : PureF) (n : Nat) (ih0 : Int → Nat → Nat → Int → Int → Sl → List Value → Option Value) (z41709 : Int) (n41710 : Nat) (c41711 : Nat) (z41712 : Int) (z41713 : Int) (s41714 : Sl) (q41715 : List Value) : Option Value :=
  (bb (allL closed1 q41715) (bb (ilt z41712 (Int.ofNat (Sl.n s41714))) (oo (toN z41712) none fun k52007 => (bb (an (Nat.blt k52007 (Sl.n s41714)) true) (oo (nthL (Sl.cs s41714) ((k52007 * 2) + 0)) none fun v52010 => (oo (toI .i64 v52010) none fun x52012 => (bb (an (Nat.blt k52007 (Sl.n s41714)) true) (oo (nthL (Sl.cs s41714) ((k52007 * 2) + 1)) none fun v52015 => (oo (toI .i64 v52015) none fun x52017 => (bb (nt (ieq (Int.ofNat k52007) z41709)) (oo (toN x52012) none fun k52666 => (bb (an (Nat.blt k52666 n41710) true) (oo (nthL q41715 (0 + k52666 * 1)) none fun v52669 => (oo (toI .i64 v52669) none fun x52671 => (oo (toN x52017) none fun k52673 => (bb (an (Nat.blt k52673 n41710) true) (oo (nthL q41715 (0 + k52673 * 1)) none fun v52676 => (oo (toI .i64 v52676) none fun x52678 => (m45_7 pu n ih0 z41709 n41710 c41711 (Int.ofNat k52007) (Int.ofNat k52666) (Int.ofNat k52673) (ilt x52678 x52671) z41713 s41714 q41715))) none)))) none)) (m45_7 pu n ih0 z41709 n41710 c41711 (Int.ofNat k52007) x52012 x52017 false z41713 s41714 q41715)))) none))) none)) (m45_4 pu n n41710 c41711 q41715)) none)
def l45_5 (pu : PureF) (n : Nat) (w : Nat) : Int → Nat → Nat → Int → Int → Sl → List Value → Option Value :=
  Nat.rec (motive := fun _ => Int → Nat → Nat → Int → Int → Sl → List Value → Option Value) (fun _ _ _ _ _ _ _ => none) (fun _ ih0 => b45_5 pu n ih0) w
def m45_ (pu : PureF) (n : Nat) (x8775 : Int) (s8777 : Sl) (s8779 : Sl) (x8781 : Int) : Option Value :=
  (bb (Nat.beq (Sl.n s8779) 0) (l45_1 pu n n x8781 0 1 (0 : Int) x8775 s8777 ([] : List Value)) (bb (roomy (0 + (Sl.n s8779)) 8) (bb (allL closed1 (takeL ((Sl.n s8779) * 1) (Sl.cs s8779))) (l45_5 pu n n x8781 (0 + (Sl.n s8779)) (2 * (0 + (Sl.n s8779)) + bb false 1 0) (0 : Int) x8775 s8777 (takeL ((Sl.n s8779) * 1) (Sl.cs s8779))) none) none))
def m45 (pu : PureF) (n : Nat) (args : List Value) : Option Value :=
  (ll args none fun a0 args => (ll args none fun a1 args => (ll args none fun a2 args => (ll args (oo (vAgg a0) none fun l8771 => (ll l8771 none fun v8773 l8771 => (ll l8771 none fun v8774 l8771 => (ll l8771 (oo (toI .i64 v8773) none fun x8775 => (oo (toSl 2 v8774) none fun s8777 => (oo (toSl 1 a1) none fun s8779 => (oo (toI .i64 a2) none fun x8781 => (m45_ pu n x8775 s8777 s8779 x8781))))) fun _ _ => none)))) fun _ _ => none))))
theorem r45 {call : CallF} (pu : PureF) (n : Nat) (hcall : call = callP tabs isP pu (inl pu)) {args : List Value} {v : Value} (hm : m45 pu n args = some v) (_ : ∀ x ∈ args, closed2 x = true) : args.length ≤ 62 ∧ Run tt call 1 c45_23 (Fr.made 62 args) (pureHeap tabs) (Fin tt 1 [.tmp 6] v) := by
  subst hcall
  unfold m45 at hm
  have hq := ll_uncons hm; clear hm; obtain ⟨a0, args_0, rfl, hm⟩ := hq
  have hq := ll_uncons hm; clear hm; obtain ⟨a1, args_1, rfl, hm⟩ := hq
  have hq := ll_uncons hm; clear hm; obtain ⟨a2, args_2, rfl, hm⟩ := hq
  have hq := ll_end hm; clear hm; obtain ⟨rfl, hm⟩ := hq
  have hq := oo_inv hm; clear hm; obtain ⟨l8771, h8772, hm⟩ := hq
  obtain rfl := vAgg_some h8772
  have hq := ll_uncons hm; clear hm; obtain ⟨v8773, l8771_0, rfl, hm⟩ := hq
  have hq := ll_uncons hm; clear hm; obtain ⟨v8774, l8771_1, rfl, hm⟩ := hq
  have hq := ll_end hm; clear hm; obtain ⟨rfl, hm⟩ := hq
  have hq := oo_inv hm; clear hm; obtain ⟨x8775, h8776, hm⟩ := hq
  obtain rfl := toI_some h8776
  have hq := oo_inv hm; clear hm; obtain ⟨s8777, h8778, hm⟩ := hq
  obtain rfl := toSl_some h8778
  have hq := oo_inv hm; clear hm; obtain ⟨s8779, h8780, hm⟩ := hq
  obtain rfl := toSl_some h8780
  have hq := oo_inv hm; clear hm; obtain ⟨x8781, h8782, hm⟩ := hq
  obtain rfl := toI_some h8782
  unfold m45_ at hm
  refine ⟨by simp, ?_⟩
  refine .same (F' := (fr 62 [(0, (.agg ⟨[(zI x8775), (Sl.v 2 s8777)]⟩)), (1, (Sl.v 1 s8779)), (2, (zI x8781))])) (H' := (hp 1 [(oT tab0)])) (by kernel_rfl) (by kernel_rfl) ?_
  refine .then ?_
  refine .rK ?_
  refine .ghs (fr 62 [(1, (Sl.v 1 s8779)), (2, (zI x8781)), (3, (pt 1 0))]) (hp 2 [(oT tab0), (oC [(zI x8775), (Sl.v 2 s8777)])]) (.k0 [false] [.tmp 3 false] [1, 2, 3]) ?_
  refine .then ?_
  have hq := bb_cases hm; clear hm; rcases hq with ⟨h8783, hm⟩ | ⟨h8783, hm⟩
  · skip
    refine .reg (eC 2 (appFs (hp 3 [(oT tab0), (oC [(zI x8775), (Sl.v 2 s8777)]), (oC [])]) 1 8 (sc 2 0 1 0 1) s8779) (appFs_sl0 h8783) (eE)) ?_
    refine .ghs (fr 62 [(2, (zI x8781)), (3, (pt 1 0)), (7, (sc 2 0 1 0 1))]) (hp 3 [(oT tab0), (oC [(zI x8775), (Sl.v 2 s8777)]), (oC [])]) (.k0 [false] [.tmp 3 false, .tmp 7 false] [2, 3, 7]) ?_
    refine .join (v := v) (fun y : Nat × Nat × List Value => ((fr 62 [(7, (sc 1 0 1 y.1 y.2.1))]), (hp 2 [(oT tab0), (oC y.2.2)]))) (fun y => m45_0 pu n y.1 y.2.1 y.2.2) ?_ ?_
    · rintro ⟨n19756, c19757, q19758⟩ hm
      unfold m45_0 at hm
      refine .then ?_
      refine .rK ?_
      replace hm := bb_inv hm; obtain ⟨h19759, hm⟩ := hm
      refine .ghs (fr 62 [(6, (sc 1 0 1 n19756 c19757))]) (hp 2 [(oT tab0), (oC q19758)]) (.k [1] [false] [.tmp 6 false] [6] ⟨trE (by kernel_rfl) h19759, trivial⟩) ?_
      replace hm := bb_inv hm; obtain ⟨h19760, hm⟩ := hm
      refine .ghs (Fr.puts (fr 62 [(6, (sc 1 0 1 n19756 c19757))]) [(6, (Sl.v 1 (Sl.mk n19756 0 (takeL (n19756 * 1) (dropL 0 q19758)))))]) (hp 2 [(oT tab0), .dead]) (.freezeC 1 6 1 (an (Nat.ble (0 + n19756 * 1) (len q19758)) (allL closed1 (takeL (n19756 * 1) (dropL 0 q19758)))) (F1 := (Fr.puts (fr 62 [(6, (sc 1 0 1 n19756 c19757))]) [(6, (Sl.v 1 (Sl.mk n19756 0 (takeL (n19756 * 1) (dropL 0 q19758)))))])) (H1 := (hp 2 [(oT tab0), .dead])) (by kernel_rfl) (by kernel_rfl) h19760 (GhS.id _ _)) ?_
      refine .ret ?_
      exact fin_ret (Sl.v 1 (Sl.mk n19756 0 (takeL (n19756 * 1) (dropL 0 q19758)))) (by kernel_rfl) (by kernel_rfl) hm
    · skip
      refine .then ?_
      refine .rK ?_
      refine .ghs (fr 62 [(2, (zI x8781)), (3, (pt 1 0)), (7, (sc 2 0 1 0 1)), (8, (zI (0 : Int)))]) (hp 3 [(oT tab0), (oC [(zI x8775), (Sl.v 2 s8777)]), (oC [])]) (.k0 [false] [.tmp 3 false, .tmp 7 false] [2, 3, 7, 8]) ?_
      refine .block ?_
      refine .loopM (v := v) (fun y : Int × Nat × Nat × Int × Int × Sl × List Value => ((fr 62 [(2, (zI y.1)), (3, (pt 1 0)), (7, (sc 2 0 1 y.2.1 y.2.2.1)), (8, (zI y.2.2.2.1))]), (hp 3 [(oT tab0), (oC [(zI y.2.2.2.2.1), (Sl.v 2 y.2.2.2.2.2.1)]), (oC y.2.2.2.2.2.2)]))) (fun w y => l45_1 pu n w y.1 y.2.1 y.2.2.1 y.2.2.2.1 y.2.2.2.2.1 y.2.2.2.2.2.1 y.2.2.2.2.2.2) n ⟨(x8781, 0, 1, (0 : Int), x8775, s8777, ([] : List Value)), hm, (.k0 [false] [.tmp 3 false, .tmp 7 false] [2, 3, 7, 8])⟩ (fun _ => rfl) ?_
      rintro w0 ⟨z19761, n19762, c19763, z19764, z19765, s19766, q19767⟩ hm
      refine .then ?_
      refine .then ?_
      refine .rK ?_
      replace hm := bb_inv hm; obtain ⟨h19768, hm⟩ := hm
      refine .ghs (fr 62 [(2, (zI z19761)), (3, (pt 1 0)), (7, (sc 2 0 1 n19762 c19763)), (8, (zI z19764)), (18, (zB (ilt z19764 (Int.ofNat (Sl.n s19766)))))]) (hp 3 [(oT tab0), (oC [(zI z19765), (Sl.v 2 s19766)]), (oC q19767)]) (.k [2] [false] [.tmp 3 false, .tmp 7 false] [2, 3, 7, 8, 18] ⟨trE (by kernel_rfl) h19768, trivial⟩) ?_
      have hq := bb_cases hm; clear hm; rcases hq with ⟨h19769, hm⟩ | ⟨h19769, hm⟩
      · refine .ifT (ilt z19764 (Int.ofNat (Sl.n s19766))) (by kernel_rfl) h19769 ?_
        refine .skip ?_
        refine .ghs (fr 62 [(2, (zI z19761)), (3, (pt 1 0)), (7, (sc 2 0 1 n19762 c19763)), (8, (zI z19764))]) (hp 3 [(oT tab0), (oC [(zI z19765), (Sl.v 2 s19766)]), (oC q19767)]) (.k [2] [false] [.tmp 3 false, .tmp 7 false] [2, 3, 7, 8] ⟨trE (by kernel_rfl) h19768, trivial⟩) ?_
        refine .join (v := v) (fun y : Int × Nat × Nat × Int × Int × Sl × List Value => ((fr 62 [(2, (zI y.1)), (3, (pt 1 0)), (7, (sc 2 0 1 y.2.1 y.2.2.1)), (8, (zI y.2.2.2.1))]), (hp 3 [(oT tab0), (oC [(zI y.2.2.2.2.1), (Sl.v 2 y.2.2.2.2.2.1)]), (oC y.2.2.2.2.2.2)]))) (fun y => m45_2 pu n (l45_1 pu n w0) y.1 y.2.1 y.2.2.1 y.2.2.2.1 y.2.2.2.2.1 y.2.2.2.2.2.1 y.2.2.2.2.2.2) ?_ ?_
        · rintro ⟨z30051, n30052, c30053, z30054, z30055, s30056, q30057⟩ hm
          unfold m45_2 at hm
          refine .rK ?_
          replace hm := bb_inv hm; obtain ⟨h30058, hm⟩ := hm
          exact ⟨(z30051, n30052, c30053, (wrapF .i64 (Int.add z30054 (1 : Int))), z30055, s30056, q30057), hm, (.k [2] [false] [.tmp 3 false, .tmp 7 false] [2, 3, 7, 8] ⟨trE (by kernel_rfl) h30058, trivial⟩)⟩
        · skip
          refine .block ?_
          refine .then ?_
          have hq := oo_inv hm; clear hm; obtain ⟨k30059, h30060, hm⟩ := hq
          obtain rfl := toN_some h30060
          replace hm := bb_inv hm; obtain ⟨h30061, hm⟩ := hm
          have hq := oo_inv hm; clear hm; obtain ⟨v30062, h30063, hm⟩ := hq
          have hq := oo_inv hm; clear hm; obtain ⟨x30064, h30065, hm⟩ := hq
          obtain rfl := toI_some h30065
          replace hm := bb_inv hm; obtain ⟨h30066, hm⟩ := hm
          have hq := oo_inv hm; clear hm; obtain ⟨v30067, h30068, hm⟩ := hq
          have hq := oo_inv hm; clear hm; obtain ⟨x30069, h30070, hm⟩ := hq
          obtain rfl := toI_some h30070
          refine .reg (eC 3 (keep (hp 3 [(oT tab0), (oC [(zI z19765), (Sl.v 2 s19766)]), (oC q19767)]) (bb (an (Nat.blt k30059 (Sl.n s19766)) true) (some (fpV (k30059 * 2) (Sl.cs s19766))) none)) (keep_bb h30061) (eC 1 (keep (hp 3 [(oT tab0), (oC [(zI z19765), (Sl.v 2 s19766)]), (oC q19767)]) (nthL (Sl.cs s19766) ((k30059 * 2) + 0))) (keep_eq h30063) (eC 3 (keep (hp 3 [(oT tab0), (oC [(zI z19765), (Sl.v 2 s19766)]), (oC q19767)]) (bb (an (Nat.blt k30059 (Sl.n s19766)) true) (some (fpV (k30059 * 2) (Sl.cs s19766))) none)) (keep_bb h30066) (eC 1 (keep (hp 3 [(oT tab0), (oC [(zI z19765), (Sl.v 2 s19766)]), (oC q19767)]) (nthL (Sl.cs s19766) ((k30059 * 2) + 1))) (keep_eq h30068) (eE))))) ?_
          refine .ghs (fr 62 [(2, (zI z19761)), (3, (pt 1 0)), (7, (sc 2 0 1 n19762 c19763)), (8, (zI (Int.ofNat k30059))), (9, (zI x30064)), (10, (zI x30069))]) (hp 3 [(oT tab0), (oC [(zI z19765), (Sl.v 2 s19766)]), (oC q19767)]) (.k [2] [false] [.tmp 3 false, .tmp 7 false] [2, 3, 7, 8, 9, 10] ⟨trE (by kernel_rfl) h19768, trivial⟩) ?_
          refine .join (v := v) (fun y : Int × Nat × Nat × Int × Int × Int × Bool × Int × Sl × List Value => ((fr 62 [(2, (zI y.1)), (3, (pt 1 0)), (7, (sc 2 0 1 y.2.1 y.2.2.1)), (8, (zI y.2.2.2.1)), (9, (zI y.2.2.2.2.1)), (10, (zI y.2.2.2.2.2.1)), (46, (zB y.2.2.2.2.2.2.1))]), (hp 3 [(oT tab0), (oC [(zI y.2.2.2.2.2.2.2.1), (Sl.v 2 y.2.2.2.2.2.2.2.2.1)]), (oC y.2.2.2.2.2.2.2.2.2)]))) (fun y => m45_3 pu n (l45_1 pu n w0) y.1 y.2.1 y.2.2.1 y.2.2.2.1 y.2.2.2.2.1 y.2.2.2.2.2.1 y.2.2.2.2.2.2.1 y.2.2.2.2.2.2.2.1 y.2.2.2.2.2.2.2.2.1 y.2.2.2.2.2.2.2.2.2) ?_ ?_
          · rintro ⟨z30686, n30687, c30688, z30689, z30690, z30691, b30692, z30693, s30694, q30695⟩ hm
            unfold m45_3 at hm
            have hq := bb_cases hm; clear hm; rcases hq with ⟨h30696, hm⟩ | ⟨h30696, hm⟩
            · refine .ifT b30692 (by kernel_rfl) h30696 ?_
              have hq := oo_inv hm; clear hm; obtain ⟨k30697, h30698, hm⟩ := hq
              obtain rfl := toN_some h30698
              replace hm := bb_inv hm; obtain ⟨h30699, hm⟩ := hm
              have hq := oo_inv hm; clear hm; obtain ⟨v30700, h30701, hm⟩ := hq
              have hq := oo_inv hm; clear hm; obtain ⟨x30702, h30703, hm⟩ := hq
              obtain rfl := toI_some h30703
              have hq := oo_inv hm; clear hm; obtain ⟨k30704, h30705, hm⟩ := hq
              obtain rfl := toN_some h30705
              replace hm := bb_inv hm; obtain ⟨h30706, hm⟩ := hm
              have hq := oo_inv hm; clear hm; obtain ⟨v30707, h30708, hm⟩ := hq
              have hq := oo_inv hm; clear hm; obtain ⟨x30709, h30710, hm⟩ := hq
              obtain rfl := toI_some h30710
              replace hm := bb_inv hm; obtain ⟨h30711, hm⟩ := hm
              replace hm := bb_inv hm; obtain ⟨h30712, hm⟩ := hm
              replace hm := bb_inv hm; obtain ⟨h30713, hm⟩ := hm
              replace hm := bb_inv hm; obtain ⟨h30714, hm⟩ := hm
              refine .reg (eC 6 (keep (hp 3 [(oT tab0), (oC [(zI z30693), (Sl.v 2 s30694)]), (oC q30695)]) (bb (an (Nat.blt k30697 n30687) true) (some (.pointer (some ⟨2, (0 + k30697 * 1), none⟩))) none)) (keep_bb h30699) (eD (keep (hp 3 [(oT tab0), (oC [(zI z30693), (Sl.v 2 s30694)]), (oC q30695)]) (nthL q30695 (0 + k30697 * 1))) (keep_eq h30701) (eC 2 (keep (hp 3 [(oT tab0), (oC [(zI z30693), (Sl.v 2 s30694)]), (oC q30695)]) (bb (an (Nat.blt k30704 n30687) true) (some (.pointer (some ⟨2, (0 + k30704 * 1), none⟩))) none)) (keep_bb h30706) (eD (keep (hp 3 [(oT tab0), (oC [(zI z30693), (Sl.v 2 s30694)]), (oC q30695)]) (nthL q30695 (0 + k30704 * 1))) (keep_eq h30708) (eD (keep (hp 3 [(oT tab0), (oC [(zI z30693), (Sl.v 2 s30694)]), (oC q30695)]) (bb (an (Nat.blt k30704 n30687) true) (some (.pointer (some ⟨2, (0 + k30704 * 1), none⟩))) none)) (keep_bb h30711) (eD (done (bb (an (Nat.ble ((0 + k30704 * 1) + 1) (len q30695)) true) (some (hp 3 [(oT tab0), (oC [(zI z30693), (Sl.v 2 s30694)]), (oC (setL ([(zI x30702)] : List Value) (0 + k30704 * 1) q30695))])) none) undef) (done_bb h30712) (eD (keep (hp 3 [(oT tab0), (oC [(zI z30693), (Sl.v 2 s30694)]), (oC (setL ([(zI x30702)] : List Value) (0 + k30704 * 1) q30695))]) (bb (an (Nat.blt k30697 n30687) true) (some (.pointer (some ⟨2, (0 + k30697 * 1), none⟩))) none)) (keep_bb h30713) (eD (done (bb (an (Nat.ble ((0 + k30697 * 1) + 1) (len (setL ([(zI x30702)] : List Value) (0 + k30704 * 1) q30695))) true) (some (hp 3 [(oT tab0), (oC [(zI z30693), (Sl.v 2 s30694)]), (oC (setL ([(zI x30709)] : List Value) (0 + k30697 * 1) (setL ([(zI x30702)] : List Value) (0 + k30704 * 1) q30695)))])) none) undef) (done_bb h30714) (eE))))))))) ?_
              replace hm := bb_inv hm; obtain ⟨h30715, hm⟩ := hm
              exact ⟨(z30686, n30687, c30688, z30689, z30693, s30694, (setL ([(zI x30709)] : List Value) (0 + k30697 * 1) (setL ([(zI x30702)] : List Value) (0 + k30704 * 1) q30695))), hm, (.k [2] [false] [.tmp 3 false, .tmp 7 false] [2, 3, 7, 8] ⟨trE (by kernel_rfl) h30715, trivial⟩)⟩
            · refine .ifF b30692 (by kernel_rfl) h30696 ?_
              refine .skip ?_
              replace hm := bb_inv hm; obtain ⟨h30716, hm⟩ := hm
              exact ⟨(z30686, n30687, c30688, z30689, z30693, s30694, q30695), hm, (.k [2] [false] [.tmp 3 false, .tmp 7 false] [2, 3, 7, 8] ⟨trE (by kernel_rfl) h30716, trivial⟩)⟩
          · skip
            have hq := bb_cases hm; clear hm; rcases hq with ⟨h30717, hm⟩ | ⟨h30717, hm⟩
            · skip
              have hq := oo_inv hm; clear hm; obtain ⟨k30718, h30719, hm⟩ := hq
              obtain rfl := toN_some h30719
              replace hm := bb_inv hm; obtain ⟨h30720, hm⟩ := hm
              have hq := oo_inv hm; clear hm; obtain ⟨v30721, h30722, hm⟩ := hq
              have hq := oo_inv hm; clear hm; obtain ⟨x30723, h30724, hm⟩ := hq
              obtain rfl := toI_some h30724
              have hq := oo_inv hm; clear hm; obtain ⟨k30725, h30726, hm⟩ := hq
              obtain rfl := toN_some h30726
              replace hm := bb_inv hm; obtain ⟨h30727, hm⟩ := hm
              have hq := oo_inv hm; clear hm; obtain ⟨v30728, h30729, hm⟩ := hq
              have hq := oo_inv hm; clear hm; obtain ⟨x30730, h30731, hm⟩ := hq
              obtain rfl := toI_some h30731
              refine .reg (eC 2 (some ((zB (nt (ieq (Int.ofNat k30059) z19761))), (hp 3 [(oT tab0), (oC [(zI z19765), (Sl.v 2 s19766)]), (oC q19767)]))) (show _ = some ((zB true), _) from (by rw [h30717])) (eC 3 (keep (hp 3 [(oT tab0), (oC [(zI z19765), (Sl.v 2 s19766)]), (oC q19767)]) (bb (an (Nat.blt k30718 n19762) true) (some (.pointer (some ⟨2, (0 + k30718 * 1), none⟩))) none)) (keep_bb h30720) (eD (keep (hp 3 [(oT tab0), (oC [(zI z19765), (Sl.v 2 s19766)]), (oC q19767)]) (nthL q19767 (0 + k30718 * 1))) (keep_eq h30722) (eC 2 (keep (hp 3 [(oT tab0), (oC [(zI z19765), (Sl.v 2 s19766)]), (oC q19767)]) (bb (an (Nat.blt k30725 n19762) true) (some (.pointer (some ⟨2, (0 + k30725 * 1), none⟩))) none)) (keep_bb h30727) (eD (keep (hp 3 [(oT tab0), (oC [(zI z19765), (Sl.v 2 s19766)]), (oC q19767)]) (nthL q19767 (0 + k30725 * 1))) (keep_eq h30729) (eE)))))) ?_
              exact ⟨(z19761, n19762, c19763, (Int.ofNat k30059), (Int.ofNat k30718), (Int.ofNat k30725), (ilt x30730 x30723), z19765, s19766, q19767), hm, (.k [2] [false] [.tmp 3 false, .tmp 7 false] [2, 3, 7, 8, 9, 10, 46] ⟨trE (by kernel_rfl) h19768, trivial⟩)⟩
            · skip
              refine .reg (eC 2 (some ((zB (nt (ieq (Int.ofNat k30059) z19761))), (hp 3 [(oT tab0), (oC [(zI z19765), (Sl.v 2 s19766)]), (oC q19767)]))) (show _ = some ((zB false), _) from (by rw [h30717])) (eE)) ?_
              exact ⟨(z19761, n19762, c19763, (Int.ofNat k30059), x30064, x30069, false, z19765, s19766, q19767), hm, (.k [2] [false] [.tmp 3 false, .tmp 7 false] [2, 3, 7, 8, 9, 10, 46] ⟨trE (by kernel_rfl) h19768, trivial⟩)⟩
      · refine .ifF (ilt z19764 (Int.ofNat (Sl.n s19766))) (by kernel_rfl) h19769 ?_
        refine .exit ?_
        exact ⟨(n19762, c19763, q19767), hm, (.k [2] [false] [.tmp 7 false] [7] ⟨trE (by kernel_rfl) h19768, trivial⟩)⟩
  · skip
    replace hm := bb_inv hm; obtain ⟨h8784, hm⟩ := hm
    refine .reg (eC 2 (appFs (hp 3 [(oT tab0), (oC [(zI x8775), (Sl.v 2 s8777)]), (oC [])]) 1 8 (sc 2 0 1 0 1) s8779) (appFs_new h8783 h8784 (by kernel_rfl)) (eE)) ?_
    replace hm := bb_inv hm; obtain ⟨h30732, hm⟩ := hm
    refine .ghs (fr 62 [(2, (zI x8781)), (3, (pt 1 0)), (7, (sc 2 0 1 (0 + (Sl.n s8779)) (d2 (0 + (Sl.n s8779)))))]) (hp 3 [(oT tab0), (oC [(zI x8775), (Sl.v 2 s8777)]), (oC (takeL ((Sl.n s8779) * 1) (Sl.cs s8779)))]) (.k [3] [false] [.tmp 3 false, .tmp 7 false] [2, 3, 7] ⟨trE (by kernel_rfl) h30732, trivial⟩) ?_
    refine .join (v := v) (fun y : Nat × Nat × List Value => ((fr 62 [(7, (sc 1 0 1 y.1 y.2.1))]), (hp 2 [(oT tab0), (oC y.2.2)]))) (fun y => m45_4 pu n y.1 y.2.1 y.2.2) ?_ ?_
    · rintro ⟨n41704, c41705, q41706⟩ hm
      unfold m45_4 at hm
      refine .then ?_
      refine .rK ?_
      replace hm := bb_inv hm; obtain ⟨h41707, hm⟩ := hm
      refine .ghs (fr 62 [(6, (sc 1 0 1 n41704 c41705))]) (hp 2 [(oT tab0), (oC q41706)]) (.k [1] [false] [.tmp 6 false] [6] ⟨trE (by kernel_rfl) h41707, trivial⟩) ?_
      replace hm := bb_inv hm; obtain ⟨h41708, hm⟩ := hm
      refine .ghs (Fr.puts (fr 62 [(6, (sc 1 0 1 n41704 c41705))]) [(6, (Sl.v 1 (Sl.mk n41704 0 (takeL (n41704 * 1) (dropL 0 q41706)))))]) (hp 2 [(oT tab0), .dead]) (.freezeC 1 6 1 (an (Nat.ble (0 + n41704 * 1) (len q41706)) (allL closed1 (takeL (n41704 * 1) (dropL 0 q41706)))) (F1 := (Fr.puts (fr 62 [(6, (sc 1 0 1 n41704 c41705))]) [(6, (Sl.v 1 (Sl.mk n41704 0 (takeL (n41704 * 1) (dropL 0 q41706)))))])) (H1 := (hp 2 [(oT tab0), .dead])) (by kernel_rfl) (by kernel_rfl) h41708 (GhS.id _ _)) ?_
      refine .ret ?_
      exact fin_ret (Sl.v 1 (Sl.mk n41704 0 (takeL (n41704 * 1) (dropL 0 q41706)))) (by kernel_rfl) (by kernel_rfl) hm
    · skip
      refine .then ?_
      refine .rK ?_
      refine .ghs (fr 62 [(2, (zI x8781)), (3, (pt 1 0)), (7, (sc 2 0 1 (0 + (Sl.n s8779)) (d2 (0 + (Sl.n s8779))))), (8, (zI (0 : Int)))]) (hp 3 [(oT tab0), (oC [(zI x8775), (Sl.v 2 s8777)]), (oC (takeL ((Sl.n s8779) * 1) (Sl.cs s8779)))]) (.k [2] [false] [.tmp 3 false, .tmp 7 false] [2, 3, 7, 8] ⟨trE (by kernel_rfl) h30732, trivial⟩) ?_
      refine .block ?_
      refine .loopM (v := v) (fun y : Int × Nat × Nat × Int × Int × Sl × List Value => ((fr 62 [(2, (zI y.1)), (3, (pt 1 0)), (7, (sc 2 0 1 y.2.1 y.2.2.1)), (8, (zI y.2.2.2.1))]), (hp 3 [(oT tab0), (oC [(zI y.2.2.2.2.1), (Sl.v 2 y.2.2.2.2.2.1)]), (oC y.2.2.2.2.2.2)]))) (fun w y => l45_5 pu n w y.1 y.2.1 y.2.2.1 y.2.2.2.1 y.2.2.2.2.1 y.2.2.2.2.2.1 y.2.2.2.2.2.2) n ⟨(x8781, (0 + (Sl.n s8779)), (d2 (0 + (Sl.n s8779))), (0 : Int), x8775, s8777, (takeL ((Sl.n s8779) * 1) (Sl.cs s8779))), hm, (.k [2] [false] [.tmp 3 false, .tmp 7 false] [2, 3, 7, 8] ⟨trE (by kernel_rfl) h30732, trivial⟩)⟩ (fun _ => rfl) ?_
      rintro w0 ⟨z41709, n41710, c41711, z41712, z41713, s41714, q41715⟩ hm
      refine .then ?_
      refine .then ?_
      refine .rK ?_
      replace hm := bb_inv hm; obtain ⟨h41716, hm⟩ := hm
      refine .ghs (fr 62 [(2, (zI z41709)), (3, (pt 1 0)), (7, (sc 2 0 1 n41710 c41711)), (8, (zI z41712)), (18, (zB (ilt z41712 (Int.ofNat (Sl.n s41714)))))]) (hp 3 [(oT tab0), (oC [(zI z41713), (Sl.v 2 s41714)]), (oC q41715)]) (.k [2] [false] [.tmp 3 false, .tmp 7 false] [2, 3, 7, 8, 18] ⟨trE (by kernel_rfl) h41716, trivial⟩) ?_
      have hq := bb_cases hm; clear hm; rcases hq with ⟨h41717, hm⟩ | ⟨h41717, hm⟩
      · refine .ifT (ilt z41712 (Int.ofNat (Sl.n s41714))) (by kernel_rfl) h41717 ?_
        refine .skip ?_
        refine .ghs (fr 62 [(2, (zI z41709)), (3, (pt 1 0)), (7, (sc 2 0 1 n41710 c41711)), (8, (zI z41712))]) (hp 3 [(oT tab0), (oC [(zI z41713), (Sl.v 2 s41714)]), (oC q41715)]) (.k [2] [false] [.tmp 3 false, .tmp 7 false] [2, 3, 7, 8] ⟨trE (by kernel_rfl) h41716, trivial⟩) ?_
        refine .join (v := v) (fun y : Int × Nat × Nat × Int × Int × Sl × List Value => ((fr 62 [(2, (zI y.1)), (3, (pt 1 0)), (7, (sc 2 0 1 y.2.1 y.2.2.1)), (8, (zI y.2.2.2.1))]), (hp 3 [(oT tab0), (oC [(zI y.2.2.2.2.1), (Sl.v 2 y.2.2.2.2.2.1)]), (oC y.2.2.2.2.2.2)]))) (fun y => m45_6 pu n (l45_5 pu n w0) y.1 y.2.1 y.2.2.1 y.2.2.2.1 y.2.2.2.2.1 y.2.2.2.2.2.1 y.2.2.2.2.2.2) ?_ ?_
        · rintro ⟨z51999, n52000, c52001, z52002, z52003, s52004, q52005⟩ hm
          unfold m45_6 at hm
          refine .rK ?_
          replace hm := bb_inv hm; obtain ⟨h52006, hm⟩ := hm
          exact ⟨(z51999, n52000, c52001, (wrapF .i64 (Int.add z52002 (1 : Int))), z52003, s52004, q52005), hm, (.k [2] [false] [.tmp 3 false, .tmp 7 false] [2, 3, 7, 8] ⟨trE (by kernel_rfl) h52006, trivial⟩)⟩
        · skip
          refine .block ?_
          refine .then ?_
          have hq := oo_inv hm; clear hm; obtain ⟨k52007, h52008, hm⟩ := hq
          obtain rfl := toN_some h52008
          replace hm := bb_inv hm; obtain ⟨h52009, hm⟩ := hm
          have hq := oo_inv hm; clear hm; obtain ⟨v52010, h52011, hm⟩ := hq
          have hq := oo_inv hm; clear hm; obtain ⟨x52012, h52013, hm⟩ := hq
          obtain rfl := toI_some h52013
          replace hm := bb_inv hm; obtain ⟨h52014, hm⟩ := hm
          have hq := oo_inv hm; clear hm; obtain ⟨v52015, h52016, hm⟩ := hq
          have hq := oo_inv hm; clear hm; obtain ⟨x52017, h52018, hm⟩ := hq
          obtain rfl := toI_some h52018
          refine .reg (eC 3 (keep (hp 3 [(oT tab0), (oC [(zI z41713), (Sl.v 2 s41714)]), (oC q41715)]) (bb (an (Nat.blt k52007 (Sl.n s41714)) true) (some (fpV (k52007 * 2) (Sl.cs s41714))) none)) (keep_bb h52009) (eC 1 (keep (hp 3 [(oT tab0), (oC [(zI z41713), (Sl.v 2 s41714)]), (oC q41715)]) (nthL (Sl.cs s41714) ((k52007 * 2) + 0))) (keep_eq h52011) (eC 3 (keep (hp 3 [(oT tab0), (oC [(zI z41713), (Sl.v 2 s41714)]), (oC q41715)]) (bb (an (Nat.blt k52007 (Sl.n s41714)) true) (some (fpV (k52007 * 2) (Sl.cs s41714))) none)) (keep_bb h52014) (eC 1 (keep (hp 3 [(oT tab0), (oC [(zI z41713), (Sl.v 2 s41714)]), (oC q41715)]) (nthL (Sl.cs s41714) ((k52007 * 2) + 1))) (keep_eq h52016) (eE))))) ?_
          refine .ghs (fr 62 [(2, (zI z41709)), (3, (pt 1 0)), (7, (sc 2 0 1 n41710 c41711)), (8, (zI (Int.ofNat k52007))), (9, (zI x52012)), (10, (zI x52017))]) (hp 3 [(oT tab0), (oC [(zI z41713), (Sl.v 2 s41714)]), (oC q41715)]) (.k [2] [false] [.tmp 3 false, .tmp 7 false] [2, 3, 7, 8, 9, 10] ⟨trE (by kernel_rfl) h41716, trivial⟩) ?_
          refine .join (v := v) (fun y : Int × Nat × Nat × Int × Int × Int × Bool × Int × Sl × List Value => ((fr 62 [(2, (zI y.1)), (3, (pt 1 0)), (7, (sc 2 0 1 y.2.1 y.2.2.1)), (8, (zI y.2.2.2.1)), (9, (zI y.2.2.2.2.1)), (10, (zI y.2.2.2.2.2.1)), (46, (zB y.2.2.2.2.2.2.1))]), (hp 3 [(oT tab0), (oC [(zI y.2.2.2.2.2.2.2.1), (Sl.v 2 y.2.2.2.2.2.2.2.2.1)]), (oC y.2.2.2.2.2.2.2.2.2)]))) (fun y => m45_7 pu n (l45_5 pu n w0) y.1 y.2.1 y.2.2.1 y.2.2.2.1 y.2.2.2.2.1 y.2.2.2.2.2.1 y.2.2.2.2.2.2.1 y.2.2.2.2.2.2.2.1 y.2.2.2.2.2.2.2.2.1 y.2.2.2.2.2.2.2.2.2) ?_ ?_
          · rintro ⟨z52634, n52635, c52636, z52637, z52638, z52639, b52640, z52641, s52642, q52643⟩ hm
            unfold m45_7 at hm
            have hq := bb_cases hm; clear hm; rcases hq with ⟨h52644, hm⟩ | ⟨h52644, hm⟩
            · refine .ifT b52640 (by kernel_rfl) h52644 ?_
              have hq := oo_inv hm; clear hm; obtain ⟨k52645, h52646, hm⟩ := hq
              obtain rfl := toN_some h52646
              replace hm := bb_inv hm; obtain ⟨h52647, hm⟩ := hm
              have hq := oo_inv hm; clear hm; obtain ⟨v52648, h52649, hm⟩ := hq
              have hq := oo_inv hm; clear hm; obtain ⟨x52650, h52651, hm⟩ := hq
              obtain rfl := toI_some h52651
              have hq := oo_inv hm; clear hm; obtain ⟨k52652, h52653, hm⟩ := hq
              obtain rfl := toN_some h52653
              replace hm := bb_inv hm; obtain ⟨h52654, hm⟩ := hm
              have hq := oo_inv hm; clear hm; obtain ⟨v52655, h52656, hm⟩ := hq
              have hq := oo_inv hm; clear hm; obtain ⟨x52657, h52658, hm⟩ := hq
              obtain rfl := toI_some h52658
              replace hm := bb_inv hm; obtain ⟨h52659, hm⟩ := hm
              replace hm := bb_inv hm; obtain ⟨h52660, hm⟩ := hm
              replace hm := bb_inv hm; obtain ⟨h52661, hm⟩ := hm
              replace hm := bb_inv hm; obtain ⟨h52662, hm⟩ := hm
              refine .reg (eC 6 (keep (hp 3 [(oT tab0), (oC [(zI z52641), (Sl.v 2 s52642)]), (oC q52643)]) (bb (an (Nat.blt k52645 n52635) true) (some (.pointer (some ⟨2, (0 + k52645 * 1), none⟩))) none)) (keep_bb h52647) (eD (keep (hp 3 [(oT tab0), (oC [(zI z52641), (Sl.v 2 s52642)]), (oC q52643)]) (nthL q52643 (0 + k52645 * 1))) (keep_eq h52649) (eC 2 (keep (hp 3 [(oT tab0), (oC [(zI z52641), (Sl.v 2 s52642)]), (oC q52643)]) (bb (an (Nat.blt k52652 n52635) true) (some (.pointer (some ⟨2, (0 + k52652 * 1), none⟩))) none)) (keep_bb h52654) (eD (keep (hp 3 [(oT tab0), (oC [(zI z52641), (Sl.v 2 s52642)]), (oC q52643)]) (nthL q52643 (0 + k52652 * 1))) (keep_eq h52656) (eD (keep (hp 3 [(oT tab0), (oC [(zI z52641), (Sl.v 2 s52642)]), (oC q52643)]) (bb (an (Nat.blt k52652 n52635) true) (some (.pointer (some ⟨2, (0 + k52652 * 1), none⟩))) none)) (keep_bb h52659) (eD (done (bb (an (Nat.ble ((0 + k52652 * 1) + 1) (len q52643)) true) (some (hp 3 [(oT tab0), (oC [(zI z52641), (Sl.v 2 s52642)]), (oC (setL ([(zI x52650)] : List Value) (0 + k52652 * 1) q52643))])) none) undef) (done_bb h52660) (eD (keep (hp 3 [(oT tab0), (oC [(zI z52641), (Sl.v 2 s52642)]), (oC (setL ([(zI x52650)] : List Value) (0 + k52652 * 1) q52643))]) (bb (an (Nat.blt k52645 n52635) true) (some (.pointer (some ⟨2, (0 + k52645 * 1), none⟩))) none)) (keep_bb h52661) (eD (done (bb (an (Nat.ble ((0 + k52645 * 1) + 1) (len (setL ([(zI x52650)] : List Value) (0 + k52652 * 1) q52643))) true) (some (hp 3 [(oT tab0), (oC [(zI z52641), (Sl.v 2 s52642)]), (oC (setL ([(zI x52657)] : List Value) (0 + k52645 * 1) (setL ([(zI x52650)] : List Value) (0 + k52652 * 1) q52643)))])) none) undef) (done_bb h52662) (eE))))))))) ?_
              replace hm := bb_inv hm; obtain ⟨h52663, hm⟩ := hm
              exact ⟨(z52634, n52635, c52636, z52637, z52641, s52642, (setL ([(zI x52657)] : List Value) (0 + k52645 * 1) (setL ([(zI x52650)] : List Value) (0 + k52652 * 1) q52643))), hm, (.k [2] [false] [.tmp 3 false, .tmp 7 false] [2, 3, 7, 8] ⟨trE (by kernel_rfl) h52663, trivial⟩)⟩
            · refine .ifF b52640 (by kernel_rfl) h52644 ?_
              refine .skip ?_
              replace hm := bb_inv hm; obtain ⟨h52664, hm⟩ := hm
              exact ⟨(z52634, n52635, c52636, z52637, z52641, s52642, q52643), hm, (.k [2] [false] [.tmp 3 false, .tmp 7 false] [2, 3, 7, 8] ⟨trE (by kernel_rfl) h52664, trivial⟩)⟩
          · skip
            have hq := bb_cases hm; clear hm; rcases hq with ⟨h52665, hm⟩ | ⟨h52665, hm⟩
            · skip
              have hq := oo_inv hm; clear hm; obtain ⟨k52666, h52667, hm⟩ := hq
              obtain rfl := toN_some h52667
              replace hm := bb_inv hm; obtain ⟨h52668, hm⟩ := hm
              have hq := oo_inv hm; clear hm; obtain ⟨v52669, h52670, hm⟩ := hq
              have hq := oo_inv hm; clear hm; obtain ⟨x52671, h52672, hm⟩ := hq
              obtain rfl := toI_some h52672
              have hq := oo_inv hm; clear hm; obtain ⟨k52673, h52674, hm⟩ := hq
              obtain rfl := toN_some h52674
              replace hm := bb_inv hm; obtain ⟨h52675, hm⟩ := hm
              have hq := oo_inv hm; clear hm; obtain ⟨v52676, h52677, hm⟩ := hq
              have hq := oo_inv hm; clear hm; obtain ⟨x52678, h52679, hm⟩ := hq
              obtain rfl := toI_some h52679
              refine .reg (eC 2 (some ((zB (nt (ieq (Int.ofNat k52007) z41709))), (hp 3 [(oT tab0), (oC [(zI z41713), (Sl.v 2 s41714)]), (oC q41715)]))) (show _ = some ((zB true), _) from (by rw [h52665])) (eC 3 (keep (hp 3 [(oT tab0), (oC [(zI z41713), (Sl.v 2 s41714)]), (oC q41715)]) (bb (an (Nat.blt k52666 n41710) true) (some (.pointer (some ⟨2, (0 + k52666 * 1), none⟩))) none)) (keep_bb h52668) (eD (keep (hp 3 [(oT tab0), (oC [(zI z41713), (Sl.v 2 s41714)]), (oC q41715)]) (nthL q41715 (0 + k52666 * 1))) (keep_eq h52670) (eC 2 (keep (hp 3 [(oT tab0), (oC [(zI z41713), (Sl.v 2 s41714)]), (oC q41715)]) (bb (an (Nat.blt k52673 n41710) true) (some (.pointer (some ⟨2, (0 + k52673 * 1), none⟩))) none)) (keep_bb h52675) (eD (keep (hp 3 [(oT tab0), (oC [(zI z41713), (Sl.v 2 s41714)]), (oC q41715)]) (nthL q41715 (0 + k52673 * 1))) (keep_eq h52677) (eE)))))) ?_
              exact ⟨(z41709, n41710, c41711, (Int.ofNat k52007), (Int.ofNat k52666), (Int.ofNat k52673), (ilt x52678 x52671), z41713, s41714, q41715), hm, (.k [2] [false] [.tmp 3 false, .tmp 7 false] [2, 3, 7, 8, 9, 10, 46] ⟨trE (by kernel_rfl) h41716, trivial⟩)⟩
            · skip
              refine .reg (eC 2 (some ((zB (nt (ieq (Int.ofNat k52007) z41709))), (hp 3 [(oT tab0), (oC [(zI z41713), (Sl.v 2 s41714)]), (oC q41715)]))) (show _ = some ((zB false), _) from (by rw [h52665])) (eE)) ?_
              exact ⟨(z41709, n41710, c41711, (Int.ofNat k52007), x52012, x52017, false, z41713, s41714, q41715), hm, (.k [2] [false] [.tmp 3 false, .tmp 7 false] [2, 3, 7, 8, 9, 10, 46] ⟨trE (by kernel_rfl) h41716, trivial⟩)⟩
      · refine .ifF (ilt z41712 (Int.ofNat (Sl.n s41714))) (by kernel_rfl) h41717 ?_
        refine .exit ?_
        exact ⟨(n41710, c41711, q41715), hm, (.k [2] [false] [.tmp 7 false] [7] ⟨trE (by kernel_rfl) h41716, trivial⟩)⟩
end
end Go.TabSM
