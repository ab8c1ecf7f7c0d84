/- Models of the program's functions, and the proofs that runs give them: MADE BY PROGRAM (wip/tools/dec.py). -/
import Derived.Test.YtchpnknhdgplgaaDoorTabSMod1x

set_option maxRecDepth 100000
set_option linter.unusedVariables false
namespace Go.TabSM
open Go.Sp Go.TabS
noncomputable section
/-- spadille/spadilleref07.Outcomes -/
def m14_0 (pu : PureF) (n : Nat) (n4206 : Nat) (c4207 : Nat) (q4208 : List Value) : Option Value :=
  (bb (allL closed1 q4208) (bb (an (Nat.ble (0 + n4206 * 1) (len q4208)) (allL closed1 (takeL (n4206 * 1) (dropL 0 q4208)))) (some (.tuple ⟨[(Sl.v 1 (Sl.mk n4206 0 (takeL (n4206 * 1) (dropL 0 q4208)))), (.int .i64 (0 : Int))]⟩)) none) none)
def m14_2 (pu : PureF) (n : Nat) (ih0 : Nat → Nat → Int → Int → Sl → List Value → Option Value) (n7313 : Nat) (c7314 : Nat) (z7315 : Int) (z7316 : Int) (s7317 : Sl) (q7318 : List Value) : Option Value :=
  (bb (allL closed1 q7318) (ih0 n7313 c7314 (wrapF .i64 (Int.add z7315 (1 : Int))) z7316 s7317 q7318) none)
def m14_3 (pu : PureF) (n : Nat) (ih0 : Nat → Nat → Int → Int → Sl → List Value → Option Value) (n7899 : Nat) (c7900 : Nat) (z7901 : Int) (b7902 : Bool) (z7903 : Int) (s7904 : Sl) (q7905 : List Value) : Option Value :=
  (bb (allL closed1 q7905) (bb b7902 (oo (pu 46 [(.int .i64 z7903), (.int .i64 z7901)]) none fun v7908 => (oo (toSl 1 v7908) none fun s7910 => (bb (growC 1 24 n7899 c7900 1 q7905) (bb (allL closed1 (appL (dropL 0 q7905) [(Sl.v 1 s7910)])) (m14_2 pu n ih0 (n7899 + 1) (2 * (n7899 + 1) + bb false 1 0) z7901 z7903 s7904 (appL (dropL 0 q7905) [(Sl.v 1 s7910)])) none) none))) (m14_2 pu n ih0 n7899 c7900 z7901 z7903 s7904 q7905)) none)
def m14_5 (pu : PureF) (n : Nat) (ih0 : Nat → Nat → Int → Int → Sl → List Value → Option Value) (ih1 : Nat → Nat → Int → Bool → Int → Int → Sl → List Value → Option Value) (n8001 : Nat) (c8002 : Nat) (z8003 : Int) (b8004 : Bool) (z8005 : Int) (b8006 : Bool) (z8007 : Int) (s8008 : Sl) (q8009 : List Value) : Option Value :=
  (bb b8006 (bb (allL closed1 q8009) (oo (pu 46 [(.int .i64 z8007), (.int .i64 z8005)]) none fun v8012 => (oo (toSl 1 v8012) none fun s8014 => (oo (pu 45 [(.agg ⟨[(.int .i64 z8007), (Sl.v 2 s8008)]⟩), (Sl.v 1 s8014), (.int .i64 (-1 : Int))]) none fun v8016 => (oo (toSl 1 v8016) none fun s8018 => (oo (pu 46 [(.int .i64 z8007), (.int .i64 z8003)]) none fun v8020 => (oo (toSl 1 v8020) none fun s8022 => (oo (pu 49 [(Sl.v 1 s8018), (Sl.v 1 s8022)]) none fun v8024 => (oo (vBool v8024) none fun b8026 => (ih1 n8001 c8002 z8003 b8026 (wrapF .i64 (Int.add z8005 (1 : Int))) z8007 s8008 q8009))))))))) none) (bb (allL closed1 q8009) (m14_3 pu n ih0 n8001 c8002 z8003 b8004 z8007 s8008 q8009) none))
def b14_4 (pu : PureF) (n : Nat) (ih0 : Nat → Nat → Int → Int → Sl → List Value → Option Value) (ih1 : Nat → Nat → Int → Bool → Int → Int → Sl → List Value → Option Value) (n7914 : Nat) (c7915 : Nat) (z7916 : Int) (b7917 : Bool) (z7918 : Int) (z7919 : Int) (s7920 : Sl) (q7921 : List Value) : Option Value :=
  (oo (toN z7919) none fun k8029 => (bb (ilt z7918 (shlI .i64 (1 : Int) k8029)) (bb (allL closed1 q7921) (m14_5 pu n ih0 ih1 n7914 c7915 z7916 b7917 z7918 (nt b7917) (Int.ofNat k8029) s7920 q7921) none) (bb (allL closed1 q7921) (m14_5 pu n ih0 ih1 n7914 c7915 z7916 b7917 z7918 false (Int.ofNat k8029) s7920 q7921) none)))
def l14_4 (pu : PureF) (n : Nat) (ih0 : Nat → Nat → Int → Int → Sl → List Value → Option Value) (w : Nat) : Nat → Nat → Int → Bool → Int → Int → Sl → List Value → Option Value :=
  Nat.rec (motive := fun _ => Nat → Nat → Int → Bool → Int → Int → Sl → List Value → Option Value) (fun _ _ _ _ _ _ _ _ => none) (fun _ ih1 => b14_4 pu n ih0 ih1) w
def b14_1 (pu : PureF) (n : Nat) (ih0 : Nat → Nat → Int → Int → Sl → List Value → Option Value) (n4211 : Nat) (c4212 : Nat) (z4213 : Int) (z4214 : Int) (s4215 : Sl) (q4216 : List Value) : Option Value :=
  (oo (toN z4214) none fun k4217 => (bb (allL closed1 q4216) (bb (ilt z4213 (shlI .i64 (1 : Int) k4217)) (l14_4 pu n ih0 n n4211 c4212 z4213 false (0 : Int) (Int.ofNat k4217) s4215 q4216) (m14_0 pu n n4211 c4212 q4216)) none))
def l14_1 (pu : PureF) (n : Nat) (w : Nat) : Nat → Nat → Int → Int → Sl → List Value → Option Value :=
  Nat.rec (motive := fun _ => Nat → Nat → Int → Int → Sl → List Value → Option Value) (fun _ _ _ _ _ _ => none) (fun _ ih0 => b14_1 pu n ih0) w
def m14_ (pu : PureF) (n : Nat) (x374 : Int) (s376 : Sl) : Option Value :=
  (oo (pu 40 [(.agg ⟨[(.int .i64 x374), (Sl.v 2 s376)]⟩)]) none fun v378 => (oo (toI .i64 v378) none fun x380 => (bb (nt (ieq x380 (0 : Int))) (some (.tuple ⟨[(Sl.v 1 (Sl.mk 0 2 [])), (.int .i64 x380)]⟩)) (l14_1 pu n n 0 0 (0 : Int) x374 s376 ([] : List Value)))))
def m14 (pu : PureF) (n : Nat) (args : List Value) : Option Value :=
  (ll args none fun a0 args => (ll args (oo (vAgg a0) none fun l370 => (ll l370 none fun v372 l370 => (ll l370 none fun v373 l370 => (ll l370 (oo (toI .i64 v372) none fun x374 => (oo (toSl 2 v373) none fun s376 => (m14_ pu n x374 s376))) fun _ _ => none)))) fun _ _ => none))
theorem r14 {call : CallF} (pu : PureF) (n : Nat) (hcall : call = callP tabs isP pu (inl pu)) {args : List Value} {v : Value} (hm : m14 pu n args = some v) (_ : ∀ x ∈ args, closed2 x = true) : args.length ≤ 52 ∧ Run tt call 1 c14_44 (Fr.made 52 args) (pureHeap tabs) (Fin tt 1 [.tmp 2, .tmp 3] v) := by
  subst hcall
  unfold m14 at hm
  have hq := ll_uncons hm; clear hm; obtain ⟨a0, args_0, rfl, hm⟩ := hq
  have hq := ll_end hm; clear hm; obtain ⟨rfl, hm⟩ := hq
  have hq := oo_inv hm; clear hm; obtain ⟨l370, h371, hm⟩ := hq
  obtain rfl := vAgg_some h371
  have hq := ll_uncons hm; clear hm; obtain ⟨v372, l370_0, rfl, hm⟩ := hq
  have hq := ll_uncons hm; clear hm; obtain ⟨v373, l370_1, rfl, hm⟩ := hq
  have hq := ll_end hm; clear hm; obtain ⟨rfl, hm⟩ := hq
  have hq := oo_inv hm; clear hm; obtain ⟨x374, h375, hm⟩ := hq
  obtain rfl := toI_some h375
  have hq := oo_inv hm; clear hm; obtain ⟨s376, h377, hm⟩ := hq
  obtain rfl := toSl_some h377
  unfold m14_ at hm
  refine ⟨by simp, ?_⟩
  refine .same (F' := (fr 52 [(0, (.agg ⟨[(zI x374), (Sl.v 2 s376)]⟩))])) (H' := (hp 1 [(oT tab0)])) (by kernel_rfl) (by kernel_rfl) ?_
  refine .then ?_
  refine .rK ?_
  refine .ghs (fr 52 [(1, (pt 1 0))]) (hp 2 [(oT tab0), (oC [(zI x374), (Sl.v 2 s376)])]) (.k0 [false] [.tmp 1 false] [1]) ?_
  refine .then ?_
  have hq := oo_inv hm; clear hm; obtain ⟨v378, h379, hm⟩ := hq
  have hq := oo_inv hm; clear hm; obtain ⟨x380, h381, hm⟩ := hq
  obtain rfl := toI_some h381
  refine .reg (eC 1 ((oo (pu 40 [(.agg ⟨[(zI x374), (Sl.v 2 s376)]⟩)]) none fun v => some (v, (hp 2 [(oT tab0), (oC [(zI x374), (Sl.v 2 s376)])])))) (call_eq h379) (eE)) ?_
  refine .ghs (fr 52 [(1, (pt 1 0)), (4, (zI x380))]) (hp 2 [(oT tab0), (oC [(zI x374), (Sl.v 2 s376)])]) (.k0 [false] [.tmp 1 false] [1, 4]) ?_
  refine .then ?_
  refine .then ?_
  refine .rK ?_
  refine .ghs (fr 52 [(1, (pt 1 0)), (4, (zI x380)), (12, (zB (nt (ieq x380 (0 : Int)))))]) (hp 2 [(oT tab0), (oC [(zI x374), (Sl.v 2 s376)])]) (.k0 [false] [.tmp 1 false] [1, 4, 12]) ?_
  have hq := bb_cases hm; clear hm; rcases hq with ⟨h382, hm⟩ | ⟨h382, hm⟩
  · refine .ifT (nt (ieq x380 (0 : Int))) (by kernel_rfl) h382 ?_
    refine .then ?_
    refine .rK ?_
    refine .ghs (fr 52 [(2, (.slice none 0 0)), (3, (zI x380))]) (hp 1 [(oT tab0)]) (.k0 [false] [] [2, 3]) ?_
    refine .ghs (Fr.puts (fr 52 [(2, (.slice none 0 0)), (3, (zI x380))]) [(2, (Sl.v 1 (Sl.mk 0 2 [])))]) (hp 1 [(oT tab0)]) (.freeze 1 2 1 (by kernel_rfl) (by kernel_rfl) (GhS.id _ _)) ?_
    refine .ret ?_
    exact fin_ret (.tuple ⟨[(Sl.v 1 (Sl.mk 0 2 [])), (zI x380)]⟩) (by kernel_rfl) (by kernel_rfl) hm
  · refine .ifF (nt (ieq x380 (0 : Int))) (by kernel_rfl) h382 ?_
    refine .skip ?_
    refine .ghs (fr 52 [(1, (pt 1 0))]) (hp 2 [(oT tab0), (oC [(zI x374), (Sl.v 2 s376)])]) (.k0 [false] [.tmp 1 false] [1]) ?_
    refine .then ?_
    refine .rK ?_
    refine .ghs (fr 52 [(1, (pt 1 0)), (5, (.slice none 0 0))]) (hp 2 [(oT tab0), (oC [(zI x374), (Sl.v 2 s376)])]) (.k0 [false] [.tmp 1 false] [1, 5]) ?_
    refine .join (v := v) (fun y : Nat × Nat × List Value => ((fr 52 [(5, (sc 1 0 1 y.1 y.2.1))]), (hp 2 [(oT tab0), (oC y.2.2)]))) (fun y => m14_0 pu n y.1 y.2.1 y.2.2) ?_ ?_
    · rintro ⟨n4206, c4207, q4208⟩ hm
      unfold m14_0 at hm
      refine .then ?_
      refine .rK ?_
      replace hm := bb_inv hm; obtain ⟨h4209, hm⟩ := hm
      refine .ghs (fr 52 [(2, (sc 1 0 1 n4206 c4207)), (3, (zI (0 : Int)))]) (hp 2 [(oT tab0), (oC q4208)]) (.k [1] [false] [.tmp 2 false] [2, 3] ⟨trE (by kernel_rfl) h4209, trivial⟩) ?_
      replace hm := bb_inv hm; obtain ⟨h4210, hm⟩ := hm
      refine .ghs (Fr.puts (fr 52 [(2, (sc 1 0 1 n4206 c4207)), (3, (zI (0 : Int)))]) [(2, (Sl.v 1 (Sl.mk n4206 0 (takeL (n4206 * 1) (dropL 0 q4208)))))]) (hp 2 [(oT tab0), .dead]) (.freezeC 1 2 1 (an (Nat.ble (0 + n4206 * 1) (len q4208)) (allL closed1 (takeL (n4206 * 1) (dropL 0 q4208)))) (F1 := (Fr.puts (fr 52 [(2, (sc 1 0 1 n4206 c4207)), (3, (zI (0 : Int)))]) [(2, (Sl.v 1 (Sl.mk n4206 0 (takeL (n4206 * 1) (dropL 0 q4208)))))])) (H1 := (hp 2 [(oT tab0), .dead])) (by kernel_rfl) (by kernel_rfl) h4210 (GhS.id _ _)) ?_
      refine .ret ?_
      exact fin_ret (.tuple ⟨[(Sl.v 1 (Sl.mk n4206 0 (takeL (n4206 * 1) (dropL 0 q4208)))), (zI (0 : Int))]⟩) (by kernel_rfl) (by kernel_rfl) hm
    · skip
      refine .then ?_
      refine .rK ?_
      refine .ghs (fr 52 [(1, (pt 1 0)), (5, (.slice none 0 0)), (6, (zI (0 : Int)))]) (hp 2 [(oT tab0), (oC [(zI x374), (Sl.v 2 s376)])]) (.k0 [false] [.tmp 1 false] [1, 5, 6]) ?_
      refine .block ?_
      refine .loopM (v := v) (fun y : Nat × Nat × Int × Int × Sl × List Value => ((fr 52 [(1, (pt 1 0)), (5, (sc 2 0 1 y.1 y.2.1)), (6, (zI y.2.2.1))]), (hp 3 [(oT tab0), (oC [(zI y.2.2.2.1), (Sl.v 2 y.2.2.2.2.1)]), (oC y.2.2.2.2.2)]))) (fun w y => l14_1 pu n w y.1 y.2.1 y.2.2.1 y.2.2.2.1 y.2.2.2.2.1 y.2.2.2.2.2) n ⟨(0, 0, (0 : Int), x374, s376, ([] : List Value)), hm, (.thaw 5 1 (by kernel_rfl) (.k0 [false] [.tmp 1 false, .tmp 5 false] [1, 5, 6]))⟩ (fun _ => rfl) ?_
      rintro w0 ⟨n4211, c4212, z4213, z4214, s4215, q4216⟩ hm
      refine .then ?_
      refine .then ?_
      have hq := oo_inv hm; clear hm; obtain ⟨k4217, h4218, hm⟩ := hq
      obtain rfl := toN_some h4218
      refine .rK ?_
      replace hm := bb_inv hm; obtain ⟨h4219, hm⟩ := hm
      refine .ghs (fr 52 [(1, (pt 1 0)), (5, (sc 2 0 1 n4211 c4212)), (6, (zI z4213)), (18, (zB (ilt z4213 (shlI .i64 (1 : Int) k4217))))]) (hp 3 [(oT tab0), (oC [(zI (Int.ofNat k4217)), (Sl.v 2 s4215)]), (oC q4216)]) (.k [2] [false] [.tmp 1 false, .tmp 5 false] [1, 5, 6, 18] ⟨trE (by kernel_rfl) h4219, trivial⟩) ?_
      have hq := bb_cases hm; clear hm; rcases hq with ⟨h4220, hm⟩ | ⟨h4220, hm⟩
      · refine .ifT (ilt z4213 (shlI .i64 (1 : Int) k4217)) (by kernel_rfl) h4220 ?_
        refine .skip ?_
        refine .ghs (fr 52 [(1, (pt 1 0)), (5, (sc 2 0 1 n4211 c4212)), (6, (zI z4213))]) (hp 3 [(oT tab0), (oC [(zI (Int.ofNat k4217)), (Sl.v 2 s4215)]), (oC q4216)]) (.k [2] [false] [.tmp 1 false, .tmp 5 false] [1, 5, 6] ⟨trE (by kernel_rfl) h4219, trivial⟩) ?_
        refine .join (v := v) (fun y : Nat × Nat × Int × Int × Sl × List Value => ((fr 52 [(1, (pt 1 0)), (5, (sc 2 0 1 y.1 y.2.1)), (6, (zI y.2.2.1))]), (hp 3 [(oT tab0), (oC [(zI y.2.2.2.1), (Sl.v 2 y.2.2.2.2.1)]), (oC y.2.2.2.2.2)]))) (fun y => m14_2 pu n (l14_1 pu n w0) y.1 y.2.1 y.2.2.1 y.2.2.2.1 y.2.2.2.2.1 y.2.2.2.2.2) ?_ ?_
        · rintro ⟨n7313, c7314, z7315, z7316, s7317, q7318⟩ hm
          unfold m14_2 at hm
          refine .rK ?_
          replace hm := bb_inv hm; obtain ⟨h7319, hm⟩ := hm
          exact ⟨(n7313, c7314, (wrapF .i64 (Int.add z7315 (1 : Int))), z7316, s7317, q7318), hm, (.k [2] [false] [.tmp 1 false, .tmp 5 false] [1, 5, 6] ⟨trE (by kernel_rfl) h7319, trivial⟩)⟩
        · skip
          refine .block ?_
          refine .then ?_
          refine .rK ?_
          refine .ghs (fr 52 [(1, (pt 1 0)), (5, (sc 2 0 1 n4211 c4212)), (6, (zI z4213)), (7, (zB false))]) (hp 3 [(oT tab0), (oC [(zI (Int.ofNat k4217)), (Sl.v 2 s4215)]), (oC q4216)]) (.k [2] [false] [.tmp 1 false, .tmp 5 false] [1, 5, 6, 7] ⟨trE (by kernel_rfl) h4219, trivial⟩) ?_
          refine .join (v := v) (fun y : Nat × Nat × Int × Bool × Int × Sl × List Value => ((fr 52 [(1, (pt 1 0)), (5, (sc 2 0 1 y.1 y.2.1)), (6, (zI y.2.2.1)), (7, (zB y.2.2.2.1))]), (hp 3 [(oT tab0), (oC [(zI y.2.2.2.2.1), (Sl.v 2 y.2.2.2.2.2.1)]), (oC y.2.2.2.2.2.2)]))) (fun y => m14_3 pu n (l14_1 pu n w0) y.1 y.2.1 y.2.2.1 y.2.2.2.1 y.2.2.2.2.1 y.2.2.2.2.2.1 y.2.2.2.2.2.2) ?_ ?_
          · rintro ⟨n7899, c7900, z7901, b7902, z7903, s7904, q7905⟩ hm
            unfold m14_3 at hm
            refine .then ?_
            refine .rK ?_
            replace hm := bb_inv hm; obtain ⟨h7906, hm⟩ := hm
            refine .ghs (fr 52 [(1, (pt 1 0)), (5, (sc 2 0 1 n7899 c7900)), (6, (zI z7901)), (43, (zB b7902))]) (hp 3 [(oT tab0), (oC [(zI z7903), (Sl.v 2 s7904)]), (oC q7905)]) (.k [2] [false] [.tmp 1 false, .tmp 5 false] [1, 5, 6, 43] ⟨trE (by kernel_rfl) h7906, trivial⟩) ?_
            have hq := bb_cases hm; clear hm; rcases hq with ⟨h7907, hm⟩ | ⟨h7907, hm⟩
            · refine .ifT b7902 (by kernel_rfl) h7907 ?_
              have hq := oo_inv hm; clear hm; obtain ⟨v7908, h7909, hm⟩ := hq
              have hq := oo_inv hm; clear hm; obtain ⟨s7910, h7911, hm⟩ := hq
              obtain rfl := toSl_some h7911
              replace hm := bb_inv hm; obtain ⟨h7912, hm⟩ := hm
              refine .reg (eC 4 ((oo (pu 46 [(zI z7903), (zI z7901)]) none fun v => some (v, (hp 3 [(oT tab0), (oC [(zI z7903), (Sl.v 2 s7904)]), (oC q7905)])))) (call_eq h7909) (eC 1 (growD 1 24 n7899 c7900 1 2 q7905 [(Sl.v 1 s7910)] [] (hp 4 [(oT tab0), (oC [(zI z7903), (Sl.v 2 s7904)]), (oC q7905), (oC [(Sl.v 1 s7910)])])) (growD_eq h7912) (eE))) ?_
              replace hm := bb_inv hm; obtain ⟨h7913, hm⟩ := hm
              exact ⟨((n7899 + 1), (d2 (n7899 + 1)), z7901, z7903, s7904, (appL (dropL 0 q7905) [(Sl.v 1 s7910)])), hm, (.k [4] [false] [.tmp 1 false, .tmp 5 false] [1, 5, 6] ⟨trE (by kernel_rfl) h7913, trivial⟩)⟩
            · refine .ifF b7902 (by kernel_rfl) h7907 ?_
              refine .skip ?_
              exact ⟨(n7899, c7900, z7901, z7903, s7904, q7905), hm, (.k [2] [false] [.tmp 1 false, .tmp 5 false] [1, 5, 6] ⟨trE (by kernel_rfl) h7906, trivial⟩)⟩
          · skip
            refine .then ?_
            refine .rK ?_
            refine .ghs (fr 52 [(1, (pt 1 0)), (5, (sc 2 0 1 n4211 c4212)), (6, (zI z4213)), (7, (zB false)), (8, (zI (0 : Int)))]) (hp 3 [(oT tab0), (oC [(zI (Int.ofNat k4217)), (Sl.v 2 s4215)]), (oC q4216)]) (.k [2] [false] [.tmp 1 false, .tmp 5 false] [1, 5, 6, 7, 8] ⟨trE (by kernel_rfl) h4219, trivial⟩) ?_
            refine .block ?_
            refine .loopM (v := v) (fun y : Nat × Nat × Int × Bool × Int × Int × Sl × List Value => ((fr 52 [(1, (pt 1 0)), (5, (sc 2 0 1 y.1 y.2.1)), (6, (zI y.2.2.1)), (7, (zB y.2.2.2.1)), (8, (zI y.2.2.2.2.1))]), (hp 3 [(oT tab0), (oC [(zI y.2.2.2.2.2.1), (Sl.v 2 y.2.2.2.2.2.2.1)]), (oC y.2.2.2.2.2.2.2)]))) (fun w y => l14_4 pu n (l14_1 pu n w0) w y.1 y.2.1 y.2.2.1 y.2.2.2.1 y.2.2.2.2.1 y.2.2.2.2.2.1 y.2.2.2.2.2.2.1 y.2.2.2.2.2.2.2) n ⟨(n4211, c4212, z4213, false, (0 : Int), (Int.ofNat k4217), s4215, q4216), hm, (.k [2] [false] [.tmp 1 false, .tmp 5 false] [1, 5, 6, 7, 8] ⟨trE (by kernel_rfl) h4219, trivial⟩)⟩ (fun _ => rfl) ?_
            rintro w1 ⟨n7914, c7915, z7916, b7917, z7918, z7919, s7920, q7921⟩ hm
            refine .then ?_
            refine .join (v := v) (fun y : Nat × Nat × Int × Bool × Int × Bool × Int × Sl × List Value => ((fr 52 [(1, (pt 1 0)), (5, (sc 2 0 1 y.1 y.2.1)), (6, (zI y.2.2.1)), (7, (zB y.2.2.2.1)), (8, (zI y.2.2.2.2.1)), (29, (zB y.2.2.2.2.2.1))]), (hp 3 [(oT tab0), (oC [(zI y.2.2.2.2.2.2.1), (Sl.v 2 y.2.2.2.2.2.2.2.1)]), (oC y.2.2.2.2.2.2.2.2)]))) (fun y => m14_5 pu n (l14_1 pu n w0) (l14_4 pu n (l14_1 pu n w0) w1) y.1 y.2.1 y.2.2.1 y.2.2.2.1 y.2.2.2.2.1 y.2.2.2.2.2.1 y.2.2.2.2.2.2.1 y.2.2.2.2.2.2.2.1 y.2.2.2.2.2.2.2.2) ?_ ?_
            · rintro ⟨n8001, c8002, z8003, b8004, z8005, b8006, z8007, s8008, q8009⟩ hm
              unfold m14_5 at hm
              have hq := bb_cases hm; clear hm; rcases hq with ⟨h8010, hm⟩ | ⟨h8010, hm⟩
              · refine .ifT b8006 (by kernel_rfl) h8010 ?_
                refine .skip ?_
                replace hm := bb_inv hm; obtain ⟨h8011, hm⟩ := hm
                refine .ghs (fr 52 [(1, (pt 1 0)), (5, (sc 2 0 1 n8001 c8002)), (6, (zI z8003)), (8, (zI z8005))]) (hp 3 [(oT tab0), (oC [(zI z8007), (Sl.v 2 s8008)]), (oC q8009)]) (.k [2] [false] [.tmp 1 false, .tmp 5 false] [1, 5, 6, 8] ⟨trE (by kernel_rfl) h8011, trivial⟩) ?_
                refine .then ?_
                refine .block ?_
                have hq := oo_inv hm; clear hm; obtain ⟨v8012, h8013, hm⟩ := hq
                have hq := oo_inv hm; clear hm; obtain ⟨s8014, h8015, hm⟩ := hq
                obtain rfl := toSl_some h8015
                have hq := oo_inv hm; clear hm; obtain ⟨v8016, h8017, hm⟩ := hq
                have hq := oo_inv hm; clear hm; obtain ⟨s8018, h8019, hm⟩ := hq
                obtain rfl := toSl_some h8019
                have hq := oo_inv hm; clear hm; obtain ⟨v8020, h8021, hm⟩ := hq
                have hq := oo_inv hm; clear hm; obtain ⟨s8022, h8023, hm⟩ := hq
                obtain rfl := toSl_some h8023
                have hq := oo_inv hm; clear hm; obtain ⟨v8024, h8025, hm⟩ := hq
                have hq := oo_inv hm; clear hm; obtain ⟨b8026, h8027, hm⟩ := hq
                obtain rfl := vBool_some h8027
                refine .reg (eC 7 ((oo (pu 46 [(zI z8007), (zI z8005)]) none fun v => some (v, (hp 3 [(oT tab0), (oC [(zI z8007), (Sl.v 2 s8008)]), (oC q8009)])))) (call_eq h8013) (eD ((oo (pu 45 [(.agg ⟨[(zI z8007), (Sl.v 2 s8008)]⟩), (Sl.v 1 s8014), (zI (-1 : Int))]) none fun v => some (v, (hp 3 [(oT tab0), (oC [(zI z8007), (Sl.v 2 s8008)]), (oC q8009)])))) (call_eq h8017) (eD ((oo (pu 46 [(zI z8007), (zI z8003)]) none fun v => some (v, (hp 3 [(oT tab0), (oC [(zI z8007), (Sl.v 2 s8008)]), (oC q8009)])))) (call_eq h8021) (eD ((oo (pu 49 [(Sl.v 1 s8018), (Sl.v 1 s8022)]) none fun v => some (v, (hp 3 [(oT tab0), (oC [(zI z8007), (Sl.v 2 s8008)]), (oC q8009)])))) (call_eq h8025) (eE))))) ?_
                refine .ghs (fr 52 [(1, (pt 1 0)), (5, (sc 2 0 1 n8001 c8002)), (6, (zI z8003)), (7, (zB b8026)), (8, (zI z8005))]) (hp 3 [(oT tab0), (oC [(zI z8007), (Sl.v 2 s8008)]), (oC q8009)]) (.k [2] [false] [.tmp 1 false, .tmp 5 false] [1, 5, 6, 7, 8] ⟨trE (by kernel_rfl) h8011, trivial⟩) ?_
                refine .rK ?_
                exact ⟨(n8001, c8002, z8003, b8026, (wrapF .i64 (Int.add z8005 (1 : Int))), z8007, s8008, q8009), hm, (.k [2] [false] [.tmp 1 false, .tmp 5 false] [1, 5, 6, 7, 8] ⟨trE (by kernel_rfl) h8011, trivial⟩)⟩
              · refine .ifF b8006 (by kernel_rfl) h8010 ?_
                refine .exit ?_
                replace hm := bb_inv hm; obtain ⟨h8028, hm⟩ := hm
                exact ⟨(n8001, c8002, z8003, b8004, z8007, s8008, q8009), hm, (.k [2] [false] [.tmp 1 false, .tmp 5 false] [1, 5, 6, 7] ⟨trE (by kernel_rfl) h8028, trivial⟩)⟩
            · skip
              have hq := oo_inv hm; clear hm; obtain ⟨k8029, h8030, hm⟩ := hq
              obtain rfl := toN_some h8030
              have hq := bb_cases hm; clear hm; rcases hq with ⟨h8031, hm⟩ | ⟨h8031, hm⟩
              · skip
                refine .reg (eC 4 (some ((zB (ilt z7918 (shlI .i64 (1 : Int) k8029))), (hp 3 [(oT tab0), (oC [(zI (Int.ofNat k8029)), (Sl.v 2 s7920)]), (oC q7921)]))) (show _ = some ((zB true), _) from (by rw [h8031])) (eE)) ?_
                replace hm := bb_inv hm; obtain ⟨h8032, hm⟩ := hm
                exact ⟨(n7914, c7915, z7916, b7917, z7918, (nt b7917), (Int.ofNat k8029), s7920, q7921), hm, (.k [2] [false] [.tmp 1 false, .tmp 5 false] [1, 5, 6, 7, 8, 29] ⟨trE (by kernel_rfl) h8032, trivial⟩)⟩
              · skip
                refine .reg (eC 4 (some ((zB (ilt z7918 (shlI .i64 (1 : Int) k8029))), (hp 3 [(oT tab0), (oC [(zI (Int.ofNat k8029)), (Sl.v 2 s7920)]), (oC q7921)]))) (show _ = some ((zB false), _) from (by rw [h8031])) (eE)) ?_
                replace hm := bb_inv hm; obtain ⟨h8033, hm⟩ := hm
                exact ⟨(n7914, c7915, z7916, b7917, z7918, false, (Int.ofNat k8029), s7920, q7921), hm, (.k [2] [false] [.tmp 1 false, .tmp 5 false] [1, 5, 6, 7, 8, 29] ⟨trE (by kernel_rfl) h8033, trivial⟩)⟩
      · refine .ifF (ilt z4213 (shlI .i64 (1 : Int) k4217)) (by kernel_rfl) h4220 ?_
        refine .exit ?_
        exact ⟨(n4211, c4212, q4216), hm, (.k [2] [false] [.tmp 5 false] [5] ⟨trE (by kernel_rfl) h4219, trivial⟩)⟩
/-- spadille/spadillelaw07.same -/
def m15_0 (pu : PureF) (n : Nat) : Option Value :=
  (some (.bool true))
def b15_1 (pu : PureF) (n : Nat) (ih0 : Sl → Sl → Int → Option Value) (s8056 : Sl) (s8057 : Sl) (z8058 : Int) : Option Value :=
  (bb (ilt z8058 (Int.ofNat (Sl.n s8056))) (oo (toN z8058) none fun k8060 => (bb (an (Nat.blt k8060 (Sl.n s8056)) true) (oo (nthL (Sl.cs s8056) (k8060 * 1)) none fun v8063 => (oo (toI .i64 v8063) none fun x8065 => (bb (an (Nat.blt k8060 (Sl.n s8057)) true) (oo (nthL (Sl.cs s8057) (k8060 * 1)) none fun v8068 => (oo (toI .i64 v8068) none fun x8070 => (bb (nt (ieq x8065 x8070)) (some (.bool false)) (ih0 s8056 s8057 (wrapF .i64 (Int.add (Int.ofNat k8060) (1 : Int))))))) none))) none)) (m15_0 pu n))
def l15_1 (pu : PureF) (n : Nat) (w : Nat) : Sl → Sl → Int → Option Value :=
  Nat.rec (motive := fun _ => Sl → Sl → Int → Option Value) (fun _ _ _ => none) (fun _ ih0 => b15_1 pu n ih0) w
def m15_ (pu : PureF) (n : Nat) (s8034 : Sl) (s8036 : Sl) : Option Value :=
  (bb (nt (ieq (Int.ofNat (Sl.n s8034)) (Int.ofNat (Sl.n s8036)))) (some (.bool false)) (l15_1 pu n n s8034 s8036 (0 : Int)))
def m15 (pu : PureF) (n : Nat) (args : List Value) : Option Value :=
  (ll args none fun a0 args => (ll args none fun a1 args => (ll args (oo (toSl 1 a0) none fun s8034 => (oo (toSl 1 a1) none fun s8036 => (m15_ pu n s8034 s8036))) fun _ _ => none)))
theorem r15 {call : CallF} (pu : PureF) (n : Nat) (hcall : call = callP tabs isP pu (inl pu)) {args : List Value} {v : Value} (hm : m15 pu n args = some v) (_ : ∀ x ∈ args, closed2 x = true) : args.length ≤ 26 ∧ Run tt call 1 c15_26 (Fr.made 26 args) (pureHeap tabs) (Fin tt 1 [.tmp 4] v) := by
  subst hcall
  unfold m15 at hm
  have hq := ll_uncons hm; clear hm; obtain ⟨a0, args_0, rfl, hm⟩ := hq
  have hq := ll_uncons hm; clear hm; obtain ⟨a1, args_1, rfl, hm⟩ := hq
  have hq := ll_end hm; clear hm; obtain ⟨rfl, hm⟩ := hq
  have hq := oo_inv hm; clear hm; obtain ⟨s8034, h8035, hm⟩ := hq
  obtain rfl := toSl_some h8035
  have hq := oo_inv hm; clear hm; obtain ⟨s8036, h8037, hm⟩ := hq
  obtain rfl := toSl_some h8037
  unfold m15_ at hm
  refine ⟨by simp, ?_⟩
  refine .same (F' := (fr 26 [(0, (Sl.v 1 s8034)), (1, (Sl.v 1 s8036))])) (H' := (hp 1 [(oT tab0)])) (by kernel_rfl) (by kernel_rfl) ?_
  refine .then ?_
  refine .rK ?_
  refine .ghs (fr 26 [(0, (Sl.v 1 s8034)), (1, (Sl.v 1 s8036))]) (hp 1 [(oT tab0)]) (.k0 [false] [] [0, 1]) ?_
  refine .then ?_
  refine .then ?_
  refine .rK ?_
  refine .ghs (fr 26 [(0, (Sl.v 1 s8034)), (1, (Sl.v 1 s8036)), (10, (zB (nt (ieq (Int.ofNat (Sl.n s8034)) (Int.ofNat (Sl.n s8036))))))]) (hp 1 [(oT tab0)]) (.k0 [false] [] [0, 1, 10]) ?_
  have hq := bb_cases hm; clear hm; rcases hq with ⟨h8038, hm⟩ | ⟨h8038, hm⟩
  · refine .ifT (nt (ieq (Int.ofNat (Sl.n s8034)) (Int.ofNat (Sl.n s8036)))) (by kernel_rfl) h8038 ?_
    refine .then ?_
    refine .rK ?_
    refine .ghs (fr 26 [(4, (zB false))]) (hp 1 [(oT tab0)]) (.k0 [false] [] [4]) ?_
    refine .ret ?_
    exact fin_ret (zB false) (by kernel_rfl) (by kernel_rfl) hm
  · refine .ifF (nt (ieq (Int.ofNat (Sl.n s8034)) (Int.ofNat (Sl.n s8036)))) (by kernel_rfl) h8038 ?_
    refine .skip ?_
    refine .ghs (fr 26 [(0, (Sl.v 1 s8034)), (1, (Sl.v 1 s8036))]) (hp 1 [(oT tab0)]) (.k0 [false] [] [0, 1]) ?_
    refine .join (v := v) (fun y : Unit => ((fr 26 []), (hp 1 [(oT tab0)]))) (fun y => m15_0 pu n) ?_ ?_
    · rintro _ hm
      unfold m15_0 at hm
      refine .then ?_
      refine .rK ?_
      refine .ghs (fr 26 [(4, (zB true))]) (hp 1 [(oT tab0)]) (.k0 [false] [] [4]) ?_
      refine .ret ?_
      exact fin_ret (zB true) (by kernel_rfl) (by kernel_rfl) hm
    · skip
      refine .then ?_
      refine .rK ?_
      refine .ghs (fr 26 [(0, (Sl.v 1 s8034)), (1, (Sl.v 1 s8036)), (5, (zI (0 : Int)))]) (hp 1 [(oT tab0)]) (.k0 [false] [] [0, 1, 5]) ?_
      refine .block ?_
      refine .loopM (v := v) (fun y : Sl × Sl × Int => ((fr 26 [(0, (Sl.v 1 y.1)), (1, (Sl.v 1 y.2.1)), (5, (zI y.2.2))]), (hp 1 [(oT tab0)]))) (fun w y => l15_1 pu n w y.1 y.2.1 y.2.2) n ⟨(s8034, s8036, (0 : Int)), hm, (.k0 [false] [] [0, 1, 5])⟩ (fun _ => rfl) ?_
      rintro w0 ⟨s8056, s8057, z8058⟩ hm
      refine .then ?_
      refine .then ?_
      refine .rK ?_
      refine .ghs (fr 26 [(0, (Sl.v 1 s8056)), (1, (Sl.v 1 s8057)), (5, (zI z8058)), (14, (zB (ilt z8058 (Int.ofNat (Sl.n s8056)))))]) (hp 1 [(oT tab0)]) (.k0 [false] [] [0, 1, 5, 14]) ?_
      have hq := bb_cases hm; clear hm; rcases hq with ⟨h8059, hm⟩ | ⟨h8059, hm⟩
      · refine .ifT (ilt z8058 (Int.ofNat (Sl.n s8056))) (by kernel_rfl) h8059 ?_
        refine .skip ?_
        refine .ghs (fr 26 [(0, (Sl.v 1 s8056)), (1, (Sl.v 1 s8057)), (5, (zI z8058))]) (hp 1 [(oT tab0)]) (.k0 [false] [] [0, 1, 5]) ?_
        refine .then ?_
        refine .block ?_
        refine .then ?_
        have hq := oo_inv hm; clear hm; obtain ⟨k8060, h8061, hm⟩ := hq
        obtain rfl := toN_some h8061
        replace hm := bb_inv hm; obtain ⟨h8062, hm⟩ := hm
        have hq := oo_inv hm; clear hm; obtain ⟨v8063, h8064, hm⟩ := hq
        have hq := oo_inv hm; clear hm; obtain ⟨x8065, h8066, hm⟩ := hq
        obtain rfl := toI_some h8066
        replace hm := bb_inv hm; obtain ⟨h8067, hm⟩ := hm
        have hq := oo_inv hm; clear hm; obtain ⟨v8068, h8069, hm⟩ := hq
        have hq := oo_inv hm; clear hm; obtain ⟨x8070, h8071, hm⟩ := hq
        obtain rfl := toI_some h8071
        refine .reg (eC 2 (keep (hp 1 [(oT tab0)]) (bb (an (Nat.blt k8060 (Sl.n s8056)) true) (some (fpV (k8060 * 1) (Sl.cs s8056))) none)) (keep_bb h8062) (eD (keep (hp 1 [(oT tab0)]) (nthL (Sl.cs s8056) (k8060 * 1))) (keep_eq h8064) (eC 2 (keep (hp 1 [(oT tab0)]) (bb (an (Nat.blt k8060 (Sl.n s8057)) true) (some (fpV (k8060 * 1) (Sl.cs s8057))) none)) (keep_bb h8067) (eD (keep (hp 1 [(oT tab0)]) (nthL (Sl.cs s8057) (k8060 * 1))) (keep_eq h8069) (eE))))) ?_
        refine .ghs (fr 26 [(0, (Sl.v 1 s8056)), (1, (Sl.v 1 s8057)), (5, (zI (Int.ofNat k8060))), (25, (zB (nt (ieq x8065 x8070))))]) (hp 1 [(oT tab0)]) (.k0 [false] [] [0, 1, 5, 25]) ?_
        have hq := bb_cases hm; clear hm; rcases hq with ⟨h8072, hm⟩ | ⟨h8072, hm⟩
        · refine .ifT (nt (ieq x8065 x8070)) (by kernel_rfl) h8072 ?_
          refine .then ?_
          refine .rK ?_
          refine .ghs (fr 26 [(4, (zB false))]) (hp 1 [(oT tab0)]) (.k0 [false] [] [4]) ?_
          refine .ret ?_
          exact fin_ret (zB false) (by kernel_rfl) (by kernel_rfl) hm
        · refine .ifF (nt (ieq x8065 x8070)) (by kernel_rfl) h8072 ?_
          refine .skip ?_
          refine .ghs (fr 26 [(0, (Sl.v 1 s8056)), (1, (Sl.v 1 s8057)), (5, (zI (Int.ofNat k8060)))]) (hp 1 [(oT tab0)]) (.k0 [false] [] [0, 1, 5]) ?_
          refine .rK ?_
          exact ⟨(s8056, s8057, (wrapF .i64 (Int.add (Int.ofNat k8060) (1 : Int)))), hm, (.k0 [false] [] [0, 1, 5])⟩
      · refine .ifF (ilt z8058 (Int.ofNat (Sl.n s8056))) (by kernel_rfl) h8059 ?_
        refine .exit ?_
        exact ⟨(), hm, (.k0 [false] [] [])⟩
/-- spadille/spadillelaw07.alike -/
def m16_0 (pu : PureF) (n : Nat) : Option Value :=
  (some (.bool true))
def b16_1 (pu : PureF) (n : Nat) (ih0 : Sl → Sl → Int → Option Value) (s8099 : Sl) (s8100 : Sl) (z8101 : Int) : Option Value :=
  (bb (ilt z8101 (Int.ofNat (Sl.n s8099))) (oo (toN z8101) none fun k8103 => (bb (an (Nat.blt k8103 (Sl.n s8099)) true) (oo (nthL (Sl.cs s8099) (k8103 * 1)) none fun v8106 => (oo (toSl 1 v8106) none fun s8108 => (bb (an (Nat.blt k8103 (Sl.n s8100)) true) (oo (nthL (Sl.cs s8100) (k8103 * 1)) none fun v8111 => (oo (toSl 1 v8111) none fun s8113 => (oo (pu 15 [(Sl.v 1 s8108), (Sl.v 1 s8113)]) none fun v8115 => (oo (vBool v8115) none fun b8117 => (bb (nt b8117) (some (.bool false)) (ih0 s8099 s8100 (wrapF .i64 (Int.add (Int.ofNat k8103) (1 : Int))))))))) none))) none)) (m16_0 pu n))
def l16_1 (pu : PureF) (n : Nat) (w : Nat) : Sl → Sl → Int → Option Value :=
  Nat.rec (motive := fun _ => Sl → Sl → Int → Option Value) (fun _ _ _ => none) (fun _ ih0 => b16_1 pu n ih0) w
def m16_ (pu : PureF) (n : Nat) (s8073 : Sl) (s8075 : Sl) : Option Value :=
  (bb (nt (ieq (Int.ofNat (Sl.n s8073)) (Int.ofNat (Sl.n s8075)))) (some (.bool false)) (l16_1 pu n n s8073 s8075 (0 : Int)))
def m16 (pu : PureF) (n : Nat) (args : List Value) : Option Value :=
  (ll args none fun a0 args => (ll args none fun a1 args => (ll args (oo (toSl 1 a0) none fun s8073 => (oo (toSl 1 a1) none fun s8075 => (m16_ pu n s8073 s8075))) fun _ _ => none)))
theorem r16 {call : CallF} (pu : PureF) (n : Nat) (hcall : call = callP tabs isP pu (inl pu)) {args : List Value} {v : Value} (hm : m16 pu n args = some v) (_ : ∀ x ∈ args, closed2 x = true) : args.length ≤ 27 ∧ Run tt call 1 c16_26 (Fr.made 27 args) (pureHeap tabs) (Fin tt 1 [.tmp 4] v) := by
  subst hcall
  unfold m16 at hm
  have hq := ll_uncons hm; clear hm; obtain ⟨a0, args_0, rfl, hm⟩ := hq
  have hq := ll_uncons hm; clear hm; obtain ⟨a1, args_1, rfl, hm⟩ := hq
  have hq := ll_end hm; clear hm; obtain ⟨rfl, hm⟩ := hq
  have hq := oo_inv hm; clear hm; obtain ⟨s8073, h8074, hm⟩ := hq
  obtain rfl := toSl_some h8074
  have hq := oo_inv hm; clear hm; obtain ⟨s8075, h8076, hm⟩ := hq
  obtain rfl := toSl_some h8076
  unfold m16_ at hm
  refine ⟨by simp, ?_⟩
  refine .same (F' := (fr 27 [(0, (Sl.v 1 s8073)), (1, (Sl.v 1 s8075))])) (H' := (hp 1 [(oT tab0)])) (by kernel_rfl) (by kernel_rfl) ?_
  refine .then ?_
  refine .rK ?_
  refine .ghs (fr 27 [(0, (Sl.v 1 s8073)), (1, (Sl.v 1 s8075))]) (hp 1 [(oT tab0)]) (.k0 [false] [] [0, 1]) ?_
  refine .then ?_
  refine .then ?_
  refine .rK ?_
  refine .ghs (fr 27 [(0, (Sl.v 1 s8073)), (1, (Sl.v 1 s8075)), (10, (zB (nt (ieq (Int.ofNat (Sl.n s8073)) (Int.ofNat (Sl.n s8075))))))]) (hp 1 [(oT tab0)]) (.k0 [false] [] [0, 1, 10]) ?_
  have hq := bb_cases hm; clear hm; rcases hq with ⟨h8077, hm⟩ | ⟨h8077, hm⟩
  · refine .ifT (nt (ieq (Int.ofNat (Sl.n s8073)) (Int.ofNat (Sl.n s8075)))) (by kernel_rfl) h8077 ?_
    refine .then ?_
    refine .rK ?_
    refine .ghs (fr 27 [(4, (zB false))]) (hp 1 [(oT tab0)]) (.k0 [false] [] [4]) ?_
    refine .ret ?_
    exact fin_ret (zB false) (by kernel_rfl) (by kernel_rfl) hm
  · refine .ifF (nt (ieq (Int.ofNat (Sl.n s8073)) (Int.ofNat (Sl.n s8075)))) (by kernel_rfl) h8077 ?_
    refine .skip ?_
    refine .ghs (fr 27 [(0, (Sl.v 1 s8073)), (1, (Sl.v 1 s8075))]) (hp 1 [(oT tab0)]) (.k0 [false] [] [0, 1]) ?_
    refine .join (v := v) (fun y : Unit => ((fr 27 []), (hp 1 [(oT tab0)]))) (fun y => m16_0 pu n) ?_ ?_
    · rintro _ hm
      unfold m16_0 at hm
      refine .then ?_
      refine .rK ?_
      refine .ghs (fr 27 [(4, (zB true))]) (hp 1 [(oT tab0)]) (.k0 [false] [] [4]) ?_
      refine .ret ?_
      exact fin_ret (zB true) (by kernel_rfl) (by kernel_rfl) hm
    · skip
      refine .then ?_
      refine .rK ?_
      refine .ghs (fr 27 [(0, (Sl.v 1 s8073)), (1, (Sl.v 1 s8075)), (5, (zI (0 : Int)))]) (hp 1 [(oT tab0)]) (.k0 [false] [] [0, 1, 5]) ?_
      refine .block ?_
      refine .loopM (v := v) (fun y : Sl × Sl × Int => ((fr 27 [(0, (Sl.v 1 y.1)), (1, (Sl.v 1 y.2.1)), (5, (zI y.2.2))]), (hp 1 [(oT tab0)]))) (fun w y => l16_1 pu n w y.1 y.2.1 y.2.2) n ⟨(s8073, s8075, (0 : Int)), hm, (.k0 [false] [] [0, 1, 5])⟩ (fun _ => rfl) ?_
      rintro w0 ⟨s8099, s8100, z8101⟩ hm
      refine .then ?_
      refine .then ?_
      refine .rK ?_
      refine .ghs (fr 27 [(0, (Sl.v 1 s8099)), (1, (Sl.v 1 s8100)), (5, (zI z8101)), (14, (zB (ilt z8101 (Int.ofNat (Sl.n s8099)))))]) (hp 1 [(oT tab0)]) (.k0 [false] [] [0, 1, 5, 14]) ?_
      have hq := bb_cases hm; clear hm; rcases hq with ⟨h8102, hm⟩ | ⟨h8102, hm⟩
      · refine .ifT (ilt z8101 (Int.ofNat (Sl.n s8099))) (by kernel_rfl) h8102 ?_
        refine .skip ?_
        refine .ghs (fr 27 [(0, (Sl.v 1 s8099)), (1, (Sl.v 1 s8100)), (5, (zI z8101))]) (hp 1 [(oT tab0)]) (.k0 [false] [] [0, 1, 5]) ?_
        refine .then ?_
        refine .block ?_
        refine .then ?_
        have hq := oo_inv hm; clear hm; obtain ⟨k8103, h8104, hm⟩ := hq
        obtain rfl := toN_some h8104
        replace hm := bb_inv hm; obtain ⟨h8105, hm⟩ := hm
        have hq := oo_inv hm; clear hm; obtain ⟨v8106, h8107, hm⟩ := hq
        have hq := oo_inv hm; clear hm; obtain ⟨s8108, h8109, hm⟩ := hq
        obtain rfl := toSl_some h8109
        replace hm := bb_inv hm; obtain ⟨h8110, hm⟩ := hm
        have hq := oo_inv hm; clear hm; obtain ⟨v8111, h8112, hm⟩ := hq
        have hq := oo_inv hm; clear hm; obtain ⟨s8113, h8114, hm⟩ := hq
        obtain rfl := toSl_some h8114
        have hq := oo_inv hm; clear hm; obtain ⟨v8115, h8116, hm⟩ := hq
        have hq := oo_inv hm; clear hm; obtain ⟨b8117, h8118, hm⟩ := hq
        obtain rfl := vBool_some h8118
        refine .reg (eC 2 (keep (hp 1 [(oT tab0)]) (bb (an (Nat.blt k8103 (Sl.n s8099)) true) (some (fpV (k8103 * 1) (Sl.cs s8099))) none)) (keep_bb h8105) (eD (keep (hp 1 [(oT tab0)]) (nthL (Sl.cs s8099) (k8103 * 1))) (keep_eq h8107) (eC 2 (keep (hp 1 [(oT tab0)]) (bb (an (Nat.blt k8103 (Sl.n s8100)) true) (some (fpV (k8103 * 1) (Sl.cs s8100))) none)) (keep_bb h8110) (eD (keep (hp 1 [(oT tab0)]) (nthL (Sl.cs s8100) (k8103 * 1))) (keep_eq h8112) (eD ((oo (pu 15 [(Sl.v 1 s8108), (Sl.v 1 s8113)]) none fun v => some (v, (hp 1 [(oT tab0)])))) (call_eq h8116) (eE)))))) ?_
        refine .ghs (fr 27 [(0, (Sl.v 1 s8099)), (1, (Sl.v 1 s8100)), (5, (zI (Int.ofNat k8103))), (26, (zB (nt b8117)))]) (hp 1 [(oT tab0)]) (.k0 [false] [] [0, 1, 5, 26]) ?_
        have hq := bb_cases hm; clear hm; rcases hq with ⟨h8119, hm⟩ | ⟨h8119, hm⟩
        · refine .ifT (nt b8117) (by kernel_rfl) h8119 ?_
          refine .then ?_
          refine .rK ?_
          refine .ghs (fr 27 [(4, (zB false))]) (hp 1 [(oT tab0)]) (.k0 [false] [] [4]) ?_
          refine .ret ?_
          exact fin_ret (zB false) (by kernel_rfl) (by kernel_rfl) hm
        · refine .ifF (nt b8117) (by kernel_rfl) h8119 ?_
          refine .skip ?_
          refine .ghs (fr 27 [(0, (Sl.v 1 s8099)), (1, (Sl.v 1 s8100)), (5, (zI (Int.ofNat k8103)))]) (hp 1 [(oT tab0)]) (.k0 [false] [] [0, 1, 5]) ?_
          refine .rK ?_
          exact ⟨(s8099, s8100, (wrapF .i64 (Int.add (Int.ofNat k8103) (1 : Int)))), hm, (.k0 [false] [] [0, 1, 5])⟩
      · refine .ifF (ilt z8101 (Int.ofNat (Sl.n s8099))) (by kernel_rfl) h8102 ?_
        refine .exit ?_
        exact ⟨(), hm, (.k0 [false] [] [])⟩
/-- spadille/table.checked -/

def m38_ (pu : PureF) (n : Nat) (x8124 : Int) (s8126 : Sl) : Option Value :=
  (bb (allL closed1 zA73) (oo (pu 50 [(.agg ⟨[(.int .i64 x8124), (Sl.v 2 s8126)]⟩)]) none fun v8129 => (oo (toI .i64 v8129) none fun x8131 => (bb (nt (ieq x8131 (0 : Int))) (bb (an (Nat.ble (0 + 14) (len zA73)) true) (bb (allL closed1 (setL ([(.int .u64 (0 : Int)), (.int .u64 (0 : Int)), (.int .u64 (0 : Int)), (.int .u64 (0 : Int)), (.int .u64 (0 : Int)), (.int .u64 (0 : Int)), (.int .u64 (0 : Int)), (.int .u64 (0 : Int)), (.int .u64 (0 : Int)), (.int .u64 (0 : Int)), (.int .u64 (0 : Int)), (.int .u64 (0 : Int)), (.int .u64 (0 : Int)), (.int .u64 (0 : Int))] : List Value) 0 zA73)) (bb (Nat.ble (0 + 14) (len (setL ([(.int .u64 (0 : Int)), (.int .u64 (0 : Int)), (.int .u64 (0 : Int)), (.int .u64 (0 : Int)), (.int .u64 (0 : Int)), (.int .u64 (0 : Int)), (.int .u64 (0 : Int)), (.int .u64 (0 : Int)), (.int .u64 (0 : Int)), (.int .u64 (0 : Int)), (.int .u64 (0 : Int)), (.int .u64 (0 : Int)), (.int .u64 (0 : Int)), (.int .u64 (0 : Int))] : List Value) 0 zA73))) (bb (closedV (.tuple ⟨[(.agg ⟨(takeL 14 (dropL 0 (setL ([(.int .u64 (0 : Int)), (.int .u64 (0 : Int)), (.int .u64 (0 : Int)), (.int .u64 (0 : Int)), (.int .u64 (0 : Int)), (.int .u64 (0 : Int)), (.int .u64 (0 : Int)), (.int .u64 (0 : Int)), (.int .u64 (0 : Int)), (.int .u64 (0 : Int)), (.int .u64 (0 : Int)), (.int .u64 (0 : Int)), (.int .u64 (0 : Int)), (.int .u64 (0 : Int))] : List Value) 0 zA73)))⟩), (.int .i64 x8131)]⟩)) (some (.tuple ⟨[(.agg ⟨(takeL 14 (dropL 0 (setL ([(.int .u64 (0 : Int)), (.int .u64 (0 : Int)), (.int .u64 (0 : Int)), (.int .u64 (0 : Int)), (.int .u64 (0 : Int)), (.int .u64 (0 : Int)), (.int .u64 (0 : Int)), (.int .u64 (0 : Int)), (.int .u64 (0 : Int)), (.int .u64 (0 : Int)), (.int .u64 (0 : Int)), (.int .u64 (0 : Int)), (.int .u64 (0 : Int)), (.int .u64 (0 : Int))] : List Value) 0 zA73)))⟩), (.int .i64 x8131)]⟩)) none) none) none) none) (oo (pu 51 [(.int .i64 x8124)]) none fun v8138 => (oo (vAgg v8138) none fun q8140 => (bb (an (Nat.beq (len q8140) 14) (allL closed1 q8140)) (oo (pu 53 [(.agg ⟨q8140⟩), (Sl.v 2 s8126)]) none fun v8143 => (oo (vAgg v8143) none fun q8145 => (bb (an (Nat.beq (len q8145) 14) (allL closed1 q8145)) (bb (allL closed2 [(.agg ⟨q8140⟩), (Sl.v 2 s8126)]) (bb (Nat.beq (len q8145) 14) (bb (an (Nat.ble (0 + len q8145) (len zA73)) (allL scalarB q8145)) (bb (allL closed1 (setL q8145 0 zA73)) (bb (Nat.ble (0 + 14) (len (setL q8145 0 zA73))) (bb (closedV (.tuple ⟨[(.agg ⟨(takeL 14 (dropL 0 (setL q8145 0 zA73)))⟩), (.int .i64 (0 : Int))]⟩)) (some (.tuple ⟨[(.agg ⟨(takeL 14 (dropL 0 (setL q8145 0 zA73)))⟩), (.int .i64 (0 : Int))]⟩)) none) none) none) none) none) none) none))) none)))))) none)
def m38 (pu : PureF) (n : Nat) (args : List Value) : Option Value :=
  (ll args none fun a0 args => (ll args (oo (vAgg a0) none fun l8120 => (ll l8120 none fun v8122 l8120 => (ll l8120 none fun v8123 l8120 => (ll l8120 (oo (toI .i64 v8122) none fun x8124 => (oo (toSl 2 v8123) none fun s8126 => (m38_ pu n x8124 s8126))) fun _ _ => none)))) fun _ _ => none))
theorem r38 {call : CallF} (pu : PureF) (n : Nat) (hcall : call = callP tabs isP pu (inl pu)) {args : List Value} {v : Value} (hm : m38 pu n args = some v) (_ : ∀ x ∈ args, closed2 x = true) : args.length ≤ 17 ∧ Run tt call 1 c38_11 (Fr.made 17 args) (pureHeap tabs) (Fin tt 1 [.cell 2 73, .tmp 3] v) := by
  subst hcall
  unfold m38 at hm
  have hq := ll_uncons hm; clear hm; obtain ⟨a0, args_0, rfl, hm⟩ := hq
  have hq := ll_end hm; clear hm; obtain ⟨rfl, hm⟩ := hq
  have hq := oo_inv hm; clear hm; obtain ⟨l8120, h8121, hm⟩ := hq
  obtain rfl := vAgg_some h8121
  have hq := ll_uncons hm; clear hm; obtain ⟨v8122, l8120_0, rfl, hm⟩ := hq
  have hq := ll_uncons hm; clear hm; obtain ⟨v8123, l8120_1, rfl, hm⟩ := hq
  have hq := ll_end hm; clear hm; obtain ⟨rfl, hm⟩ := hq
  have hq := oo_inv hm; clear hm; obtain ⟨x8124, h8125, hm⟩ := hq
  obtain rfl := toI_some h8125
  have hq := oo_inv hm; clear hm; obtain ⟨s8126, h8127, hm⟩ := hq
  obtain rfl := toSl_some h8127
  unfold m38_ at hm
  refine ⟨by simp, ?_⟩
  refine .same (F' := (fr 17 [(0, (.agg ⟨[(zI x8124), (Sl.v 2 s8126)]⟩))])) (H' := (hp 1 [(oT tab0)])) (by kernel_rfl) (by kernel_rfl) ?_
  refine .then ?_
  refine .rK ?_
  replace hm := bb_inv hm; obtain ⟨h8128, hm⟩ := hm
  refine .ghs (fr 17 [(1, (pt 1 0)), (2, (pt 2 0))]) (hp 3 [(oT tab0), (oC [(zI x8124), (Sl.v 2 s8126)]), (oC zA73)]) (.k [2] [false] [.tmp 1 false, .tmp 2 false] [1, 2] ⟨trE (by kernel_rfl) h8128, trivial⟩) ?_
  refine .then ?_
  refine .then ?_
  have hq := oo_inv hm; clear hm; obtain ⟨v8129, h8130, hm⟩ := hq
  have hq := oo_inv hm; clear hm; obtain ⟨x8131, h8132, hm⟩ := hq
  obtain rfl := toI_some h8132
  refine .reg (eC 1 ((oo (pu 50 [(.agg ⟨[(zI x8124), (Sl.v 2 s8126)]⟩)]) none fun v => some (v, (hp 3 [(oT tab0), (oC [(zI x8124), (Sl.v 2 s8126)]), (oC zA73)])))) (call_eq h8130) (eE)) ?_
  refine .ghs (fr 17 [(1, (pt 1 0)), (2, (pt 2 0)), (4, (zI x8131))]) (hp 3 [(oT tab0), (oC [(zI x8124), (Sl.v 2 s8126)]), (oC zA73)]) (.k [2] [false] [.tmp 1 false, .tmp 2 false] [1, 2, 4] ⟨trE (by kernel_rfl) h8128, trivial⟩) ?_
  refine .then ?_
  refine .rK ?_
  refine .ghs (fr 17 [(1, (pt 1 0)), (2, (pt 2 0)), (4, (zI x8131)), (8, (zB (nt (ieq x8131 (0 : Int)))))]) (hp 3 [(oT tab0), (oC [(zI x8124), (Sl.v 2 s8126)]), (oC zA73)]) (.k [2] [false] [.tmp 1 false, .tmp 2 false] [1, 2, 4, 8] ⟨trE (by kernel_rfl) h8128, trivial⟩) ?_
  have hq := bb_cases hm; clear hm; rcases hq with ⟨h8133, hm⟩ | ⟨h8133, hm⟩
  · refine .ifT (nt (ieq x8131 (0 : Int))) (by kernel_rfl) h8133 ?_
    refine .then ?_
    replace hm := bb_inv hm; obtain ⟨h8134, hm⟩ := hm
    refine .reg (eC 2 (done (bb (an (Nat.ble (0 + 14) (len zA73)) true) (some (hp 3 [(oT tab0), (oC [(zI x8124), (Sl.v 2 s8126)]), (oC (setL ([(zU (0 : Int)), (zU (0 : Int)), (zU (0 : Int)), (zU (0 : Int)), (zU (0 : Int)), (zU (0 : Int)), (zU (0 : Int)), (zU (0 : Int)), (zU (0 : Int)), (zU (0 : Int)), (zU (0 : Int)), (zU (0 : Int)), (zU (0 : Int)), (zU (0 : Int))] : List Value) 0 zA73))])) none) undef) (done_bb h8134) (eE)) ?_
    replace hm := bb_inv hm; obtain ⟨h8135, hm⟩ := hm
    refine .ghs (fr 17 [(2, (pt 1 0)), (3, (zI x8131))]) (hp 2 [(oT tab0), (oC (setL ([(zU (0 : Int)), (zU (0 : Int)), (zU (0 : Int)), (zU (0 : Int)), (zU (0 : Int)), (zU (0 : Int)), (zU (0 : Int)), (zU (0 : Int)), (zU (0 : Int)), (zU (0 : Int)), (zU (0 : Int)), (zU (0 : Int)), (zU (0 : Int)), (zU (0 : Int))] : List Value) 0 zA73))]) (.k [2] [false] [.tmp 2 false] [2, 3] ⟨trE (by kernel_rfl) h8135, trivial⟩) ?_
    refine .ret ?_
    replace hm := bb_inv hm; obtain ⟨h8136, hm⟩ := hm
    replace hm := bb_inv hm; obtain ⟨h8137, hm⟩ := hm
    exact fin_ret (.tuple ⟨[(.agg ⟨(takeL 14 (dropL 0 (setL ([(zU (0 : Int)), (zU (0 : Int)), (zU (0 : Int)), (zU (0 : Int)), (zU (0 : Int)), (zU (0 : Int)), (zU (0 : Int)), (zU (0 : Int)), (zU (0 : Int)), (zU (0 : Int)), (zU (0 : Int)), (zU (0 : Int)), (zU (0 : Int)), (zU (0 : Int))] : List Value) 0 zA73)))⟩), (zI x8131)]⟩) (aresults_of (aresultsL_cons (show aresult _ _ _ _ = some (.agg ⟨(takeL 14 (dropL 0 (setL ([(zU (0 : Int)), (zU (0 : Int)), (zU (0 : Int)), (zU (0 : Int)), (zU (0 : Int)), (zU (0 : Int)), (zU (0 : Int)), (zU (0 : Int)), (zU (0 : Int)), (zU (0 : Int)), (zU (0 : Int)), (zU (0 : Int)), (zU (0 : Int)), (zU (0 : Int))] : List Value) 0 zA73)))⟩) from (eq_bb (c := (Nat.ble (0 + 14) (len (setL ([(zU (0 : Int)), (zU (0 : Int)), (zU (0 : Int)), (zU (0 : Int)), (zU (0 : Int)), (zU (0 : Int)), (zU (0 : Int)), (zU (0 : Int)), (zU (0 : Int)), (zU (0 : Int)), (zU (0 : Int)), (zU (0 : Int)), (zU (0 : Int)), (zU (0 : Int))] : List Value) 0 zA73)))) (by kernel_rfl) h8136)) (aresultsL_cons (show aresult _ _ _ _ = some (zI x8131) from (by kernel_rfl)) rfl)) (by kernel_rfl)) h8137 hm
  · refine .ifF (nt (ieq x8131 (0 : Int))) (by kernel_rfl) h8133 ?_
    refine .skip ?_
    refine .ghs (fr 17 [(1, (pt 1 0)), (2, (pt 2 0))]) (hp 3 [(oT tab0), (oC [(zI x8124), (Sl.v 2 s8126)]), (oC zA73)]) (.k [2] [false] [.tmp 1 false, .tmp 2 false] [1, 2] ⟨trE (by kernel_rfl) h8128, trivial⟩) ?_
    refine .then ?_
    have hq := oo_inv hm; clear hm; obtain ⟨v8138, h8139, hm⟩ := hq
    have hq := oo_inv hm; clear hm; obtain ⟨q8140, h8141, hm⟩ := hq
    obtain rfl := vAgg_some h8141
    replace hm := bb_inv hm; obtain ⟨h8142, hm⟩ := hm
    have hq := oo_inv hm; clear hm; obtain ⟨v8143, h8144, hm⟩ := hq
    have hq := oo_inv hm; clear hm; obtain ⟨q8145, h8146, hm⟩ := hq
    obtain rfl := vAgg_some h8146
    replace hm := bb_inv hm; obtain ⟨h8147, hm⟩ := hm
    replace hm := bb_inv hm; obtain ⟨h8148, hm⟩ := hm
    replace hm := bb_inv hm; obtain ⟨h8149, hm⟩ := hm
    replace hm := bb_inv hm; obtain ⟨h8150, hm⟩ := hm
    refine .reg (eC 4 ((oo (pu 51 [(zI x8124)]) none fun v => some (v, (hp 3 [(oT tab0), (oC [(zI x8124), (Sl.v 2 s8126)]), (oC zA73)])))) (call_eq h8139) (eD (bb (allL closed2 [(.agg ⟨q8140⟩), (Sl.v 2 s8126)]) (oo (pu 53 [(.agg ⟨q8140⟩), (Sl.v 2 s8126)]) none fun v => some (v, (hp 3 [(oT tab0), (oC [(zI x8124), (Sl.v 2 s8126)]), (oC zA73)]))) (oo (mapO (purify (hp 3 [(oT tab0), (oC [(zI x8124), (Sl.v 2 s8126)]), (oC zA73)])) [(.agg ⟨q8140⟩), (Sl.v 2 s8126)]) none fun l1 => oo (pu 53 l1) none fun v => bb (plainT v) (some (v, (hp 3 [(oT tab0), (oC [(zI x8124), (Sl.v 2 s8126)]), (oC zA73)]))) none)) (callc_eq h8148 h8144) (eD (done (bb (Nat.beq (len q8145) 14) (bb (an (Nat.ble (0 + len q8145) (len zA73)) (allL scalarB q8145)) (some (hp 3 [(oT tab0), (oC [(zI x8124), (Sl.v 2 s8126)]), (oC (setL q8145 0 zA73))])) none) none) undef) (done_bb2 h8149 h8150) (eE)))) ?_
    replace hm := bb_inv hm; obtain ⟨h8151, hm⟩ := hm
    refine .ghs (fr 17 [(2, (pt 1 0)), (3, (zI (0 : Int)))]) (hp 2 [(oT tab0), (oC (setL q8145 0 zA73))]) (.k [2] [false] [.tmp 2 false] [2, 3] ⟨trE (by kernel_rfl) h8151, trivial⟩) ?_
    refine .ret ?_
    replace hm := bb_inv hm; obtain ⟨h8152, hm⟩ := hm
    replace hm := bb_inv hm; obtain ⟨h8153, hm⟩ := hm
    exact fin_ret (.tuple ⟨[(.agg ⟨(takeL 14 (dropL 0 (setL q8145 0 zA73)))⟩), (zI (0 : Int))]⟩) (aresults_of (aresultsL_cons (show aresult _ _ _ _ = some (.agg ⟨(takeL 14 (dropL 0 (setL q8145 0 zA73)))⟩) from (eq_bb (c := (Nat.ble (0 + 14) (len (setL q8145 0 zA73)))) (by kernel_rfl) h8152)) (aresultsL_cons (show aresult _ _ _ _ = some (zI (0 : Int)) from (by kernel_rfl)) rfl)) (by kernel_rfl)) h8153 hm
/-- (spadille/table.bunch).bad -/
def m39_0 (pu : PureF) (n : Nat) : Option Value :=
  (some (.int .i64 (-1 : Int)))
def m39_2 (pu : PureF) (n : Nat) (ih0 : Int → Int → List Value → Option Value) (z8363 : Int) (z8364 : Int) (q8365 : List Value) : Option Value :=
  (bb (allL closed1 q8365) (ih0 z8363 (wrapF .i64 (Int.add z8364 (1 : Int))) q8365) none)
def m39_3 (pu : PureF) (n : Nat) (ih0 : Int → Int → List Value → Option Value) (z8393 : Int) (z8394 : Int) (z8395 : Int) (z8396 : Int) (q8397 : List Value) : Option Value :=
  (bb (allL closed1 q8397) (bb (nt (ieq z8395 (0 : Int))) (oo (pu 60 [(.int .u64 z8395)]) none fun v8400 => (oo (toI .i64 v8400) none fun x8402 => (some (.int .i64 (wrapF .i64 (Int.add (wrapF .i64 (Int.mul (64 : Int) z8394)) x8402)))))) (m39_2 pu n ih0 z8393 z8396 q8397)) none)
def b39_4 (pu : PureF) (n : Nat) (ih0 : Int → Int → List Value → Option Value) (ih1 : Int → Int → Int → Int → Int → List Value → Option Value) (z8404 : Int) (z8405 : Int) (z8406 : Int) (z8407 : Int) (z8408 : Int) (q8409 : List Value) : Option Value :=
  (bb (allL closed1 q8409) (bb (ilt z8407 z8404) (oo (toN (wrapF .i64 (Int.sub z8407 (1 : Int)))) none fun k8412 => (bb (Nat.blt k8412 7) (oo (toN z8405) none fun k8415 => (bb (Nat.blt k8415 2) (oo (nthL q8409 ((0 + k8412 * 2) + k8415 * 1)) none fun v8418 => (oo (toI .u64 v8418) none fun x8420 => (oo (toN z8407) none fun k8422 => (bb (Nat.blt k8422 7) (bb (Nat.blt k8415 2) (oo (nthL q8409 ((0 + k8422 * 2) + k8415 * 1)) none fun v8426 => (oo (toI .u64 v8426) none fun x8428 => (ih1 z8404 (Int.ofNat k8415) (aor .u64 z8406 (aandNot .u64 x8420 x8428)) (wrapF .i64 (Int.add (Int.ofNat k8422) (1 : Int))) z8408 q8409))) none) none)))) none)) none)) (m39_3 pu n ih0 z8404 z8405 z8406 z8408 q8409)) none)
def l39_4 (pu : PureF) (n : Nat) (ih0 : Int → Int → List Value → Option Value) (w : Nat) : Int → Int → Int → Int → Int → List Value → Option Value :=
  Nat.rec (motive := fun _ => Int → Int → Int → Int → Int → List Value → Option Value) (fun _ _ _ _ _ _ => none) (fun _ ih1 => b39_4 pu n ih0 ih1) w
def b39_1 (pu : PureF) (n : Nat) (ih0 : Int → Int → List Value → Option Value) (z8295 : Int) (z8296 : Int) (q8297 : List Value) : Option Value :=
  (bb (allL closed1 q8297) (bb (ilt z8296 (2 : Int)) (l39_4 pu n ih0 n z8295 z8296 (0 : Int) (1 : Int) z8296 q8297) (m39_0 pu n)) none)
def l39_1 (pu : PureF) (n : Nat) (w : Nat) : Int → Int → List Value → Option Value :=
  Nat.rec (motive := fun _ => Int → Int → List Value → Option Value) (fun _ _ _ => none) (fun _ ih0 => b39_1 pu n ih0) w
def m39_ (pu : PureF) (n : Nat) (q8154 : List Value) (x8157 : Int) : Option Value :=
  (bb (allL closed1 q8154) (l39_1 pu n n x8157 (0 : Int) q8154) none)
def m39 (pu : PureF) (n : Nat) (args : List Value) : Option Value :=
  (ll args none fun a0 args => (ll args none fun a1 args => (ll args (oo (vAgg a0) none fun q8154 => (bb (an (Nat.beq (len q8154) 14) (allL closed1 q8154)) (oo (toI .i64 a1) none fun x8157 => (m39_ pu n q8154 x8157)) none)) fun _ _ => none)))
theorem r39 {call : CallF} (pu : PureF) (n : Nat) (hcall : call = callP tabs isP pu (inl pu)) {args : List Value} {v : Value} (hm : m39 pu n args = some v) (_ : ∀ x ∈ args, closed2 x = true) : args.length ≤ 38 ∧ Run tt call 1 c39_37 (Fr.made 38 args) (pureHeap tabs) (Fin tt 1 [.tmp 4] v) := by
  subst hcall
  unfold m39 at hm
  have hq := ll_uncons hm; clear hm; obtain ⟨a0, args_0, rfl, hm⟩ := hq
  have hq := ll_uncons hm; clear hm; obtain ⟨a1, args_1, rfl, hm⟩ := hq
  have hq := ll_end hm; clear hm; obtain ⟨rfl, hm⟩ := hq
  have hq := oo_inv hm; clear hm; obtain ⟨q8154, h8155, hm⟩ := hq
  obtain rfl := vAgg_some h8155
  replace hm := bb_inv hm; obtain ⟨h8156, hm⟩ := hm
  have hq := oo_inv hm; clear hm; obtain ⟨x8157, h8158, hm⟩ := hq
  obtain rfl := toI_some h8158
  unfold m39_ at hm
  refine ⟨by simp, ?_⟩
  refine .same (F' := (fr 38 [(0, (.agg ⟨q8154⟩)), (1, (zI x8157))])) (H' := (hp 1 [(oT tab0)])) (by kernel_rfl) (by kernel_rfl) ?_
  refine .then ?_
  refine .rK ?_
  replace hm := bb_inv hm; obtain ⟨h8159, hm⟩ := hm
  refine .ghs (fr 38 [(1, (zI x8157)), (2, (pt 1 0))]) (hp 2 [(oT tab0), (oC q8154)]) (.k [1] [false] [.tmp 2 false] [1, 2] ⟨trE (by kernel_rfl) h8159, trivial⟩) ?_
  refine .join (v := v) (fun y : Unit => ((fr 38 []), (hp 1 [(oT tab0)]))) (fun y => m39_0 pu n) ?_ ?_
  · rintro _ hm
    unfold m39_0 at hm
    refine .then ?_
    refine .rK ?_
    refine .ghs (fr 38 [(4, (zI (-1 : Int)))]) (hp 1 [(oT tab0)]) (.k0 [false] [] [4]) ?_
    refine .ret ?_
    exact fin_ret (zI (-1 : Int)) (by kernel_rfl) (by kernel_rfl) hm
  · skip
    refine .then ?_
    refine .rK ?_
    refine .ghs (fr 38 [(1, (zI x8157)), (2, (pt 1 0)), (8, (zI (0 : Int)))]) (hp 2 [(oT tab0), (oC q8154)]) (.k [1] [false] [.tmp 2 false] [1, 2, 8] ⟨trE (by kernel_rfl) h8159, trivial⟩) ?_
    refine .block ?_
    refine .loopM (v := v) (fun y : Int × Int × List Value => ((fr 38 [(1, (zI y.1)), (2, (pt 1 0)), (8, (zI y.2.1))]), (hp 2 [(oT tab0), (oC y.2.2)]))) (fun w y => l39_1 pu n w y.1 y.2.1 y.2.2) n ⟨(x8157, (0 : Int), q8154), hm, (.k [1] [false] [.tmp 2 false] [1, 2, 8] ⟨trE (by kernel_rfl) h8159, trivial⟩)⟩ (fun _ => rfl) ?_
    rintro w0 ⟨z8295, z8296, q8297⟩ hm
    refine .then ?_
    refine .rK ?_
    replace hm := bb_inv hm; obtain ⟨h8298, hm⟩ := hm
    refine .ghs (fr 38 [(1, (zI z8295)), (2, (pt 1 0)), (8, (zI z8296)), (9, (zB (ilt z8296 (2 : Int))))]) (hp 2 [(oT tab0), (oC q8297)]) (.k [1] [false] [.tmp 2 false] [1, 2, 8, 9] ⟨trE (by kernel_rfl) h8298, trivial⟩) ?_
    refine .then ?_
    have hq := bb_cases hm; clear hm; rcases hq with ⟨h8299, hm⟩ | ⟨h8299, hm⟩
    · refine .ifT (ilt z8296 (2 : Int)) (by kernel_rfl) h8299 ?_
      refine .skip ?_
      refine .ghs (fr 38 [(1, (zI z8295)), (2, (pt 1 0)), (8, (zI z8296))]) (hp 2 [(oT tab0), (oC q8297)]) (.k [1] [false] [.tmp 2 false] [1, 2, 8] ⟨trE (by kernel_rfl) h8298, trivial⟩) ?_
      refine .join (v := v) (fun y : Int × Int × List Value => ((fr 38 [(1, (zI y.1)), (2, (pt 1 0)), (8, (zI y.2.1))]), (hp 2 [(oT tab0), (oC y.2.2)]))) (fun y => m39_2 pu n (l39_1 pu n w0) y.1 y.2.1 y.2.2) ?_ ?_
      · rintro ⟨z8363, z8364, q8365⟩ hm
        unfold m39_2 at hm
        refine .rK ?_
        replace hm := bb_inv hm; obtain ⟨h8366, hm⟩ := hm
        exact ⟨(z8363, (wrapF .i64 (Int.add z8364 (1 : Int))), q8365), hm, (.k [1] [false] [.tmp 2 false] [1, 2, 8] ⟨trE (by kernel_rfl) h8366, trivial⟩)⟩
      · skip
        refine .block ?_
        refine .then ?_
        refine .rK ?_
        refine .ghs (fr 38 [(1, (zI z8295)), (2, (pt 1 0)), (5, (zI z8296)), (8, (zI z8296))]) (hp 2 [(oT tab0), (oC q8297)]) (.k [1] [false] [.tmp 2 false] [1, 2, 5, 8] ⟨trE (by kernel_rfl) h8298, trivial⟩) ?_
        refine .then ?_
        refine .rK ?_
        refine .ghs (fr 38 [(1, (zI z8295)), (2, (pt 1 0)), (5, (zI z8296)), (6, (zU (0 : Int))), (8, (zI z8296))]) (hp 2 [(oT tab0), (oC q8297)]) (.k [1] [false] [.tmp 2 false] [1, 2, 5, 6, 8] ⟨trE (by kernel_rfl) h8298, trivial⟩) ?_
        refine .join (v := v) (fun y : Int × Int × Int × Int × List Value => ((fr 38 [(1, (zI y.1)), (2, (pt 1 0)), (5, (zI y.2.1)), (6, (zU y.2.2.1)), (8, (zI y.2.2.2.1))]), (hp 2 [(oT tab0), (oC y.2.2.2.2)]))) (fun y => m39_3 pu n (l39_1 pu n w0) y.1 y.2.1 y.2.2.1 y.2.2.2.1 y.2.2.2.2) ?_ ?_
        · rintro ⟨z8393, z8394, z8395, z8396, q8397⟩ hm
          unfold m39_3 at hm
          refine .then ?_
          refine .rK ?_
          replace hm := bb_inv hm; obtain ⟨h8398, hm⟩ := hm
          refine .ghs (fr 38 [(1, (zI z8393)), (2, (pt 1 0)), (5, (zI z8394)), (6, (zU z8395)), (8, (zI z8396)), (31, (zB (nt (ieq z8395 (0 : Int)))))]) (hp 2 [(oT tab0), (oC q8397)]) (.k [1] [false] [.tmp 2 false] [1, 2, 5, 6, 8, 31] ⟨trE (by kernel_rfl) h8398, trivial⟩) ?_
          have hq := bb_cases hm; clear hm; rcases hq with ⟨h8399, hm⟩ | ⟨h8399, hm⟩
          · refine .ifT (nt (ieq z8395 (0 : Int))) (by kernel_rfl) h8399 ?_
            refine .then ?_
            have hq := oo_inv hm; clear hm; obtain ⟨v8400, h8401, hm⟩ := hq
            have hq := oo_inv hm; clear hm; obtain ⟨x8402, h8403, hm⟩ := hq
            obtain rfl := toI_some h8403
            refine .reg (eC 3 ((oo (pu 60 [(zU z8395)]) none fun v => some (v, (hp 2 [(oT tab0), (oC q8397)])))) (call_eq h8401) (eE)) ?_
            refine .ghs (fr 38 [(4, (zI (wrapF .i64 (Int.add (wrapF .i64 (Int.mul (64 : Int) z8394)) x8402))))]) (hp 1 [(oT tab0)]) (.k0 [false] [] [4]) ?_
            refine .ret ?_
            exact fin_ret (zI (wrapF .i64 (Int.add (wrapF .i64 (Int.mul (64 : Int) z8394)) x8402))) (by kernel_rfl) (by kernel_rfl) hm
          · refine .ifF (nt (ieq z8395 (0 : Int))) (by kernel_rfl) h8399 ?_
            refine .skip ?_
            exact ⟨(z8393, z8396, q8397), hm, (.k [1] [false] [.tmp 2 false] [1, 2, 8] ⟨trE (by kernel_rfl) h8398, trivial⟩)⟩
        · skip
          refine .then ?_
          refine .rK ?_
          refine .ghs (fr 38 [(1, (zI z8295)), (2, (pt 1 0)), (5, (zI z8296)), (6, (zU (0 : Int))), (7, (zI (1 : Int))), (8, (zI z8296))]) (hp 2 [(oT tab0), (oC q8297)]) (.k [1] [false] [.tmp 2 false] [1, 2, 5, 6, 7, 8] ⟨trE (by kernel_rfl) h8298, trivial⟩) ?_
          refine .block ?_
          refine .loopM (v := v) (fun y : Int × Int × Int × Int × Int × List Value => ((fr 38 [(1, (zI y.1)), (2, (pt 1 0)), (5, (zI y.2.1)), (6, (zU y.2.2.1)), (7, (zI y.2.2.2.1)), (8, (zI y.2.2.2.2.1))]), (hp 2 [(oT tab0), (oC y.2.2.2.2.2)]))) (fun w y => l39_4 pu n (l39_1 pu n w0) w y.1 y.2.1 y.2.2.1 y.2.2.2.1 y.2.2.2.2.1 y.2.2.2.2.2) n ⟨(z8295, z8296, (0 : Int), (1 : Int), z8296, q8297), hm, (.k [1] [false] [.tmp 2 false] [1, 2, 5, 6, 7, 8] ⟨trE (by kernel_rfl) h8298, trivial⟩)⟩ (fun _ => rfl) ?_
          rintro w1 ⟨z8404, z8405, z8406, z8407, z8408, q8409⟩ hm
          refine .then ?_
          refine .then ?_
          refine .rK ?_
          replace hm := bb_inv hm; obtain ⟨h8410, hm⟩ := hm
          refine .ghs (fr 38 [(1, (zI z8404)), (2, (pt 1 0)), (5, (zI z8405)), (6, (zU z8406)), (7, (zI z8407)), (8, (zI z8408)), (13, (zB (ilt z8407 z8404)))]) (hp 2 [(oT tab0), (oC q8409)]) (.k [1] [false] [.tmp 2 false] [1, 2, 5, 6, 7, 8, 13] ⟨trE (by kernel_rfl) h8410, trivial⟩) ?_
          have hq := bb_cases hm; clear hm; rcases hq with ⟨h8411, hm⟩ | ⟨h8411, hm⟩
          · refine .ifT (ilt z8407 z8404) (by kernel_rfl) h8411 ?_
            refine .skip ?_
            refine .ghs (fr 38 [(1, (zI z8404)), (2, (pt 1 0)), (5, (zI z8405)), (6, (zU z8406)), (7, (zI z8407)), (8, (zI z8408))]) (hp 2 [(oT tab0), (oC q8409)]) (.k [1] [false] [.tmp 2 false] [1, 2, 5, 6, 7, 8] ⟨trE (by kernel_rfl) h8410, trivial⟩) ?_
            refine .then ?_
            refine .block ?_
            have hq := oo_inv hm; clear hm; obtain ⟨k8412, h8413, hm⟩ := hq
            replace hm := bb_inv hm; obtain ⟨h8414, hm⟩ := hm
            have hq := oo_inv hm; clear hm; obtain ⟨k8415, h8416, hm⟩ := hq
            obtain rfl := toN_some h8416
            replace hm := bb_inv hm; obtain ⟨h8417, hm⟩ := hm
            have hq := oo_inv hm; clear hm; obtain ⟨v8418, h8419, hm⟩ := hq
            have hq := oo_inv hm; clear hm; obtain ⟨x8420, h8421, hm⟩ := hq
            obtain rfl := toI_some h8421
            have hq := oo_inv hm; clear hm; obtain ⟨k8422, h8423, hm⟩ := hq
            obtain rfl := toN_some h8423
            replace hm := bb_inv hm; obtain ⟨h8424, hm⟩ := hm
            replace hm := bb_inv hm; obtain ⟨h8425, hm⟩ := hm
            have hq := oo_inv hm; clear hm; obtain ⟨v8426, h8427, hm⟩ := hq
            have hq := oo_inv hm; clear hm; obtain ⟨x8428, h8429, hm⟩ := hq
            obtain rfl := toI_some h8429
            refine .reg (eC 2 (some ((zI (wrapF .i64 (Int.sub (Int.ofNat k8422) (1 : Int)))), (hp 2 [(oT tab0), (oC q8409)]))) (show _ = some ((zI (Int.ofNat k8412)), _) from (by rw [toN_some h8413])) (eC 1 (keep (hp 2 [(oT tab0), (oC q8409)]) (bb (Nat.blt k8412 7) (some (.pointer (some ⟨1, (0 + k8412 * 2), none⟩))) none)) (keep_bb h8414) (eD (keep (hp 2 [(oT tab0), (oC q8409)]) (bb (Nat.blt k8415 2) (some (.pointer (some ⟨1, ((0 + k8412 * 2) + k8415 * 1), none⟩))) none)) (keep_bb h8417) (eD (keep (hp 2 [(oT tab0), (oC q8409)]) (nthL q8409 ((0 + k8412 * 2) + k8415 * 1))) (keep_eq h8419) (eC 2 (keep (hp 2 [(oT tab0), (oC q8409)]) (bb (Nat.blt k8422 7) (some (.pointer (some ⟨1, (0 + k8422 * 2), none⟩))) none)) (keep_bb h8424) (eD (keep (hp 2 [(oT tab0), (oC q8409)]) (bb (Nat.blt k8415 2) (some (.pointer (some ⟨1, ((0 + k8422 * 2) + k8415 * 1), none⟩))) none)) (keep_bb h8425) (eD (keep (hp 2 [(oT tab0), (oC q8409)]) (nthL q8409 ((0 + k8422 * 2) + k8415 * 1))) (keep_eq h8427) (eE)))))))) ?_
            refine .ghs (fr 38 [(1, (zI z8404)), (2, (pt 1 0)), (5, (zI (Int.ofNat k8415))), (6, (zU (aor .u64 z8406 (aandNot .u64 x8420 x8428)))), (7, (zI (Int.ofNat k8422))), (8, (zI z8408))]) (hp 2 [(oT tab0), (oC q8409)]) (.k [1] [false] [.tmp 2 false] [1, 2, 5, 6, 7, 8] ⟨trE (by kernel_rfl) h8410, trivial⟩) ?_
            refine .rK ?_
            exact ⟨(z8404, (Int.ofNat k8415), (aor .u64 z8406 (aandNot .u64 x8420 x8428)), (wrapF .i64 (Int.add (Int.ofNat k8422) (1 : Int))), z8408, q8409), hm, (.k [1] [false] [.tmp 2 false] [1, 2, 5, 6, 7, 8] ⟨trE (by kernel_rfl) h8410, trivial⟩)⟩
          · refine .ifF (ilt z8407 z8404) (by kernel_rfl) h8411 ?_
            refine .exit ?_
            exact ⟨(z8404, z8405, z8406, z8408, q8409), hm, (.k [1] [false] [.tmp 2 false] [1, 2, 5, 6, 8] ⟨trE (by kernel_rfl) h8410, trivial⟩)⟩
    · refine .ifF (ilt z8296 (2 : Int)) (by kernel_rfl) h8299 ?_
      refine .exit ?_
      exact ⟨(), hm, (.k0 [false] [] [])⟩
/-- spadille/spadilleref07.Check -/
def m40_0 (pu : PureF) (n : Nat) : Option Value :=
  (some (.int .i64 (0 : Int)))
def m40_2 (pu : PureF) (n : Nat) (ih0 : Int → Int → Sl → Option Value) (z8511 : Int) (b8512 : Bool) (z8513 : Int) (s8514 : Sl) (z8515 : Int) (z8516 : Int) : Option Value :=
  (bb b8512 (some (.int .i64 (2 : Int))) (bb (nt (ilt z8515 z8516)) (some (.int .i64 (7 : Int))) (ih0 (wrapF .i64 (Int.add z8511 (1 : Int))) z8513 s8514)))
def b40_1 (pu : PureF) (n : Nat) (ih0 : Int → Int → Sl → Option Value) (z8486 : Int) (z8487 : Int) (s8488 : Sl) : Option Value :=
  (bb (ilt z8486 (Int.ofNat (Sl.n s8488))) (oo (toN z8486) none fun k8490 => (bb (an (Nat.blt k8490 (Sl.n s8488)) true) (bb (Nat.ble ((k8490 * 2) + 2) (len (Sl.cs s8488))) (oo (nthL (Sl.cs s8488) (k8490 * 2)) none fun v8494 => (oo (toI .i64 v8494) none fun x8496 => (oo (nthL (Sl.cs s8488) ((k8490 * 2) + 1)) none fun v8498 => (oo (toI .i64 v8498) none fun x8500 => (oo (pu 61 [(.int .i64 x8496), (.int .i64 (0 : Int)), (.int .i64 (wrapF .i64 (Int.sub z8487 (1 : Int))))]) none fun v8519 => (oo (vBool v8519) none fun b8521 => (bb (nt b8521) (m40_2 pu n ih0 (Int.ofNat k8490) true z8487 s8488 x8496 x8500) (oo (pu 61 [(.int .i64 x8500), (.int .i64 (0 : Int)), (.int .i64 (wrapF .i64 (Int.sub z8487 (1 : Int))))]) none fun v8524 => (oo (vBool v8524) none fun b8526 => (m40_2 pu n ih0 (Int.ofNat k8490) (nt b8526) z8487 s8488 x8496 x8500)))))))))) none) none)) (m40_0 pu n))
def l40_1 (pu : PureF) (n : Nat) (w : Nat) : Int → Int → Sl → Option Value :=
  Nat.rec (motive := fun _ => Int → Int → Sl → Option Value) (fun _ _ _ => none) (fun _ ih0 => b40_1 pu n ih0) w
def m40_ (pu : PureF) (n : Nat) (x8434 : Int) (s8436 : Sl) : Option Value :=
  (oo (pu 61 [(.int .i64 x8434), (.int .i64 (1 : Int)), (.int .i64 (7 : Int))]) none fun v8438 => (oo (vBool v8438) none fun b8440 => (bb (nt b8440) (some (.int .i64 (1 : Int))) (bb (ilt (24 : Int) (Int.ofNat (Sl.n s8436))) (some (.int .i64 (3 : Int))) (l40_1 pu n n (0 : Int) x8434 s8436)))))
def m40 (pu : PureF) (n : Nat) (args : List Value) : Option Value :=
  (ll args none fun a0 args => (ll args (oo (vAgg a0) none fun l8430 => (ll l8430 none fun v8432 l8430 => (ll l8430 none fun v8433 l8430 => (ll l8430 (oo (toI .i64 v8432) none fun x8434 => (oo (toSl 2 v8433) none fun s8436 => (m40_ pu n x8434 s8436))) fun _ _ => none)))) fun _ _ => none))
theorem r40 {call : CallF} (pu : PureF) (n : Nat) (hcall : call = callP tabs isP pu (inl pu)) {args : List Value} {v : Value} (hm : m40 pu n args = some v) (_ : ∀ x ∈ args, closed2 x = true) : args.length ≤ 46 ∧ Run tt call 1 c40_40 (Fr.made 46 args) (pureHeap tabs) (Fin tt 1 [.tmp 2] v) := by
  subst hcall
  unfold m40 at hm
  have hq := ll_uncons hm; clear hm; obtain ⟨a0, args_0, rfl, hm⟩ := hq
  have hq := ll_end hm; clear hm; obtain ⟨rfl, hm⟩ := hq
  have hq := oo_inv hm; clear hm; obtain ⟨l8430, h8431, hm⟩ := hq
  obtain rfl := vAgg_some h8431
  have hq := ll_uncons hm; clear hm; obtain ⟨v8432, l8430_0, rfl, hm⟩ := hq
  have hq := ll_uncons hm; clear hm; obtain ⟨v8433, l8430_1, rfl, hm⟩ := hq
  have hq := ll_end hm; clear hm; obtain ⟨rfl, hm⟩ := hq
  have hq := oo_inv hm; clear hm; obtain ⟨x8434, h8435, hm⟩ := hq
  obtain rfl := toI_some h8435
  have hq := oo_inv hm; clear hm; obtain ⟨s8436, h8437, hm⟩ := hq
  obtain rfl := toSl_some h8437
  unfold m40_ at hm
  refine ⟨by simp, ?_⟩
  refine .same (F' := (fr 46 [(0, (.agg ⟨[(zI x8434), (Sl.v 2 s8436)]⟩))])) (H' := (hp 1 [(oT tab0)])) (by kernel_rfl) (by kernel_rfl) ?_
  refine .then ?_
  refine .rK ?_
  refine .ghs (fr 46 [(1, (pt 1 0))]) (hp 2 [(oT tab0), (oC [(zI x8434), (Sl.v 2 s8436)])]) (.k0 [false] [.tmp 1 false] [1]) ?_
  refine .then ?_
  refine .then ?_
  have hq := oo_inv hm; clear hm; obtain ⟨v8438, h8439, hm⟩ := hq
  have hq := oo_inv hm; clear hm; obtain ⟨b8440, h8441, hm⟩ := hq
  obtain rfl := vBool_some h8441
  refine .reg (eC 2 ((oo (pu 61 [(zI x8434), (zI (1 : Int)), (zI (7 : Int))]) none fun v => some (v, (hp 2 [(oT tab0), (oC [(zI x8434), (Sl.v 2 s8436)])])))) (call_eq h8439) (eE)) ?_
  refine .ghs (fr 46 [(1, (pt 1 0)), (8, (zB (nt b8440)))]) (hp 2 [(oT tab0), (oC [(zI x8434), (Sl.v 2 s8436)])]) (.k0 [false] [.tmp 1 false] [1, 8]) ?_
  have hq := bb_cases hm; clear hm; rcases hq with ⟨h8442, hm⟩ | ⟨h8442, hm⟩
  · refine .ifT (nt b8440) (by kernel_rfl) h8442 ?_
    refine .then ?_
    refine .rK ?_
    refine .ghs (fr 46 [(2, (zI (1 : Int)))]) (hp 1 [(oT tab0)]) (.k0 [false] [] [2]) ?_
    refine .ret ?_
    exact fin_ret (zI (1 : Int)) (by kernel_rfl) (by kernel_rfl) hm
  · refine .ifF (nt b8440) (by kernel_rfl) h8442 ?_
    refine .skip ?_
    refine .ghs (fr 46 [(1, (pt 1 0))]) (hp 2 [(oT tab0), (oC [(zI x8434), (Sl.v 2 s8436)])]) (.k0 [false] [.tmp 1 false] [1]) ?_
    refine .then ?_
    refine .then ?_
    refine .rK ?_
    refine .ghs (fr 46 [(1, (pt 1 0)), (12, (zB (ilt (24 : Int) (Int.ofNat (Sl.n s8436)))))]) (hp 2 [(oT tab0), (oC [(zI x8434), (Sl.v 2 s8436)])]) (.k0 [false] [.tmp 1 false] [1, 12]) ?_
    have hq := bb_cases hm; clear hm; rcases hq with ⟨h8443, hm⟩ | ⟨h8443, hm⟩
    · refine .ifT (ilt (24 : Int) (Int.ofNat (Sl.n s8436))) (by kernel_rfl) h8443 ?_
      refine .then ?_
      refine .rK ?_
      refine .ghs (fr 46 [(2, (zI (3 : Int)))]) (hp 1 [(oT tab0)]) (.k0 [false] [] [2]) ?_
      refine .ret ?_
      exact fin_ret (zI (3 : Int)) (by kernel_rfl) (by kernel_rfl) hm
    · refine .ifF (ilt (24 : Int) (Int.ofNat (Sl.n s8436))) (by kernel_rfl) h8443 ?_
      refine .skip ?_
      refine .ghs (fr 46 [(1, (pt 1 0))]) (hp 2 [(oT tab0), (oC [(zI x8434), (Sl.v 2 s8436)])]) (.k0 [false] [.tmp 1 false] [1]) ?_
      refine .join (v := v) (fun y : Unit => ((fr 46 []), (hp 1 [(oT tab0)]))) (fun y => m40_0 pu n) ?_ ?_
      · rintro _ hm
        unfold m40_0 at hm
        refine .then ?_
        refine .rK ?_
        refine .ghs (fr 46 [(2, (zI (0 : Int)))]) (hp 1 [(oT tab0)]) (.k0 [false] [] [2]) ?_
        refine .ret ?_
        exact fin_ret (zI (0 : Int)) (by kernel_rfl) (by kernel_rfl) hm
      · skip
        refine .then ?_
        refine .rK ?_
        refine .ghs (fr 46 [(1, (pt 1 0)), (3, (zI (0 : Int)))]) (hp 2 [(oT tab0), (oC [(zI x8434), (Sl.v 2 s8436)])]) (.k0 [false] [.tmp 1 false] [1, 3]) ?_
        refine .block ?_
        refine .loopM (v := v) (fun y : Int × Int × Sl => ((fr 46 [(1, (pt 1 0)), (3, (zI y.1))]), (hp 2 [(oT tab0), (oC [(zI y.2.1), (Sl.v 2 y.2.2)])]))) (fun w y => l40_1 pu n w y.1 y.2.1 y.2.2) n ⟨((0 : Int), x8434, s8436), hm, (.k0 [false] [.tmp 1 false] [1, 3])⟩ (fun _ => rfl) ?_
        rintro w0 ⟨z8486, z8487, s8488⟩ hm
        refine .then ?_
        refine .then ?_
        refine .rK ?_
        refine .ghs (fr 46 [(1, (pt 1 0)), (3, (zI z8486)), (17, (zB (ilt z8486 (Int.ofNat (Sl.n s8488)))))]) (hp 2 [(oT tab0), (oC [(zI z8487), (Sl.v 2 s8488)])]) (.k0 [false] [.tmp 1 false] [1, 3, 17]) ?_
        have hq := bb_cases hm; clear hm; rcases hq with ⟨h8489, hm⟩ | ⟨h8489, hm⟩
        · refine .ifT (ilt z8486 (Int.ofNat (Sl.n s8488))) (by kernel_rfl) h8489 ?_
          refine .skip ?_
          refine .ghs (fr 46 [(1, (pt 1 0)), (3, (zI z8486))]) (hp 2 [(oT tab0), (oC [(zI z8487), (Sl.v 2 s8488)])]) (.k0 [false] [.tmp 1 false] [1, 3]) ?_
          refine .then ?_
          refine .block ?_
          refine .then ?_
          have hq := oo_inv hm; clear hm; obtain ⟨k8490, h8491, hm⟩ := hq
          obtain rfl := toN_some h8491
          replace hm := bb_inv hm; obtain ⟨h8492, hm⟩ := hm
          replace hm := bb_inv hm; obtain ⟨h8493, hm⟩ := hm
          have hq := oo_inv hm; clear hm; obtain ⟨v8494, h8495, hm⟩ := hq
          have hq := oo_inv hm; clear hm; obtain ⟨x8496, h8497, hm⟩ := hq
          obtain rfl := toI_some h8497
          have hq := oo_inv hm; clear hm; obtain ⟨v8498, h8499, hm⟩ := hq
          have hq := oo_inv hm; clear hm; obtain ⟨x8500, h8501, hm⟩ := hq
          obtain rfl := toI_some h8501
          refine .reg (eC 3 (keep (hp 2 [(oT tab0), (oC [(zI z8487), (Sl.v 2 s8488)])]) (bb (an (Nat.blt k8490 (Sl.n s8488)) true) (some (fpV (k8490 * 2) (Sl.cs s8488))) none)) (keep_bb h8492) (eD (keep (hp 2 [(oT tab0), (oC [(zI z8487), (Sl.v 2 s8488)])]) (bb (Nat.ble ((k8490 * 2) + 2) (len (Sl.cs s8488))) (some (.agg ⟨takeL 2 (dropL (k8490 * 2) (Sl.cs s8488))⟩)) none)) (keep_agg h8493 (takeL_cons h8495 (takeL_cons h8499 rfl))) (eE))) ?_
          refine .ghs (fr 46 [(1, (pt 1 0)), (3, (zI (Int.ofNat k8490))), (4, (pt 2 0))]) (hp 3 [(oT tab0), (oC [(zI z8487), (Sl.v 2 s8488)]), (oC [(zI x8496), (zI x8500)])]) (.k0 [false] [.tmp 1 false, .tmp 4 false] [1, 3, 4]) ?_
          refine .then ?_
          refine .join (v := v) (fun y : Int × Bool × Int × Sl × Int × Int => ((fr 46 [(1, (pt 1 0)), (3, (zI y.1)), (4, (pt 2 0)), (40, (zB y.2.1))]), (hp 3 [(oT tab0), (oC [(zI y.2.2.1), (Sl.v 2 y.2.2.2.1)]), (oC [(zI y.2.2.2.2.1), (zI y.2.2.2.2.2)])]))) (fun y => m40_2 pu n (l40_1 pu n w0) y.1 y.2.1 y.2.2.1 y.2.2.2.1 y.2.2.2.2.1 y.2.2.2.2.2) ?_ ?_
          · rintro ⟨z8511, b8512, z8513, s8514, z8515, z8516⟩ hm
            unfold m40_2 at hm
            have hq := bb_cases hm; clear hm; rcases hq with ⟨h8517, hm⟩ | ⟨h8517, hm⟩
            · refine .ifT b8512 (by kernel_rfl) h8517 ?_
              refine .then ?_
              refine .rK ?_
              refine .ghs (fr 46 [(2, (zI (2 : Int)))]) (hp 1 [(oT tab0)]) (.k0 [false] [] [2]) ?_
              refine .ret ?_
              exact fin_ret (zI (2 : Int)) (by kernel_rfl) (by kernel_rfl) hm
            · refine .ifF b8512 (by kernel_rfl) h8517 ?_
              refine .skip ?_
              refine .ghs (fr 46 [(1, (pt 1 0)), (3, (zI z8511)), (4, (pt 2 0))]) (hp 3 [(oT tab0), (oC [(zI z8513), (Sl.v 2 s8514)]), (oC [(zI z8515), (zI z8516)])]) (.k0 [false] [.tmp 1 false, .tmp 4 false] [1, 3, 4]) ?_
              refine .then ?_
              refine .rK ?_
              refine .ghs (fr 46 [(1, (pt 1 0)), (3, (zI z8511)), (45, (zB (nt (ilt z8515 z8516))))]) (hp 2 [(oT tab0), (oC [(zI z8513), (Sl.v 2 s8514)])]) (.k0 [false] [.tmp 1 false] [1, 3, 45]) ?_
              have hq := bb_cases hm; clear hm; rcases hq with ⟨h8518, hm⟩ | ⟨h8518, hm⟩
              · refine .ifT (nt (ilt z8515 z8516)) (by kernel_rfl) h8518 ?_
                refine .then ?_
                refine .rK ?_
                refine .ghs (fr 46 [(2, (zI (7 : Int)))]) (hp 1 [(oT tab0)]) (.k0 [false] [] [2]) ?_
                refine .ret ?_
                exact fin_ret (zI (7 : Int)) (by kernel_rfl) (by kernel_rfl) hm
              · refine .ifF (nt (ilt z8515 z8516)) (by kernel_rfl) h8518 ?_
                refine .skip ?_
                refine .ghs (fr 46 [(1, (pt 1 0)), (3, (zI z8511))]) (hp 2 [(oT tab0), (oC [(zI z8513), (Sl.v 2 s8514)])]) (.k0 [false] [.tmp 1 false] [1, 3]) ?_
                refine .rK ?_
                exact ⟨((wrapF .i64 (Int.add z8511 (1 : Int))), z8513, s8514), hm, (.k0 [false] [.tmp 1 false] [1, 3])⟩
          · skip
            have hq := oo_inv hm; clear hm; obtain ⟨v8519, h8520, hm⟩ := hq
            have hq := oo_inv hm; clear hm; obtain ⟨b8521, h8522, hm⟩ := hq
            obtain rfl := vBool_some h8522
            have hq := bb_cases hm; clear hm; rcases hq with ⟨h8523, hm⟩ | ⟨h8523, hm⟩
            · skip
              refine .reg (eC 5 ((oo (pu 61 [(zI x8496), (zI (0 : Int)), (zI (wrapF .i64 (Int.sub z8487 (1 : Int))))]) none fun v => some (v, (hp 3 [(oT tab0), (oC [(zI z8487), (Sl.v 2 s8488)]), (oC [(zI x8496), (zI x8500)])])))) (call_eq h8520) (eD (some ((zB (nt b8521)), (hp 3 [(oT tab0), (oC [(zI z8487), (Sl.v 2 s8488)]), (oC [(zI x8496), (zI x8500)])]))) (show _ = some ((zB true), _) from (by rw [h8523])) (eE))) ?_
              exact ⟨((Int.ofNat k8490), true, z8487, s8488, x8496, x8500), hm, (.k0 [false] [.tmp 1 false, .tmp 4 false] [1, 3, 4, 40])⟩
            · skip
              have hq := oo_inv hm; clear hm; obtain ⟨v8524, h8525, hm⟩ := hq
              have hq := oo_inv hm; clear hm; obtain ⟨b8526, h8527, hm⟩ := hq
              obtain rfl := vBool_some h8527
              refine .reg (eC 5 ((oo (pu 61 [(zI x8496), (zI (0 : Int)), (zI (wrapF .i64 (Int.sub z8487 (1 : Int))))]) none fun v => some (v, (hp 3 [(oT tab0), (oC [(zI z8487), (Sl.v 2 s8488)]), (oC [(zI x8496), (zI x8500)])])))) (call_eq h8520) (eD (some ((zB (nt b8521)), (hp 3 [(oT tab0), (oC [(zI z8487), (Sl.v 2 s8488)]), (oC [(zI x8496), (zI x8500)])]))) (show _ = some ((zB false), _) from (by rw [h8523])) (eC 6 ((oo (pu 61 [(zI x8500), (zI (0 : Int)), (zI (wrapF .i64 (Int.sub z8487 (1 : Int))))]) none fun v => some (v, (hp 3 [(oT tab0), (oC [(zI z8487), (Sl.v 2 s8488)]), (oC [(zI x8496), (zI x8500)])])))) (call_eq h8525) (eE)))) ?_
              exact ⟨((Int.ofNat k8490), (nt b8526), z8487, s8488, x8496, x8500), hm, (.k0 [false] [.tmp 1 false, .tmp 4 false] [1, 3, 4, 40])⟩
        · refine .ifF (ilt z8486 (Int.ofNat (Sl.n s8488))) (by kernel_rfl) h8489 ?_
          refine .exit ?_
          exact ⟨(), hm, (.k0 [false] [] [])⟩
end
end Go.TabSM
