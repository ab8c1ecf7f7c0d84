/- Models of the program's functions, and the proofs that runs give them: MADE BY PROGRAM (wip/tools/dec.py). -/
import Derived.Test.YtgplhblofefkjaaDoorMendTMod0x

set_option maxRecDepth 100000
set_option linter.unusedVariables false
namespace Go.MendM
open Go.Sp Go.MendT
noncomputable section
/-- spadille/spadilleref09.wrong -/
def o55_0 : List ROp := [
  ⟨(some 1), .box 27 (.tmp 0), 0, none, []⟩,
  ⟨(some 2), .assign (.const (.slice none 0 0)), 22, none, []⟩]
def c55_0 : RC := .reg [] o55_0
def o55_1 : List ROp := [
  ⟨(some 3), .assign (.const (.slice none 0 0)), 22, none, []⟩]
def c55_1 : RC := .reg [] o55_1
def o55_2 : List ROp := [
  ⟨(some 4), .assign (.const (.int .i64 0)), 3, none, []⟩]
def c55_2 : RC := .reg [] o55_2
def o55_3 : List ROp := [
  ⟨(some 5), .move (.tmp 4), 3, none, []⟩,
  ⟨(some 6), .fieldAddr 27 (.tmp 1) 1, 0, none, []⟩,
  ⟨(some 7), .load 22 (.tmp 6), 22, none, []⟩,
  ⟨(some 8), .call ⟨.builtin .len, #[(.tmp 7)], #[22]⟩, 3, none, []⟩,
  ⟨(some 9), .binOp .lss 3 (.tmp 5) (.tmp 8) 3, 4, none, []⟩]
def c55_3 : RC := .reg [] o55_3
def c55_4 : RC := .cond (.tmp 9) .skip (.exit 0)
def c55_5 : RC := .seq c55_3 c55_4
def o55_6 : List ROp := [
  ⟨(some 12), .fieldAddr 27 (.tmp 1) 1, 0, none, []⟩,
  ⟨(some 13), .load 22 (.tmp 12), 22, none, []⟩,
  ⟨(some 14), .move (.tmp 4), 3, none, []⟩,
  ⟨(some 15), .indexAddr 22 (.tmp 13) (.tmp 14), 0, none, []⟩,
  ⟨(some 16), .load 3 (.tmp 15), 3, none, []⟩,
  ⟨(some 17), .fieldAddr 27 (.tmp 1) 2, 0, none, []⟩,
  ⟨(some 18), .load 22 (.tmp 17), 22, none, []⟩,
  ⟨(some 19), .move (.tmp 4), 3, none, []⟩,
  ⟨(some 20), .indexAddr 22 (.tmp 18) (.tmp 19), 0, none, []⟩,
  ⟨(some 21), .load 3 (.tmp 20), 3, none, []⟩,
  ⟨(some 22), .binOp .neq 3 (.tmp 16) (.tmp 21) 3, 4, none, []⟩]
def c55_6 : RC := .reg [0, 1, 2, 3, 4, 5, 6, 7, 8, 9, 10] o55_6
def o55_7 : List ROp := [
  ⟨(some 23), .move (.tmp 3), 22, none, []⟩,
  ⟨(some 24), .move (.tmp 4), 3, none, []⟩,
  ⟨(some 25), .buildSlice 22 1 #[(0, (.tmp 24))], 22, none, []⟩,
  ⟨(some 26), .call ⟨.builtin .append, #[(.tmp 23), (.tmp 25)], #[22, 22]⟩, 22, none, []⟩,
  ⟨(some 3), .assign (.tmp 26), 22, none, []⟩]
def c55_7 : RC := .reg [] o55_7
def c55_8 : RC := .cond (.tmp 22) c55_7 .skip
def c55_9 : RC := .seq c55_6 c55_8
def c55_10 : RC := .block 1 c55_9
def o55_11 : List ROp := [
  ⟨(some 10), .move (.tmp 4), 3, none, []⟩,
  ⟨(some 11), .binOp .add 3 (.tmp 10) (.const (.int .i64 1)) 3, 3, none, []⟩,
  ⟨(some 4), .assign (.tmp 11), 3, none, []⟩]
def c55_11 : RC := .reg [] o55_11
def c55_12 : RC := .seq c55_10 c55_11
def c55_13 : RC := .seq c55_5 c55_12
def c55_14 : RC := .loop c55_13
def c55_15 : RC := .block 0 c55_14
def c55_16 : RC := .seq c55_2 c55_15
def o55_17 : List ROp := [
  ⟨(some 27), .move (.tmp 3), 22, none, []⟩,
  ⟨(some 2), .assign (.tmp 27), 22, none, []⟩]
def c55_17 : RC := .reg [] o55_17
def c55_18 : RC := .seq c55_17 .ret
def c55_19 : RC := .seq c55_16 c55_18
def c55_20 : RC := .seq c55_1 c55_19
def c55_21 : RC := .seq c55_0 c55_20
def m55_0 (pu : PureF) (n : Nat) (n978 : Nat) (c979 : Nat) (q980 : List Value) : Option Value :=
  (bb (allL closed1 q980) (bb (an (Nat.ble (0 + n978 * 1) (len q980)) (allL closed1 (takeL (n978 * 1) (dropL 0 q980)))) (some (Sl.v 1 (Sl.mk n978 0 (takeL (n978 * 1) (dropL 0 q980))))) none) none)
def m55_2 (pu : PureF) (n : Nat) (ih0 : Nat → Nat → Int → Int → Sl → Sl → List Value → Option Value) (n1007 : Nat) (c1008 : Nat) (z1009 : Int) (z1010 : Int) (s1011 : Sl) (s1012 : Sl) (q1013 : List Value) : Option Value :=
  (bb (allL closed1 q1013) (ih0 n1007 c1008 (wrapF .i64 (Int.add z1009 (1 : Int))) z1010 s1011 s1012 q1013) none)
def b55_1 (pu : PureF) (n : Nat) (ih0 : Nat → Nat → Int → Int → Sl → Sl → List Value → Option Value) (n983 : Nat) (c984 : Nat) (z985 : Int) (z986 : Int) (s987 : Sl) (s988 : Sl) (q989 : List Value) : Option Value :=
  (bb (allL closed1 q989) (bb (ilt z985 (Int.ofNat (Sl.n s987))) (oo (toN z985) none fun k1015 => (bb (an (Nat.blt k1015 (Sl.n s987)) true) (oo (nthL (Sl.cs s987) (k1015 * 1)) none fun v1018 => (oo (toI .i64 v1018) none fun x1020 => (bb (an (Nat.blt k1015 (Sl.n s988)) true) (oo (nthL (Sl.cs s988) (k1015 * 1)) none fun v1023 => (oo (toI .i64 v1023) none fun x1025 => (bb (nt (ieq x1020 x1025)) (bb (growC 1 8 n983 c984 1 q989) (bb (allL closed1 (appL (dropL 0 q989) [(.int .i64 (Int.ofNat k1015))])) (m55_2 pu n ih0 (n983 + 1) (2 * (n983 + 1) + bb false 1 0) (Int.ofNat k1015) z986 s987 s988 (appL (dropL 0 q989) [(.int .i64 (Int.ofNat k1015))])) none) none) (m55_2 pu n ih0 n983 c984 (Int.ofNat k1015) z986 s987 s988 q989)))) none))) none)) (m55_0 pu n n983 c984 q989)) none)
def l55_1 (pu : PureF) (n : Nat) (w : Nat) : Nat → Nat → Int → Int → Sl → Sl → List Value → Option Value :=
  Nat.rec (motive := fun _ => Nat → Nat → Int → Int → Sl → Sl → List Value → Option Value) (fun _ _ _ _ _ _ _ => none) (fun _ ih0 => b55_1 pu n ih0) w
def m55_ (pu : PureF) (n : Nat) (x925 : Int) (s927 : Sl) (s929 : Sl) : Option Value :=
  (l55_1 pu n n 0 0 (0 : Int) x925 s927 s929 ([] : List Value))
def m55 (pu : PureF) (n : Nat) (args : List Value) : Option Value :=
  (ll args none fun a0 args => (ll args (oo (vAgg a0) none fun l920 => (ll l920 none fun v922 l920 => (ll l920 none fun v923 l920 => (ll l920 none fun v924 l920 => (ll l920 (oo (toI .i64 v922) none fun x925 => (oo (toSl 1 v923) none fun s927 => (oo (toSl 1 v924) none fun s929 => (m55_ pu n x925 s927 s929)))) fun _ _ => none))))) fun _ _ => none))
theorem r55 {call : CallF} (pu : PureF) (n : Nat) (hcall : call = callP tabs isP pu inl) {args : List Value} {v : Value} (hm : m55 pu n args = some v) (_ : ∀ x ∈ args, closed2 x = true) : args.length ≤ 28 ∧ Run tt call 1 c55_21 (Fr.made 28 args) (pureHeap tabs) (Fin tt 1 [.tmp 2] v) := by
  subst hcall
  unfold m55 at hm
  have hq := ll_uncons hm; clear hm; obtain ⟨a0, args_0, rfl, hm⟩ := hq
  have hq := ll_end hm; clear hm; obtain ⟨rfl, hm⟩ := hq
  have hq := oo_inv hm; clear hm; obtain ⟨l920, h921, hm⟩ := hq
  obtain rfl := vAgg_some h921
  have hq := ll_uncons hm; clear hm; obtain ⟨v922, l920_0, rfl, hm⟩ := hq
  have hq := ll_uncons hm; clear hm; obtain ⟨v923, l920_1, rfl, hm⟩ := hq
  have hq := ll_uncons hm; clear hm; obtain ⟨v924, l920_2, rfl, hm⟩ := hq
  have hq := ll_end hm; clear hm; obtain ⟨rfl, hm⟩ := hq
  have hq := oo_inv hm; clear hm; obtain ⟨x925, h926, hm⟩ := hq
  obtain rfl := toI_some h926
  have hq := oo_inv hm; clear hm; obtain ⟨s927, h928, hm⟩ := hq
  obtain rfl := toSl_some h928
  have hq := oo_inv hm; clear hm; obtain ⟨s929, h930, hm⟩ := hq
  obtain rfl := toSl_some h930
  unfold m55_ at hm
  refine ⟨by simp, ?_⟩
  refine .same (F' := (⟨28, frTr [(0, (.agg ⟨[(.int .i64 x925), (Sl.v 1 s927), (Sl.v 1 s929)]⟩))] .nil⟩ : Fr)) (H' := (⟨1, objTr [(.cells tab0 true false [])] 0 .nil, true⟩ : AHeap)) (by kernel_rfl) (by kernel_rfl) ?_
  refine .then ?_
  refine .reg (F' := (Fr.puts (⟨28, frTr [(0, (.agg ⟨[(.int .i64 x925), (Sl.v 1 s927), (Sl.v 1 s929)]⟩))] .nil⟩ : Fr) [(1, (.pointer (some ⟨1, 0, none⟩))), (2, (.slice none 0 0))])) (H' := (⟨2, objTr [(.cells tab0 true false []), (.cells [(.int .i64 x925), (Sl.v 1 s927), (Sl.v 1 s929)] false false [])] 0 .nil, true⟩ : AHeap)) (by kernel_rfl) ?_
  refine .ghs (⟨28, frTr [(1, (.pointer (some ⟨1, 0, none⟩)))] .nil⟩ : Fr) (⟨2, objTr [(.cells tab0 true false []), (.cells [(.int .i64 x925), (Sl.v 1 s927), (Sl.v 1 s929)] false false [])] 0 .nil, true⟩ : AHeap) (.gc [] [false] [.tmp 1 false] [1] (by kernel_rfl) trivial (by kernel_rfl)) ?_
  refine .then ?_
  refine .reg (F' := (Fr.puts (⟨28, frTr [(1, (.pointer (some ⟨1, 0, none⟩)))] .nil⟩ : Fr) [(3, (.slice none 0 0))])) (H' := (⟨2, objTr [(.cells tab0 true false []), (.cells [(.int .i64 x925), (Sl.v 1 s927), (Sl.v 1 s929)] false false [])] 0 .nil, true⟩ : AHeap)) (by kernel_rfl) ?_
  refine .ghs (⟨28, frTr [(1, (.pointer (some ⟨1, 0, none⟩))), (3, (.slice none 0 0))] .nil⟩ : Fr) (⟨2, objTr [(.cells tab0 true false []), (.cells [(.int .i64 x925), (Sl.v 1 s927), (Sl.v 1 s929)] false false [])] 0 .nil, true⟩ : AHeap) (.gc [] [false] [.tmp 1 false] [1, 3] (by kernel_rfl) trivial (by kernel_rfl)) ?_
  refine .join (v := v) (fun y : Nat × Nat × List Value => ((⟨28, frTr [(3, (.slice (some ⟨1, 0, some 1⟩) y.1 y.2.1))] .nil⟩ : Fr), (⟨2, objTr [(.cells tab0 true false []), (.cells y.2.2 false false [])] 0 .nil, true⟩ : AHeap))) (fun y => m55_0 pu n y.1 y.2.1 y.2.2) ?_ ?_
  · rintro ⟨n978, c979, q980⟩ hm
    unfold m55_0 at hm
    refine .then ?_
    refine .reg (F' := (Fr.puts (⟨28, frTr [(3, (.slice (some ⟨1, 0, some 1⟩) n978 c979))] .nil⟩ : Fr) [(27, (.slice (some ⟨1, 0, some 1⟩) n978 c979)), (2, (.slice (some ⟨1, 0, some 1⟩) n978 c979))])) (H' := (⟨2, objTr [(.cells tab0 true false []), (.cells q980 false false [])] 0 .nil, true⟩ : AHeap)) (by kernel_rfl) ?_
    have hq := bb_inv hm; clear hm; obtain ⟨h981, hm⟩ := hq
    refine .ghs (⟨28, frTr [(2, (.slice (some ⟨1, 0, some 1⟩) n978 c979))] .nil⟩ : Fr) (⟨2, objTr [(.cells tab0 true false []), (.cells q980 false false [])] 0 .nil, true⟩ : AHeap) (.gc [1] [false] [.tmp 2 false] [2] (by kernel_rfl) ⟨trE (by kernel_rfl) h981, trivial⟩ (by kernel_rfl)) ?_
    have hq := bb_inv hm; clear hm; obtain ⟨h982, hm⟩ := hq
    refine .ghs (Fr.puts (⟨28, frTr [(2, (.slice (some ⟨1, 0, some 1⟩) n978 c979))] .nil⟩ : Fr) [(2, (Sl.v 1 (Sl.mk n978 0 (takeL (n978 * 1) (dropL 0 q980)))))]) (⟨2, objTr [(.cells tab0 true false []), .dead] 0 .nil, true⟩ : AHeap) (.freezeC 1 2 1 (an (Nat.ble (0 + n978 * 1) (len q980)) (allL closed1 (takeL (n978 * 1) (dropL 0 q980)))) (F1 := (Fr.puts (⟨28, frTr [(2, (.slice (some ⟨1, 0, some 1⟩) n978 c979))] .nil⟩ : Fr) [(2, (Sl.v 1 (Sl.mk n978 0 (takeL (n978 * 1) (dropL 0 q980)))))])) (H1 := (⟨2, objTr [(.cells tab0 true false []), .dead] 0 .nil, true⟩ : AHeap)) (by kernel_rfl) (by kernel_rfl) h982 (GhS.id _ _)) ?_
    refine .ret ?_
    exact fin_ret (Sl.v 1 (Sl.mk n978 0 (takeL (n978 * 1) (dropL 0 q980)))) (by kernel_rfl) (by kernel_rfl) hm
  · skip
    refine .then ?_
    refine .reg (F' := (Fr.puts (⟨28, frTr [(1, (.pointer (some ⟨1, 0, none⟩))), (3, (.slice none 0 0))] .nil⟩ : Fr) [(4, (.int .i64 (0 : Int)))])) (H' := (⟨2, objTr [(.cells tab0 true false []), (.cells [(.int .i64 x925), (Sl.v 1 s927), (Sl.v 1 s929)] false false [])] 0 .nil, true⟩ : AHeap)) (by kernel_rfl) ?_
    refine .ghs (⟨28, frTr [(1, (.pointer (some ⟨1, 0, none⟩))), (3, (.slice none 0 0)), (4, (.int .i64 (0 : Int)))] .nil⟩ : Fr) (⟨2, objTr [(.cells tab0 true false []), (.cells [(.int .i64 x925), (Sl.v 1 s927), (Sl.v 1 s929)] false false [])] 0 .nil, true⟩ : AHeap) (.gc [] [false] [.tmp 1 false] [1, 3, 4] (by kernel_rfl) trivial (by kernel_rfl)) ?_
    refine .block ?_
    refine .loopM (v := v) (fun y : Nat × Nat × Int × Int × Sl × Sl × List Value => ((⟨28, frTr [(1, (.pointer (some ⟨1, 0, none⟩))), (3, (.slice (some ⟨2, 0, some 1⟩) y.1 y.2.1)), (4, (.int .i64 y.2.2.1))] .nil⟩ : Fr), (⟨3, objTr [(.cells tab0 true false []), (.cells [(.int .i64 y.2.2.2.1), (Sl.v 1 y.2.2.2.2.1), (Sl.v 1 y.2.2.2.2.2.1)] false false []), (.cells y.2.2.2.2.2.2 false false [])] 0 .nil, true⟩ : AHeap))) (fun w y => l55_1 pu n w y.1 y.2.1 y.2.2.1 y.2.2.2.1 y.2.2.2.2.1 y.2.2.2.2.2.1 y.2.2.2.2.2.2) n ⟨(0, 0, (0 : Int), x925, s927, s929, ([] : List Value)), hm, (.thaw 3 1 (by kernel_rfl) (.gc [] [false] [.tmp 1 false, .tmp 3 false] [1, 3, 4] (by kernel_rfl) trivial (by kernel_rfl)))⟩ (fun _ => rfl) ?_
    rintro w0 ⟨n983, c984, z985, z986, s987, s988, q989⟩ hm
    refine .then ?_
    refine .then ?_
    refine .reg (F' := (Fr.puts (⟨28, frTr [(1, (.pointer (some ⟨1, 0, none⟩))), (3, (.slice (some ⟨2, 0, some 1⟩) n983 c984)), (4, (.int .i64 z985))] .nil⟩ : Fr) [(5, (.int .i64 z985)), (6, (.pointer (some ⟨1, 1, none⟩))), (7, (Sl.v 1 s987)), (8, (.int .i64 (Int.ofNat (Sl.n s987)))), (9, (.bool (ilt z985 (Int.ofNat (Sl.n s987)))))])) (H' := (⟨3, objTr [(.cells tab0 true false []), (.cells [(.int .i64 z986), (Sl.v 1 s987), (Sl.v 1 s988)] false false []), (.cells q989 false false [])] 0 .nil, true⟩ : AHeap)) (by kernel_rfl) ?_
    have hq := bb_inv hm; clear hm; obtain ⟨h990, hm⟩ := hq
    refine .ghs (⟨28, frTr [(1, (.pointer (some ⟨1, 0, none⟩))), (3, (.slice (some ⟨2, 0, some 1⟩) n983 c984)), (4, (.int .i64 z985)), (9, (.bool (ilt z985 (Int.ofNat (Sl.n s987)))))] .nil⟩ : Fr) (⟨3, objTr [(.cells tab0 true false []), (.cells [(.int .i64 z986), (Sl.v 1 s987), (Sl.v 1 s988)] false false []), (.cells q989 false false [])] 0 .nil, true⟩ : AHeap) (.gc [2] [false] [.tmp 1 false, .tmp 3 false] [1, 3, 4, 9] (by kernel_rfl) ⟨trE (by kernel_rfl) h990, trivial⟩ (by kernel_rfl)) ?_
    have hq := bb_cases hm; clear hm; rcases hq with ⟨h991, hm⟩ | ⟨h991, hm⟩
    · refine .ifT (ilt z985 (Int.ofNat (Sl.n s987))) (by kernel_rfl) h991 ?_
      refine .skip ?_
      refine .ghs (⟨28, frTr [(1, (.pointer (some ⟨1, 0, none⟩))), (3, (.slice (some ⟨2, 0, some 1⟩) n983 c984)), (4, (.int .i64 z985))] .nil⟩ : Fr) (⟨3, objTr [(.cells tab0 true false []), (.cells [(.int .i64 z986), (Sl.v 1 s987), (Sl.v 1 s988)] false false []), (.cells q989 false false [])] 0 .nil, true⟩ : AHeap) (.gc [2] [false] [.tmp 1 false, .tmp 3 false] [1, 3, 4] (by kernel_rfl) ⟨trE (by kernel_rfl) h990, trivial⟩ (by kernel_rfl)) ?_
      refine .join (v := v) (fun y : Nat × Nat × Int × Int × Sl × Sl × List Value => ((⟨28, frTr [(1, (.pointer (some ⟨1, 0, none⟩))), (3, (.slice (some ⟨2, 0, some 1⟩) y.1 y.2.1)), (4, (.int .i64 y.2.2.1))] .nil⟩ : Fr), (⟨3, objTr [(.cells tab0 true false []), (.cells [(.int .i64 y.2.2.2.1), (Sl.v 1 y.2.2.2.2.1), (Sl.v 1 y.2.2.2.2.2.1)] false false []), (.cells y.2.2.2.2.2.2 false false [])] 0 .nil, true⟩ : AHeap))) (fun y => m55_2 pu n (l55_1 pu n w0) y.1 y.2.1 y.2.2.1 y.2.2.2.1 y.2.2.2.2.1 y.2.2.2.2.2.1 y.2.2.2.2.2.2) ?_ ?_
      · rintro ⟨n1007, c1008, z1009, z1010, s1011, s1012, q1013⟩ hm
        unfold m55_2 at hm
        refine .reg (F' := (Fr.puts (⟨28, frTr [(1, (.pointer (some ⟨1, 0, none⟩))), (3, (.slice (some ⟨2, 0, some 1⟩) n1007 c1008)), (4, (.int .i64 z1009))] .nil⟩ : Fr) [(10, (.int .i64 z1009)), (11, (.int .i64 (wrapF .i64 (Int.add z1009 (1 : Int))))), (4, (.int .i64 (wrapF .i64 (Int.add z1009 (1 : Int)))))])) (H' := (⟨3, objTr [(.cells tab0 true false []), (.cells [(.int .i64 z1010), (Sl.v 1 s1011), (Sl.v 1 s1012)] false false []), (.cells q1013 false false [])] 0 .nil, true⟩ : AHeap)) (by kernel_rfl) ?_
        have hq := bb_inv hm; clear hm; obtain ⟨h1014, hm⟩ := hq
        exact ⟨(n1007, c1008, (wrapF .i64 (Int.add z1009 (1 : Int))), z1010, s1011, s1012, q1013), hm, (.gc [2] [false] [.tmp 1 false, .tmp 3 false] [1, 3, 4] (by kernel_rfl) ⟨trE (by kernel_rfl) h1014, trivial⟩ (by kernel_rfl))⟩
      · skip
        refine .block ?_
        refine .then ?_
        have hq := oo_inv hm; clear hm; obtain ⟨k1015, h1016, hm⟩ := hq
        obtain rfl := toN_some h1016
        have hq := bb_inv hm; clear hm; obtain ⟨h1017, hm⟩ := hq
        have hq := oo_inv hm; clear hm; obtain ⟨v1018, h1019, hm⟩ := hq
        have hq := oo_inv hm; clear hm; obtain ⟨x1020, h1021, hm⟩ := hq
        obtain rfl := toI_some h1021
        have hq := bb_inv hm; clear hm; obtain ⟨h1022, hm⟩ := hq
        have hq := oo_inv hm; clear hm; obtain ⟨v1023, h1024, hm⟩ := hq
        have hq := oo_inv hm; clear hm; obtain ⟨x1025, h1026, hm⟩ := hq
        obtain rfl := toI_some h1026
        refine .reg (F' := (Fr.puts (⟨28, frTr [(1, (.pointer (some ⟨1, 0, none⟩))), (3, (.slice (some ⟨2, 0, some 1⟩) n983 c984)), (4, (.int .i64 (Int.ofNat k1015)))] .nil⟩ : Fr) [(12, (.pointer (some ⟨1, 1, none⟩))), (13, (Sl.v 1 s987)), (14, (.int .i64 (Int.ofNat k1015))), (15, (fpV (k1015 * 1) (Sl.cs s987))), (16, (.int .i64 x1020)), (17, (.pointer (some ⟨1, 2, none⟩))), (18, (Sl.v 1 s988)), (19, (.int .i64 (Int.ofNat k1015))), (20, (fpV (k1015 * 1) (Sl.cs s988))), (21, (.int .i64 x1025)), (22, (.bool (nt (ieq x1020 x1025))))])) (H' := (⟨3, objTr [(.cells tab0 true false []), (.cells [(.int .i64 z986), (Sl.v 1 s987), (Sl.v 1 s988)] false false []), (.cells q989 false false [])] 0 .nil, true⟩ : AHeap)) (evOps_cut 3 (by kernel_rfl) (evOps_data (keep (⟨3, objTr [(.cells tab0 true false []), (.cells [(.int .i64 z986), (Sl.v 1 s987), (Sl.v 1 s988)] false false []), (.cells q989 false false [])] 0 .nil, true⟩ : AHeap) (bb (an (Nat.blt k1015 (Sl.n s987)) true) (some (fpV (k1015 * 1) (Sl.cs s987))) none)) (by kernel_rfl) (keep_bb h1017) (okAt_of (by kernel_rfl) (by kernel_rfl)) (evOps_data (keep (⟨3, objTr [(.cells tab0 true false []), (.cells [(.int .i64 z986), (Sl.v 1 s987), (Sl.v 1 s988)] false false []), (.cells q989 false false [])] 0 .nil, true⟩ : AHeap) (nthL (Sl.cs s987) (k1015 * 1))) (by kernel_rfl) (keep_eq h1019) (okAt_of (by kernel_rfl) (by kernel_rfl)) (evOps_cut 3 (by kernel_rfl) (evOps_data (keep (⟨3, objTr [(.cells tab0 true false []), (.cells [(.int .i64 z986), (Sl.v 1 s987), (Sl.v 1 s988)] false false []), (.cells q989 false false [])] 0 .nil, true⟩ : AHeap) (bb (an (Nat.blt k1015 (Sl.n s988)) true) (some (fpV (k1015 * 1) (Sl.cs s988))) none)) (by kernel_rfl) (keep_bb h1022) (okAt_of (by kernel_rfl) (by kernel_rfl)) (evOps_data (keep (⟨3, objTr [(.cells tab0 true false []), (.cells [(.int .i64 z986), (Sl.v 1 s987), (Sl.v 1 s988)] false false []), (.cells q989 false false [])] 0 .nil, true⟩ : AHeap) (nthL (Sl.cs s988) (k1015 * 1))) (by kernel_rfl) (keep_eq h1024) (okAt_of (by kernel_rfl) (by kernel_rfl)) (by kernel_rfl))))))) ?_
        refine .ghs (⟨28, frTr [(1, (.pointer (some ⟨1, 0, none⟩))), (3, (.slice (some ⟨2, 0, some 1⟩) n983 c984)), (4, (.int .i64 (Int.ofNat k1015))), (22, (.bool (nt (ieq x1020 x1025))))] .nil⟩ : Fr) (⟨3, objTr [(.cells tab0 true false []), (.cells [(.int .i64 z986), (Sl.v 1 s987), (Sl.v 1 s988)] false false []), (.cells q989 false false [])] 0 .nil, true⟩ : AHeap) (.gc [2] [false] [.tmp 1 false, .tmp 3 false] [1, 3, 4, 22] (by kernel_rfl) ⟨trE (by kernel_rfl) h990, trivial⟩ (by kernel_rfl)) ?_
        have hq := bb_cases hm; clear hm; rcases hq with ⟨h1027, hm⟩ | ⟨h1027, hm⟩
        · refine .ifT (nt (ieq x1020 x1025)) (by kernel_rfl) h1027 ?_
          have hq := bb_inv hm; clear hm; obtain ⟨h1028, hm⟩ := hq
          refine .reg (F' := (Fr.puts (⟨28, frTr [(1, (.pointer (some ⟨1, 0, none⟩))), (3, (.slice (some ⟨2, 0, some 1⟩) n983 c984)), (4, (.int .i64 (Int.ofNat k1015))), (22, (.bool (nt (ieq x1020 x1025))))] .nil⟩ : Fr) [(23, (.slice (some ⟨2, 0, some 1⟩) n983 c984)), (24, (.int .i64 (Int.ofNat k1015))), (25, (.slice (some ⟨3, 0, some 1⟩) 1 3)), (26, (.slice (some ⟨4, 0, some 1⟩) (n983 + 1) (2 * (n983 + 1) + bb false 1 0))), (3, (.slice (some ⟨4, 0, some 1⟩) (n983 + 1) (2 * (n983 + 1) + bb false 1 0)))])) (H' := (⟨5, objTr [(.cells tab0 true false []), (.cells [(.int .i64 z986), (Sl.v 1 s987), (Sl.v 1 s988)] false false []), (.cells q989 false true []), (.cells [(.int .i64 (Int.ofNat k1015))] false false []), (.cells (appL (dropL 0 q989) [(.int .i64 (Int.ofNat k1015))]) false false [2])] 0 .nil, true⟩ : AHeap)) (evOps_cut 3 (by kernel_rfl) (evOps_data (growD 1 8 n983 c984 1 2 q989 [(.int .i64 (Int.ofNat k1015))] [] (⟨4, objTr [(.cells tab0 true false []), (.cells [(.int .i64 z986), (Sl.v 1 s987), (Sl.v 1 s988)] false false []), (.cells q989 false false []), (.cells [(.int .i64 (Int.ofNat k1015))] false false [])] 0 .nil, true⟩ : AHeap)) (by kernel_rfl) (growD_eq h1028) (okAt_of (by kernel_rfl) (by kernel_rfl)) (by kernel_rfl))) ?_
          have hq := bb_inv hm; clear hm; obtain ⟨h1029, hm⟩ := hq
          exact ⟨((n983 + 1), (2 * (n983 + 1) + bb false 1 0), (Int.ofNat k1015), z986, s987, s988, (appL (dropL 0 q989) [(.int .i64 (Int.ofNat k1015))])), hm, (.gc [4] [false] [.tmp 1 false, .tmp 3 false] [1, 3, 4] (by kernel_rfl) ⟨trE (by kernel_rfl) h1029, trivial⟩ (by kernel_rfl))⟩
        · refine .ifF (nt (ieq x1020 x1025)) (by kernel_rfl) h1027 ?_
          refine .skip ?_
          exact ⟨(n983, c984, (Int.ofNat k1015), z986, s987, s988, q989), hm, (.gc [2] [false] [.tmp 1 false, .tmp 3 false] [1, 3, 4] (by kernel_rfl) ⟨trE (by kernel_rfl) h990, trivial⟩ (by kernel_rfl))⟩
    · refine .ifF (ilt z985 (Int.ofNat (Sl.n s987))) (by kernel_rfl) h991 ?_
      refine .exit ?_
      exact ⟨(n983, c984, q989), hm, (.gc [2] [false] [.tmp 3 false] [3] (by kernel_rfl) ⟨trE (by kernel_rfl) h990, trivial⟩ (by kernel_rfl))⟩
/-- (spadille/mend.Tray).exchange -/
def o56_0 : List ROp := [
  ⟨(some 3), .box 24 (.tmp 0), 0, none, []⟩,
  ⟨(some 6), .assign (.const (.int .i64 0)), 28, none, []⟩]
def c56_0 : RC := .reg [] o56_0
def o56_1 : List ROp := [
  ⟨(some 8), .move (.tmp 1), 3, none, []⟩,
  ⟨(some 9), .move (.tmp 2), 3, none, []⟩,
  ⟨(some 10), .call ⟨.builtin .min, #[(.tmp 8), (.tmp 9)], #[3, 3]⟩, 3, none, []⟩,
  ⟨(some 11), .binOp .lss 3 (.tmp 10) (.const (.int .i64 0)) 3, 4, none, []⟩,
  ⟨(some 12), .move (.tmp 11), 4, none, []⟩,
  ⟨(some 13), .move (.tmp 1), 3, (some ((some 12), false)), []⟩,
  ⟨(some 14), .move (.tmp 2), 3, (some ((some 12), false)), []⟩,
  ⟨(some 15), .call ⟨.builtin .max, #[(.tmp 13), (.tmp 14)], #[3, 3]⟩, 3, (some ((some 12), false)), []⟩,
  ⟨(some 16), .fieldAddr 24 (.tmp 3) 1, 0, (some ((some 12), false)), []⟩,
  ⟨(some 17), .load 22 (.tmp 16), 22, (some ((some 12), false)), []⟩,
  ⟨(some 18), .call ⟨.builtin .len, #[(.tmp 17)], #[22]⟩, 3, (some ((some 12), false)), []⟩,
  ⟨(some 19), .binOp .geq 3 (.tmp 15) (.tmp 18) 3, 4, (some ((some 12), false)), []⟩,
  ⟨(some 20), .pick (.tmp 12) (.const (.bool true)) (.tmp 19), 4, none, []⟩,
  ⟨(some 7), .assign (.tmp 20), 4, none, []⟩]
def c56_1 : RC := .reg [] o56_1
def o56_2 : List ROp := [
  ⟨(some 6), .assign (.const (.int .i64 2)), 28, none, []⟩]
def c56_2 : RC := .reg [] o56_2
def c56_3 : RC := .seq c56_2 .ret
def o56_4 : List ROp := [
  ⟨(some 22), .move (.tmp 1), 3, none, []⟩,
  ⟨(some 23), .move (.tmp 2), 3, none, []⟩,
  ⟨(some 24), .binOp .geq 3 (.tmp 22) (.tmp 23) 3, 4, none, []⟩,
  ⟨(some 21), .assign (.tmp 24), 4, none, []⟩]
def c56_4 : RC := .reg [] o56_4
def o56_5 : List ROp := [
  ⟨(some 6), .assign (.const (.int .i64 7)), 28, none, []⟩]
def c56_5 : RC := .reg [] o56_5
def c56_6 : RC := .seq c56_5 .ret
def c56_7 : RC := .cond (.tmp 21) c56_6 .skip
def c56_8 : RC := .seq c56_4 c56_7
def c56_9 : RC := .cond (.tmp 7) c56_3 c56_8
def c56_10 : RC := .seq c56_1 c56_9
def c56_11 : RC := .block 0 c56_10
def o56_12 : List ROp := [
  ⟨(some 6), .assign (.const (.int .i64 0)), 28, none, []⟩]
def c56_12 : RC := .reg [] o56_12
def c56_13 : RC := .seq c56_12 .ret
def c56_14 : RC := .seq c56_11 c56_13
def c56_15 : RC := .seq c56_0 c56_14
def m56_0 (pu : PureF) (n : Nat) (z1046 : Int) (z1047 : Int) (b1048 : Bool) : Option Value :=
  (bb b1048 (some (.int .i64 (2 : Int))) (bb (nt (ilt z1046 z1047)) (some (.int .i64 (7 : Int))) (some (.int .i64 (0 : Int)))))
def m56_ (pu : PureF) (n : Nat) (x1035 : Int) (s1037 : Sl) (s1039 : Sl) (x1041 : Int) (x1043 : Int) : Option Value :=
  (bb (ilt (bb (ilt x1043 x1041) x1043 x1041) (0 : Int)) (m56_0 pu n x1041 x1043 true) (m56_0 pu n x1041 x1043 (nt (ilt (bb (ilt x1041 x1043) x1043 x1041) (Int.ofNat (Sl.n s1037))))))
def m56 (pu : PureF) (n : Nat) (args : List Value) : Option Value :=
  (ll args none fun a0 args => (ll args none fun a1 args => (ll args none fun a2 args => (ll args (oo (vAgg a0) none fun l1030 => (ll l1030 none fun v1032 l1030 => (ll l1030 none fun v1033 l1030 => (ll l1030 none fun v1034 l1030 => (ll l1030 (oo (toI .i64 v1032) none fun x1035 => (oo (toSl 1 v1033) none fun s1037 => (oo (toSl 1 v1034) none fun s1039 => (oo (toI .i64 a1) none fun x1041 => (oo (toI .i64 a2) none fun x1043 => (m56_ pu n x1035 s1037 s1039 x1041 x1043)))))) fun _ _ => none))))) fun _ _ => none))))
theorem r56 {call : CallF} (pu : PureF) (n : Nat) (hcall : call = callP tabs isP pu inl) {args : List Value} {v : Value} (hm : m56 pu n args = some v) (_ : ∀ x ∈ args, closed2 x = true) : args.length ≤ 25 ∧ Run tt call 1 c56_15 (Fr.made 25 args) (pureHeap tabs) (Fin tt 1 [.tmp 6] v) := by
  subst hcall
  unfold m56 at hm
  have hq := ll_uncons hm; clear hm; obtain ⟨a0, args_0, rfl, hm⟩ := hq
  have hq := ll_uncons hm; clear hm; obtain ⟨a1, args_1, rfl, hm⟩ := hq
  have hq := ll_uncons hm; clear hm; obtain ⟨a2, args_2, rfl, hm⟩ := hq
  have hq := ll_end hm; clear hm; obtain ⟨rfl, hm⟩ := hq
  have hq := oo_inv hm; clear hm; obtain ⟨l1030, h1031, hm⟩ := hq
  obtain rfl := vAgg_some h1031
  have hq := ll_uncons hm; clear hm; obtain ⟨v1032, l1030_0, rfl, hm⟩ := hq
  have hq := ll_uncons hm; clear hm; obtain ⟨v1033, l1030_1, rfl, hm⟩ := hq
  have hq := ll_uncons hm; clear hm; obtain ⟨v1034, l1030_2, rfl, hm⟩ := hq
  have hq := ll_end hm; clear hm; obtain ⟨rfl, hm⟩ := hq
  have hq := oo_inv hm; clear hm; obtain ⟨x1035, h1036, hm⟩ := hq
  obtain rfl := toI_some h1036
  have hq := oo_inv hm; clear hm; obtain ⟨s1037, h1038, hm⟩ := hq
  obtain rfl := toSl_some h1038
  have hq := oo_inv hm; clear hm; obtain ⟨s1039, h1040, hm⟩ := hq
  obtain rfl := toSl_some h1040
  have hq := oo_inv hm; clear hm; obtain ⟨x1041, h1042, hm⟩ := hq
  obtain rfl := toI_some h1042
  have hq := oo_inv hm; clear hm; obtain ⟨x1043, h1044, hm⟩ := hq
  obtain rfl := toI_some h1044
  unfold m56_ at hm
  refine ⟨by simp, ?_⟩
  refine .same (F' := (⟨25, frTr [(0, (.agg ⟨[(.int .i64 x1035), (Sl.v 1 s1037), (Sl.v 1 s1039)]⟩)), (1, (.int .i64 x1041)), (2, (.int .i64 x1043))] .nil⟩ : Fr)) (H' := (⟨1, objTr [(.cells tab0 true false [])] 0 .nil, true⟩ : AHeap)) (by kernel_rfl) (by kernel_rfl) ?_
  refine .then ?_
  refine .reg (F' := (Fr.puts (⟨25, frTr [(0, (.agg ⟨[(.int .i64 x1035), (Sl.v 1 s1037), (Sl.v 1 s1039)]⟩)), (1, (.int .i64 x1041)), (2, (.int .i64 x1043))] .nil⟩ : Fr) [(3, (.pointer (some ⟨1, 0, none⟩))), (6, (.int .i64 (0 : Int)))])) (H' := (⟨2, objTr [(.cells tab0 true false []), (.cells [(.int .i64 x1035), (Sl.v 1 s1037), (Sl.v 1 s1039)] false false [])] 0 .nil, true⟩ : AHeap)) (by kernel_rfl) ?_
  refine .ghs (⟨25, frTr [(1, (.int .i64 x1041)), (2, (.int .i64 x1043)), (3, (.pointer (some ⟨1, 0, none⟩)))] .nil⟩ : Fr) (⟨2, objTr [(.cells tab0 true false []), (.cells [(.int .i64 x1035), (Sl.v 1 s1037), (Sl.v 1 s1039)] false false [])] 0 .nil, true⟩ : AHeap) (.gc [] [false] [.tmp 3 false] [1, 2, 3] (by kernel_rfl) trivial (by kernel_rfl)) ?_
  refine .then ?_
  refine .block ?_
  refine .join (v := v) (fun y : Int × Int × Bool => ((⟨25, frTr [(1, (.int .i64 y.1)), (2, (.int .i64 y.2.1)), (7, (.bool y.2.2))] .nil⟩ : Fr), (⟨1, objTr [(.cells tab0 true false [])] 0 .nil, true⟩ : AHeap))) (fun y => m56_0 pu n y.1 y.2.1 y.2.2) ?_ ?_
  · rintro ⟨z1046, z1047, b1048⟩ hm
    unfold m56_0 at hm
    have hq := bb_cases hm; clear hm; rcases hq with ⟨h1049, hm⟩ | ⟨h1049, hm⟩
    · refine .ifT b1048 (by kernel_rfl) h1049 ?_
      refine .then ?_
      refine .reg (F' := (Fr.puts (⟨25, frTr [(1, (.int .i64 z1046)), (2, (.int .i64 z1047)), (7, (.bool b1048))] .nil⟩ : Fr) [(6, (.int .i64 (2 : Int)))])) (H' := (⟨1, objTr [(.cells tab0 true false [])] 0 .nil, true⟩ : AHeap)) (by kernel_rfl) ?_
      refine .ghs (⟨25, frTr [(6, (.int .i64 (2 : Int)))] .nil⟩ : Fr) (⟨1, objTr [(.cells tab0 true false [])] 0 .nil, true⟩ : AHeap) (.gc [] [false] [] [6] (by kernel_rfl) trivial (by kernel_rfl)) ?_
      refine .ret ?_
      exact fin_ret (.int .i64 (2 : Int)) (by kernel_rfl) (by kernel_rfl) hm
    · refine .ifF b1048 (by kernel_rfl) h1049 ?_
      refine .then ?_
      refine .reg (F' := (Fr.puts (⟨25, frTr [(1, (.int .i64 z1046)), (2, (.int .i64 z1047)), (7, (.bool b1048))] .nil⟩ : Fr) [(22, (.int .i64 z1046)), (23, (.int .i64 z1047)), (24, (.bool (nt (ilt z1046 z1047)))), (21, (.bool (nt (ilt z1046 z1047))))])) (H' := (⟨1, objTr [(.cells tab0 true false [])] 0 .nil, true⟩ : AHeap)) (by kernel_rfl) ?_
      refine .ghs (⟨25, frTr [(21, (.bool (nt (ilt z1046 z1047))))] .nil⟩ : Fr) (⟨1, objTr [(.cells tab0 true false [])] 0 .nil, true⟩ : AHeap) (.gc [] [false] [] [21] (by kernel_rfl) trivial (by kernel_rfl)) ?_
      have hq := bb_cases hm; clear hm; rcases hq with ⟨h1050, hm⟩ | ⟨h1050, hm⟩
      · refine .ifT (nt (ilt z1046 z1047)) (by kernel_rfl) h1050 ?_
        refine .then ?_
        refine .reg (F' := (Fr.puts (⟨25, frTr [(21, (.bool (nt (ilt z1046 z1047))))] .nil⟩ : Fr) [(6, (.int .i64 (7 : Int)))])) (H' := (⟨1, objTr [(.cells tab0 true false [])] 0 .nil, true⟩ : AHeap)) (by kernel_rfl) ?_
        refine .ghs (⟨25, frTr [(6, (.int .i64 (7 : Int)))] .nil⟩ : Fr) (⟨1, objTr [(.cells tab0 true false [])] 0 .nil, true⟩ : AHeap) (.gc [] [false] [] [6] (by kernel_rfl) trivial (by kernel_rfl)) ?_
        refine .ret ?_
        exact fin_ret (.int .i64 (7 : Int)) (by kernel_rfl) (by kernel_rfl) hm
      · refine .ifF (nt (ilt z1046 z1047)) (by kernel_rfl) h1050 ?_
        refine .skip ?_
        refine .ghs (⟨25, frTr [] .nil⟩ : Fr) (⟨1, objTr [(.cells tab0 true false [])] 0 .nil, true⟩ : AHeap) (.gc [] [false] [] [] (by kernel_rfl) trivial (by kernel_rfl)) ?_
        refine .then ?_
        refine .reg (F' := (Fr.puts (⟨25, frTr [] .nil⟩ : Fr) [(6, (.int .i64 (0 : Int)))])) (H' := (⟨1, objTr [(.cells tab0 true false [])] 0 .nil, true⟩ : AHeap)) (by kernel_rfl) ?_
        refine .ghs (⟨25, frTr [(6, (.int .i64 (0 : Int)))] .nil⟩ : Fr) (⟨1, objTr [(.cells tab0 true false [])] 0 .nil, true⟩ : AHeap) (.gc [] [false] [] [6] (by kernel_rfl) trivial (by kernel_rfl)) ?_
        refine .ret ?_
        exact fin_ret (.int .i64 (0 : Int)) (by kernel_rfl) (by kernel_rfl) hm
  · skip
    have hq := bb_cases hm; clear hm; rcases hq with ⟨h1051, hm⟩ | ⟨h1051, hm⟩
    · skip
      refine .reg (F' := (Fr.puts (⟨25, frTr [(1, (.int .i64 x1041)), (2, (.int .i64 x1043)), (3, (.pointer (some ⟨1, 0, none⟩)))] .nil⟩ : Fr) [(8, (.int .i64 x1041)), (9, (.int .i64 x1043)), (10, (.int .i64 (bb (ilt x1043 x1041) x1043 x1041))), (11, (.bool true)), (12, (.bool true)), (13, (.tuple ⟨[]⟩)), (14, (.tuple ⟨[]⟩)), (15, (.tuple ⟨[]⟩)), (16, (.tuple ⟨[]⟩)), (17, (.tuple ⟨[]⟩)), (18, (.tuple ⟨[]⟩)), (19, (.tuple ⟨[]⟩)), (20, (.bool true)), (7, (.bool true))])) (H' := (⟨2, objTr [(.cells tab0 true false []), (.cells [(.int .i64 x1035), (Sl.v 1 s1037), (Sl.v 1 s1039)] false false [])] 0 .nil, true⟩ : AHeap)) (evOps_cut 3 (by kernel_rfl) (evOps_data (some ((.bool (ilt (bb (ilt x1043 x1041) x1043 x1041) (0 : Int))), (⟨2, objTr [(.cells tab0 true false []), (.cells [(.int .i64 x1035), (Sl.v 1 s1037), (Sl.v 1 s1039)] false false [])] 0 .nil, true⟩ : AHeap))) (by kernel_rfl) (show _ = some ((.bool true), _) from (by rw [h1051])) (okAt_of (by kernel_rfl) (by kernel_rfl)) (by kernel_rfl))) ?_
      exact ⟨(x1041, x1043, true), hm, (.gc [] [false] [] [1, 2, 7] (by kernel_rfl) trivial (by kernel_rfl))⟩
    · skip
      refine .reg (F' := (Fr.puts (⟨25, frTr [(1, (.int .i64 x1041)), (2, (.int .i64 x1043)), (3, (.pointer (some ⟨1, 0, none⟩)))] .nil⟩ : Fr) [(8, (.int .i64 x1041)), (9, (.int .i64 x1043)), (10, (.int .i64 (bb (ilt x1043 x1041) x1043 x1041))), (11, (.bool false)), (12, (.bool false)), (13, (.int .i64 x1041)), (14, (.int .i64 x1043)), (15, (.int .i64 (bb (ilt x1041 x1043) x1043 x1041))), (16, (.pointer (some ⟨1, 1, none⟩))), (17, (Sl.v 1 s1037)), (18, (.int .i64 (Int.ofNat (Sl.n s1037)))), (19, (.bool (nt (ilt (bb (ilt x1041 x1043) x1043 x1041) (Int.ofNat (Sl.n s1037)))))), (20, (.bool (nt (ilt (bb (ilt x1041 x1043) x1043 x1041) (Int.ofNat (Sl.n s1037)))))), (7, (.bool (nt (ilt (bb (ilt x1041 x1043) x1043 x1041) (Int.ofNat (Sl.n s1037))))))])) (H' := (⟨2, objTr [(.cells tab0 true false []), (.cells [(.int .i64 x1035), (Sl.v 1 s1037), (Sl.v 1 s1039)] false false [])] 0 .nil, true⟩ : AHeap)) (evOps_cut 3 (by kernel_rfl) (evOps_data (some ((.bool (ilt (bb (ilt x1043 x1041) x1043 x1041) (0 : Int))), (⟨2, objTr [(.cells tab0 true false []), (.cells [(.int .i64 x1035), (Sl.v 1 s1037), (Sl.v 1 s1039)] false false [])] 0 .nil, true⟩ : AHeap))) (by kernel_rfl) (show _ = some ((.bool false), _) from (by rw [h1051])) (okAt_of (by kernel_rfl) (by kernel_rfl)) (by kernel_rfl))) ?_
      exact ⟨(x1041, x1043, (nt (ilt (bb (ilt x1041 x1043) x1043 x1041) (Int.ofNat (Sl.n s1037))))), hm, (.gc [] [false] [] [1, 2, 7] (by kernel_rfl) trivial (by kernel_rfl))⟩
/-- (spadille/mend.Tray).after -/
def o57_0 : List ROp := [
  ⟨(some 3), .box 24 (.tmp 0), 0, none, []⟩,
  ⟨(some 6), .alloc 24, 0, none, []⟩]
def c57_0 : RC := .reg [] o57_0
def o57_1 : List ROp := [
  ⟨(some 8), .fieldAddr 24 (.tmp 3) 0, 0, none, []⟩,
  ⟨(some 9), .load 3 (.tmp 8), 3, none, []⟩,
  ⟨(some 10), .fieldAddr 24 (.tmp 3) 1, 0, none, []⟩,
  ⟨(some 11), .load 22 (.tmp 10), 22, none, []⟩,
  ⟨(some 13), .fieldAddr 24 (.tmp 3) 2, 0, none, []⟩,
  ⟨(some 14), .load 22 (.tmp 13), 22, none, []⟩,
  ⟨(some 7), .alloc 24, 0, none, []⟩,
  ⟨(some 12), .call ⟨.value (.func 74), #[(.tmp 11)], #[22]⟩, 22, none, [(.tmp 13), (.tmp 8)]⟩,
  ⟨(some 15), .call ⟨.value (.func 74), #[(.tmp 14)], #[22]⟩, 22, none, [(.tmp 8)]⟩,
  ⟨(some 16), .build 24 #[(0, (.tmp 9)), (1, (.tmp 12)), (2, (.tmp 15))], 24, none, []⟩,
  ⟨none, .store 24 (.tmp 7) (.tmp 16), 0, none, []⟩]
def c57_1 : RC := .reg [0, 1, 2, 3, 5, 6, 9, 4, 7, 8, 10] o57_1
def o57_2 : List ROp := [
  ⟨(some 17), .fieldAddr 24 (.tmp 7) 1, 0, none, []⟩,
  ⟨(some 18), .load 22 (.tmp 17), 22, none, []⟩,
  ⟨(some 19), .move (.tmp 1), 3, none, []⟩,
  ⟨(some 20), .fieldAddr 24 (.tmp 7) 1, 0, none, []⟩,
  ⟨(some 21), .load 22 (.tmp 20), 22, none, []⟩,
  ⟨(some 22), .move (.tmp 2), 3, none, []⟩,
  ⟨(some 23), .fieldAddr 24 (.tmp 7) 1, 0, none, []⟩,
  ⟨(some 24), .load 22 (.tmp 23), 22, none, []⟩,
  ⟨(some 25), .move (.tmp 2), 3, none, []⟩,
  ⟨(some 26), .indexAddr 22 (.tmp 24) (.tmp 25), 0, none, []⟩,
  ⟨(some 27), .load 3 (.tmp 26), 3, none, []⟩,
  ⟨(some 28), .fieldAddr 24 (.tmp 7) 1, 0, none, []⟩,
  ⟨(some 29), .load 22 (.tmp 28), 22, none, []⟩,
  ⟨(some 30), .move (.tmp 1), 3, none, []⟩,
  ⟨(some 31), .indexAddr 22 (.tmp 29) (.tmp 30), 0, none, []⟩,
  ⟨(some 32), .load 3 (.tmp 31), 3, none, []⟩,
  ⟨(some 33), .indexAddr 22 (.tmp 18) (.tmp 19), 0, none, []⟩,
  ⟨none, .store 3 (.tmp 33) (.tmp 27), 0, none, [(.tmp 20)]⟩,
  ⟨(some 34), .indexAddr 22 (.tmp 21) (.tmp 22), 0, none, []⟩,
  ⟨none, .store 3 (.tmp 34) (.tmp 32), 0, none, []⟩]
def c57_2 : RC := .reg [0, 1, 2, 3, 4, 5, 6, 7, 8, 9, 10, 11, 12, 13, 14, 15, 16, 17, 18, 19] o57_2
def o57_3 : List ROp := [
  ⟨(some 35), .load 24 (.tmp 7), 24, none, []⟩,
  ⟨none, .store 24 (.tmp 6) (.tmp 35), 0, none, []⟩]
def c57_3 : RC := .reg [] o57_3
def c57_4 : RC := .seq c57_3 .ret
def c57_5 : RC := .seq c57_2 c57_4
def c57_6 : RC := .seq c57_1 c57_5
def c57_7 : RC := .seq c57_0 c57_6

def m57_ (pu : PureF) (n : Nat) (x1057 : Int) (s1059 : Sl) (s1061 : Sl) (x1063 : Int) (x1065 : Int) : Option Value :=
  (bb (roomy (0 + (Sl.n s1059)) 8) (bb (roomy (0 + (Sl.n s1061)) 8) (bb (allL closed1 (takeL ((Sl.n s1059) * 1) (Sl.cs s1059))) (bb (allL closed1 (takeL ((Sl.n s1061) * 1) (Sl.cs s1061))) (oo (toN x1065) none fun k1071 => (bb (an (Nat.blt k1071 (Sl.n s1059)) true) (oo (nthL (takeL ((Sl.n s1059) * 1) (Sl.cs s1059)) (0 + k1071 * 1)) none fun v1074 => (oo (toI .i64 v1074) none fun x1076 => (oo (toN x1063) none fun k1078 => (bb (an (Nat.blt k1078 (Sl.n s1059)) true) (oo (nthL (takeL ((Sl.n s1059) * 1) (Sl.cs s1059)) (0 + k1078 * 1)) none fun v1081 => (oo (toI .i64 v1081) none fun x1083 => (bb (an (Nat.blt k1078 (Sl.n s1059)) true) (bb (an (Nat.ble ((0 + k1078 * 1) + 1) (len (takeL ((Sl.n s1059) * 1) (Sl.cs s1059)))) true) (bb (an (Nat.blt k1071 (Sl.n s1059)) true) (bb (an (Nat.ble ((0 + k1071 * 1) + 1) (len (setL ([(.int .i64 x1076)] : List Value) (0 + k1078 * 1) (takeL ((Sl.n s1059) * 1) (Sl.cs s1059))))) true) (bb (allL closed1 (setL ([(.int .i64 x1083)] : List Value) (0 + k1071 * 1) (setL ([(.int .i64 x1076)] : List Value) (0 + k1078 * 1) (takeL ((Sl.n s1059) * 1) (Sl.cs s1059))))) (bb (an (Nat.ble (0 + (Sl.n s1059) * 1) (len (setL ([(.int .i64 x1083)] : List Value) (0 + k1071 * 1) (setL ([(.int .i64 x1076)] : List Value) (0 + k1078 * 1) (takeL ((Sl.n s1059) * 1) (Sl.cs s1059)))))) (allL closed1 (takeL ((Sl.n s1059) * 1) (dropL 0 (setL ([(.int .i64 x1083)] : List Value) (0 + k1071 * 1) (setL ([(.int .i64 x1076)] : List Value) (0 + k1078 * 1) (takeL ((Sl.n s1059) * 1) (Sl.cs s1059)))))))) (bb (an (Nat.ble (0 + (Sl.n s1061) * 1) (len (takeL ((Sl.n s1061) * 1) (Sl.cs s1061)))) (allL closed1 (takeL ((Sl.n s1061) * 1) (dropL 0 (takeL ((Sl.n s1061) * 1) (Sl.cs s1061)))))) (some (.agg ⟨[(.int .i64 x1057), (Sl.v 1 (Sl.mk (Sl.n s1059) 0 (takeL ((Sl.n s1059) * 1) (dropL 0 (setL ([(.int .i64 x1083)] : List Value) (0 + k1071 * 1) (setL ([(.int .i64 x1076)] : List Value) (0 + k1078 * 1) (takeL ((Sl.n s1059) * 1) (Sl.cs s1059)))))))), (Sl.v 1 (Sl.mk (Sl.n s1061) 0 (takeL ((Sl.n s1061) * 1) (dropL 0 (takeL ((Sl.n s1061) * 1) (Sl.cs s1061))))))]⟩)) none) none) none) none) none) none) none))) none)))) none)) none) none) none) none)
def m57 (pu : PureF) (n : Nat) (args : List Value) : Option Value :=
  (ll args none fun a0 args => (ll args none fun a1 args => (ll args none fun a2 args => (ll args (oo (vAgg a0) none fun l1052 => (ll l1052 none fun v1054 l1052 => (ll l1052 none fun v1055 l1052 => (ll l1052 none fun v1056 l1052 => (ll l1052 (oo (toI .i64 v1054) none fun x1057 => (oo (toSl 1 v1055) none fun s1059 => (oo (toSl 1 v1056) none fun s1061 => (oo (toI .i64 a1) none fun x1063 => (oo (toI .i64 a2) none fun x1065 => (m57_ pu n x1057 s1059 s1061 x1063 x1065)))))) fun _ _ => none))))) fun _ _ => none))))
theorem r57 {call : CallF} (pu : PureF) (n : Nat) (hcall : call = callP tabs isP pu inl) {args : List Value} {v : Value} (hm : m57 pu n args = some v) (_ : ∀ x ∈ args, closed2 x = true) : args.length ≤ 36 ∧ Run tt call 1 c57_7 (Fr.made 36 args) (pureHeap tabs) (Fin tt 1 [.cell 6 24] v) := by
  subst hcall
  unfold m57 at hm
  have hq := ll_uncons hm; clear hm; obtain ⟨a0, args_0, rfl, hm⟩ := hq
  have hq := ll_uncons hm; clear hm; obtain ⟨a1, args_1, rfl, hm⟩ := hq
  have hq := ll_uncons hm; clear hm; obtain ⟨a2, args_2, rfl, hm⟩ := hq
  have hq := ll_end hm; clear hm; obtain ⟨rfl, hm⟩ := hq
  have hq := oo_inv hm; clear hm; obtain ⟨l1052, h1053, hm⟩ := hq
  obtain rfl := vAgg_some h1053
  have hq := ll_uncons hm; clear hm; obtain ⟨v1054, l1052_0, rfl, hm⟩ := hq
  have hq := ll_uncons hm; clear hm; obtain ⟨v1055, l1052_1, rfl, hm⟩ := hq
  have hq := ll_uncons hm; clear hm; obtain ⟨v1056, l1052_2, rfl, hm⟩ := hq
  have hq := ll_end hm; clear hm; obtain ⟨rfl, hm⟩ := hq
  have hq := oo_inv hm; clear hm; obtain ⟨x1057, h1058, hm⟩ := hq
  obtain rfl := toI_some h1058
  have hq := oo_inv hm; clear hm; obtain ⟨s1059, h1060, hm⟩ := hq
  obtain rfl := toSl_some h1060
  have hq := oo_inv hm; clear hm; obtain ⟨s1061, h1062, hm⟩ := hq
  obtain rfl := toSl_some h1062
  have hq := oo_inv hm; clear hm; obtain ⟨x1063, h1064, hm⟩ := hq
  obtain rfl := toI_some h1064
  have hq := oo_inv hm; clear hm; obtain ⟨x1065, h1066, hm⟩ := hq
  obtain rfl := toI_some h1066
  unfold m57_ at hm
  refine ⟨by simp, ?_⟩
  refine .same (F' := (⟨36, frTr [(0, (.agg ⟨[(.int .i64 x1057), (Sl.v 1 s1059), (Sl.v 1 s1061)]⟩)), (1, (.int .i64 x1063)), (2, (.int .i64 x1065))] .nil⟩ : Fr)) (H' := (⟨1, objTr [(.cells tab0 true false [])] 0 .nil, true⟩ : AHeap)) (by kernel_rfl) (by kernel_rfl) ?_
  refine .then ?_
  refine .reg (F' := (Fr.puts (⟨36, frTr [(0, (.agg ⟨[(.int .i64 x1057), (Sl.v 1 s1059), (Sl.v 1 s1061)]⟩)), (1, (.int .i64 x1063)), (2, (.int .i64 x1065))] .nil⟩ : Fr) [(3, (.pointer (some ⟨1, 0, none⟩))), (6, (.pointer (some ⟨2, 0, none⟩)))])) (H' := (⟨3, objTr [(.cells tab0 true false []), (.cells [(.int .i64 x1057), (Sl.v 1 s1059), (Sl.v 1 s1061)] false false []), (.cells [(.int .i64 (0 : Int)), (.slice none 0 0), (.slice none 0 0)] false false [])] 0 .nil, true⟩ : AHeap)) (by kernel_rfl) ?_
  refine .ghs (⟨36, frTr [(1, (.int .i64 x1063)), (2, (.int .i64 x1065)), (3, (.pointer (some ⟨1, 0, none⟩))), (6, (.pointer (some ⟨2, 0, none⟩)))] .nil⟩ : Fr) (⟨3, objTr [(.cells tab0 true false []), (.cells [(.int .i64 x1057), (Sl.v 1 s1059), (Sl.v 1 s1061)] false false []), (.cells [(.int .i64 (0 : Int)), (.slice none 0 0), (.slice none 0 0)] false false [])] 0 .nil, true⟩ : AHeap) (.gc [] [false] [.tmp 3 false, .tmp 6 false] [1, 2, 3, 6] (by kernel_rfl) trivial (by kernel_rfl)) ?_
  refine .then ?_
  have hq := bb_inv hm; clear hm; obtain ⟨h1067, hm⟩ := hq
  have hq := bb_inv hm; clear hm; obtain ⟨h1068, hm⟩ := hq
  refine .reg (F' := (Fr.puts (⟨36, frTr [(1, (.int .i64 x1063)), (2, (.int .i64 x1065)), (3, (.pointer (some ⟨1, 0, none⟩))), (6, (.pointer (some ⟨2, 0, none⟩)))] .nil⟩ : Fr) [(8, (.pointer (some ⟨1, 0, none⟩))), (9, (.int .i64 x1057)), (10, (.pointer (some ⟨1, 1, none⟩))), (11, (Sl.v 1 s1059)), (13, (.pointer (some ⟨1, 2, none⟩))), (14, (Sl.v 1 s1061)), (7, (.pointer (some ⟨3, 0, none⟩))), (12, (.slice (some ⟨5, 0, some 1⟩) (Sl.n s1059) (2 * (Sl.n s1059) + bb false 1 0))), (15, (.slice (some ⟨7, 0, some 1⟩) (Sl.n s1061) (2 * (Sl.n s1061) + bb false 1 0))), (16, (.agg ⟨[(.int .i64 x1057), (.slice (some ⟨5, 0, some 1⟩) (Sl.n s1059) (2 * (Sl.n s1059) + bb false 1 0)), (.slice (some ⟨7, 0, some 1⟩) (Sl.n s1061) (2 * (Sl.n s1061) + bb false 1 0))]⟩))])) (H' := (⟨8, objTr [(.cells tab0 true false []), (.cells [(.int .i64 x1057), (Sl.v 1 s1059), (Sl.v 1 s1061)] false false []), (.cells [(.int .i64 (0 : Int)), (.slice none 0 0), (.slice none 0 0)] false false []), (.cells [(.int .i64 x1057), (.slice (some ⟨5, 0, some 1⟩) (Sl.n s1059) (2 * (Sl.n s1059) + bb false 1 0)), (.slice (some ⟨7, 0, some 1⟩) (Sl.n s1061) (2 * (Sl.n s1061) + bb false 1 0))] false false []), (.cells [] false false []), (.cells (takeL ((Sl.n s1059) * 1) (Sl.cs s1059)) false false []), (.cells [] false false []), (.cells (takeL ((Sl.n s1061) * 1) (Sl.cs s1061)) false false [])] 0 .nil, true⟩ : AHeap)) (evOps_cut 7 (by kernel_rfl) (evOps_data (bb (roomy (0 + (Sl.n s1059)) 8) (some ((.slice (some ⟨5, 0, some 1⟩) (Sl.n s1059) (2 * (Sl.n s1059) + bb false 1 0)), (⟨6, objTr [(.cells tab0 true false []), (.cells [(.int .i64 x1057), (Sl.v 1 s1059), (Sl.v 1 s1061)] false false []), (.cells [(.int .i64 (0 : Int)), (.slice none 0 0), (.slice none 0 0)] false false []), (.cells [(.int .i64 (0 : Int)), (.slice none 0 0), (.slice none 0 0)] false false []), (.cells [] false false []), (.cells (takeL ((Sl.n s1059) * 1) (Sl.cs s1059)) false false [])] 0 .nil, true⟩ : AHeap))) none) (by kernel_rfl) (bb_some h1067) (okAt_of (by kernel_rfl) (by kernel_rfl)) (evOps_data (bb (roomy (0 + (Sl.n s1061)) 8) (some ((.slice (some ⟨7, 0, some 1⟩) (Sl.n s1061) (2 * (Sl.n s1061) + bb false 1 0)), (⟨8, objTr [(.cells tab0 true false []), (.cells [(.int .i64 x1057), (Sl.v 1 s1059), (Sl.v 1 s1061)] false false []), (.cells [(.int .i64 (0 : Int)), (.slice none 0 0), (.slice none 0 0)] false false []), (.cells [(.int .i64 (0 : Int)), (.slice none 0 0), (.slice none 0 0)] false false []), (.cells [] false false []), (.cells (takeL ((Sl.n s1059) * 1) (Sl.cs s1059)) false false []), (.cells [] false false []), (.cells (takeL ((Sl.n s1061) * 1) (Sl.cs s1061)) false false [])] 0 .nil, true⟩ : AHeap))) none) (by kernel_rfl) (bb_some h1068) (okAt_of (by kernel_rfl) (by kernel_rfl)) (by kernel_rfl)))) ?_
  have hq := bb_inv hm; clear hm; obtain ⟨h1069, hm⟩ := hq
  have hq := bb_inv hm; clear hm; obtain ⟨h1070, hm⟩ := hq
  refine .ghs (⟨36, frTr [(1, (.int .i64 x1063)), (2, (.int .i64 x1065)), (6, (.pointer (some ⟨1, 0, none⟩))), (7, (.pointer (some ⟨2, 0, none⟩)))] .nil⟩ : Fr) (⟨5, objTr [(.cells tab0 true false []), (.cells [(.int .i64 (0 : Int)), (.slice none 0 0), (.slice none 0 0)] false false []), (.cells [(.int .i64 x1057), (.slice (some ⟨3, 0, some 1⟩) (Sl.n s1059) (2 * (Sl.n s1059) + bb false 1 0)), (.slice (some ⟨4, 0, some 1⟩) (Sl.n s1061) (2 * (Sl.n s1061) + bb false 1 0))] false false []), (.cells (takeL ((Sl.n s1059) * 1) (Sl.cs s1059)) false false []), (.cells (takeL ((Sl.n s1061) * 1) (Sl.cs s1061)) false false [])] 0 .nil, true⟩ : AHeap) (.gc [5, 7] [false] [.tmp 6 false, .tmp 7 true, .cell 2 1 false, .cell 2 2 false] [1, 2, 6, 7] (by kernel_rfl) ⟨trE (by kernel_rfl) h1069, trE (by kernel_rfl) h1070, trivial⟩ (by kernel_rfl)) ?_
  refine .then ?_
  have hq := oo_inv hm; clear hm; obtain ⟨k1071, h1072, hm⟩ := hq
  obtain rfl := toN_some h1072
  have hq := bb_inv hm; clear hm; obtain ⟨h1073, hm⟩ := hq
  have hq := oo_inv hm; clear hm; obtain ⟨v1074, h1075, hm⟩ := hq
  have hq := oo_inv hm; clear hm; obtain ⟨x1076, h1077, hm⟩ := hq
  obtain rfl := toI_some h1077
  have hq := oo_inv hm; clear hm; obtain ⟨k1078, h1079, hm⟩ := hq
  obtain rfl := toN_some h1079
  have hq := bb_inv hm; clear hm; obtain ⟨h1080, hm⟩ := hq
  have hq := oo_inv hm; clear hm; obtain ⟨v1081, h1082, hm⟩ := hq
  have hq := oo_inv hm; clear hm; obtain ⟨x1083, h1084, hm⟩ := hq
  obtain rfl := toI_some h1084
  have hq := bb_inv hm; clear hm; obtain ⟨h1085, hm⟩ := hq
  have hq := bb_inv hm; clear hm; obtain ⟨h1086, hm⟩ := hq
  have hq := bb_inv hm; clear hm; obtain ⟨h1087, hm⟩ := hq
  have hq := bb_inv hm; clear hm; obtain ⟨h1088, hm⟩ := hq
  refine .reg (F' := (Fr.puts (⟨36, frTr [(1, (.int .i64 (Int.ofNat k1078))), (2, (.int .i64 (Int.ofNat k1071))), (6, (.pointer (some ⟨1, 0, none⟩))), (7, (.pointer (some ⟨2, 0, none⟩)))] .nil⟩ : Fr) [(17, (.pointer (some ⟨2, 1, none⟩))), (18, (.slice (some ⟨3, 0, some 1⟩) (Sl.n s1059) (2 * (Sl.n s1059) + bb false 1 0))), (19, (.int .i64 (Int.ofNat k1078))), (20, (.pointer (some ⟨2, 1, none⟩))), (21, (.slice (some ⟨3, 0, some 1⟩) (Sl.n s1059) (2 * (Sl.n s1059) + bb false 1 0))), (22, (.int .i64 (Int.ofNat k1071))), (23, (.pointer (some ⟨2, 1, none⟩))), (24, (.slice (some ⟨3, 0, some 1⟩) (Sl.n s1059) (2 * (Sl.n s1059) + bb false 1 0))), (25, (.int .i64 (Int.ofNat k1071))), (26, (.pointer (some ⟨3, (0 + k1071 * 1), none⟩))), (27, (.int .i64 x1076)), (28, (.pointer (some ⟨2, 1, none⟩))), (29, (.slice (some ⟨3, 0, some 1⟩) (Sl.n s1059) (2 * (Sl.n s1059) + bb false 1 0))), (30, (.int .i64 (Int.ofNat k1078))), (31, (.pointer (some ⟨3, (0 + k1078 * 1), none⟩))), (32, (.int .i64 x1083)), (33, (.pointer (some ⟨3, (0 + k1078 * 1), none⟩))), (34, (.pointer (some ⟨3, (0 + k1071 * 1), none⟩)))])) (H' := (⟨5, objTr [(.cells tab0 true false []), (.cells [(.int .i64 (0 : Int)), (.slice none 0 0), (.slice none 0 0)] false false []), (.cells [(.int .i64 x1057), (.slice (some ⟨3, 0, some 1⟩) (Sl.n s1059) (2 * (Sl.n s1059) + bb false 1 0)), (.slice (some ⟨4, 0, some 1⟩) (Sl.n s1061) (2 * (Sl.n s1061) + bb false 1 0))] false false []), (.cells (setL ([(.int .i64 x1083)] : List Value) (0 + k1071 * 1) (setL ([(.int .i64 x1076)] : List Value) (0 + k1078 * 1) (takeL ((Sl.n s1059) * 1) (Sl.cs s1059)))) false false []), (.cells (takeL ((Sl.n s1061) * 1) (Sl.cs s1061)) false false [])] 0 .nil, true⟩ : AHeap)) (evOps_cut 9 (by kernel_rfl) (evOps_data (keep (⟨5, objTr [(.cells tab0 true false []), (.cells [(.int .i64 (0 : Int)), (.slice none 0 0), (.slice none 0 0)] false false []), (.cells [(.int .i64 x1057), (.slice (some ⟨3, 0, some 1⟩) (Sl.n s1059) (2 * (Sl.n s1059) + bb false 1 0)), (.slice (some ⟨4, 0, some 1⟩) (Sl.n s1061) (2 * (Sl.n s1061) + bb false 1 0))] false false []), (.cells (takeL ((Sl.n s1059) * 1) (Sl.cs s1059)) false false []), (.cells (takeL ((Sl.n s1061) * 1) (Sl.cs s1061)) false false [])] 0 .nil, true⟩ : AHeap) (bb (an (Nat.blt k1071 (Sl.n s1059)) true) (some (.pointer (some ⟨3, (0 + k1071 * 1), none⟩))) none)) (by kernel_rfl) (keep_bb h1073) (okAt_of (by kernel_rfl) (by kernel_rfl)) (evOps_data (keep (⟨5, objTr [(.cells tab0 true false []), (.cells [(.int .i64 (0 : Int)), (.slice none 0 0), (.slice none 0 0)] false false []), (.cells [(.int .i64 x1057), (.slice (some ⟨3, 0, some 1⟩) (Sl.n s1059) (2 * (Sl.n s1059) + bb false 1 0)), (.slice (some ⟨4, 0, some 1⟩) (Sl.n s1061) (2 * (Sl.n s1061) + bb false 1 0))] false false []), (.cells (takeL ((Sl.n s1059) * 1) (Sl.cs s1059)) false false []), (.cells (takeL ((Sl.n s1061) * 1) (Sl.cs s1061)) false false [])] 0 .nil, true⟩ : AHeap) (nthL (takeL ((Sl.n s1059) * 1) (Sl.cs s1059)) (0 + k1071 * 1))) (by kernel_rfl) (keep_eq h1075) (okAt_of (by kernel_rfl) (by kernel_rfl)) (evOps_cut 3 (by kernel_rfl) (evOps_data (keep (⟨5, objTr [(.cells tab0 true false []), (.cells [(.int .i64 (0 : Int)), (.slice none 0 0), (.slice none 0 0)] false false []), (.cells [(.int .i64 x1057), (.slice (some ⟨3, 0, some 1⟩) (Sl.n s1059) (2 * (Sl.n s1059) + bb false 1 0)), (.slice (some ⟨4, 0, some 1⟩) (Sl.n s1061) (2 * (Sl.n s1061) + bb false 1 0))] false false []), (.cells (takeL ((Sl.n s1059) * 1) (Sl.cs s1059)) false false []), (.cells (takeL ((Sl.n s1061) * 1) (Sl.cs s1061)) false false [])] 0 .nil, true⟩ : AHeap) (bb (an (Nat.blt k1078 (Sl.n s1059)) true) (some (.pointer (some ⟨3, (0 + k1078 * 1), none⟩))) none)) (by kernel_rfl) (keep_bb h1080) (okAt_of (by kernel_rfl) (by kernel_rfl)) (evOps_data (keep (⟨5, objTr [(.cells tab0 true false []), (.cells [(.int .i64 (0 : Int)), (.slice none 0 0), (.slice none 0 0)] false false []), (.cells [(.int .i64 x1057), (.slice (some ⟨3, 0, some 1⟩) (Sl.n s1059) (2 * (Sl.n s1059) + bb false 1 0)), (.slice (some ⟨4, 0, some 1⟩) (Sl.n s1061) (2 * (Sl.n s1061) + bb false 1 0))] false false []), (.cells (takeL ((Sl.n s1059) * 1) (Sl.cs s1059)) false false []), (.cells (takeL ((Sl.n s1061) * 1) (Sl.cs s1061)) false false [])] 0 .nil, true⟩ : AHeap) (nthL (takeL ((Sl.n s1059) * 1) (Sl.cs s1059)) (0 + k1078 * 1))) (by kernel_rfl) (keep_eq h1082) (okAt_of (by kernel_rfl) (by kernel_rfl)) (evOps_data (keep (⟨5, objTr [(.cells tab0 true false []), (.cells [(.int .i64 (0 : Int)), (.slice none 0 0), (.slice none 0 0)] false false []), (.cells [(.int .i64 x1057), (.slice (some ⟨3, 0, some 1⟩) (Sl.n s1059) (2 * (Sl.n s1059) + bb false 1 0)), (.slice (some ⟨4, 0, some 1⟩) (Sl.n s1061) (2 * (Sl.n s1061) + bb false 1 0))] false false []), (.cells (takeL ((Sl.n s1059) * 1) (Sl.cs s1059)) false false []), (.cells (takeL ((Sl.n s1061) * 1) (Sl.cs s1061)) false false [])] 0 .nil, true⟩ : AHeap) (bb (an (Nat.blt k1078 (Sl.n s1059)) true) (some (.pointer (some ⟨3, (0 + k1078 * 1), none⟩))) none)) (by kernel_rfl) (keep_bb h1085) (okAt_of (by kernel_rfl) (by kernel_rfl)) (evOps_data (done (bb (an (Nat.ble ((0 + k1078 * 1) + 1) (len (takeL ((Sl.n s1059) * 1) (Sl.cs s1059)))) true) (some (⟨5, objTr [(.cells tab0 true false []), (.cells [(.int .i64 (0 : Int)), (.slice none 0 0), (.slice none 0 0)] false false []), (.cells [(.int .i64 x1057), (.slice (some ⟨3, 0, some 1⟩) (Sl.n s1059) (2 * (Sl.n s1059) + bb false 1 0)), (.slice (some ⟨4, 0, some 1⟩) (Sl.n s1061) (2 * (Sl.n s1061) + bb false 1 0))] false false []), (.cells (setL ([(.int .i64 x1076)] : List Value) (0 + k1078 * 1) (takeL ((Sl.n s1059) * 1) (Sl.cs s1059))) false false []), (.cells (takeL ((Sl.n s1061) * 1) (Sl.cs s1061)) false false [])] 0 .nil, true⟩ : AHeap)) none) undef) (by kernel_rfl) (done_bb h1086) (okAt_of (by kernel_rfl) (by kernel_rfl)) (evOps_data (keep (⟨5, objTr [(.cells tab0 true false []), (.cells [(.int .i64 (0 : Int)), (.slice none 0 0), (.slice none 0 0)] false false []), (.cells [(.int .i64 x1057), (.slice (some ⟨3, 0, some 1⟩) (Sl.n s1059) (2 * (Sl.n s1059) + bb false 1 0)), (.slice (some ⟨4, 0, some 1⟩) (Sl.n s1061) (2 * (Sl.n s1061) + bb false 1 0))] false false []), (.cells (setL ([(.int .i64 x1076)] : List Value) (0 + k1078 * 1) (takeL ((Sl.n s1059) * 1) (Sl.cs s1059))) false false []), (.cells (takeL ((Sl.n s1061) * 1) (Sl.cs s1061)) false false [])] 0 .nil, true⟩ : AHeap) (bb (an (Nat.blt k1071 (Sl.n s1059)) true) (some (.pointer (some ⟨3, (0 + k1071 * 1), none⟩))) none)) (by kernel_rfl) (keep_bb h1087) (okAt_of (by kernel_rfl) (by kernel_rfl)) (evOps_data (done (bb (an (Nat.ble ((0 + k1071 * 1) + 1) (len (setL ([(.int .i64 x1076)] : List Value) (0 + k1078 * 1) (takeL ((Sl.n s1059) * 1) (Sl.cs s1059))))) true) (some (⟨5, objTr [(.cells tab0 true false []), (.cells [(.int .i64 (0 : Int)), (.slice none 0 0), (.slice none 0 0)] false false []), (.cells [(.int .i64 x1057), (.slice (some ⟨3, 0, some 1⟩) (Sl.n s1059) (2 * (Sl.n s1059) + bb false 1 0)), (.slice (some ⟨4, 0, some 1⟩) (Sl.n s1061) (2 * (Sl.n s1061) + bb false 1 0))] false false []), (.cells (setL ([(.int .i64 x1083)] : List Value) (0 + k1071 * 1) (setL ([(.int .i64 x1076)] : List Value) (0 + k1078 * 1) (takeL ((Sl.n s1059) * 1) (Sl.cs s1059)))) false false []), (.cells (takeL ((Sl.n s1061) * 1) (Sl.cs s1061)) false false [])] 0 .nil, true⟩ : AHeap)) none) undef) (by kernel_rfl) (done_bb h1088) (okAt_of (by kernel_rfl) (by kernel_rfl)) (by kernel_rfl))))))))))) ?_
  have hq := bb_inv hm; clear hm; obtain ⟨h1089, hm⟩ := hq
  refine .ghs (⟨36, frTr [(6, (.pointer (some ⟨1, 0, none⟩))), (7, (.pointer (some ⟨2, 0, none⟩)))] .nil⟩ : Fr) (⟨5, objTr [(.cells tab0 true false []), (.cells [(.int .i64 (0 : Int)), (.slice none 0 0), (.slice none 0 0)] false false []), (.cells [(.int .i64 x1057), (.slice (some ⟨3, 0, some 1⟩) (Sl.n s1059) (2 * (Sl.n s1059) + bb false 1 0)), (.slice (some ⟨4, 0, some 1⟩) (Sl.n s1061) (2 * (Sl.n s1061) + bb false 1 0))] false false []), (.cells (setL ([(.int .i64 x1083)] : List Value) (0 + k1071 * 1) (setL ([(.int .i64 x1076)] : List Value) (0 + k1078 * 1) (takeL ((Sl.n s1059) * 1) (Sl.cs s1059)))) false false []), (.cells (takeL ((Sl.n s1061) * 1) (Sl.cs s1061)) false false [])] 0 .nil, true⟩ : AHeap) (.gc [3, 4] [false] [.tmp 6 false, .tmp 7 true, .cell 2 1 false, .cell 2 2 false] [6, 7] (by kernel_rfl) ⟨trE (by kernel_rfl) h1089, trE (by kernel_rfl) h1070, trivial⟩ (by kernel_rfl)) ?_
  refine .then ?_
  refine .reg (F' := (Fr.puts (⟨36, frTr [(6, (.pointer (some ⟨1, 0, none⟩))), (7, (.pointer (some ⟨2, 0, none⟩)))] .nil⟩ : Fr) [(35, (.agg ⟨[(.int .i64 x1057), (.slice (some ⟨3, 0, some 1⟩) (Sl.n s1059) (2 * (Sl.n s1059) + bb false 1 0)), (.slice (some ⟨4, 0, some 1⟩) (Sl.n s1061) (2 * (Sl.n s1061) + bb false 1 0))]⟩))])) (H' := (⟨5, objTr [(.cells tab0 true false []), (.cells [(.int .i64 x1057), (.slice (some ⟨3, 0, some 1⟩) (Sl.n s1059) (2 * (Sl.n s1059) + bb false 1 0)), (.slice (some ⟨4, 0, some 1⟩) (Sl.n s1061) (2 * (Sl.n s1061) + bb false 1 0))] false false []), (.cells [(.int .i64 x1057), (.slice (some ⟨3, 0, some 1⟩) (Sl.n s1059) (2 * (Sl.n s1059) + bb false 1 0)), (.slice (some ⟨4, 0, some 1⟩) (Sl.n s1061) (2 * (Sl.n s1061) + bb false 1 0))] false false []), (.cells (setL ([(.int .i64 x1083)] : List Value) (0 + k1071 * 1) (setL ([(.int .i64 x1076)] : List Value) (0 + k1078 * 1) (takeL ((Sl.n s1059) * 1) (Sl.cs s1059)))) false false []), (.cells (takeL ((Sl.n s1061) * 1) (Sl.cs s1061)) false false [])] 0 .nil, true⟩ : AHeap)) (by kernel_rfl) ?_
  refine .ghs (⟨36, frTr [(6, (.pointer (some ⟨1, 0, none⟩)))] .nil⟩ : Fr) (⟨4, objTr [(.cells tab0 true false []), (.cells [(.int .i64 x1057), (.slice (some ⟨2, 0, some 1⟩) (Sl.n s1059) (2 * (Sl.n s1059) + bb false 1 0)), (.slice (some ⟨3, 0, some 1⟩) (Sl.n s1061) (2 * (Sl.n s1061) + bb false 1 0))] false false []), (.cells (setL ([(.int .i64 x1083)] : List Value) (0 + k1071 * 1) (setL ([(.int .i64 x1076)] : List Value) (0 + k1078 * 1) (takeL ((Sl.n s1059) * 1) (Sl.cs s1059)))) false false []), (.cells (takeL ((Sl.n s1061) * 1) (Sl.cs s1061)) false false [])] 0 .nil, true⟩ : AHeap) (.gc [3, 4] [false] [.tmp 6 true, .cell 1 1 false, .cell 1 2 false] [6] (by kernel_rfl) ⟨trE (by kernel_rfl) h1089, trE (by kernel_rfl) h1070, trivial⟩ (by kernel_rfl)) ?_
  refine .ret ?_
  have hq := bb_inv hm; clear hm; obtain ⟨h1090, hm⟩ := hq
  have hq := bb_inv hm; clear hm; obtain ⟨h1091, hm⟩ := hq
  exact finT_ret (.agg ⟨[(.int .i64 x1057), (.slice (some ⟨2, 0, some 1⟩) (Sl.n s1059) (2 * (Sl.n s1059) + bb false 1 0)), (.slice (some ⟨3, 0, some 1⟩) (Sl.n s1061) (2 * (Sl.n s1061) + bb false 1 0))]⟩) (.agg ⟨[(.int .i64 x1057), (Sl.v 1 (Sl.mk (Sl.n s1059) 0 (takeL ((Sl.n s1059) * 1) (dropL 0 (setL ([(.int .i64 x1083)] : List Value) (0 + k1071 * 1) (setL ([(.int .i64 x1076)] : List Value) (0 + k1078 * 1) (takeL ((Sl.n s1059) * 1) (Sl.cs s1059)))))))), (Sl.v 1 (Sl.mk (Sl.n s1061) 0 (takeL ((Sl.n s1061) * 1) (dropL 0 (takeL ((Sl.n s1061) * 1) (Sl.cs s1061))))))]⟩) (by kernel_rfl) (Tell.agg (.cons (Tell.refl _ _ _) (.cons (Tell.frz (v' := (Sl.v 1 (Sl.mk (Sl.n s1059) 0 (takeL ((Sl.n s1059) * 1) (dropL 0 (setL ([(.int .i64 x1083)] : List Value) (0 + k1071 * 1) (setL ([(.int .i64 x1076)] : List Value) (0 + k1078 * 1) (takeL ((Sl.n s1059) * 1) (Sl.cs s1059))))))))) (H1 := (⟨4, objTr [(.cells tab0 true false []), (.cells [(.int .i64 x1057), (.slice (some ⟨2, 0, some 1⟩) (Sl.n s1059) (2 * (Sl.n s1059) + bb false 1 0)), (.slice (some ⟨3, 0, some 1⟩) (Sl.n s1061) (2 * (Sl.n s1061) + bb false 1 0))] false false []), .dead, (.cells (takeL ((Sl.n s1061) * 1) (Sl.cs s1061)) false false [])] 0 .nil, true⟩ : AHeap)) 1 false (an (Nat.ble (0 + (Sl.n s1059) * 1) (len (setL ([(.int .i64 x1083)] : List Value) (0 + k1071 * 1) (setL ([(.int .i64 x1076)] : List Value) (0 + k1078 * 1) (takeL ((Sl.n s1059) * 1) (Sl.cs s1059)))))) (allL closed1 (takeL ((Sl.n s1059) * 1) (dropL 0 (setL ([(.int .i64 x1083)] : List Value) (0 + k1071 * 1) (setL ([(.int .i64 x1076)] : List Value) (0 + k1078 * 1) (takeL ((Sl.n s1059) * 1) (Sl.cs s1059)))))))) (by kernel_rfl) (by kernel_rfl) h1090) (.cons (Tell.frz (v' := (Sl.v 1 (Sl.mk (Sl.n s1061) 0 (takeL ((Sl.n s1061) * 1) (dropL 0 (takeL ((Sl.n s1061) * 1) (Sl.cs s1061))))))) (H1 := (⟨4, objTr [(.cells tab0 true false []), (.cells [(.int .i64 x1057), (.slice (some ⟨2, 0, some 1⟩) (Sl.n s1059) (2 * (Sl.n s1059) + bb false 1 0)), (.slice (some ⟨3, 0, some 1⟩) (Sl.n s1061) (2 * (Sl.n s1061) + bb false 1 0))] false false []), .dead, .dead] 0 .nil, true⟩ : AHeap)) 1 false (an (Nat.ble (0 + (Sl.n s1061) * 1) (len (takeL ((Sl.n s1061) * 1) (Sl.cs s1061)))) (allL closed1 (takeL ((Sl.n s1061) * 1) (dropL 0 (takeL ((Sl.n s1061) * 1) (Sl.cs s1061)))))) (by kernel_rfl) (by kernel_rfl) h1091) (TellL.nil _))))) (by kernel_rfl) hm
/-- spadille/spadilleref09.exchange -/
def o58_0 : List ROp := [
  ⟨(some 3), .box 27 (.tmp 0), 0, none, []⟩,
  ⟨(some 6), .assign (.const (.int .i64 0)), 28, none, []⟩]
def c58_0 : RC := .reg [] o58_0
def o58_1 : List ROp := [
  ⟨(some 7), .move (.tmp 1), 3, none, []⟩,
  ⟨(some 8), .fieldAddr 27 (.tmp 3) 1, 0, none, []⟩,
  ⟨(some 9), .load 22 (.tmp 8), 22, none, []⟩,
  ⟨(some 10), .call ⟨.builtin .len, #[(.tmp 9)], #[22]⟩, 3, none, []⟩,
  ⟨(some 11), .binOp .sub 3 (.tmp 10) (.const (.int .i64 1)) 3, 3, none, []⟩,
  ⟨(some 12), .call ⟨.value (.func 61), #[(.tmp 7), (.const (.int .i64 0)), (.tmp 11)], #[3, 3, 3]⟩, 4, none, []⟩,
  ⟨(some 13), .unOp .not 4 (.tmp 12), 4, none, []⟩,
  ⟨(some 14), .move (.tmp 13), 4, none, []⟩,
  ⟨(some 15), .move (.tmp 2), 3, (some ((some 14), false)), []⟩,
  ⟨(some 16), .fieldAddr 27 (.tmp 3) 1, 0, (some ((some 14), false)), []⟩,
  ⟨(some 17), .load 22 (.tmp 16), 22, (some ((some 14), false)), []⟩,
  ⟨(some 18), .call ⟨.builtin .len, #[(.tmp 17)], #[22]⟩, 3, (some ((some 14), false)), []⟩,
  ⟨(some 19), .binOp .sub 3 (.tmp 18) (.const (.int .i64 1)) 3, 3, (some ((some 14), false)), []⟩,
  ⟨(some 20), .call ⟨.value (.func 61), #[(.tmp 15), (.const (.int .i64 0)), (.tmp 19)], #[3, 3, 3]⟩, 4, (some ((some 14), false)), []⟩,
  ⟨(some 21), .unOp .not 4 (.tmp 20), 4, (some ((some 14), false)), []⟩,
  ⟨(some 22), .pick (.tmp 14) (.const (.bool true)) (.tmp 21), 4, none, []⟩]
def c58_1 : RC := .reg [] o58_1
def o58_2 : List ROp := [
  ⟨(some 6), .assign (.const (.int .i64 2)), 28, none, []⟩]
def c58_2 : RC := .reg [] o58_2
def c58_3 : RC := .seq c58_2 .ret
def c58_4 : RC := .cond (.tmp 22) c58_3 .skip
def c58_5 : RC := .seq c58_1 c58_4
def o58_6 : List ROp := [
  ⟨(some 23), .move (.tmp 1), 3, none, []⟩,
  ⟨(some 24), .move (.tmp 2), 3, none, []⟩,
  ⟨(some 25), .binOp .geq 3 (.tmp 23) (.tmp 24) 3, 4, none, []⟩]
def c58_6 : RC := .reg [] o58_6
def o58_7 : List ROp := [
  ⟨(some 6), .assign (.const (.int .i64 7)), 28, none, []⟩]
def c58_7 : RC := .reg [] o58_7
def c58_8 : RC := .seq c58_7 .ret
def c58_9 : RC := .cond (.tmp 25) c58_8 .skip
def c58_10 : RC := .seq c58_6 c58_9
def o58_11 : List ROp := [
  ⟨(some 6), .assign (.const (.int .i64 0)), 28, none, []⟩]
def c58_11 : RC := .reg [] o58_11
def c58_12 : RC := .seq c58_11 .ret
def c58_13 : RC := .seq c58_10 c58_12
def c58_14 : RC := .seq c58_5 c58_13
def c58_15 : RC := .seq c58_0 c58_14
def m58_0 (pu : PureF) (n : Nat) (z1116 : Int) (z1117 : Int) (b1118 : Bool) : Option Value :=
  (bb b1118 (some (.int .i64 (2 : Int))) (bb (nt (ilt z1116 z1117)) (some (.int .i64 (7 : Int))) (some (.int .i64 (0 : Int)))))
def m58_ (pu : PureF) (n : Nat) (x1097 : Int) (s1099 : Sl) (s1101 : Sl) (x1103 : Int) (x1105 : Int) : Option Value :=
  (oo (pu 61 [(.int .i64 x1103), (.int .i64 (0 : Int)), (.int .i64 (wrapF .i64 (Int.sub (Int.ofNat (Sl.n s1099)) (1 : Int))))]) none fun v1121 => (oo (vBool v1121) none fun b1123 => (bb (nt b1123) (m58_0 pu n x1103 x1105 true) (oo (pu 61 [(.int .i64 x1105), (.int .i64 (0 : Int)), (.int .i64 (wrapF .i64 (Int.sub (Int.ofNat (Sl.n s1099)) (1 : Int))))]) none fun v1126 => (oo (vBool v1126) none fun b1128 => (m58_0 pu n x1103 x1105 (nt b1128)))))))
def m58 (pu : PureF) (n : Nat) (args : List Value) : Option Value :=
  (ll args none fun a0 args => (ll args none fun a1 args => (ll args none fun a2 args => (ll args (oo (vAgg a0) none fun l1092 => (ll l1092 none fun v1094 l1092 => (ll l1092 none fun v1095 l1092 => (ll l1092 none fun v1096 l1092 => (ll l1092 (oo (toI .i64 v1094) none fun x1097 => (oo (toSl 1 v1095) none fun s1099 => (oo (toSl 1 v1096) none fun s1101 => (oo (toI .i64 a1) none fun x1103 => (oo (toI .i64 a2) none fun x1105 => (m58_ pu n x1097 s1099 s1101 x1103 x1105)))))) fun _ _ => none))))) fun _ _ => none))))
theorem r58 {call : CallF} (pu : PureF) (n : Nat) (hcall : call = callP tabs isP pu inl) {args : List Value} {v : Value} (hm : m58 pu n args = some v) (_ : ∀ x ∈ args, closed2 x = true) : args.length ≤ 26 ∧ Run tt call 1 c58_15 (Fr.made 26 args) (pureHeap tabs) (Fin tt 1 [.tmp 6] v) := by
  subst hcall
  unfold m58 at hm
  have hq := ll_uncons hm; clear hm; obtain ⟨a0, args_0, rfl, hm⟩ := hq
  have hq := ll_uncons hm; clear hm; obtain ⟨a1, args_1, rfl, hm⟩ := hq
  have hq := ll_uncons hm; clear hm; obtain ⟨a2, args_2, rfl, hm⟩ := hq
  have hq := ll_end hm; clear hm; obtain ⟨rfl, hm⟩ := hq
  have hq := oo_inv hm; clear hm; obtain ⟨l1092, h1093, hm⟩ := hq
  obtain rfl := vAgg_some h1093
  have hq := ll_uncons hm; clear hm; obtain ⟨v1094, l1092_0, rfl, hm⟩ := hq
  have hq := ll_uncons hm; clear hm; obtain ⟨v1095, l1092_1, rfl, hm⟩ := hq
  have hq := ll_uncons hm; clear hm; obtain ⟨v1096, l1092_2, rfl, hm⟩ := hq
  have hq := ll_end hm; clear hm; obtain ⟨rfl, hm⟩ := hq
  have hq := oo_inv hm; clear hm; obtain ⟨x1097, h1098, hm⟩ := hq
  obtain rfl := toI_some h1098
  have hq := oo_inv hm; clear hm; obtain ⟨s1099, h1100, hm⟩ := hq
  obtain rfl := toSl_some h1100
  have hq := oo_inv hm; clear hm; obtain ⟨s1101, h1102, hm⟩ := hq
  obtain rfl := toSl_some h1102
  have hq := oo_inv hm; clear hm; obtain ⟨x1103, h1104, hm⟩ := hq
  obtain rfl := toI_some h1104
  have hq := oo_inv hm; clear hm; obtain ⟨x1105, h1106, hm⟩ := hq
  obtain rfl := toI_some h1106
  unfold m58_ at hm
  refine ⟨by simp, ?_⟩
  refine .same (F' := (⟨26, frTr [(0, (.agg ⟨[(.int .i64 x1097), (Sl.v 1 s1099), (Sl.v 1 s1101)]⟩)), (1, (.int .i64 x1103)), (2, (.int .i64 x1105))] .nil⟩ : Fr)) (H' := (⟨1, objTr [(.cells tab0 true false [])] 0 .nil, true⟩ : AHeap)) (by kernel_rfl) (by kernel_rfl) ?_
  refine .then ?_
  refine .reg (F' := (Fr.puts (⟨26, frTr [(0, (.agg ⟨[(.int .i64 x1097), (Sl.v 1 s1099), (Sl.v 1 s1101)]⟩)), (1, (.int .i64 x1103)), (2, (.int .i64 x1105))] .nil⟩ : Fr) [(3, (.pointer (some ⟨1, 0, none⟩))), (6, (.int .i64 (0 : Int)))])) (H' := (⟨2, objTr [(.cells tab0 true false []), (.cells [(.int .i64 x1097), (Sl.v 1 s1099), (Sl.v 1 s1101)] false false [])] 0 .nil, true⟩ : AHeap)) (by kernel_rfl) ?_
  refine .ghs (⟨26, frTr [(1, (.int .i64 x1103)), (2, (.int .i64 x1105)), (3, (.pointer (some ⟨1, 0, none⟩)))] .nil⟩ : Fr) (⟨2, objTr [(.cells tab0 true false []), (.cells [(.int .i64 x1097), (Sl.v 1 s1099), (Sl.v 1 s1101)] false false [])] 0 .nil, true⟩ : AHeap) (.gc [] [false] [.tmp 3 false] [1, 2, 3] (by kernel_rfl) trivial (by kernel_rfl)) ?_
  refine .then ?_
  refine .join (v := v) (fun y : Int × Int × Bool => ((⟨26, frTr [(1, (.int .i64 y.1)), (2, (.int .i64 y.2.1)), (22, (.bool y.2.2))] .nil⟩ : Fr), (⟨1, objTr [(.cells tab0 true false [])] 0 .nil, true⟩ : AHeap))) (fun y => m58_0 pu n y.1 y.2.1 y.2.2) ?_ ?_
  · rintro ⟨z1116, z1117, b1118⟩ hm
    unfold m58_0 at hm
    have hq := bb_cases hm; clear hm; rcases hq with ⟨h1119, hm⟩ | ⟨h1119, hm⟩
    · refine .ifT b1118 (by kernel_rfl) h1119 ?_
      refine .then ?_
      refine .reg (F' := (Fr.puts (⟨26, frTr [(1, (.int .i64 z1116)), (2, (.int .i64 z1117)), (22, (.bool b1118))] .nil⟩ : Fr) [(6, (.int .i64 (2 : Int)))])) (H' := (⟨1, objTr [(.cells tab0 true false [])] 0 .nil, true⟩ : AHeap)) (by kernel_rfl) ?_
      refine .ghs (⟨26, frTr [(6, (.int .i64 (2 : Int)))] .nil⟩ : Fr) (⟨1, objTr [(.cells tab0 true false [])] 0 .nil, true⟩ : AHeap) (.gc [] [false] [] [6] (by kernel_rfl) trivial (by kernel_rfl)) ?_
      refine .ret ?_
      exact fin_ret (.int .i64 (2 : Int)) (by kernel_rfl) (by kernel_rfl) hm
    · refine .ifF b1118 (by kernel_rfl) h1119 ?_
      refine .skip ?_
      refine .ghs (⟨26, frTr [(1, (.int .i64 z1116)), (2, (.int .i64 z1117))] .nil⟩ : Fr) (⟨1, objTr [(.cells tab0 true false [])] 0 .nil, true⟩ : AHeap) (.gc [] [false] [] [1, 2] (by kernel_rfl) trivial (by kernel_rfl)) ?_
      refine .then ?_
      refine .then ?_
      refine .reg (F' := (Fr.puts (⟨26, frTr [(1, (.int .i64 z1116)), (2, (.int .i64 z1117))] .nil⟩ : Fr) [(23, (.int .i64 z1116)), (24, (.int .i64 z1117)), (25, (.bool (nt (ilt z1116 z1117))))])) (H' := (⟨1, objTr [(.cells tab0 true false [])] 0 .nil, true⟩ : AHeap)) (by kernel_rfl) ?_
      refine .ghs (⟨26, frTr [(25, (.bool (nt (ilt z1116 z1117))))] .nil⟩ : Fr) (⟨1, objTr [(.cells tab0 true false [])] 0 .nil, true⟩ : AHeap) (.gc [] [false] [] [25] (by kernel_rfl) trivial (by kernel_rfl)) ?_
      have hq := bb_cases hm; clear hm; rcases hq with ⟨h1120, hm⟩ | ⟨h1120, hm⟩
      · refine .ifT (nt (ilt z1116 z1117)) (by kernel_rfl) h1120 ?_
        refine .then ?_
        refine .reg (F' := (Fr.puts (⟨26, frTr [(25, (.bool (nt (ilt z1116 z1117))))] .nil⟩ : Fr) [(6, (.int .i64 (7 : Int)))])) (H' := (⟨1, objTr [(.cells tab0 true false [])] 0 .nil, true⟩ : AHeap)) (by kernel_rfl) ?_
        refine .ghs (⟨26, frTr [(6, (.int .i64 (7 : Int)))] .nil⟩ : Fr) (⟨1, objTr [(.cells tab0 true false [])] 0 .nil, true⟩ : AHeap) (.gc [] [false] [] [6] (by kernel_rfl) trivial (by kernel_rfl)) ?_
        refine .ret ?_
        exact fin_ret (.int .i64 (7 : Int)) (by kernel_rfl) (by kernel_rfl) hm
      · refine .ifF (nt (ilt z1116 z1117)) (by kernel_rfl) h1120 ?_
        refine .skip ?_
        refine .ghs (⟨26, frTr [] .nil⟩ : Fr) (⟨1, objTr [(.cells tab0 true false [])] 0 .nil, true⟩ : AHeap) (.gc [] [false] [] [] (by kernel_rfl) trivial (by kernel_rfl)) ?_
        refine .then ?_
        refine .reg (F' := (Fr.puts (⟨26, frTr [] .nil⟩ : Fr) [(6, (.int .i64 (0 : Int)))])) (H' := (⟨1, objTr [(.cells tab0 true false [])] 0 .nil, true⟩ : AHeap)) (by kernel_rfl) ?_
        refine .ghs (⟨26, frTr [(6, (.int .i64 (0 : Int)))] .nil⟩ : Fr) (⟨1, objTr [(.cells tab0 true false [])] 0 .nil, true⟩ : AHeap) (.gc [] [false] [] [6] (by kernel_rfl) trivial (by kernel_rfl)) ?_
        refine .ret ?_
        exact fin_ret (.int .i64 (0 : Int)) (by kernel_rfl) (by kernel_rfl) hm
  · skip
    have hq := oo_inv hm; clear hm; obtain ⟨v1121, h1122, hm⟩ := hq
    have hq := oo_inv hm; clear hm; obtain ⟨b1123, h1124, hm⟩ := hq
    obtain rfl := vBool_some h1124
    have hq := bb_cases hm; clear hm; rcases hq with ⟨h1125, hm⟩ | ⟨h1125, hm⟩
    · skip
      refine .reg (F' := (Fr.puts (⟨26, frTr [(1, (.int .i64 x1103)), (2, (.int .i64 x1105)), (3, (.pointer (some ⟨1, 0, none⟩)))] .nil⟩ : Fr) [(7, (.int .i64 x1103)), (8, (.pointer (some ⟨1, 1, none⟩))), (9, (Sl.v 1 s1099)), (10, (.int .i64 (Int.ofNat (Sl.n s1099)))), (11, (.int .i64 (wrapF .i64 (Int.sub (Int.ofNat (Sl.n s1099)) (1 : Int))))), (12, (.bool b1123)), (13, (.bool true)), (14, (.bool true)), (15, (.tuple ⟨[]⟩)), (16, (.tuple ⟨[]⟩)), (17, (.tuple ⟨[]⟩)), (18, (.tuple ⟨[]⟩)), (19, (.tuple ⟨[]⟩)), (20, (.tuple ⟨[]⟩)), (21, (.tuple ⟨[]⟩)), (22, (.bool true))])) (H' := (⟨2, objTr [(.cells tab0 true false []), (.cells [(.int .i64 x1097), (Sl.v 1 s1099), (Sl.v 1 s1101)] false false [])] 0 .nil, true⟩ : AHeap)) (evOps_cut 5 (by kernel_rfl) (evOps_data ((oo (pu 61 [(.int .i64 x1103), (.int .i64 (0 : Int)), (.int .i64 (wrapF .i64 (Int.sub (Int.ofNat (Sl.n s1099)) (1 : Int))))]) none fun v => some (v, (⟨2, objTr [(.cells tab0 true false []), (.cells [(.int .i64 x1097), (Sl.v 1 s1099), (Sl.v 1 s1101)] false false [])] 0 .nil, true⟩ : AHeap)))) (by kernel_rfl) (call_eq h1122) (okAt_of (by kernel_rfl) (by kernel_rfl)) (evOps_data (some ((.bool (nt b1123)), (⟨2, objTr [(.cells tab0 true false []), (.cells [(.int .i64 x1097), (Sl.v 1 s1099), (Sl.v 1 s1101)] false false [])] 0 .nil, true⟩ : AHeap))) (by kernel_rfl) (show _ = some ((.bool true), _) from (by rw [h1125])) (okAt_of (by kernel_rfl) (by kernel_rfl)) (by kernel_rfl)))) ?_
      exact ⟨(x1103, x1105, true), hm, (.gc [] [false] [] [1, 2, 22] (by kernel_rfl) trivial (by kernel_rfl))⟩
    · skip
      have hq := oo_inv hm; clear hm; obtain ⟨v1126, h1127, hm⟩ := hq
      have hq := oo_inv hm; clear hm; obtain ⟨b1128, h1129, hm⟩ := hq
      obtain rfl := vBool_some h1129
      refine .reg (F' := (Fr.puts (⟨26, frTr [(1, (.int .i64 x1103)), (2, (.int .i64 x1105)), (3, (.pointer (some ⟨1, 0, none⟩)))] .nil⟩ : Fr) [(7, (.int .i64 x1103)), (8, (.pointer (some ⟨1, 1, none⟩))), (9, (Sl.v 1 s1099)), (10, (.int .i64 (Int.ofNat (Sl.n s1099)))), (11, (.int .i64 (wrapF .i64 (Int.sub (Int.ofNat (Sl.n s1099)) (1 : Int))))), (12, (.bool b1123)), (13, (.bool false)), (14, (.bool false)), (15, (.int .i64 x1105)), (16, (.pointer (some ⟨1, 1, none⟩))), (17, (Sl.v 1 s1099)), (18, (.int .i64 (Int.ofNat (Sl.n s1099)))), (19, (.int .i64 (wrapF .i64 (Int.sub (Int.ofNat (Sl.n s1099)) (1 : Int))))), (20, (.bool b1128)), (21, (.bool (nt b1128))), (22, (.bool (nt b1128)))])) (H' := (⟨2, objTr [(.cells tab0 true false []), (.cells [(.int .i64 x1097), (Sl.v 1 s1099), (Sl.v 1 s1101)] false false [])] 0 .nil, true⟩ : AHeap)) (evOps_cut 5 (by kernel_rfl) (evOps_data ((oo (pu 61 [(.int .i64 x1103), (.int .i64 (0 : Int)), (.int .i64 (wrapF .i64 (Int.sub (Int.ofNat (Sl.n s1099)) (1 : Int))))]) none fun v => some (v, (⟨2, objTr [(.cells tab0 true false []), (.cells [(.int .i64 x1097), (Sl.v 1 s1099), (Sl.v 1 s1101)] false false [])] 0 .nil, true⟩ : AHeap)))) (by kernel_rfl) (call_eq h1122) (okAt_of (by kernel_rfl) (by kernel_rfl)) (evOps_data (some ((.bool (nt b1123)), (⟨2, objTr [(.cells tab0 true false []), (.cells [(.int .i64 x1097), (Sl.v 1 s1099), (Sl.v 1 s1101)] false false [])] 0 .nil, true⟩ : AHeap))) (by kernel_rfl) (show _ = some ((.bool false), _) from (by rw [h1125])) (okAt_of (by kernel_rfl) (by kernel_rfl)) (evOps_cut 6 (by kernel_rfl) (evOps_data ((oo (pu 61 [(.int .i64 x1105), (.int .i64 (0 : Int)), (.int .i64 (wrapF .i64 (Int.sub (Int.ofNat (Sl.n s1099)) (1 : Int))))]) none fun v => some (v, (⟨2, objTr [(.cells tab0 true false []), (.cells [(.int .i64 x1097), (Sl.v 1 s1099), (Sl.v 1 s1101)] false false [])] 0 .nil, true⟩ : AHeap)))) (by kernel_rfl) (call_eq h1127) (okAt_of (by kernel_rfl) (by kernel_rfl)) (by kernel_rfl)))))) ?_
      exact ⟨(x1103, x1105, (nt b1128)), hm, (.gc [] [false] [] [1, 2, 22] (by kernel_rfl) trivial (by kernel_rfl))⟩
end
end Go.MendM
