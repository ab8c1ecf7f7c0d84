/- Models of the program's functions, and the proofs that runs give them: MADE BY PROGRAM (wip/tools/dec.py). -/
import Derived.Test.YtgplhblofefkjaaDoorMendTMod0x
import Derived.Test.YtgplhblofefkjaaDoorMendTMod1
import Derived.Test.YtgplhblofefkjaaDoorMendTMod2
import Derived.Test.YtgplhblofefkjaaDoorMendTMod3
import Derived.Test.YtgplhblofefkjaaDoorMendTMod4
import Derived.Test.YtgplhblofefkjaaDoorMendTMod5
import Derived.Test.YtgplhblofefkjaaDoorMendTMod6
import Derived.Test.YtgplhblofefkjaaDoorProg
import Derived.Test.YtgplhblofefkjaaDoorSpPlainx
import Derived.Test.YtgplhblofefkjaaDoorMendTCode

set_option maxRecDepth 100000
set_option linter.unusedVariables false
namespace Go.MendM
open Go.Sp Go.MendT
noncomputable section
/-- spadille/mend.between -/
def o60_0 : List ROp := [
  ⟨(some 6), .assign (.const (.bool false)), 4, none, []⟩]
def c60_0 : RC := .reg [] o60_0
def o60_1 : List ROp := [
  ⟨(some 7), .move (.tmp 0), 3, none, []⟩,
  ⟨(some 8), .move (.tmp 1), 3, none, []⟩,
  ⟨(some 9), .binOp .leq 3 (.tmp 7) (.tmp 8) 3, 4, none, []⟩,
  ⟨(some 10), .move (.tmp 9), 4, none, []⟩,
  ⟨(some 11), .move (.tmp 1), 3, (some ((some 10), true)), []⟩,
  ⟨(some 12), .move (.tmp 2), 3, (some ((some 10), true)), []⟩,
  ⟨(some 13), .binOp .leq 3 (.tmp 11) (.tmp 12) 3, 4, (some ((some 10), true)), []⟩,
  ⟨(some 14), .pick (.tmp 10) (.tmp 13) (.const (.bool false)), 4, none, []⟩,
  ⟨(some 6), .assign (.tmp 14), 4, none, []⟩]
def c60_1 : RC := .reg [] o60_1
def c60_2 : RC := .seq c60_1 .ret
def c60_3 : RC := .seq c60_0 c60_2
def m60_0 (pu : PureF) (n : Nat) (b1242 : Bool) : Option Value :=
  (some (.bool b1242))
def m60_ (pu : PureF) (n : Nat) (x1235 : Int) (x1237 : Int) (x1239 : Int) : Option Value :=
  (bb (nt (ilt x1237 x1235)) (m60_0 pu n (nt (ilt x1239 x1237))) (m60_0 pu n false))
def m60 (pu : PureF) (n : Nat) (args : List Value) : Option Value :=
  (ll args none fun a0 args => (ll args none fun a1 args => (ll args none fun a2 args => (ll args (oo (toI .i64 a0) none fun x1235 => (oo (toI .i64 a1) none fun x1237 => (oo (toI .i64 a2) none fun x1239 => (m60_ pu n x1235 x1237 x1239)))) fun _ _ => none))))
theorem r60 {call : CallF} (pu : PureF) (n : Nat) (hcall : call = callP tabs isP pu inl) {args : List Value} {v : Value} (hm : m60 pu n args = some v) (_ : ∀ x ∈ args, closed2 x = true) : args.length ≤ 15 ∧ Run tt call 1 c60_3 (Fr.made 15 args) (pureHeap tabs) (Fin tt 1 [.tmp 6] v) := by
  subst hcall
  unfold m60 at hm
  have hq := ll_uncons hm; clear hm; obtain ⟨a0, args_0, rfl, hm⟩ := hq
  have hq := ll_uncons hm; clear hm; obtain ⟨a1, args_1, rfl, hm⟩ := hq
  have hq := ll_uncons hm; clear hm; obtain ⟨a2, args_2, rfl, hm⟩ := hq
  have hq := ll_end hm; clear hm; obtain ⟨rfl, hm⟩ := hq
  have hq := oo_inv hm; clear hm; obtain ⟨x1235, h1236, hm⟩ := hq
  obtain rfl := toI_some h1236
  have hq := oo_inv hm; clear hm; obtain ⟨x1237, h1238, hm⟩ := hq
  obtain rfl := toI_some h1238
  have hq := oo_inv hm; clear hm; obtain ⟨x1239, h1240, hm⟩ := hq
  obtain rfl := toI_some h1240
  unfold m60_ at hm
  refine ⟨by simp, ?_⟩
  refine .same (F' := (⟨15, frTr [(0, (.int .i64 x1235)), (1, (.int .i64 x1237)), (2, (.int .i64 x1239))] .nil⟩ : Fr)) (H' := (⟨1, objTr [(.cells tab0 true false [])] 0 .nil, true⟩ : AHeap)) (by kernel_rfl) (by kernel_rfl) ?_
  refine .then ?_
  refine .reg (F' := (Fr.puts (⟨15, frTr [(0, (.int .i64 x1235)), (1, (.int .i64 x1237)), (2, (.int .i64 x1239))] .nil⟩ : Fr) [(6, (.bool false))])) (H' := (⟨1, objTr [(.cells tab0 true false [])] 0 .nil, true⟩ : AHeap)) (by kernel_rfl) ?_
  refine .ghs (⟨15, frTr [(0, (.int .i64 x1235)), (1, (.int .i64 x1237)), (2, (.int .i64 x1239))] .nil⟩ : Fr) (⟨1, objTr [(.cells tab0 true false [])] 0 .nil, true⟩ : AHeap) (.gc [] [false] [] [0, 1, 2] (by kernel_rfl) trivial (by kernel_rfl)) ?_
  refine .join (v := v) (fun y : Bool => ((⟨15, frTr [(6, (.bool y))] .nil⟩ : Fr), (⟨1, objTr [(.cells tab0 true false [])] 0 .nil, true⟩ : AHeap))) (fun y => m60_0 pu n y) ?_ ?_
  · rintro b1242 hm
    unfold m60_0 at hm
    refine .ret ?_
    exact fin_ret (.bool b1242) (by kernel_rfl) (by kernel_rfl) hm
  · skip
    have hq := bb_cases hm; clear hm; rcases hq with ⟨h1243, hm⟩ | ⟨h1243, hm⟩
    · skip
      refine .reg (F' := (Fr.puts (⟨15, frTr [(0, (.int .i64 x1235)), (1, (.int .i64 x1237)), (2, (.int .i64 x1239))] .nil⟩ : Fr) [(7, (.int .i64 x1235)), (8, (.int .i64 x1237)), (9, (.bool true)), (10, (.bool true)), (11, (.int .i64 x1237)), (12, (.int .i64 x1239)), (13, (.bool (nt (ilt x1239 x1237)))), (14, (.bool (nt (ilt x1239 x1237)))), (6, (.bool (nt (ilt x1239 x1237))))])) (H' := (⟨1, objTr [(.cells tab0 true false [])] 0 .nil, true⟩ : AHeap)) (evOps_cut 2 (by kernel_rfl) (evOps_data (some ((.bool (nt (ilt x1237 x1235))), (⟨1, objTr [(.cells tab0 true false [])] 0 .nil, true⟩ : AHeap))) (by kernel_rfl) (show _ = some ((.bool true), _) from (by rw [h1243])) (okAt_of (by kernel_rfl) (by kernel_rfl)) (by kernel_rfl))) ?_
      exact ⟨(nt (ilt x1239 x1237)), hm, (.gc [] [false] [] [6] (by kernel_rfl) trivial (by kernel_rfl))⟩
    · skip
      refine .reg (F' := (Fr.puts (⟨15, frTr [(0, (.int .i64 x1235)), (1, (.int .i64 x1237)), (2, (.int .i64 x1239))] .nil⟩ : Fr) [(7, (.int .i64 x1235)), (8, (.int .i64 x1237)), (9, (.bool false)), (10, (.bool false)), (11, (.tuple ⟨[]⟩)), (12, (.tuple ⟨[]⟩)), (13, (.tuple ⟨[]⟩)), (14, (.bool false)), (6, (.bool false))])) (H' := (⟨1, objTr [(.cells tab0 true false [])] 0 .nil, true⟩ : AHeap)) (evOps_cut 2 (by kernel_rfl) (evOps_data (some ((.bool (nt (ilt x1237 x1235))), (⟨1, objTr [(.cells tab0 true false [])] 0 .nil, true⟩ : AHeap))) (by kernel_rfl) (show _ = some ((.bool false), _) from (by rw [h1243])) (okAt_of (by kernel_rfl) (by kernel_rfl)) (by kernel_rfl))) ?_
      exact ⟨false, hm, (.gc [] [false] [] [6] (by kernel_rfl) trivial (by kernel_rfl))⟩
/-- spadille/spadilleref09.in -/
def o61_0 : List ROp := [
  ⟨(some 6), .assign (.const (.bool false)), 4, none, []⟩]
def c61_0 : RC := .reg [] o61_0
def o61_1 : List ROp := [
  ⟨(some 7), .move (.tmp 0), 3, none, []⟩,
  ⟨(some 8), .move (.tmp 1), 3, none, []⟩,
  ⟨(some 9), .binOp .geq 3 (.tmp 7) (.tmp 8) 3, 4, none, []⟩,
  ⟨(some 10), .move (.tmp 9), 4, none, []⟩,
  ⟨(some 11), .move (.tmp 0), 3, (some ((some 10), true)), []⟩,
  ⟨(some 12), .move (.tmp 2), 3, (some ((some 10), true)), []⟩,
  ⟨(some 13), .binOp .leq 3 (.tmp 11) (.tmp 12) 3, 4, (some ((some 10), true)), []⟩,
  ⟨(some 14), .pick (.tmp 10) (.tmp 13) (.const (.bool false)), 4, none, []⟩,
  ⟨(some 6), .assign (.tmp 14), 4, none, []⟩]
def c61_1 : RC := .reg [] o61_1
def c61_2 : RC := .seq c61_1 .ret
def c61_3 : RC := .seq c61_0 c61_2
def m61_0 (pu : PureF) (n : Nat) (b1251 : Bool) : Option Value :=
  (some (.bool b1251))
def m61_ (pu : PureF) (n : Nat) (x1244 : Int) (x1246 : Int) (x1248 : Int) : Option Value :=
  (bb (nt (ilt x1244 x1246)) (m61_0 pu n (nt (ilt x1248 x1244))) (m61_0 pu n false))
def m61 (pu : PureF) (n : Nat) (args : List Value) : Option Value :=
  (ll args none fun a0 args => (ll args none fun a1 args => (ll args none fun a2 args => (ll args (oo (toI .i64 a0) none fun x1244 => (oo (toI .i64 a1) none fun x1246 => (oo (toI .i64 a2) none fun x1248 => (m61_ pu n x1244 x1246 x1248)))) fun _ _ => none))))
theorem r61 {call : CallF} (pu : PureF) (n : Nat) (hcall : call = callP tabs isP pu inl) {args : List Value} {v : Value} (hm : m61 pu n args = some v) (_ : ∀ x ∈ args, closed2 x = true) : args.length ≤ 15 ∧ Run tt call 1 c61_3 (Fr.made 15 args) (pureHeap tabs) (Fin tt 1 [.tmp 6] v) := by
  subst hcall
  unfold m61 at hm
  have hq := ll_uncons hm; clear hm; obtain ⟨a0, args_0, rfl, hm⟩ := hq
  have hq := ll_uncons hm; clear hm; obtain ⟨a1, args_1, rfl, hm⟩ := hq
  have hq := ll_uncons hm; clear hm; obtain ⟨a2, args_2, rfl, hm⟩ := hq
  have hq := ll_end hm; clear hm; obtain ⟨rfl, hm⟩ := hq
  have hq := oo_inv hm; clear hm; obtain ⟨x1244, h1245, hm⟩ := hq
  obtain rfl := toI_some h1245
  have hq := oo_inv hm; clear hm; obtain ⟨x1246, h1247, hm⟩ := hq
  obtain rfl := toI_some h1247
  have hq := oo_inv hm; clear hm; obtain ⟨x1248, h1249, hm⟩ := hq
  obtain rfl := toI_some h1249
  unfold m61_ at hm
  refine ⟨by simp, ?_⟩
  refine .same (F' := (⟨15, frTr [(0, (.int .i64 x1244)), (1, (.int .i64 x1246)), (2, (.int .i64 x1248))] .nil⟩ : Fr)) (H' := (⟨1, objTr [(.cells tab0 true false [])] 0 .nil, true⟩ : AHeap)) (by kernel_rfl) (by kernel_rfl) ?_
  refine .then ?_
  refine .reg (F' := (Fr.puts (⟨15, frTr [(0, (.int .i64 x1244)), (1, (.int .i64 x1246)), (2, (.int .i64 x1248))] .nil⟩ : Fr) [(6, (.bool false))])) (H' := (⟨1, objTr [(.cells tab0 true false [])] 0 .nil, true⟩ : AHeap)) (by kernel_rfl) ?_
  refine .ghs (⟨15, frTr [(0, (.int .i64 x1244)), (1, (.int .i64 x1246)), (2, (.int .i64 x1248))] .nil⟩ : Fr) (⟨1, objTr [(.cells tab0 true false [])] 0 .nil, true⟩ : AHeap) (.gc [] [false] [] [0, 1, 2] (by kernel_rfl) trivial (by kernel_rfl)) ?_
  refine .join (v := v) (fun y : Bool => ((⟨15, frTr [(6, (.bool y))] .nil⟩ : Fr), (⟨1, objTr [(.cells tab0 true false [])] 0 .nil, true⟩ : AHeap))) (fun y => m61_0 pu n y) ?_ ?_
  · rintro b1251 hm
    unfold m61_0 at hm
    refine .ret ?_
    exact fin_ret (.bool b1251) (by kernel_rfl) (by kernel_rfl) hm
  · skip
    have hq := bb_cases hm; clear hm; rcases hq with ⟨h1252, hm⟩ | ⟨h1252, hm⟩
    · skip
      refine .reg (F' := (Fr.puts (⟨15, frTr [(0, (.int .i64 x1244)), (1, (.int .i64 x1246)), (2, (.int .i64 x1248))] .nil⟩ : Fr) [(7, (.int .i64 x1244)), (8, (.int .i64 x1246)), (9, (.bool true)), (10, (.bool true)), (11, (.int .i64 x1244)), (12, (.int .i64 x1248)), (13, (.bool (nt (ilt x1248 x1244)))), (14, (.bool (nt (ilt x1248 x1244)))), (6, (.bool (nt (ilt x1248 x1244))))])) (H' := (⟨1, objTr [(.cells tab0 true false [])] 0 .nil, true⟩ : AHeap)) (evOps_cut 2 (by kernel_rfl) (evOps_data (some ((.bool (nt (ilt x1244 x1246))), (⟨1, objTr [(.cells tab0 true false [])] 0 .nil, true⟩ : AHeap))) (by kernel_rfl) (show _ = some ((.bool true), _) from (by rw [h1252])) (okAt_of (by kernel_rfl) (by kernel_rfl)) (by kernel_rfl))) ?_
      exact ⟨(nt (ilt x1248 x1244)), hm, (.gc [] [false] [] [6] (by kernel_rfl) trivial (by kernel_rfl))⟩
    · skip
      refine .reg (F' := (Fr.puts (⟨15, frTr [(0, (.int .i64 x1244)), (1, (.int .i64 x1246)), (2, (.int .i64 x1248))] .nil⟩ : Fr) [(7, (.int .i64 x1244)), (8, (.int .i64 x1246)), (9, (.bool false)), (10, (.bool false)), (11, (.tuple ⟨[]⟩)), (12, (.tuple ⟨[]⟩)), (13, (.tuple ⟨[]⟩)), (14, (.bool false)), (6, (.bool false))])) (H' := (⟨1, objTr [(.cells tab0 true false [])] 0 .nil, true⟩ : AHeap)) (evOps_cut 2 (by kernel_rfl) (evOps_data (some ((.bool (nt (ilt x1244 x1246))), (⟨1, objTr [(.cells tab0 true false [])] 0 .nil, true⟩ : AHeap))) (by kernel_rfl) (show _ = some ((.bool false), _) from (by rw [h1252])) (okAt_of (by kernel_rfl) (by kernel_rfl)) (by kernel_rfl))) ?_
      exact ⟨false, hm, (.gc [] [false] [] [6] (by kernel_rfl) trivial (by kernel_rfl))⟩
/-- spadille/spadilleref09.times -/
def o62_0 : List ROp := [
  ⟨(some 4), .assign (.const (.int .i64 0)), 3, none, []⟩]
def c62_0 : RC := .reg [] o62_0
def o62_1 : List ROp := [
  ⟨(some 5), .assign (.const (.int .i64 0)), 3, none, []⟩]
def c62_1 : RC := .reg [] o62_1
def o62_2 : List ROp := [
  ⟨(some 6), .assign (.const (.int .i64 0)), 3, none, []⟩]
def c62_2 : RC := .reg [] o62_2
def o62_3 : List ROp := [
  ⟨(some 7), .move (.tmp 6), 3, none, []⟩,
  ⟨(some 8), .move (.tmp 0), 22, none, []⟩,
  ⟨(some 9), .call ⟨.builtin .len, #[(.tmp 8)], #[22]⟩, 3, none, []⟩,
  ⟨(some 10), .binOp .lss 3 (.tmp 7) (.tmp 9) 3, 4, none, []⟩]
def c62_3 : RC := .reg [] o62_3
def c62_4 : RC := .cond (.tmp 10) .skip (.exit 0)
def c62_5 : RC := .seq c62_3 c62_4
def o62_6 : List ROp := [
  ⟨(some 13), .move (.tmp 0), 22, none, []⟩,
  ⟨(some 14), .move (.tmp 6), 3, none, []⟩,
  ⟨(some 15), .indexAddr 22 (.tmp 13) (.tmp 14), 0, none, []⟩,
  ⟨(some 16), .load 3 (.tmp 15), 3, none, []⟩,
  ⟨(some 17), .move (.tmp 1), 3, none, []⟩,
  ⟨(some 18), .binOp .eql 3 (.tmp 16) (.tmp 17) 3, 4, none, []⟩]
def c62_6 : RC := .reg [] o62_6
def o62_7 : List ROp := [
  ⟨(some 19), .move (.tmp 5), 3, none, []⟩,
  ⟨(some 20), .binOp .add 3 (.tmp 19) (.const (.int .i64 1)) 3, 3, none, []⟩,
  ⟨(some 5), .assign (.tmp 20), 3, none, []⟩]
def c62_7 : RC := .reg [] o62_7
def c62_8 : RC := .cond (.tmp 18) c62_7 .skip
def c62_9 : RC := .seq c62_6 c62_8
def c62_10 : RC := .block 1 c62_9
def o62_11 : List ROp := [
  ⟨(some 11), .move (.tmp 6), 3, none, []⟩,
  ⟨(some 12), .binOp .add 3 (.tmp 11) (.const (.int .i64 1)) 3, 3, none, []⟩,
  ⟨(some 6), .assign (.tmp 12), 3, none, []⟩]
def c62_11 : RC := .reg [] o62_11
def c62_12 : RC := .seq c62_10 c62_11
def c62_13 : RC := .seq c62_5 c62_12
def c62_14 : RC := .loop c62_13
def c62_15 : RC := .block 0 c62_14
def c62_16 : RC := .seq c62_2 c62_15
def o62_17 : List ROp := [
  ⟨(some 21), .move (.tmp 5), 3, none, []⟩,
  ⟨(some 4), .assign (.tmp 21), 3, none, []⟩]
def c62_17 : RC := .reg [] o62_17
def c62_18 : RC := .seq c62_17 .ret
def c62_19 : RC := .seq c62_16 c62_18
def c62_20 : RC := .seq c62_1 c62_19
def c62_21 : RC := .seq c62_0 c62_20
def m62_0 (pu : PureF) (n : Nat) (z1282 : Int) : Option Value :=
  (some (.int .i64 z1282))
def m62_2 (pu : PureF) (n : Nat) (ih0 : Sl → Int → Int → Int → Option Value) (s1296 : Sl) (z1297 : Int) (z1298 : Int) (z1299 : Int) : Option Value :=
  (ih0 s1296 z1297 z1298 (wrapF .i64 (Int.add z1299 (1 : Int))))
def b62_1 (pu : PureF) (n : Nat) (ih0 : Sl → Int → Int → Int → Option Value) (s1283 : Sl) (z1284 : Int) (z1285 : Int) (z1286 : Int) : Option Value :=
  (bb (ilt z1286 (Int.ofNat (Sl.n s1283))) (oo (toN z1286) none fun k1300 => (bb (an (Nat.blt k1300 (Sl.n s1283)) true) (oo (nthL (Sl.cs s1283) (k1300 * 1)) none fun v1303 => (oo (toI .i64 v1303) none fun x1305 => (bb (ieq x1305 z1284) (m62_2 pu n ih0 s1283 z1284 (wrapF .i64 (Int.add z1285 (1 : Int))) (Int.ofNat k1300)) (m62_2 pu n ih0 s1283 z1284 z1285 (Int.ofNat k1300))))) none)) (m62_0 pu n z1285))
def l62_1 (pu : PureF) (n : Nat) (w : Nat) : Sl → Int → Int → Int → Option Value :=
  Nat.rec (motive := fun _ => Sl → Int → Int → Int → Option Value) (fun _ _ _ _ => none) (fun _ ih0 => b62_1 pu n ih0) w
def m62_ (pu : PureF) (n : Nat) (s1253 : Sl) (x1255 : Int) : Option Value :=
  (l62_1 pu n n s1253 x1255 (0 : Int) (0 : Int))
def m62 (pu : PureF) (n : Nat) (args : List Value) : Option Value :=
  (ll args none fun a0 args => (ll args none fun a1 args => (ll args (oo (toSl 1 a0) none fun s1253 => (oo (toI .i64 a1) none fun x1255 => (m62_ pu n s1253 x1255))) fun _ _ => none)))
theorem r62 {call : CallF} (pu : PureF) (n : Nat) (hcall : call = callP tabs isP pu inl) {args : List Value} {v : Value} (hm : m62 pu n args = some v) (_ : ∀ x ∈ args, closed2 x = true) : args.length ≤ 22 ∧ Run tt call 1 c62_21 (Fr.made 22 args) (pureHeap tabs) (Fin tt 1 [.tmp 4] v) := by
  subst hcall
  unfold m62 at hm
  have hq := ll_uncons hm; clear hm; obtain ⟨a0, args_0, rfl, hm⟩ := hq
  have hq := ll_uncons hm; clear hm; obtain ⟨a1, args_1, rfl, hm⟩ := hq
  have hq := ll_end hm; clear hm; obtain ⟨rfl, hm⟩ := hq
  have hq := oo_inv hm; clear hm; obtain ⟨s1253, h1254, hm⟩ := hq
  obtain rfl := toSl_some h1254
  have hq := oo_inv hm; clear hm; obtain ⟨x1255, h1256, hm⟩ := hq
  obtain rfl := toI_some h1256
  unfold m62_ at hm
  refine ⟨by simp, ?_⟩
  refine .same (F' := (⟨22, frTr [(0, (Sl.v 1 s1253)), (1, (.int .i64 x1255))] .nil⟩ : Fr)) (H' := (⟨1, objTr [(.cells tab0 true false [])] 0 .nil, true⟩ : AHeap)) (by kernel_rfl) (by kernel_rfl) ?_
  refine .then ?_
  refine .reg (F' := (Fr.puts (⟨22, frTr [(0, (Sl.v 1 s1253)), (1, (.int .i64 x1255))] .nil⟩ : Fr) [(4, (.int .i64 (0 : Int)))])) (H' := (⟨1, objTr [(.cells tab0 true false [])] 0 .nil, true⟩ : AHeap)) (by kernel_rfl) ?_
  refine .ghs (⟨22, frTr [(0, (Sl.v 1 s1253)), (1, (.int .i64 x1255))] .nil⟩ : Fr) (⟨1, objTr [(.cells tab0 true false [])] 0 .nil, true⟩ : AHeap) (.gc [] [false] [] [0, 1] (by kernel_rfl) trivial (by kernel_rfl)) ?_
  refine .then ?_
  refine .reg (F' := (Fr.puts (⟨22, frTr [(0, (Sl.v 1 s1253)), (1, (.int .i64 x1255))] .nil⟩ : Fr) [(5, (.int .i64 (0 : Int)))])) (H' := (⟨1, objTr [(.cells tab0 true false [])] 0 .nil, true⟩ : AHeap)) (by kernel_rfl) ?_
  refine .ghs (⟨22, frTr [(0, (Sl.v 1 s1253)), (1, (.int .i64 x1255)), (5, (.int .i64 (0 : Int)))] .nil⟩ : Fr) (⟨1, objTr [(.cells tab0 true false [])] 0 .nil, true⟩ : AHeap) (.gc [] [false] [] [0, 1, 5] (by kernel_rfl) trivial (by kernel_rfl)) ?_
  refine .join (v := v) (fun y : Int => ((⟨22, frTr [(5, (.int .i64 y))] .nil⟩ : Fr), (⟨1, objTr [(.cells tab0 true false [])] 0 .nil, true⟩ : AHeap))) (fun y => m62_0 pu n y) ?_ ?_
  · rintro z1282 hm
    unfold m62_0 at hm
    refine .then ?_
    refine .reg (F' := (Fr.puts (⟨22, frTr [(5, (.int .i64 z1282))] .nil⟩ : Fr) [(21, (.int .i64 z1282)), (4, (.int .i64 z1282))])) (H' := (⟨1, objTr [(.cells tab0 true false [])] 0 .nil, true⟩ : AHeap)) (by kernel_rfl) ?_
    refine .ghs (⟨22, frTr [(4, (.int .i64 z1282))] .nil⟩ : Fr) (⟨1, objTr [(.cells tab0 true false [])] 0 .nil, true⟩ : AHeap) (.gc [] [false] [] [4] (by kernel_rfl) trivial (by kernel_rfl)) ?_
    refine .ret ?_
    exact fin_ret (.int .i64 z1282) (by kernel_rfl) (by kernel_rfl) hm
  · skip
    refine .then ?_
    refine .reg (F' := (Fr.puts (⟨22, frTr [(0, (Sl.v 1 s1253)), (1, (.int .i64 x1255)), (5, (.int .i64 (0 : Int)))] .nil⟩ : Fr) [(6, (.int .i64 (0 : Int)))])) (H' := (⟨1, objTr [(.cells tab0 true false [])] 0 .nil, true⟩ : AHeap)) (by kernel_rfl) ?_
    refine .ghs (⟨22, frTr [(0, (Sl.v 1 s1253)), (1, (.int .i64 x1255)), (5, (.int .i64 (0 : Int))), (6, (.int .i64 (0 : Int)))] .nil⟩ : Fr) (⟨1, objTr [(.cells tab0 true false [])] 0 .nil, true⟩ : AHeap) (.gc [] [false] [] [0, 1, 5, 6] (by kernel_rfl) trivial (by kernel_rfl)) ?_
    refine .block ?_
    refine .loopM (v := v) (fun y : Sl × Int × Int × Int => ((⟨22, frTr [(0, (Sl.v 1 y.1)), (1, (.int .i64 y.2.1)), (5, (.int .i64 y.2.2.1)), (6, (.int .i64 y.2.2.2))] .nil⟩ : Fr), (⟨1, objTr [(.cells tab0 true false [])] 0 .nil, true⟩ : AHeap))) (fun w y => l62_1 pu n w y.1 y.2.1 y.2.2.1 y.2.2.2) n ⟨(s1253, x1255, (0 : Int), (0 : Int)), hm, (.gc [] [false] [] [0, 1, 5, 6] (by kernel_rfl) trivial (by kernel_rfl))⟩ (fun _ => rfl) ?_
    rintro w0 ⟨s1283, z1284, z1285, z1286⟩ hm
    refine .then ?_
    refine .then ?_
    refine .reg (F' := (Fr.puts (⟨22, frTr [(0, (Sl.v 1 s1283)), (1, (.int .i64 z1284)), (5, (.int .i64 z1285)), (6, (.int .i64 z1286))] .nil⟩ : Fr) [(7, (.int .i64 z1286)), (8, (Sl.v 1 s1283)), (9, (.int .i64 (Int.ofNat (Sl.n s1283)))), (10, (.bool (ilt z1286 (Int.ofNat (Sl.n s1283)))))])) (H' := (⟨1, objTr [(.cells tab0 true false [])] 0 .nil, true⟩ : AHeap)) (by kernel_rfl) ?_
    refine .ghs (⟨22, frTr [(0, (Sl.v 1 s1283)), (1, (.int .i64 z1284)), (5, (.int .i64 z1285)), (6, (.int .i64 z1286)), (10, (.bool (ilt z1286 (Int.ofNat (Sl.n s1283)))))] .nil⟩ : Fr) (⟨1, objTr [(.cells tab0 true false [])] 0 .nil, true⟩ : AHeap) (.gc [] [false] [] [0, 1, 5, 6, 10] (by kernel_rfl) trivial (by kernel_rfl)) ?_
    have hq := bb_cases hm; clear hm; rcases hq with ⟨h1287, hm⟩ | ⟨h1287, hm⟩
    · refine .ifT (ilt z1286 (Int.ofNat (Sl.n s1283))) (by kernel_rfl) h1287 ?_
      refine .skip ?_
      refine .ghs (⟨22, frTr [(0, (Sl.v 1 s1283)), (1, (.int .i64 z1284)), (5, (.int .i64 z1285)), (6, (.int .i64 z1286))] .nil⟩ : Fr) (⟨1, objTr [(.cells tab0 true false [])] 0 .nil, true⟩ : AHeap) (.gc [] [false] [] [0, 1, 5, 6] (by kernel_rfl) trivial (by kernel_rfl)) ?_
      refine .join (v := v) (fun y : Sl × Int × Int × Int => ((⟨22, frTr [(0, (Sl.v 1 y.1)), (1, (.int .i64 y.2.1)), (5, (.int .i64 y.2.2.1)), (6, (.int .i64 y.2.2.2))] .nil⟩ : Fr), (⟨1, objTr [(.cells tab0 true false [])] 0 .nil, true⟩ : AHeap))) (fun y => m62_2 pu n (l62_1 pu n w0) y.1 y.2.1 y.2.2.1 y.2.2.2) ?_ ?_
      · rintro ⟨s1296, z1297, z1298, z1299⟩ hm
        unfold m62_2 at hm
        refine .reg (F' := (Fr.puts (⟨22, frTr [(0, (Sl.v 1 s1296)), (1, (.int .i64 z1297)), (5, (.int .i64 z1298)), (6, (.int .i64 z1299))] .nil⟩ : Fr) [(11, (.int .i64 z1299)), (12, (.int .i64 (wrapF .i64 (Int.add z1299 (1 : Int))))), (6, (.int .i64 (wrapF .i64 (Int.add z1299 (1 : Int)))))])) (H' := (⟨1, objTr [(.cells tab0 true false [])] 0 .nil, true⟩ : AHeap)) (by kernel_rfl) ?_
        exact ⟨(s1296, z1297, z1298, (wrapF .i64 (Int.add z1299 (1 : Int)))), hm, (.gc [] [false] [] [0, 1, 5, 6] (by kernel_rfl) trivial (by kernel_rfl))⟩
      · skip
        refine .block ?_
        refine .then ?_
        have hq := oo_inv hm; clear hm; obtain ⟨k1300, h1301, hm⟩ := hq
        obtain rfl := toN_some h1301
        have hq := bb_inv hm; clear hm; obtain ⟨h1302, hm⟩ := hq
        have hq := oo_inv hm; clear hm; obtain ⟨v1303, h1304, hm⟩ := hq
        have hq := oo_inv hm; clear hm; obtain ⟨x1305, h1306, hm⟩ := hq
        obtain rfl := toI_some h1306
        refine .reg (F' := (Fr.puts (⟨22, frTr [(0, (Sl.v 1 s1283)), (1, (.int .i64 z1284)), (5, (.int .i64 z1285)), (6, (.int .i64 (Int.ofNat k1300)))] .nil⟩ : Fr) [(13, (Sl.v 1 s1283)), (14, (.int .i64 (Int.ofNat k1300))), (15, (fpV (k1300 * 1) (Sl.cs s1283))), (16, (.int .i64 x1305)), (17, (.int .i64 z1284)), (18, (.bool (ieq x1305 z1284)))])) (H' := (⟨1, objTr [(.cells tab0 true false [])] 0 .nil, true⟩ : AHeap)) (evOps_cut 2 (by kernel_rfl) (evOps_data (keep (⟨1, objTr [(.cells tab0 true false [])] 0 .nil, true⟩ : AHeap) (bb (an (Nat.blt k1300 (Sl.n s1283)) true) (some (fpV (k1300 * 1) (Sl.cs s1283))) none)) (by kernel_rfl) (keep_bb h1302) (okAt_of (by kernel_rfl) (by kernel_rfl)) (evOps_data (keep (⟨1, objTr [(.cells tab0 true false [])] 0 .nil, true⟩ : AHeap) (nthL (Sl.cs s1283) (k1300 * 1))) (by kernel_rfl) (keep_eq h1304) (okAt_of (by kernel_rfl) (by kernel_rfl)) (by kernel_rfl)))) ?_
        refine .ghs (⟨22, frTr [(0, (Sl.v 1 s1283)), (1, (.int .i64 z1284)), (5, (.int .i64 z1285)), (6, (.int .i64 (Int.ofNat k1300))), (18, (.bool (ieq x1305 z1284)))] .nil⟩ : Fr) (⟨1, objTr [(.cells tab0 true false [])] 0 .nil, true⟩ : AHeap) (.gc [] [false] [] [0, 1, 5, 6, 18] (by kernel_rfl) trivial (by kernel_rfl)) ?_
        have hq := bb_cases hm; clear hm; rcases hq with ⟨h1307, hm⟩ | ⟨h1307, hm⟩
        · refine .ifT (ieq x1305 z1284) (by kernel_rfl) h1307 ?_
          refine .reg (F' := (Fr.puts (⟨22, frTr [(0, (Sl.v 1 s1283)), (1, (.int .i64 z1284)), (5, (.int .i64 z1285)), (6, (.int .i64 (Int.ofNat k1300))), (18, (.bool (ieq x1305 z1284)))] .nil⟩ : Fr) [(19, (.int .i64 z1285)), (20, (.int .i64 (wrapF .i64 (Int.add z1285 (1 : Int))))), (5, (.int .i64 (wrapF .i64 (Int.add z1285 (1 : Int)))))])) (H' := (⟨1, objTr [(.cells tab0 true false [])] 0 .nil, true⟩ : AHeap)) (by kernel_rfl) ?_
          exact ⟨(s1283, z1284, (wrapF .i64 (Int.add z1285 (1 : Int))), (Int.ofNat k1300)), hm, (.gc [] [false] [] [0, 1, 5, 6] (by kernel_rfl) trivial (by kernel_rfl))⟩
        · refine .ifF (ieq x1305 z1284) (by kernel_rfl) h1307 ?_
          refine .skip ?_
          exact ⟨(s1283, z1284, z1285, (Int.ofNat k1300)), hm, (.gc [] [false] [] [0, 1, 5, 6] (by kernel_rfl) trivial (by kernel_rfl))⟩
    · refine .ifF (ilt z1286 (Int.ofNat (Sl.n s1283))) (by kernel_rfl) h1287 ?_
      refine .exit ?_
      exact ⟨z1285, hm, (.gc [] [false] [] [5] (by kernel_rfl) trivial (by kernel_rfl))⟩
/-- math/bits.TrailingZeros16 -/
def o73_0 : List ROp := [
  ⟨(some 2), .assign (.const (.int .i64 0)), 3, none, []⟩]
def c73_0 : RC := .reg [] o73_0
def o73_1 : List ROp := [
  ⟨(some 3), .move (.tmp 0), 78, none, []⟩,
  ⟨(some 4), .binOp .eql 78 (.tmp 3) (.const (.int .u16 0)) 78, 4, none, []⟩]
def c73_1 : RC := .reg [] o73_1
def o73_2 : List ROp := [
  ⟨(some 2), .assign (.const (.int .i64 16)), 3, none, []⟩]
def c73_2 : RC := .reg [] o73_2
def c73_3 : RC := .seq c73_2 .ret
def c73_4 : RC := .cond (.tmp 4) c73_3 .skip
def c73_5 : RC := .seq c73_1 c73_4
def o73_6 : List ROp := [
  ⟨(some 5), .move (.tmp 0), 78, none, []⟩,
  ⟨(some 6), .move (.tmp 0), 78, none, []⟩,
  ⟨(some 7), .unOp .neg 78 (.tmp 6), 78, none, []⟩,
  ⟨(some 8), .binOp .and 78 (.tmp 5) (.tmp 7) 78, 78, none, []⟩,
  ⟨(some 9), .convert 78 108 (.tmp 8), 108, none, []⟩,
  ⟨(some 10), .binOp .mul 108 (.tmp 9) (.const (.int .u32 125613361)) 108, 108, none, []⟩,
  ⟨(some 11), .binOp .shr 108 (.tmp 10) (.const (.int .u64 27)) 109, 108, none, []⟩,
  ⟨(some 12), .indexAddr 107 (.global 0) (.tmp 11), 0, none, []⟩,
  ⟨(some 13), .load 5 (.tmp 12), 5, none, []⟩,
  ⟨(some 14), .convert 5 3 (.tmp 13), 3, none, []⟩,
  ⟨(some 2), .assign (.tmp 14), 3, none, []⟩]
def c73_6 : RC := .reg [] o73_6
def c73_7 : RC := .seq c73_6 .ret
def c73_8 : RC := .seq c73_5 c73_7
def c73_9 : RC := .seq c73_0 c73_8

def m73_ (pu : PureF) (n : Nat) (x1308 : Int) : Option Value :=
  (bb (ieq x1308 (0 : Int)) (some (.int .i64 (16 : Int))) (oo (toN (shrI .u32 (wrapF .u32 (Int.mul (wrapF .u32 (aand .u16 x1308 (wrapF .u16 (Int.sub (.ofNat 0) x1308)))) (125613361 : Int))) 27)) none fun k1311 => (bb (Nat.blt k1311 32) (oo (nthL tab0 (0 + k1311 * 1)) none fun v1314 => (oo (toI .u8 v1314) none fun x1316 => (some (.int .i64 (wrapF .i64 x1316))))) none)))
def m73 (pu : PureF) (n : Nat) (args : List Value) : Option Value :=
  (ll args none fun a0 args => (ll args (oo (toI .u16 a0) none fun x1308 => (m73_ pu n x1308)) fun _ _ => none))
theorem r73 {call : CallF} (pu : PureF) (n : Nat) (hcall : call = callP tabs isP pu inl) {args : List Value} {v : Value} (hm : m73 pu n args = some v) (_ : ∀ x ∈ args, closed2 x = true) : args.length ≤ 15 ∧ Run tt call 1 c73_9 (Fr.made 15 args) (pureHeap tabs) (Fin tt 1 [.tmp 2] v) := by
  subst hcall
  unfold m73 at hm
  have hq := ll_uncons hm; clear hm; obtain ⟨a0, args_0, rfl, hm⟩ := hq
  have hq := ll_end hm; clear hm; obtain ⟨rfl, hm⟩ := hq
  have hq := oo_inv hm; clear hm; obtain ⟨x1308, h1309, hm⟩ := hq
  obtain rfl := toI_some h1309
  unfold m73_ at hm
  refine ⟨by simp, ?_⟩
  refine .same (F' := (⟨15, frTr [(0, (.int .u16 x1308))] .nil⟩ : Fr)) (H' := (⟨1, objTr [(.cells tab0 true false [])] 0 .nil, true⟩ : AHeap)) (by kernel_rfl) (by kernel_rfl) ?_
  refine .then ?_
  refine .reg (F' := (Fr.puts (⟨15, frTr [(0, (.int .u16 x1308))] .nil⟩ : Fr) [(2, (.int .i64 (0 : Int)))])) (H' := (⟨1, objTr [(.cells tab0 true false [])] 0 .nil, true⟩ : AHeap)) (by kernel_rfl) ?_
  refine .ghs (⟨15, frTr [(0, (.int .u16 x1308))] .nil⟩ : Fr) (⟨1, objTr [(.cells tab0 true false [])] 0 .nil, true⟩ : AHeap) (.gc [] [false] [] [0] (by kernel_rfl) trivial (by kernel_rfl)) ?_
  refine .then ?_
  refine .then ?_
  refine .reg (F' := (Fr.puts (⟨15, frTr [(0, (.int .u16 x1308))] .nil⟩ : Fr) [(3, (.int .u16 x1308)), (4, (.bool (ieq x1308 (0 : Int))))])) (H' := (⟨1, objTr [(.cells tab0 true false [])] 0 .nil, true⟩ : AHeap)) (by kernel_rfl) ?_
  refine .ghs (⟨15, frTr [(0, (.int .u16 x1308)), (4, (.bool (ieq x1308 (0 : Int))))] .nil⟩ : Fr) (⟨1, objTr [(.cells tab0 true false [])] 0 .nil, true⟩ : AHeap) (.gc [] [false] [] [0, 4] (by kernel_rfl) trivial (by kernel_rfl)) ?_
  have hq := bb_cases hm; clear hm; rcases hq with ⟨h1310, hm⟩ | ⟨h1310, hm⟩
  · refine .ifT (ieq x1308 (0 : Int)) (by kernel_rfl) h1310 ?_
    refine .then ?_
    refine .reg (F' := (Fr.puts (⟨15, frTr [(0, (.int .u16 x1308)), (4, (.bool (ieq x1308 (0 : Int))))] .nil⟩ : Fr) [(2, (.int .i64 (16 : Int)))])) (H' := (⟨1, objTr [(.cells tab0 true false [])] 0 .nil, true⟩ : AHeap)) (by kernel_rfl) ?_
    refine .ghs (⟨15, frTr [(2, (.int .i64 (16 : Int)))] .nil⟩ : Fr) (⟨1, objTr [(.cells tab0 true false [])] 0 .nil, true⟩ : AHeap) (.gc [] [false] [] [2] (by kernel_rfl) trivial (by kernel_rfl)) ?_
    refine .ret ?_
    exact fin_ret (.int .i64 (16 : Int)) (by kernel_rfl) (by kernel_rfl) hm
  · refine .ifF (ieq x1308 (0 : Int)) (by kernel_rfl) h1310 ?_
    refine .skip ?_
    refine .ghs (⟨15, frTr [(0, (.int .u16 x1308))] .nil⟩ : Fr) (⟨1, objTr [(.cells tab0 true false [])] 0 .nil, true⟩ : AHeap) (.gc [] [false] [] [0] (by kernel_rfl) trivial (by kernel_rfl)) ?_
    refine .then ?_
    have hq := oo_inv hm; clear hm; obtain ⟨k1311, h1312, hm⟩ := hq
    have hq := bb_inv hm; clear hm; obtain ⟨h1313, hm⟩ := hq
    have hq := oo_inv hm; clear hm; obtain ⟨v1314, h1315, hm⟩ := hq
    have hq := oo_inv hm; clear hm; obtain ⟨x1316, h1317, hm⟩ := hq
    obtain rfl := toI_some h1317
    refine .reg (F' := (Fr.puts (⟨15, frTr [(0, (.int .u16 x1308))] .nil⟩ : Fr) [(5, (.int .u16 x1308)), (6, (.int .u16 x1308)), (7, (.int .u16 (wrapF .u16 (Int.sub (.ofNat 0) x1308)))), (8, (.int .u16 (aand .u16 x1308 (wrapF .u16 (Int.sub (.ofNat 0) x1308))))), (9, (.int .u32 (wrapF .u32 (aand .u16 x1308 (wrapF .u16 (Int.sub (.ofNat 0) x1308)))))), (10, (.int .u32 (wrapF .u32 (Int.mul (wrapF .u32 (aand .u16 x1308 (wrapF .u16 (Int.sub (.ofNat 0) x1308)))) (125613361 : Int))))), (11, (.int .u32 (Int.ofNat k1311))), (12, (.pointer (some ⟨0, (0 + k1311 * 1), none⟩))), (13, (.int .u8 x1316)), (14, (.int .i64 (wrapF .i64 x1316))), (2, (.int .i64 (wrapF .i64 x1316)))])) (H' := (⟨1, objTr [(.cells tab0 true false [])] 0 .nil, true⟩ : AHeap)) (evOps_cut 6 (by kernel_rfl) (evOps_data (some ((.int .u32 (shrI .u32 (wrapF .u32 (Int.mul (wrapF .u32 (aand .u16 x1308 (wrapF .u16 (Int.sub (.ofNat 0) x1308)))) (125613361 : Int))) 27)), (⟨1, objTr [(.cells tab0 true false [])] 0 .nil, true⟩ : AHeap))) (by kernel_rfl) (show _ = some ((.int .u32 (Int.ofNat k1311)), _) from (by rw [toN_some h1312])) (okAt_of (by kernel_rfl) (by kernel_rfl)) (evOps_data (keep (⟨1, objTr [(.cells tab0 true false [])] 0 .nil, true⟩ : AHeap) (bb (Nat.blt k1311 32) (some (.pointer (some ⟨0, (0 + k1311 * 1), none⟩))) none)) (by kernel_rfl) (keep_bb h1313) (okAt_of (by kernel_rfl) (by kernel_rfl)) (evOps_data (keep (⟨1, objTr [(.cells tab0 true false [])] 0 .nil, true⟩ : AHeap) (nthL tab0 (0 + k1311 * 1))) (by kernel_rfl) (keep_eq h1315) (okAt_of (by kernel_rfl) (by kernel_rfl)) (by kernel_rfl))))) ?_
    refine .ghs (⟨15, frTr [(2, (.int .i64 (wrapF .i64 x1316)))] .nil⟩ : Fr) (⟨1, objTr [(.cells tab0 true false [])] 0 .nil, true⟩ : AHeap) (.gc [] [false] [] [2] (by kernel_rfl) trivial (by kernel_rfl)) ?_
    refine .ret ?_
    exact fin_ret (.int .i64 (wrapF .i64 x1316)) (by kernel_rfl) (by kernel_rfl) hm
end
end Go.MendM
/- The models, by fuel: MADE BY PROGRAM (wip/tools/mods.py). -/
set_option maxRecDepth 100000
namespace Go.MendM
open Go.Sp Go.MendT
noncomputable section
def L : Nat := 100
def disp (pu : PureF) : PureF := fun g args =>
  bb (Nat.beq g 3) (m3 pu L args) (bb (Nat.beq g 14) (m14 pu L args) (bb (Nat.beq g 16) (m16 pu L args) (bb (Nat.beq g 17) (m17 pu L args) (bb (Nat.beq g 18) (m18 pu L args) (bb (Nat.beq g 19) (m19 pu L args) (bb (Nat.beq g 20) (m20 pu L args) (bb (Nat.beq g 21) (m21 pu L args) (bb (Nat.beq g 22) (m22 pu L args) (bb (Nat.beq g 53) (m53 pu L args) (bb (Nat.beq g 54) (m54 pu L args) (bb (Nat.beq g 55) (m55 pu L args) (bb (Nat.beq g 56) (m56 pu L args) (bb (Nat.beq g 57) (m57 pu L args) (bb (Nat.beq g 58) (m58 pu L args) (bb (Nat.beq g 59) (m59 pu L args) (bb (Nat.beq g 60) (m60 pu L args) (bb (Nat.beq g 61) (m61 pu L args) (bb (Nat.beq g 62) (m62 pu L args) (bb (Nat.beq g 73) (m73 pu L args) (bb (Nat.beq g 15) (ll args (some (.bool true)) fun _ _ => none) (none)))))))))))))))))))))
def puN : Nat → PureF := fun n => Nat.rec (motive := fun _ => PureF) (fun _ _ => none) (fun _ ih => disp ih) n
end
end Go.MendM
/- The slim code is the program's. MADE BY PROGRAM (wip/sp/gen2.lean). -/
set_option maxRecDepth 100000
namespace Go.Proofs.YtgplhblofefkjaaDoor.MendT
open Go Go.Sp Go.MendT
theorem b3 : (match Tryd.f3.body with | some c => rcOf c c3 | none => none) = some c3 := by kernel_rfl
theorem p3 : (match Tryd.f3.body with | some c => codeB [0] c | none => false) = true := by kernel_rfl
theorem fok3 : FnOk Tryd.prog [0] 3 ⟨88, c3, [.tmp 6]⟩ := FnOk.by Tryd.func3 b3 p3 Tryd.ntmps3 (by rw [Tryd.results3]) (by kernel_rfl)
theorem b14 : (match Tryd.f14.body with | some c => rcOf c c14 | none => none) = some c14 := by kernel_rfl
theorem p14 : (match Tryd.f14.body with | some c => codeB [0] c | none => false) = true := by kernel_rfl
theorem fok14 : FnOk Tryd.prog [0] 14 ⟨13, c14, [.tmp 2]⟩ := FnOk.by Tryd.func14 b14 p14 Tryd.ntmps14 (by rw [Tryd.results14]) (by kernel_rfl)
theorem b15 : (match Tryd.f15.body with | some c => rcOf c c15 | none => none) = some c15 := by kernel_rfl
theorem p15 : (match Tryd.f15.body with | some c => codeB [0] c | none => false) = true := by kernel_rfl
theorem fok15 : FnOk Tryd.prog [0] 15 ⟨218, c15, [.tmp 0]⟩ := FnOk.by Tryd.func15 b15 p15 Tryd.ntmps15 (by rw [Tryd.results15]) (by kernel_rfl)
theorem b16 : (match Tryd.f16.body with | some c => rcOf c c16 | none => none) = some c16 := by kernel_rfl
theorem p16 : (match Tryd.f16.body with | some c => codeB [0] c | none => false) = true := by kernel_rfl
theorem fok16 : FnOk Tryd.prog [0] 16 ⟨13, c16, [.tmp 2, .tmp 3]⟩ := FnOk.by Tryd.func16 b16 p16 Tryd.ntmps16 (by rw [Tryd.results16]) (by kernel_rfl)
theorem b17 : (match Tryd.f17.body with | some c => rcOf c c17 | none => none) = some c17 := by kernel_rfl
theorem p17 : (match Tryd.f17.body with | some c => codeB [0] c | none => false) = true := by kernel_rfl
theorem fok17 : FnOk Tryd.prog [0] 17 ⟨12, c17, [.tmp 2, .tmp 3]⟩ := FnOk.by Tryd.func17 b17 p17 Tryd.ntmps17 (by rw [Tryd.results17]) (by kernel_rfl)
theorem b18 : (match Tryd.f18.body with | some c => rcOf c c18 | none => none) = some c18 := by kernel_rfl
theorem p18 : (match Tryd.f18.body with | some c => codeB [0] c | none => false) = true := by kernel_rfl
theorem fok18 : FnOk Tryd.prog [0] 18 ⟨25, c18, [.cell 6 24, .tmp 7]⟩ := FnOk.by Tryd.func18 b18 p18 Tryd.ntmps18 (by rw [Tryd.results18]) (by kernel_rfl)
theorem b19 : (match Tryd.f19.body with | some c => rcOf c c19 | none => none) = some c19 := by kernel_rfl
theorem p19 : (match Tryd.f19.body with | some c => codeB [0] c | none => false) = true := by kernel_rfl
theorem fok19 : FnOk Tryd.prog [0] 19 ⟨25, c19, [.cell 6 27, .tmp 7]⟩ := FnOk.by Tryd.func19 b19 p19 Tryd.ntmps19 (by rw [Tryd.results19]) (by kernel_rfl)
theorem b20 : (match Tryd.f20.body with | some c => rcOf c c20 | none => none) = some c20 := by kernel_rfl
theorem p20 : (match Tryd.f20.body with | some c => codeB [0] c | none => false) = true := by kernel_rfl
theorem fok20 : FnOk Tryd.prog [0] 20 ⟨26, c20, [.tmp 4]⟩ := FnOk.by Tryd.func20 b20 p20 Tryd.ntmps20 (by rw [Tryd.results20]) (by kernel_rfl)
theorem b21 : (match Tryd.f21.body with | some c => rcOf c c21 | none => none) = some c21 := by kernel_rfl
theorem p21 : (match Tryd.f21.body with | some c => codeB [0] c | none => false) = true := by kernel_rfl
theorem fok21 : FnOk Tryd.prog [0] 21 ⟨73, c21, [.tmp 2]⟩ := FnOk.by Tryd.func21 b21 p21 Tryd.ntmps21 (by rw [Tryd.results21]) (by kernel_rfl)
theorem b22 : (match Tryd.f22.body with | some c => rcOf c c22 | none => none) = some c22 := by kernel_rfl
theorem p22 : (match Tryd.f22.body with | some c => codeB [0] c | none => false) = true := by kernel_rfl
theorem fok22 : FnOk Tryd.prog [0] 22 ⟨68, c22, [.tmp 2]⟩ := FnOk.by Tryd.func22 b22 p22 Tryd.ntmps22 (by rw [Tryd.results22]) (by kernel_rfl)
end Go.Proofs.YtgplhblofefkjaaDoor.MendT
/- The slim code is the program's. MADE BY PROGRAM (wip/sp/gen2.lean). -/
set_option maxRecDepth 100000
namespace Go.Proofs.YtgplhblofefkjaaDoor.MendT
open Go Go.Sp Go.MendT
theorem b23 : (match Tryd.f23.body with | some c => rcOf c c23 | none => none) = some c23 := by kernel_rfl
theorem p23 : (match Tryd.f23.body with | some c => codeB [0] c | none => false) = true := by kernel_rfl
theorem fok23 : FnOk Tryd.prog [0] 23 ⟨47, c23, [.tmp 2, .tmp 3]⟩ := FnOk.by Tryd.func23 b23 p23 Tryd.ntmps23 (by rw [Tryd.results23]) (by kernel_rfl)
theorem b25 : (match Tryd.f25.body with | some c => rcOf c c25 | none => none) = some c25 := by kernel_rfl
theorem p25 : (match Tryd.f25.body with | some c => codeB [0] c | none => false) = true := by kernel_rfl
theorem fok25 : FnOk Tryd.prog [0] 25 ⟨26, c25, [.tmp 4]⟩ := FnOk.by Tryd.func25 b25 p25 Tryd.ntmps25 (by rw [Tryd.results25]) (by kernel_rfl)
theorem b26 : (match Tryd.f26.body with | some c => rcOf c c26 | none => none) = some c26 := by kernel_rfl
theorem p26 : (match Tryd.f26.body with | some c => codeB [0] c | none => false) = true := by kernel_rfl
theorem fok26 : FnOk Tryd.prog [0] 26 ⟨12, c26, [.tmp 2, .tmp 3]⟩ := FnOk.by Tryd.func26 b26 p26 Tryd.ntmps26 (by rw [Tryd.results26]) (by kernel_rfl)
theorem b28 : (match Tryd.f28.body with | some c => rcOf c c28 | none => none) = some c28 := by kernel_rfl
theorem p28 : (match Tryd.f28.body with | some c => codeB [0] c | none => false) = true := by kernel_rfl
theorem fok28 : FnOk Tryd.prog [0] 28 ⟨91, c28, [.tmp 4, .tmp 5]⟩ := FnOk.by Tryd.func28 b28 p28 Tryd.ntmps28 (by rw [Tryd.results28]) (by kernel_rfl)
theorem b30 : (match Tryd.f30.body with | some c => rcOf c c30 | none => none) = some c30 := by kernel_rfl
theorem p30 : (match Tryd.f30.body with | some c => codeB [0] c | none => false) = true := by kernel_rfl
theorem fok30 : FnOk Tryd.prog [0] 30 ⟨27, c30, [.tmp 4]⟩ := FnOk.by Tryd.func30 b30 p30 Tryd.ntmps30 (by rw [Tryd.results30]) (by kernel_rfl)
theorem b31 : (match Tryd.f31.body with | some c => rcOf c c31 | none => none) = some c31 := by kernel_rfl
theorem p31 : (match Tryd.f31.body with | some c => codeB [0] c | none => false) = true := by kernel_rfl
theorem fok31 : FnOk Tryd.prog [0] 31 ⟨22, c31, [.tmp 4, .tmp 5]⟩ := FnOk.by Tryd.func31 b31 p31 Tryd.ntmps31 (by rw [Tryd.results31]) (by kernel_rfl)
theorem b33 : (match Tryd.f33.body with | some c => rcOf c c33 | none => none) = some c33 := by kernel_rfl
theorem p33 : (match Tryd.f33.body with | some c => codeB [0] c | none => false) = true := by kernel_rfl
theorem fok33 : FnOk Tryd.prog [0] 33 ⟨12, c33, [.tmp 2, .tmp 3]⟩ := FnOk.by Tryd.func33 b33 p33 Tryd.ntmps33 (by rw [Tryd.results33]) (by kernel_rfl)
theorem b35 : (match Tryd.f35.body with | some c => rcOf c c35 | none => none) = some c35 := by kernel_rfl
theorem p35 : (match Tryd.f35.body with | some c => codeB [0] c | none => false) = true := by kernel_rfl
theorem fok35 : FnOk Tryd.prog [0] 35 ⟨44, c35, [.tmp 2, .tmp 3]⟩ := FnOk.by Tryd.func35 b35 p35 Tryd.ntmps35 (by rw [Tryd.results35]) (by kernel_rfl)
theorem b42 : (match Tryd.f42.body with | some c => rcOf c c42 | none => none) = some c42 := by kernel_rfl
theorem p42 : (match Tryd.f42.body with | some c => codeB [0] c | none => false) = true := by kernel_rfl
theorem fok42 : FnOk Tryd.prog [0] 42 ⟨12, c42, [.tmp 2, .tmp 3]⟩ := FnOk.by Tryd.func42 b42 p42 Tryd.ntmps42 (by rw [Tryd.results42]) (by kernel_rfl)
theorem b43 : (match Tryd.f43.body with | some c => rcOf c c43 | none => none) = some c43 := by kernel_rfl
theorem p43 : (match Tryd.f43.body with | some c => codeB [0] c | none => false) = true := by kernel_rfl
theorem fok43 : FnOk Tryd.prog [0] 43 ⟨6, c43, [.cell 0 24]⟩ := FnOk.by Tryd.func43 b43 p43 Tryd.ntmps43 (by rw [Tryd.results43]) (by kernel_rfl)
end Go.Proofs.YtgplhblofefkjaaDoor.MendT
/- The slim code is the program's. MADE BY PROGRAM (wip/sp/gen2.lean). -/
set_option maxRecDepth 100000
namespace Go.Proofs.YtgplhblofefkjaaDoor.MendT
open Go Go.Sp Go.MendT
theorem b44 : (match Tryd.f44.body with | some c => rcOf c c44 | none => none) = some c44 := by kernel_rfl
theorem p44 : (match Tryd.f44.body with | some c => codeB [0] c | none => false) = true := by kernel_rfl
theorem fok44 : FnOk Tryd.prog [0] 44 ⟨6, c44, [.cell 0 24]⟩ := FnOk.by Tryd.func44 b44 p44 Tryd.ntmps44 (by rw [Tryd.results44]) (by kernel_rfl)
theorem b45 : (match Tryd.f45.body with | some c => rcOf c c45 | none => none) = some c45 := by kernel_rfl
theorem p45 : (match Tryd.f45.body with | some c => codeB [0] c | none => false) = true := by kernel_rfl
theorem fok45 : FnOk Tryd.prog [0] 45 ⟨4, c45, [.tmp 2]⟩ := FnOk.by Tryd.func45 b45 p45 Tryd.ntmps45 (by rw [Tryd.results45]) (by kernel_rfl)
theorem b46 : (match Tryd.f46.body with | some c => rcOf c c46 | none => none) = some c46 := by kernel_rfl
theorem p46 : (match Tryd.f46.body with | some c => codeB [0] c | none => false) = true := by kernel_rfl
theorem fok46 : FnOk Tryd.prog [0] 46 ⟨4, c46, [.tmp 2]⟩ := FnOk.by Tryd.func46 b46 p46 Tryd.ntmps46 (by rw [Tryd.results46]) (by kernel_rfl)
theorem b49 : (match Tryd.f49.body with | some c => rcOf c c49 | none => none) = some c49 := by kernel_rfl
theorem p49 : (match Tryd.f49.body with | some c => codeB [0] c | none => false) = true := by kernel_rfl
theorem fok49 : FnOk Tryd.prog [0] 49 ⟨39, c49, [.tmp 4]⟩ := FnOk.by Tryd.func49 b49 p49 Tryd.ntmps49 (by rw [Tryd.results49]) (by kernel_rfl)
theorem b53 : (match Tryd.f53.body with | some c => rcOf c c53 | none => none) = some c53 := by kernel_rfl
theorem p53 : (match Tryd.f53.body with | some c => codeB [0] c | none => false) = true := by kernel_rfl
theorem fok53 : FnOk Tryd.prog [0] 53 ⟨27, c53, [.tmp 2]⟩ := FnOk.by Tryd.func53 b53 p53 Tryd.ntmps53 (by rw [Tryd.results53]) (by kernel_rfl)
theorem b54 : (match Tryd.f54.body with | some c => rcOf c c54 | none => none) = some c54 := by kernel_rfl
theorem p54 : (match Tryd.f54.body with | some c => codeB [0] c | none => false) = true := by kernel_rfl
theorem fok54 : FnOk Tryd.prog [0] 54 ⟨16, c54, [.tmp 2]⟩ := FnOk.by Tryd.func54 b54 p54 Tryd.ntmps54 (by rw [Tryd.results54]) (by kernel_rfl)
theorem b55 : (match Tryd.f55.body with | some c => rcOf c c55 | none => none) = some c55 := by kernel_rfl
theorem p55 : (match Tryd.f55.body with | some c => codeB [0] c | none => false) = true := by kernel_rfl
theorem fok55 : FnOk Tryd.prog [0] 55 ⟨28, c55, [.tmp 2]⟩ := FnOk.by Tryd.func55 b55 p55 Tryd.ntmps55 (by rw [Tryd.results55]) (by kernel_rfl)
theorem b56 : (match Tryd.f56.body with | some c => rcOf c c56 | none => none) = some c56 := by kernel_rfl
theorem p56 : (match Tryd.f56.body with | some c => codeB [0] c | none => false) = true := by kernel_rfl
theorem fok56 : FnOk Tryd.prog [0] 56 ⟨25, c56, [.tmp 6]⟩ := FnOk.by Tryd.func56 b56 p56 Tryd.ntmps56 (by rw [Tryd.results56]) (by kernel_rfl)
theorem b57 : (match Tryd.f57.body with | some c => rcOf c c57 | none => none) = some c57 := by kernel_rfl
theorem p57 : (match Tryd.f57.body with | some c => codeB [0] c | none => false) = true := by kernel_rfl
theorem fok57 : FnOk Tryd.prog [0] 57 ⟨36, c57, [.cell 6 24]⟩ := FnOk.by Tryd.func57 b57 p57 Tryd.ntmps57 (by rw [Tryd.results57]) (by kernel_rfl)
theorem b58 : (match Tryd.f58.body with | some c => rcOf c c58 | none => none) = some c58 := by kernel_rfl
theorem p58 : (match Tryd.f58.body with | some c => codeB [0] c | none => false) = true := by kernel_rfl
theorem fok58 : FnOk Tryd.prog [0] 58 ⟨26, c58, [.tmp 6]⟩ := FnOk.by Tryd.func58 b58 p58 Tryd.ntmps58 (by rw [Tryd.results58]) (by kernel_rfl)
end Go.Proofs.YtgplhblofefkjaaDoor.MendT
/- The slim code is the program's. MADE BY PROGRAM (wip/sp/gen2.lean). -/
set_option maxRecDepth 100000
namespace Go.Proofs.YtgplhblofefkjaaDoor.MendT
open Go Go.Sp Go.MendT
theorem b59 : (match Tryd.f59.body with | some c => rcOf c c59 | none => none) = some c59 := by kernel_rfl
theorem p59 : (match Tryd.f59.body with | some c => codeB [0] c | none => false) = true := by kernel_rfl
theorem fok59 : FnOk Tryd.prog [0] 59 ⟨38, c59, [.cell 6 27]⟩ := FnOk.by Tryd.func59 b59 p59 Tryd.ntmps59 (by rw [Tryd.results59]) (by kernel_rfl)
theorem b60 : (match Tryd.f60.body with | some c => rcOf c c60 | none => none) = some c60 := by kernel_rfl
theorem p60 : (match Tryd.f60.body with | some c => codeB [0] c | none => false) = true := by kernel_rfl
theorem fok60 : FnOk Tryd.prog [0] 60 ⟨15, c60, [.tmp 6]⟩ := FnOk.by Tryd.func60 b60 p60 Tryd.ntmps60 (by rw [Tryd.results60]) (by kernel_rfl)
theorem b61 : (match Tryd.f61.body with | some c => rcOf c c61 | none => none) = some c61 := by kernel_rfl
theorem p61 : (match Tryd.f61.body with | some c => codeB [0] c | none => false) = true := by kernel_rfl
theorem fok61 : FnOk Tryd.prog [0] 61 ⟨15, c61, [.tmp 6]⟩ := FnOk.by Tryd.func61 b61 p61 Tryd.ntmps61 (by rw [Tryd.results61]) (by kernel_rfl)
theorem b62 : (match Tryd.f62.body with | some c => rcOf c c62 | none => none) = some c62 := by kernel_rfl
theorem p62 : (match Tryd.f62.body with | some c => codeB [0] c | none => false) = true := by kernel_rfl
theorem fok62 : FnOk Tryd.prog [0] 62 ⟨22, c62, [.tmp 4]⟩ := FnOk.by Tryd.func62 b62 p62 Tryd.ntmps62 (by rw [Tryd.results62]) (by kernel_rfl)
theorem b63 : (match Tryd.f63.body with | some c => rcOf c c63 | none => none) = some c63 := by kernel_rfl
theorem p63 : (match Tryd.f63.body with | some c => codeB [0] c | none => false) = true := by kernel_rfl
theorem fok63 : FnOk Tryd.prog [0] 63 ⟨13, c63, [.tmp 2]⟩ := FnOk.by Tryd.func63 b63 p63 Tryd.ntmps63 (by rw [Tryd.results63]) (by kernel_rfl)
theorem b65 : (match Tryd.f65.body with | some c => rcOf c c65 | none => none) = some c65 := by kernel_rfl
theorem p65 : (match Tryd.f65.body with | some c => codeB [0] c | none => false) = true := by kernel_rfl
theorem fok65 : FnOk Tryd.prog [0] 65 ⟨46, c65, [.tmp 2]⟩ := FnOk.by Tryd.func65 b65 p65 Tryd.ntmps65 (by rw [Tryd.results65]) (by kernel_rfl)
theorem b67 : (match Tryd.f67.body with | some c => rcOf c c67 | none => none) = some c67 := by kernel_rfl
theorem p67 : (match Tryd.f67.body with | some c => codeB [0] c | none => false) = true := by kernel_rfl
theorem fok67 : FnOk Tryd.prog [0] 67 ⟨10, c67, [.tmp 4]⟩ := FnOk.by Tryd.func67 b67 p67 Tryd.ntmps67 (by rw [Tryd.results67]) (by kernel_rfl)
theorem b69 : (match Tryd.f69.body with | some c => rcOf c c69 | none => none) = some c69 := by kernel_rfl
theorem p69 : (match Tryd.f69.body with | some c => codeB [0] c | none => false) = true := by kernel_rfl
theorem fok69 : FnOk Tryd.prog [0] 69 ⟨49, c69, [.tmp 2]⟩ := FnOk.by Tryd.func69 b69 p69 Tryd.ntmps69 (by rw [Tryd.results69]) (by kernel_rfl)
theorem b73 : (match Tryd.f73.body with | some c => rcOf c c73 | none => none) = some c73 := by kernel_rfl
theorem p73 : (match Tryd.f73.body with | some c => codeB [0] c | none => false) = true := by kernel_rfl
theorem fok73 : FnOk Tryd.prog [0] 73 ⟨15, c73, [.tmp 2]⟩ := FnOk.by Tryd.func73 b73 p73 Tryd.ntmps73 (by rw [Tryd.results73]) (by kernel_rfl)
theorem b74 : (match Tryd.f74.body with | some c => rcOf c c74 | none => none) = some c74 := by kernel_rfl
theorem p74 : (match Tryd.f74.body with | some c => codeB [0] c | none => false) = true := by kernel_rfl
theorem fok74 : FnOk Tryd.prog [0] 74 ⟨8, c74, [.tmp 2]⟩ := FnOk.by Tryd.func74 b74 p74 Tryd.ntmps74 (by rw [Tryd.results74]) (by kernel_rfl)
end Go.Proofs.YtgplhblofefkjaaDoor.MendT
/- The slim code is the program's. MADE BY PROGRAM (wip/sp/gen2.lean). -/
set_option maxRecDepth 100000
namespace Go.Proofs.YtgplhblofefkjaaDoor.MendT
open Go Go.Sp Go.MendT
theorem b75 : (match Tryd.f75.body with | some c => rcOf c c75 | none => none) = some c75 := by kernel_rfl
theorem p75 : (match Tryd.f75.body with | some c => codeB [0] c | none => false) = true := by kernel_rfl
theorem fok75 : FnOk Tryd.prog [0] 75 ⟨11, c75, [.tmp 2]⟩ := FnOk.by Tryd.func75 b75 p75 Tryd.ntmps75 (by rw [Tryd.results75]) (by kernel_rfl)
theorem b76 : (match Tryd.f76.body with | some c => rcOf c c76 | none => none) = some c76 := by kernel_rfl
theorem p76 : (match Tryd.f76.body with | some c => codeB [0] c | none => false) = true := by kernel_rfl
theorem fok76 : FnOk Tryd.prog [0] 76 ⟨8, c76, [.tmp 2]⟩ := FnOk.by Tryd.func76 b76 p76 Tryd.ntmps76 (by rw [Tryd.results76]) (by kernel_rfl)
theorem b77 : (match Tryd.f77.body with | some c => rcOf c c77 | none => none) = some c77 := by kernel_rfl
theorem p77 : (match Tryd.f77.body with | some c => codeB [0] c | none => false) = true := by kernel_rfl
theorem fok77 : FnOk Tryd.prog [0] 77 ⟨52, c77, [.tmp 4]⟩ := FnOk.by Tryd.func77 b77 p77 Tryd.ntmps77 (by rw [Tryd.results77]) (by kernel_rfl)
theorem b78 : (match Tryd.f78.body with | some c => rcOf c c78 | none => none) = some c78 := by kernel_rfl
theorem p78 : (match Tryd.f78.body with | some c => codeB [0] c | none => false) = true := by kernel_rfl
theorem fok78 : FnOk Tryd.prog [0] 78 ⟨94, c78, [.tmp 8]⟩ := FnOk.by Tryd.func78 b78 p78 Tryd.ntmps78 (by rw [Tryd.results78]) (by kernel_rfl)
theorem b80 : (match Tryd.f80.body with | some c => rcOf c c80 | none => none) = some c80 := by kernel_rfl
theorem p80 : (match Tryd.f80.body with | some c => codeB [0] c | none => false) = true := by kernel_rfl
theorem fok80 : FnOk Tryd.prog [0] 80 ⟨38, c80, [.tmp 4]⟩ := FnOk.by Tryd.func80 b80 p80 Tryd.ntmps80 (by rw [Tryd.results80]) (by kernel_rfl)
theorem b81 : (match Tryd.f81.body with | some c => rcOf c c81 | none => none) = some c81 := by kernel_rfl
theorem p81 : (match Tryd.f81.body with | some c => codeB [0] c | none => false) = true := by kernel_rfl
theorem fok81 : FnOk Tryd.prog [0] 81 ⟨9, c81, [.tmp 2]⟩ := FnOk.by Tryd.func81 b81 p81 Tryd.ntmps81 (by rw [Tryd.results81]) (by kernel_rfl)
end Go.Proofs.YtgplhblofefkjaaDoor.MendT
/- All the slim code is the program's, and the types are. MADE BY PROGRAM (wip/sp/gen2.lean). -/
set_option maxRecDepth 100000
namespace Go.Proofs.YtgplhblofefkjaaDoor.MendT
open Go Go.Sp Go.MendT
theorem tok3 : TyOk Tryd.prog 3 ti3 := TyOk.by Tryd.underlying3 (inf := Tryd.t3) (by kernel_rfl) (by kernel_rfl) (by kernel_rfl) (by kernel_rfl) (by kernel_rfl) (fun h => by cases h)
theorem tok5 : TyOk Tryd.prog 5 ti5 := TyOk.by Tryd.underlying5 (inf := Tryd.t5) (by kernel_rfl) (by kernel_rfl) (by kernel_rfl) (by kernel_rfl) (by kernel_rfl) (fun h => by cases h)
theorem tok9 : TyOk Tryd.prog 9 ti9 := TyOk.by Tryd.underlying9 (inf := Tryd.t9) (by kernel_rfl) (by kernel_rfl) (by kernel_rfl) (by kernel_rfl) (by kernel_rfl) (fun h => by cases h)
theorem tok22 : TyOk Tryd.prog 22 ti22 := TyOk.by Tryd.underlying22 (inf := Tryd.t22) (by kernel_rfl) (by kernel_rfl) (by kernel_rfl) (by kernel_rfl) (by kernel_rfl) (fun h => by cases h)
theorem tok24 : TyOk Tryd.prog 24 ti24 := TyOk.by Tryd.underlying24 (inf := Tryd.t24) (by kernel_rfl) (by kernel_rfl) (by kernel_rfl) (by kernel_rfl) (by kernel_rfl) (fun h => by cases h)
theorem tok27 : TyOk Tryd.prog 27 ti27 := TyOk.by Tryd.underlying27 (inf := Tryd.t27) (by kernel_rfl) (by kernel_rfl) (by kernel_rfl) (by kernel_rfl) (by kernel_rfl) (fun h => by cases h)
theorem tok28 : TyOk Tryd.prog 28 ti28 := TyOk.by Tryd.underlying28 (inf := Tryd.t28) (by kernel_rfl) (by kernel_rfl) (by kernel_rfl) (by kernel_rfl) (by kernel_rfl) (fun h => by cases h)
theorem tok40 : TyOk Tryd.prog 40 ti40 := TyOk.by Tryd.underlying40 (inf := Tryd.t40) (by kernel_rfl) (by kernel_rfl) (by kernel_rfl) (by kernel_rfl) (by kernel_rfl) (fun h => by cases h)
theorem tok45 : TyOk Tryd.prog 45 ti45 := TyOk.by Tryd.underlying45 (inf := Tryd.t45) (by kernel_rfl) (by kernel_rfl) (by kernel_rfl) (by kernel_rfl) (by kernel_rfl) (fun h => by cases h)
theorem tok65 : TyOk Tryd.prog 65 ti65 := TyOk.by Tryd.underlying65 (inf := Tryd.t65) (by kernel_rfl) (by kernel_rfl) (by kernel_rfl) (by kernel_rfl) (by kernel_rfl) (fun _ => ⟨_, rfl, Fl.ok (d := 8) (⟨by kernel_rfl, .inr (.inr (.inr (.inl ⟨2, 3, [(.int .i64 0)], Tryd.underlying65, ⟨by kernel_rfl, .inl ⟨⟨_, Tryd.underlying3⟩, _, _, rfl⟩⟩, by kernel_rfl⟩)))⟩) (by decide) ⟨_, Tryd.underlying65, rfl⟩ (by kernel_rfl)⟩)
theorem tok78 : TyOk Tryd.prog 78 ti78 := TyOk.by Tryd.underlying78 (inf := Tryd.t78) (by kernel_rfl) (by kernel_rfl) (by kernel_rfl) (by kernel_rfl) (by kernel_rfl) (fun h => by cases h)
theorem tok79 : TyOk Tryd.prog 79 ti79 := TyOk.by Tryd.underlying79 (inf := Tryd.t79) (by kernel_rfl) (by kernel_rfl) (by kernel_rfl) (by kernel_rfl) (by kernel_rfl) (fun h => by cases h)
theorem tok87 : TyOk Tryd.prog 87 ti87 := TyOk.by Tryd.underlying87 (inf := Tryd.t87) (by kernel_rfl) (by kernel_rfl) (by kernel_rfl) (by kernel_rfl) (by kernel_rfl) (fun _ => ⟨_, rfl, Fl.ok (d := 8) (⟨by kernel_rfl, .inr (.inr (.inr (.inl ⟨5, 3, [(.int .i64 0)], Tryd.underlying87, ⟨by kernel_rfl, .inl ⟨⟨_, Tryd.underlying3⟩, _, _, rfl⟩⟩, by kernel_rfl⟩)))⟩) (by decide) ⟨_, Tryd.underlying87, rfl⟩ (by kernel_rfl)⟩)
theorem tok101 : TyOk Tryd.prog 101 ti101 := TyOk.by Tryd.underlying101 (inf := Tryd.t101) (by kernel_rfl) (by kernel_rfl) (by kernel_rfl) (by kernel_rfl) (by kernel_rfl) (fun h => by cases h)
theorem tok106 : TyOk Tryd.prog 106 ti106 := TyOk.by Tryd.underlying106 (inf := Tryd.t106) (by kernel_rfl) (by kernel_rfl) (by kernel_rfl) (by kernel_rfl) (by kernel_rfl) (fun h => by cases h)
theorem tok107 : TyOk Tryd.prog 107 ti107 := TyOk.by Tryd.underlying107 (inf := Tryd.t107) (by kernel_rfl) (by kernel_rfl) (by kernel_rfl) (by kernel_rfl) (by kernel_rfl) (fun _ => ⟨_, rfl, Fl.ok (d := 8) (⟨by kernel_rfl, .inr (.inr (.inr (.inl ⟨32, 5, [(.int .u8 0)], Tryd.underlying107, ⟨by kernel_rfl, .inl ⟨⟨_, Tryd.underlying5⟩, _, _, rfl⟩⟩, by kernel_rfl⟩)))⟩) (by decide) ⟨_, Tryd.underlying107, rfl⟩ (by kernel_rfl)⟩)
theorem tok108 : TyOk Tryd.prog 108 ti108 := TyOk.by Tryd.underlying108 (inf := Tryd.t108) (by kernel_rfl) (by kernel_rfl) (by kernel_rfl) (by kernel_rfl) (by kernel_rfl) (fun h => by cases h)
theorem tok109 : TyOk Tryd.prog 109 ti109 := TyOk.by Tryd.underlying109 (inf := Tryd.t109) (by kernel_rfl) (by kernel_rfl) (by kernel_rfl) (by kernel_rfl) (by kernel_rfl) (fun h => by cases h)
theorem tok110 : TyOk Tryd.prog 110 ti110 := TyOk.by Tryd.underlying110 (inf := Tryd.t110) (by kernel_rfl) (by kernel_rfl) (by kernel_rfl) (by kernel_rfl) (by kernel_rfl) (fun h => by cases h)
theorem tok112 : TyOk Tryd.prog 112 ti112 := TyOk.by Tryd.underlying112 (inf := Tryd.t112) (by kernel_rfl) (by kernel_rfl) (by kernel_rfl) (by kernel_rfl) (by kernel_rfl) (fun h => by cases h)
theorem ttOk : TOk Tryd.prog tt := TOk.of_all (t := ttTr) ⟨trivial, ⟨trivial, ⟨tok3, ⟨trivial, ⟨trivial, trivial, ⟨trivial, ⟨tok79, trivial, trivial⟩, trivial⟩⟩, ⟨trivial, trivial, ⟨trivial, ⟨tok87, trivial, trivial⟩, trivial⟩⟩⟩, ⟨trivial, trivial, ⟨tok27, ⟨trivial, trivial, ⟨tok107, trivial, trivial⟩⟩, trivial⟩⟩⟩, ⟨tok5, ⟨tok9, ⟨trivial, ⟨trivial, ⟨tok65, trivial, trivial⟩, trivial⟩, trivial⟩, trivial⟩, ⟨trivial, ⟨trivial, ⟨trivial, trivial, ⟨tok101, trivial, trivial⟩⟩, trivial⟩, ⟨trivial, ⟨tok45, trivial, ⟨tok109, trivial, trivial⟩⟩, trivial⟩⟩⟩⟩, ⟨trivial, ⟨trivial, ⟨trivial, ⟨trivial, trivial, ⟨trivial, trivial, ⟨tok112, trivial, trivial⟩⟩⟩, ⟨tok24, ⟨tok40, trivial, trivial⟩, trivial⟩⟩, ⟨trivial, trivial, ⟨tok28, ⟨trivial, trivial, ⟨tok108, trivial, trivial⟩⟩, trivial⟩⟩⟩, ⟨trivial, ⟨trivial, trivial, ⟨trivial, ⟨trivial, trivial, ⟨tok106, trivial, trivial⟩⟩, trivial⟩⟩, ⟨trivial, ⟨tok22, trivial, trivial⟩, ⟨trivial, ⟨trivial, ⟨tok78, trivial, trivial⟩, ⟨tok110, trivial, trivial⟩⟩, trivial⟩⟩⟩⟩⟩
theorem fnAll : fnTr.All (FnOk Tryd.prog [0]) := ⟨trivial, ⟨trivial, ⟨fok3, ⟨trivial, ⟨fok15, ⟨fok31, ⟨fok63, trivial, trivial⟩, trivial⟩, trivial⟩, ⟨fok23, trivial, ⟨fok55, trivial, trivial⟩⟩⟩, ⟨trivial, ⟨fok19, ⟨fok35, ⟨fok67, trivial, trivial⟩, trivial⟩, trivial⟩, ⟨trivial, ⟨fok43, ⟨fok75, trivial, trivial⟩, trivial⟩, ⟨fok59, trivial, trivial⟩⟩⟩⟩, ⟨trivial, ⟨trivial, ⟨fok17, ⟨fok33, ⟨fok65, trivial, trivial⟩, trivial⟩, ⟨fok49, ⟨fok81, trivial, trivial⟩, trivial⟩⟩, ⟨fok25, ⟨trivial, ⟨fok73, trivial, trivial⟩, trivial⟩, ⟨fok57, trivial, trivial⟩⟩⟩, ⟨trivial, ⟨fok21, ⟨trivial, ⟨fok69, trivial, trivial⟩, trivial⟩, ⟨fok53, trivial, trivial⟩⟩, ⟨trivial, ⟨fok45, ⟨fok77, trivial, trivial⟩, trivial⟩, ⟨fok61, trivial, trivial⟩⟩⟩⟩⟩, ⟨trivial, ⟨trivial, ⟨trivial, ⟨fok16, trivial, ⟨trivial, ⟨fok80, trivial, trivial⟩, trivial⟩⟩, ⟨trivial, trivial, ⟨fok56, trivial, trivial⟩⟩⟩, ⟨trivial, ⟨fok20, trivial, trivial⟩, ⟨fok28, ⟨fok44, ⟨fok76, trivial, trivial⟩, trivial⟩, ⟨fok60, trivial, trivial⟩⟩⟩⟩, ⟨trivial, ⟨trivial, ⟨fok18, trivial, trivial⟩, ⟨fok26, ⟨fok42, ⟨fok74, trivial, trivial⟩, trivial⟩, ⟨fok58, trivial, trivial⟩⟩⟩, ⟨fok14, ⟨fok22, trivial, ⟨fok54, trivial, trivial⟩⟩, ⟨fok30, ⟨fok46, ⟨fok78, trivial, trivial⟩, trivial⟩, ⟨fok62, trivial, trivial⟩⟩⟩⟩⟩⟩
theorem fnsOk (f : FuncId) (r : RFn) (h : fns f = some r) : FnOk Tryd.prog [0] f r := fnAll.get h
end Go.Proofs.YtgplhblofefkjaaDoor.MendT
/- All promises, by fuel: MADE BY PROGRAM (wip/tools/mods.py). -/
set_option maxRecDepth 100000
namespace Go.Proofs.YtgplhblofefkjaaDoor.MendT
open Go Go.Sp Go.MendM Go.MendT
noncomputable section
theorem fk3 : FnOk Tryd.prog (List.range tabs.length) 3 ⟨88, c3_19, [.tmp 6]⟩ := by
  have h : c3 = c3_19 := by kernel_rfl
  rw [← h]; exact fok3
theorem fk14 : FnOk Tryd.prog (List.range tabs.length) 14 ⟨13, c14_3, [.tmp 2]⟩ := by
  have h : c14 = c14_3 := by kernel_rfl
  rw [← h]; exact fok14
theorem fk16 : FnOk Tryd.prog (List.range tabs.length) 16 ⟨13, c16_11, [.tmp 2, .tmp 3]⟩ := by
  have h : c16 = c16_11 := by kernel_rfl
  rw [← h]; exact fok16
theorem fk17 : FnOk Tryd.prog (List.range tabs.length) 17 ⟨12, c17_11, [.tmp 2, .tmp 3]⟩ := by
  have h : c17 = c17_11 := by kernel_rfl
  rw [← h]; exact fok17
theorem fk18 : FnOk Tryd.prog (List.range tabs.length) 18 ⟨25, c18_16, [.cell 6 24, .tmp 7]⟩ := by
  have h : c18 = c18_16 := by kernel_rfl
  rw [← h]; exact fok18
theorem fk19 : FnOk Tryd.prog (List.range tabs.length) 19 ⟨25, c19_16, [.cell 6 27, .tmp 7]⟩ := by
  have h : c19 = c19_16 := by kernel_rfl
  rw [← h]; exact fok19
theorem fk20 : FnOk Tryd.prog (List.range tabs.length) 20 ⟨26, c20_26, [.tmp 4]⟩ := by
  have h : c20 = c20_26 := by kernel_rfl
  rw [← h]; exact fok20
theorem fk21 : FnOk Tryd.prog (List.range tabs.length) 21 ⟨73, c21_58, [.tmp 2]⟩ := by
  have h : c21 = c21_58 := by kernel_rfl
  rw [← h]; exact fok21
theorem fk22 : FnOk Tryd.prog (List.range tabs.length) 22 ⟨68, c22_61, [.tmp 2]⟩ := by
  have h : c22 = c22_61 := by kernel_rfl
  rw [← h]; exact fok22
theorem fk53 : FnOk Tryd.prog (List.range tabs.length) 53 ⟨27, c53_23, [.tmp 2]⟩ := by
  have h : c53 = c53_23 := by kernel_rfl
  rw [← h]; exact fok53
theorem fk54 : FnOk Tryd.prog (List.range tabs.length) 54 ⟨16, c54_16, [.tmp 2]⟩ := by
  have h : c54 = c54_16 := by kernel_rfl
  rw [← h]; exact fok54
theorem fk55 : FnOk Tryd.prog (List.range tabs.length) 55 ⟨28, c55_21, [.tmp 2]⟩ := by
  have h : c55 = c55_21 := by kernel_rfl
  rw [← h]; exact fok55
theorem fk56 : FnOk Tryd.prog (List.range tabs.length) 56 ⟨25, c56_15, [.tmp 6]⟩ := by
  have h : c56 = c56_15 := by kernel_rfl
  rw [← h]; exact fok56
theorem fk57 : FnOk Tryd.prog (List.range tabs.length) 57 ⟨36, c57_7, [.cell 6 24]⟩ := by
  have h : c57 = c57_7 := by kernel_rfl
  rw [← h]; exact fok57
theorem fk58 : FnOk Tryd.prog (List.range tabs.length) 58 ⟨26, c58_15, [.tmp 6]⟩ := by
  have h : c58 = c58_15 := by kernel_rfl
  rw [← h]; exact fok58
theorem fk59 : FnOk Tryd.prog (List.range tabs.length) 59 ⟨38, c59_7, [.cell 6 27]⟩ := by
  have h : c59 = c59_7 := by kernel_rfl
  rw [← h]; exact fok59
theorem fk60 : FnOk Tryd.prog (List.range tabs.length) 60 ⟨15, c60_3, [.tmp 6]⟩ := by
  have h : c60 = c60_3 := by kernel_rfl
  rw [← h]; exact fok60
theorem fk61 : FnOk Tryd.prog (List.range tabs.length) 61 ⟨15, c61_3, [.tmp 6]⟩ := by
  have h : c61 = c61_3 := by kernel_rfl
  rw [← h]; exact fok61
theorem fk62 : FnOk Tryd.prog (List.range tabs.length) 62 ⟨22, c62_21, [.tmp 4]⟩ := by
  have h : c62 = c62_21 := by kernel_rfl
  rw [← h]; exact fok62
theorem fk73 : FnOk Tryd.prog (List.range tabs.length) 73 ⟨15, c73_9, [.tmp 2]⟩ := by
  have h : c73 = c73_9 := by kernel_rfl
  rw [← h]; exact fok73
theorem inl_ok (hm : Tryd.prog.follows .mixedOrders = true) : CallOk Tryd.prog (List.range tabs.length) inl := fun g args H v H' h => by
  obtain ⟨h1, h2⟩ := bb_inv (show bb (Nat.beq g 74) (cloneF 1 8 args H) none = some (v, H') from h)
  obtain rfl := Nat.eq_of_beq_eq_true h1
  exact clone_ok ttOk fnsOk hm h2
theorem disp_ok (hm : Tryd.prog.follows .mixedOrders = true) (hw : PureOk Tryd.prog tabs 15 (fun args => ll args (some (.bool true)) fun _ _ => none)) {pu : PureF} (hpu : ∀ g, isP g = true → PureOk Tryd.prog tabs g (pu g)) : ∀ g, isP g = true → PureOk Tryd.prog tabs g (disp pu g) := fun g hg => by
  have hcall := callP_ok (P := Tryd.prog) (tabs := tabs) (by intro t ht; simp [tabs] at ht; subst ht; intro h; cases h) (by intro t ht x hx; simp [tabs] at ht; subst ht; simp [tab0] at hx; rcases hx with rfl | rfl | rfl | rfl | rfl | rfl | rfl | rfl | rfl | rfl | rfl | rfl | rfl | rfl | rfl | rfl | rfl | rfl | rfl | rfl | rfl | rfl | rfl | rfl | rfl | rfl | rfl | rfl | rfl | rfl | rfl | rfl <;> rfl) (inl_ok hm) hpu
  have hg : g ∈ plist := memN_iff.1 hg
  simp only [plist, List.mem_cons, List.not_mem_nil, or_false] at hg
  rcases hg with rfl | rfl | rfl | rfl | rfl | rfl | rfl | rfl | rfl | rfl | rfl | rfl | rfl | rfl | rfl | rfl | rfl | rfl | rfl | rfl | rfl
  · exact pureOk_of_run (tabs := tabs) (f := m3 pu L) ttOk hm hcall fk3 fun args v h hc => r3 pu L rfl h hc
  · exact pureOk_of_run (tabs := tabs) (f := m14 pu L) ttOk hm hcall fk14 fun args v h hc => r14 pu L rfl h hc
  · exact hw
  · exact pureOk_of_run (tabs := tabs) (f := m16 pu L) ttOk hm hcall fk16 fun args v h hc => r16 pu L rfl h hc
  · exact pureOk_of_run (tabs := tabs) (f := m17 pu L) ttOk hm hcall fk17 fun args v h hc => r17 pu L rfl h hc
  · exact pureOk_of_run (tabs := tabs) (f := m18 pu L) ttOk hm hcall fk18 fun args v h hc => r18 pu L rfl h hc
  · exact pureOk_of_run (tabs := tabs) (f := m19 pu L) ttOk hm hcall fk19 fun args v h hc => r19 pu L rfl h hc
  · exact pureOk_of_run (tabs := tabs) (f := m20 pu L) ttOk hm hcall fk20 fun args v h hc => r20 pu L rfl h hc
  · exact pureOk_of_run (tabs := tabs) (f := m21 pu L) ttOk hm hcall fk21 fun args v h hc => r21 pu L rfl h hc
  · exact pureOk_of_run (tabs := tabs) (f := m22 pu L) ttOk hm hcall fk22 fun args v h hc => r22 pu L rfl h hc
  · exact pureOk_of_run (tabs := tabs) (f := m53 pu L) ttOk hm hcall fk53 fun args v h hc => r53 pu L rfl h hc
  · exact pureOk_of_run (tabs := tabs) (f := m54 pu L) ttOk hm hcall fk54 fun args v h hc => r54 pu L rfl h hc
  · exact pureOk_of_run (tabs := tabs) (f := m55 pu L) ttOk hm hcall fk55 fun args v h hc => r55 pu L rfl h hc
  · exact pureOk_of_run (tabs := tabs) (f := m56 pu L) ttOk hm hcall fk56 fun args v h hc => r56 pu L rfl h hc
  · exact pureOk_of_run (tabs := tabs) (f := m57 pu L) ttOk hm hcall fk57 fun args v h hc => r57 pu L rfl h hc
  · exact pureOk_of_run (tabs := tabs) (f := m58 pu L) ttOk hm hcall fk58 fun args v h hc => r58 pu L rfl h hc
  · exact pureOk_of_run (tabs := tabs) (f := m59 pu L) ttOk hm hcall fk59 fun args v h hc => r59 pu L rfl h hc
  · exact pureOk_of_run (tabs := tabs) (f := m60 pu L) ttOk hm hcall fk60 fun args v h hc => r60 pu L rfl h hc
  · exact pureOk_of_run (tabs := tabs) (f := m61 pu L) ttOk hm hcall fk61 fun args v h hc => r61 pu L rfl h hc
  · exact pureOk_of_run (tabs := tabs) (f := m62 pu L) ttOk hm hcall fk62 fun args v h hc => r62 pu L rfl h hc
  · exact pureOk_of_run (tabs := tabs) (f := m73 pu L) ttOk hm hcall fk73 fun args v h hc => r73 pu L rfl h hc
theorem pu_ok (hm : Tryd.prog.follows .mixedOrders = true) (hw : PureOk Tryd.prog tabs 15 (fun args => ll args (some (.bool true)) fun _ _ => none)) : ∀ n g, isP g = true → PureOk Tryd.prog tabs g (puN n g) := fun n => by
  induction n with
  | zero =>
    intro g hg
    have hg : g ∈ plist := memN_iff.1 hg
    simp only [plist, List.mem_cons, List.not_mem_nil, or_false] at hg
    rcases hg with rfl | rfl | rfl | rfl | rfl | rfl | rfl | rfl | rfl | rfl | rfl | rfl | rfl | rfl | rfl | rfl | rfl | rfl | rfl | rfl | rfl
    · exact ⟨enter_ok fk3, fun args v h => by cases h⟩
    · exact ⟨enter_ok fk14, fun args v h => by cases h⟩
    · exact ⟨hw.1, fun args v h => by cases h⟩
    · exact ⟨enter_ok fk16, fun args v h => by cases h⟩
    · exact ⟨enter_ok fk17, fun args v h => by cases h⟩
    · exact ⟨enter_ok fk18, fun args v h => by cases h⟩
    · exact ⟨enter_ok fk19, fun args v h => by cases h⟩
    · exact ⟨enter_ok fk20, fun args v h => by cases h⟩
    · exact ⟨enter_ok fk21, fun args v h => by cases h⟩
    · exact ⟨enter_ok fk22, fun args v h => by cases h⟩
    · exact ⟨enter_ok fk53, fun args v h => by cases h⟩
    · exact ⟨enter_ok fk54, fun args v h => by cases h⟩
    · exact ⟨enter_ok fk55, fun args v h => by cases h⟩
    · exact ⟨enter_ok fk56, fun args v h => by cases h⟩
    · exact ⟨enter_ok fk57, fun args v h => by cases h⟩
    · exact ⟨enter_ok fk58, fun args v h => by cases h⟩
    · exact ⟨enter_ok fk59, fun args v h => by cases h⟩
    · exact ⟨enter_ok fk60, fun args v h => by cases h⟩
    · exact ⟨enter_ok fk61, fun args v h => by cases h⟩
    · exact ⟨enter_ok fk62, fun args v h => by cases h⟩
    · exact ⟨enter_ok fk73, fun args v h => by cases h⟩
  | succ n ih => exact disp_ok hm hw ih
end
end Go.Proofs.YtgplhblofefkjaaDoor.MendT
