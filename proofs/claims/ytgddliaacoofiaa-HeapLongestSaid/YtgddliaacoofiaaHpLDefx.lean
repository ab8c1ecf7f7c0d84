/- Heaps of at most 14 cards: all of them, listed; rounds, and what comes back: plain Lean. -/
import Derived.Test.YtgddliaacoofiaaSpFramex
import Derived.Test.YtgddliaacoofiaaHpLPux
import Derived.Test.YtgddliaacoofiaaSpClox

namespace Go.HpT
open Go Go.Sp
noncomputable section
def heads (ih : Nat → Nat → List (List Nat)) (left : Nat) (m : Nat) : List (List Nat) :=
  Nat.rec (motive := fun _ => List (List Nat)) [] (fun k r => appL r (mapL (fun p => (k + 1) :: p) (ih (left - (k + 1)) (k + 1)))) m
def pts (f : Nat) : Nat → Nat → List (List Nat) :=
  Nat.rec (motive := fun _ => Nat → Nat → List (List Nat)) (fun left _ => bb (Nat.beq left 0) [[]] []) (fun _ ih left most => bb (Nat.beq left 0) [[]] (heads ih left (Nat.min left most))) f
def isPt (p : List Nat) : Nat → Nat → Bool :=
  List.rec (motive := fun _ => Nat → Nat → Bool) (fun left _ => Nat.beq left 0) (fun h _ ih left most => an (Nat.ble 1 h) (an (Nat.ble h most) (an (Nat.ble h left) (ih (left - h) h)))) p
theorem mem_heads {ih : Nat → Nat → List (List Nat)} {left h : Nat} {r : List Nat} (hr : r ∈ ih (left - h) h) : ∀ m, 1 ≤ h → h ≤ m → h :: r ∈ heads ih left m
  | 0, h1, h2 => by omega
  | m + 1, h1, h2 => by
    show h :: r ∈ appL (heads ih left m) (mapL (fun p => (m + 1) :: p) (ih (left - (m + 1)) (m + 1)))
    rw [appL_eq, List.mem_append, mapL_eq, List.mem_map]
    by_cases e : h = m + 1
    · subst e; exact .inr ⟨r, hr, rfl⟩
    · exact .inl (mem_heads hr m h1 (by omega))
theorem mem_pts : ∀ (p : List Nat) (f left most : Nat), left ≤ f → isPt p left most = true → p ∈ pts f left most
  | [], f, left, most, hf, h => by
    have h : Nat.beq left 0 = true := h
    cases f with
    | zero => show [] ∈ bb (Nat.beq left 0) [[]] []; rw [h]; simp [bb_true]
    | succ f => show [] ∈ bb (Nat.beq left 0) [[]] _; rw [h]; simp [bb_true]
  | a :: p, f, left, most, hf, h => by
    have h : an (Nat.ble 1 a) (an (Nat.ble a most) (an (Nat.ble a left) (isPt p (left - a) a))) = true := h
    obtain ⟨h1, h⟩ := an_inv h
    obtain ⟨h2, h⟩ := an_inv h
    obtain ⟨h3, h⟩ := an_inv h
    have h1 := Nat.le_of_ble_eq_true h1
    have h2 := Nat.le_of_ble_eq_true h2
    have h3 := Nat.le_of_ble_eq_true h3
    cases f with
    | zero => omega
    | succ f =>
      have hz : Nat.beq left 0 = false := by cases left with
        | zero => omega
        | succ l => rfl
      show a :: p ∈ bb (Nat.beq left 0) [[]] (heads (pts f) left (Nat.min left most))
      rw [hz, bb_false]
      exact mem_heads (mem_pts p f (left - a) a (by omega) h) _ h1 (Nat.le_min.2 ⟨h3, h2⟩)
def sumL (p : List Nat) : Nat := List.rec (motive := fun _ => Nat) 0 (fun h _ r => h + r) p
def okP (n : Nat) (p : List Nat) : Bool := an (Nat.ble 1 (sumL p)) (an (Nat.ble (sumL p) n) (isPt p (sumL p) (sumL p)))
def allP (n : Nat) (c : List Nat → Bool) : Bool := Nat.rec (motive := fun _ => Bool) true (fun k ih => an ih (allL c (pts (k + 1) (k + 1) (k + 1)))) n
theorem allP_ok {c : List Nat → Bool} : ∀ {n : Nat}, allP n c = true → ∀ p, okP n p = true → c p = true
  | 0, _, p, hp => by
    obtain ⟨h1, h2⟩ := an_inv (show an (Nat.ble 1 (sumL p)) (an (Nat.ble (sumL p) 0) _) = true from hp)
    have h1 := Nat.le_of_ble_eq_true h1
    have h2 := Nat.le_of_ble_eq_true (an_inv h2).1
    omega
  | n + 1, h, p, hp => by
    obtain ⟨h1, h2⟩ := an_inv (show an (allP n c) (allL c (pts (n + 1) (n + 1) (n + 1))) = true from h)
    obtain ⟨g1, g2⟩ := an_inv (show an (Nat.ble 1 (sumL p)) (an (Nat.ble (sumL p) (n + 1)) (isPt p (sumL p) (sumL p))) = true from hp)
    obtain ⟨g2, g3⟩ := an_inv g2
    by_cases e : sumL p = n + 1
    · rw [allL_eq, List.all_eq_true] at h2
      rw [e] at g3
      exact h2 p (mem_pts p _ _ _ (Nat.le_refl _) g3)
    · refine allP_ok h1 p ?_
      show an (Nat.ble 1 (sumL p)) (an (Nat.ble (sumL p) n) (isPt p (sumL p) (sumL p))) = true
      have := Nat.le_of_ble_eq_true g2
      rw [g1, g3, Nat.ble_eq_true_of_le (show sumL p ≤ n by omega)]; rfl
def ins (m : Nat) (p : List Nat) : List Nat := List.rec (motive := fun _ => List Nat) [m] (fun h r ih => bb (Nat.ble h m) (m :: h :: r) (h :: ih)) p
def decs (p : List Nat) : List Nat := List.rec (motive := fun _ => List Nat) [] (fun h _ ih => bb (Nat.ble h 1) ih ((h - 1) :: ih)) p
def rnd (p : List Nat) : List Nat := ins (len p) (decs p)
def stair (n : Nat) : Nat := Nat.rec (motive := fun _ => Nat → Nat → Nat) (fun k _ => k) (fun _ ih k left => bb (Nat.blt k left) (ih (k + 1) (left - (k + 1))) k) n 0 n
def okS (k : Nat) (p : List Nat) : Bool :=
  Nat.rec (motive := fun _ => List Nat → Bool) (fun p => ll p true fun h r => an (Nat.beq h 1) (ll r true fun _ _ => false)) (fun k ih p => ll p false fun h r => an (orr (Nat.beq h (k + 1)) (Nat.beq h (k + 2))) (ih r)) k p
def ret (p : List Nat) : Bool := okS (stair (sumL p)) p
def unt (f : Nat) : Nat → List Nat → Nat × List Nat :=
  Nat.rec (motive := fun _ => Nat → List Nat → Nat × List Nat) (fun n p => (n, p)) (fun _ ih n p => bb (ret p) (n, p) (ih (Nat.succ n) (rnd p))) f
def iL (p : List Nat) : List Value := mapL (fun h => .int .i64 (.ofNat h)) p
def decL (l : List Value) : Option (List Nat) := List.rec (motive := fun _ => Option (List Nat)) (some []) (fun v _ ih => oo (vInt v) none fun q => pp q fun _ z => ii z (fun h => oo ih none fun r => some (h :: r)) fun _ => none) l
end
end Go.HpT
set_option maxRecDepth 100000
namespace Go.HpLM
open Go Go.Sp Go.HpL Go.HpT
noncomputable section
def slP (p : List Nat) : Value := Sl.v 1 ⟨len p, 0, iL p⟩
def onP {β : Type} (args : List Value) (k : List Nat → Option β) : Option β :=
  ll args none fun a r => ll r (oo (toSl 1 a) none fun s => oo (decL s.cs) none fun p => bb (an (okP 14 p) (an (Nat.beq s.n (len p)) (an (Nat.beq s.fl 0) (valsEq s.cs (iL p))))) (k p) none) fun _ _ => none
def orc51 (args : List Value) : Option Value := onP args fun p => some (.bool (ret p))
def untP (p : List Nat) : Nat × List Nat := unt 60 0 p
def orc58 (args : List Value) : Option Value := onP args fun p => pp (untP p) fun n q => some (.tuple ⟨[.int .i64 (.ofNat n), slP q]⟩)
def pu0 : PureF := puN 60
def ev0 (f : Nat) (args : List Value) : Option Value := valR (evFnP tabs isP pu0 (inl pu0) tt fns 1000 f args (tabsHeap tabs))
def cntL (p : List Nat) : List Value := mapL (fun h => .int .i64 (.ofNat (List.rec (motive := fun _ => Nat) 0 (fun a _ n => bb (Nat.beq a h) (Nat.succ n) n) p))) [0, 1, 2, 3, 4, 5, 6, 7, 8, 9, 10, 11, 12, 13, 14, 15, 16, 17, 18, 19, 20, 21]
def repN (h n : Nat) (p : List Nat) : List Nat := Nat.rec (motive := fun _ => List Nat) p (fun _ r => h :: r) n
def decC (l : List Value) : Option (List Nat) :=
  List.rec (motive := fun _ => Nat → List Nat → Option (List Nat)) (fun _ p => some p) (fun v _ ih h p => oo (toI .i64 v) none fun z => oo (toN z) none fun c => bb (Nat.ble c 30) (ih (Nat.succ h) (repN h c p)) none) l 0 []
def onC {β : Type} (args : List Value) (k : List Nat → Option β) : Option β :=
  ll args none fun a r => ll r (oo (vAgg a) none fun cs => oo (decC cs) none fun p => bb (an (okP 14 p) (valsEq cs (cntL p))) (k p) none) fun _ _ => none
def cnP (p : List Nat) : Value := .agg ⟨cntL p⟩
def orc43 (args : List Value) : Option Value := onC args fun p => some (cnP (rnd p))
def orc47 (args : List Value) : Option Value := onC args fun p => some (.bool (ret p))
def orc57 (args : List Value) : Option Value := onC args fun p => pp (untP p) fun n q => some (.tuple ⟨[.int .i64 (.ofNat n), cnP q]⟩)
def gars : List Nat := [0, 0, 0, 1, 1, 2, 3, 5, 7, 10, 14, 20, 27, 37, 49]
def orc34 (args : List Value) : Option Value := ll args none fun a r => ll r (oo (toI .i64 a) none fun z => oo (toN z) none fun n => bb (Nat.ble 1 n) (oo (nthL gars n) none fun g => some (.tuple ⟨[.int .i64 (.ofNat g), .int .i64 (.ofNat 0)]⟩)) none) fun _ _ => none
def pu1 : PureF := fun g => bb (Nat.beq g 51) orc51 (bb (Nat.beq g 43) orc43 (bb (Nat.beq g 47) orc47 (pu0 g)))
def is1' : FuncId → Bool := fun g => orr (Nat.beq g 51) (orr (Nat.beq g 43) (Nat.beq g 47))
def ev1 (f : Nat) (args : List Value) : Option Value := valR (evFnP tabs is1' pu1 (fun _ _ _ => none) tt fns 1000 f args (tabsHeap tabs))
def tru (args : List Value) : Option Value := ll args (some (.bool true)) fun _ _ => none
def pu2 : PureF := fun g => bb (Nat.beq g 11) tru (bb (Nat.beq g 58) orc58 (bb (Nat.beq g 57) orc57 (bb (Nat.beq g 34) orc34 (bb (Nat.beq g 35) orc34 (pu0 g)))))
def is2 : FuncId → Bool := fun g => orr (Nat.beq g 11) (orr (Nat.beq g 58) (orr (Nat.beq g 57) (orr (Nat.beq g 34) (orr (Nat.beq g 35) (isP g)))))
def isB (b : Bool) (v : Option Value) : Bool := oo v false fun v => oo (vBool v) false fun c => bq c b
def isU (n : Nat) (q : List Nat) (v : Option Value) : Bool :=
  oo v false fun v => oo (vTup v) false fun l => ll l false fun a r => ll r false fun b r => ll r (oo (toI .i64 a) false fun z => an (ieq z (.ofNat n)) (oo (toSl 1 b) false fun s => an (Nat.beq s.n (len q)) (an (Nat.beq s.fl 0) (valsEq s.cs (iL q))))) fun _ _ => false
def chk51 (p : List Nat) : Bool := isB (ret p) (ev0 51 [slP p])
def isA (cs : List Value) (v : Option Value) : Bool := oo v false fun v => oo (vAgg v) false fun l => valsEq l cs
def isW (n : Nat) (cs : List Value) (v : Option Value) : Bool :=
  oo v false fun v => oo (vTup v) false fun l => ll l false fun a r => ll r false fun b r => ll r (oo (toI .i64 a) false fun z => an (ieq z (.ofNat n)) (oo (vAgg b) false fun l => valsEq l cs)) fun _ _ => false
def chk43 (p : List Nat) : Bool := isA (cntL (rnd p)) (ev0 43 [cnP p])
def chk47 (p : List Nat) : Bool := isB (ret p) (ev0 47 [cnP p])
def chk57 (p : List Nat) : Bool := pp (untP p) fun n q => isW n (cntL q) (ev1 57 [cnP p])
end
end Go.HpLM
