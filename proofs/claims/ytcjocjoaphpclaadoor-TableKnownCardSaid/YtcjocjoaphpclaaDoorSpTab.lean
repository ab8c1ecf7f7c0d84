/- A printed table's entries, one by one. -/
import Derived.Test.YtcjocjoaphpclaaDoorSpFlat
namespace Go.Sp

def Tr.All {α : Type} (p : Nat → α → Prop) : Tr α → Prop
  | .nil => True
  | .node v l r => (match v with | some a => p 0 a | none => True) ∧ Tr.All (fun i => p (2 * i + 1)) l ∧ Tr.All (fun i => p (2 * i + 2)) r

theorem Tr.All.get {α : Type} {t : Tr α} : ∀ {p : Nat → α → Prop}, t.All p → ∀ {i : Nat} {a : α}, t.get i = some a → p i a := by
  induction t with
  | nil => intro p _ i a h; cases h
  | node v l r ihl ihr =>
    intro p h i a hg
    obtain ⟨h0, h1, h2⟩ := h
    cases i with
    | zero =>
      have : v = some a := hg
      subst this; exact h0
    | succ j =>
      have hg : Bool.rec (motive := fun _ => Option α) (r.get (Nat.div j 2)) (l.get (Nat.div j 2)) (Nat.beq (Nat.mod j 2) 0) = some a := hg
      have e1 : Nat.div j 2 = j / 2 := rfl
      have e2 : Nat.mod j 2 = j % 2 := rfl
      rw [e1, e2] at hg
      cases hb : Nat.beq (j % 2) 0 with
      | true =>
        rw [hb] at hg
        have := ihl h1 hg
        have hm := Nat.eq_of_beq_eq_true hb
        have : p (2 * (j / 2) + 1) a := this
        rwa [show 2 * (j / 2) + 1 = j + 1 by omega] at this
      | false =>
        rw [hb] at hg
        have := ihr h2 hg
        have hm : j % 2 ≠ 0 := fun e => by rw [e] at hb; cases hb
        have : p (2 * (j / 2) + 2) a := this
        rwa [show 2 * (j / 2) + 2 = j + 1 by omega] at this

theorem FnOk.by {P : Program} {gl : List Nat} {f : FuncId} {n : Nat} {x : RC} {rs : List ResultVar} {fd : Func} (h1 : P.funcs[f]? = some fd)
    (h2 : (match fd.body with | some c => rcOf c x | none => none) = some x) (h3 : (match fd.body with | some c => codeB gl c | none => false) = true)
    (h4 : fd.ntmps = n) (h5 : fd.results.toList = rs) (h6 : (fd.name == "runtime.NumGoroutine") = false) : FnOk P gl f ⟨n, x, rs⟩ := by
  cases hb : fd.body with
  | none => rw [hb] at h2; cases h2
  | some c =>
    rw [hb] at h2 h3
    exact ⟨fd, c, h1, hb, h4, h5, h6, rcOf_Comp h2, h3⟩

/-- A type's entry is the program's. -/
structure TyOk (P : Program) (t : TypeId) (i : TI) : Prop where
  ok : P.underlying t = some i.und ∧ ∃ inf, P.info? t = some inf ∧ inf.size = i.size ∧ inf.bytes = i.bytes ∧ inf.zero = i.zero
  plain : oo i.zero true plainB = true
  flat : i.flat = true → ∃ zs, i.zero = some (.agg ⟨zs⟩) ∧ FlatOk P t zs
theorem TyOk.by {P : Program} {t : TypeId} {i : TI} {inf : TypeInfo} (h1 : P.underlying t = some i.und) (h2 : P.info? t = some inf) (h3 : inf.size = i.size) (h4 : inf.bytes = i.bytes) (h5 : inf.zero = i.zero)
    (h6 : oo i.zero true plainB = true) (h7 : i.flat = true → ∃ zs, i.zero = some (.agg ⟨zs⟩) ∧ FlatOk P t zs) : TyOk P t i := ⟨⟨h1, inf, h2, h3, h4, h5⟩, h6, h7⟩
theorem TOk.of_all {P : Program} {t : Tr TI} (h : t.All (TyOk P)) : TOk P t.get where
  ok := fun _ _ e => (h.get e).ok
  plain := fun _ i z e hz => by have := (h.get e).plain; rw [hz] at this; exact this
  flat := fun _ _ zs e hf hz => by
    obtain ⟨zs', h1, h2⟩ := (h.get e).flat hf
    rw [hz] at h1; cases h1; exact h2
end Go.Sp
