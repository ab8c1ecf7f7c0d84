/- A law's arguments, as values of the interpreter. -/
import Derived.Test.YtalnfeacnnmchaaDoorSpPlainx
import Derived.Deep.DeepHandedRow

namespace Go.Sp
open Go.ChangeShapes Go.WideShapes Go.ChangeAt Go.RowKit

section
variable {H : Type} {enc : TypeId × Value → H} {P : Program} {W : World} {R : Ren} {held : Bool} {v : Value} {d : DataW H} {ps : List MemPlace} {t : TypeId} {base : Nat} {r : Reach}

theorem arg_int {k : IntKind} (ht : P.underlying t = some (.int k)) (hok : Value.okWide P W r base t v) : ∃ n, v = .int k n ∧ (Lit.int k n).wf = true := by
  unfold Value.okWide at hok
  rw [ht] at hok
  unfold Cell.okWide at hok
  rw [ht] at hok
  cases v <;> simp [Cell.ok, ht] at hok
  rename_i k' n
  obtain ⟨rfl, h⟩ := hok
  refine ⟨n, rfl, ?_⟩
  simp only [Lit.wf, Bool.and_eq_true, decide_eq_true_eq]
  exact h
theorem arg_struct {fs : Array Field} (ht : P.underlying t = some (.struct fs)) (hok : Value.okWide P W r base t v) : ∃ cs : List Value, v = .agg ⟨cs⟩ := by
  unfold Value.okWide at hok
  rw [ht] at hok
  obtain ⟨⟨cs⟩, rfl, _⟩ := hok
  exact ⟨cs, rfl⟩
theorem arg_array {e : TypeId} {n : Nat} (ht : P.underlying t = some (.array n e)) (hok : Value.okWide P W r base t v) : ∃ cs : List Value, v = .agg ⟨cs⟩ := by
  unfold Value.okWide at hok
  rw [ht] at hok
  obtain ⟨⟨cs⟩, rfl, _⟩ := hok
  exact ⟨cs, rfl⟩
theorem arg_slice {e : TypeId} (ht : P.underlying t = some (.slice e)) (hok : Value.okWide P W r base t v) : ∃ a l c, v = .slice a l c := by
  unfold Value.okWide at hok
  rw [ht] at hok
  unfold Cell.okWide at hok
  rw [ht] at hok
  cases v <;> simp [Cell.ok, ht] at hok
  exact ⟨_, _, _, rfl⟩
end

/-- The arguments are of their types. -/
def OkArgs (P : Program) (f : Func) (W : World) (base : Nat) (args : Array Value) : Prop := ∀ (j : Nat) t v, f.params[j]? = some t → args[j]? = some v → Value.okWide P W .any base t v
section
variable {P : Program} {f : Func} {W : World} {base : Nat} {t0 t1 t2 t3 : TypeId} {v0 v1 v2 v3 : Value}
theorem OkArgs.one (h : OkArgs P f W base #[v0]) (hp : f.params = #[t0]) : Value.okWide P W .any base t0 v0 := h 0 _ _ (by rw [hp]; rfl) rfl
theorem OkArgs.two (h : OkArgs P f W base #[v0, v1]) (hp : f.params = #[t0, t1]) : Value.okWide P W .any base t0 v0 ∧ Value.okWide P W .any base t1 v1 := ⟨h 0 _ _ (by rw [hp]; rfl) rfl, h 1 _ _ (by rw [hp]; rfl) rfl⟩
theorem OkArgs.three (h : OkArgs P f W base #[v0, v1, v2]) (hp : f.params = #[t0, t1, t2]) : Value.okWide P W .any base t0 v0 ∧ Value.okWide P W .any base t1 v1 ∧ Value.okWide P W .any base t2 v2 :=
  ⟨h 0 _ _ (by rw [hp]; rfl) rfl, h 1 _ _ (by rw [hp]; rfl) rfl, h 2 _ _ (by rw [hp]; rfl) rfl⟩
end
section
variable {P : Program} {f : Func} {W : World} {base : Nat} {args : Array Value} {t : TypeId} {v : Value}
theorem OkArgs.int {k : IntKind} (h : OkArgs P f W base args) (j : Nat) (hp : f.params[j]? = some t) (hv : args[j]? = some v) (ht : P.underlying t = some (.int k)) : ∃ n, v = .int k n ∧ (Lit.int k n).wf = true := arg_int ht (h j t v hp hv)
theorem OkArgs.struct {fs : Array Field} (h : OkArgs P f W base args) (j : Nat) (hp : f.params[j]? = some t) (hv : args[j]? = some v) (ht : P.underlying t = some (.struct fs)) : ∃ cs : List Value, v = .agg ⟨cs⟩ := arg_struct ht (h j t v hp hv)
theorem OkArgs.array {e : TypeId} {n : Nat} (h : OkArgs P f W base args) (j : Nat) (hp : f.params[j]? = some t) (hv : args[j]? = some v) (ht : P.underlying t = some (.array n e)) : ∃ cs : List Value, v = .agg ⟨cs⟩ := arg_array ht (h j t v hp hv)
theorem OkArgs.slice {e : TypeId} (h : OkArgs P f W base args) (j : Nat) (hp : f.params[j]? = some t) (hv : args[j]? = some v) (ht : P.underlying t = some (.slice e)) : ∃ a l c, v = .slice a l c := arg_slice ht (h j t v hp hv)
end
theorem handed_of {H : Type} {enc : TypeId × Value → H} {a : Assume} {C : Checked} {os : Os} {f : FuncId} {fn : Func} {s : OpenSpec} {F : Stop.Interp} {conds : List PathCond} {apart fresh handsOn again : Bool} {laid : List (String × DataW Unit)}
    (own : ownKnob C.prog.godebug = none) (started : os.Started) (noInit : C.prog.inits.idxOf? f = none) (hfn : C.prog.funcs[f]? = some fn)
    (witness : ∃ (w : World) (tape : Tape) (i : Input), w.os = os ∧ (w.forCall tape i).Shaped C.prog ∧ i.vars = [] ∧ Input.okWide C.prog (w.forCall tape i) .any w.heap.size f i ∧
      s.preRow enc C.prog fn conds apart laid (w.forCall tape i).memory i.args ∧ a.holds C.prog (lone (Frame.enter C.prog f i.args .normal) [] (w.forCall tape i)))
    (contract : ∀ (W : World) (base : Nat) (args : Array Value) (ds gs : List (DataW H)) (before : List MemPlace), OkArgs C.prog fn W base args →
      DataW.Whole enc C.prog fn.params.toList s.vars apart W args.toList ds gs before → laidMetH C.prog laid W →
      Calls C.prog f args W fun e W' => ∃ v, e = .returned v ∧ (s.at F).post enc C.prog fn apart fresh handsOn again W args v W') :
    ReturnsInHanded a C os f .any (s.preRow enc C.prog fn conds apart laid) ((s.at F).post enc C.prog fn apart fresh handsOn again) :=
  returnsInHanded_of_row own started noInit hfn witness fun W base args ds gs before hval hW _ _ _ hL _ _ => contract W base args ds gs before hval hW hL

section
variable {P : Program} {t : TypeId} {xs : List Value}
theorem Shp.int_inv {k : IntKind} (ht : P.underlying t = some (.int k)) (h : Shp P t xs) : ∃ n, xs = [.int k n] ∧ (Lit.int k n).wf = true := by
  cases h with
  | int h n hw => rw [ht] at h; injection h with h; injection h with h; subst h; exact ⟨n, rfl, hw⟩
  | _ h => rw [ht] at h; cases h
theorem Shp.bool_inv (ht : P.underlying t = some .bool) (h : Shp P t xs) : ∃ b, xs = [.bool b] := by
  cases h with
  | bool h b => exact ⟨b, rfl⟩
  | _ h => rw [ht] at h; cases h
theorem Shp.slice_inv {e : TypeId} (ht : P.underlying t = some (.slice e)) (h : Shp P t xs) : ∃ ls : List (List Value), ls.length ≤ maxLen ∧ (∀ l ∈ ls, Shp P e l) ∧ xs = [fsV (P.cellsOf e) ls.length 0 ls.flatten] := by
  cases h with
  | slice h ls hl hs => rw [ht] at h; injection h with h; injection h with h; subst h; exact ⟨ls, hl, hs, rfl⟩
  | _ h => rw [ht] at h; cases h
theorem Shp.struct_inv {fs : Array Field} (ht : P.underlying t = some (.struct fs)) (h : Shp P t xs) : ∃ ls : List (List Value), ls.length = fs.size ∧ xs = ls.flatten ∧ ∀ (i : Nat) (f : Field) (l : List Value), fs[i]? = some f → ls[i]? = some l → Shp P f.type l := by
  cases h with
  | struct h ls hl hs => rw [ht] at h; injection h with h; injection h with h; subst h; exact ⟨ls, hl, rfl, hs⟩
  | _ h => rw [ht] at h; cases h
/-- A slice of integers. -/
theorem Shp.ints {e : TypeId} (ht : P.underlying t = some (.slice e)) (he : P.underlying e = some (.int .i64)) (hc : P.cellsOf e = 1) (h : Shp P t xs) : ∃ l : List Int, xs = [S 0 l] ∧ l.length ≤ maxLen ∧ ∀ z ∈ l, (Lit.int .i64 z).wf = true := by
  obtain ⟨ls, hl, hs, rfl⟩ := h.slice_inv ht
  have : ∃ l : List Int, l.length = ls.length ∧ ls.flatten = l.map I ∧ ∀ z ∈ l, (Lit.int .i64 z).wf = true := by
    clear hl h
    induction ls with
    | nil => exact ⟨[], rfl, rfl, by simp⟩
    | cons m ls ih =>
      obtain ⟨l, h1, h2, h3⟩ := ih fun l hl => hs l (by simp [hl])
      obtain ⟨n, rfl, hw⟩ := (hs m (by simp)).int_inv he
      exact ⟨n :: l, by simp [h1], by simp [h2], by intro z hz; simp at hz; rcases hz with rfl | hz; exact hw; exact h3 z hz⟩
  obtain ⟨l, h1, h2, h3⟩ := this
  refine ⟨l, ?_, by omega, h3⟩
  rw [hc, h2, ← h1]; rfl
theorem Shp.array_inv {e : TypeId} {n : Nat} (ht : P.underlying t = some (.array n e)) (h : Shp P t xs) : ∃ ls : List (List Value), ls.length = n ∧ xs = ls.flatten ∧ ∀ l ∈ ls, Shp P e l := by
  cases h with
  | array h ls hl hs => rw [ht] at h; injection h with h; injection h with h1 h2; subst h1; subst h2; exact ⟨ls, hl, rfl, hs⟩
  | _ h => rw [ht] at h; cases h
/-- A slice of pairs of integers. -/
theorem Shp.pairs {e e3 : TypeId} (ht : P.underlying t = some (.slice e)) (he : P.underlying e = some (.array 2 e3)) (h3 : P.underlying e3 = some (.int .i64)) (hc : P.cellsOf e = 2) (h : Shp P t xs) :
    ∃ C : List (Int × Int), xs = [Sl.v 2 ⟨C.length, 0, C.flatMap fun p => [I p.1, I p.2]⟩] ∧ C.length ≤ maxLen := by
  obtain ⟨ls, hl, hs, rfl⟩ := h.slice_inv ht
  have : ∃ C : List (Int × Int), C.length = ls.length ∧ ls.flatten = C.flatMap fun p => [I p.1, I p.2] := by
    clear hl h
    induction ls with
    | nil => exact ⟨[], rfl, rfl⟩
    | cons m ls ih =>
      obtain ⟨C, h1, h2⟩ := ih fun l hl => hs l (by simp [hl])
      obtain ⟨ms, k1, rfl, k3⟩ := (hs m (by simp)).array_inv he
      match ms, k1 with
      | [x, y], _ =>
        obtain ⟨a, rfl, _⟩ := (k3 x (by simp)).int_inv h3
        obtain ⟨b, rfl, _⟩ := (k3 y (by simp)).int_inv h3
        exact ⟨(a, b) :: C, by simp [h1], by simp [h2]⟩
  obtain ⟨C, h1, h2⟩ := this
  refine ⟨C, ?_, by omega⟩
  rw [hc, h2, ← h1]; rfl
end
end Go.Sp
