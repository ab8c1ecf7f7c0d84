/- HeapLongest: how many heaps nothing leads to, and how long a game can take, is as stated: the law returns true for every number of cards, whatever the world. The road: the code in slim form, a verified interpreter, runs seen by the kernel for all heaps of at most 14 cards; some functions by proved models. -/
import Derived.Test.YtgddliaacoofiaaRows
import Derived.Test.YtgddliaacoofiaaSpClox
import Derived.Test.YtgddliaacoofiaaHpLRepx
import Derived.Test.YtgddliaacoofiaaHpLTow

namespace Go.Proofs.Ytgddliaacoofiaa.heapLongest
open Go.ChangeShapes Go.WideShapes Go.ChangeAt Go.RowKit Go.Sp Go.HpLM

theorem own : ownKnob Try.prog.godebug = none := by kernel_rfl
theorem mixed : Try.prog.follows .mixedOrders = true := by kernel_rfl
theorem kids : Kids Try.prog (· < Try.prog.types.size) := kids_rows (by kernel_rfl) (by kernel_rfl)
theorem full : ∀ t e, t < Try.prog.types.size → Try.prog.underlying t = some (.slice e) → 0 < Try.prog.cellsOf e := slices_full_of _ (by kernel_rfl)
theorem size : Try.prog.types.size = 147 := by kernel_rfl
theorem small : ∀ t ∈ Try.f7.params.toList, t < Try.prog.types.size := by
  rw [Try.params7, size]
  intro t ht
  simp only [List.mem_cons, List.not_mem_nil, or_false] at ht
  subst ht; decide
theorem res : Try.f7.resultTypes = #[4] := by kernel_rfl
theorem law : PureOk Try.prog [] 7 HpL.mLaw := HpL.law7 mixed

theorem walk (W : World) (h : laidMetH Try.prog Rows.heapLongestRow.laid W) (H : Type) (enc : TypeId × Value → H) (args : Array Value) (ds gs : List (DataW H)) (before : List MemPlace) (base : Nat)
    (hval : OkArgs Try.prog Try.f7 W base args)
    (hW : DataW.Whole enc Try.prog Try.f7.params.toList Rows.heapLongestSpec.vars false W args.toList ds gs before) :
    Calls Try.prog 7 args W fun e W' => e = .returned (.bool true) ∧ GrownB W W' := by
  obtain ⟨p, q, hA, _⟩ := hW
  rw [Try.params7] at hA
  obtain ⟨v, d, hargs, _, f1, h1⟩ := trodAll_one hA
  subst hargs
  obtain ⟨R, hR1, hR2, hs⟩ := Go.Sp.start0 W
  obtain ⟨a0, ha0, w0⟩ := OkArgs.int (P := Try.prog) (f := Try.f7) (W := W) (base := base) (args := #[v]) (by assumption) 0 (by rw [Try.params7]; rfl) rfl Try.underlying3
  clear hval
  subst ha0

  have hm : HpL.mLaw [.int .i64 a0] = some (Value.bool true) := rfl
  refine law_true0 law (args := [.int .i64 a0]) hm ?_ hR1 hs ?_
  · intro x hx
    simp at hx
    subst hx; rfl
  · exact .cons (.int _ _) (.nil)

theorem contract (H : Type) (enc : TypeId × Value → H) (W : World) (args : Array Value) (ds gs : List (DataW H)) (before : List MemPlace) {base : Nat}
    (hval : OkArgs Try.prog Try.f7 W base args)
    (hW : DataW.Whole enc Try.prog Try.f7.params.toList Rows.heapLongestSpec.vars false W args.toList ds gs before) (hL : laidMetH Try.prog Rows.heapLongestRow.laid W) :
    Calls Try.prog 7 args W fun e W' => ∃ v, e = .returned v ∧ Rows.heapLongestSpec.post enc Try.prog Try.f7 false true false false W args v W' := by
  have hd : Rows.heapLongestSpec.fn H ds = { results := [.lit (.bool true)], args := ds } := by
    obtain ⟨p, q, hA, _⟩ := hW
    rw [Try.params7] at hA
    obtain ⟨_, d1, _, rfl, _⟩ := trodAll_one hA
    rfl
  exact post_trueA kids full small hW rfl hd res Try.underlying4 (walk W hL H enc args ds gs before base (by assumption) hW)

noncomputable def laidWorld (os : Os) : World := World.holding Try.prog os ⟨#[], #[], []⟩
def wArgs : Array Value := #[.int .i64 0]
set_option maxRecDepth 100000 in
theorem laid_met (os : Os) : laidMet Try.prog Rows.heapLongestRow.laid ((laidWorld os).forCall (fun _ _ => 0) ⟨#[], wArgs, []⟩).memory :=
  laidMet_of_run' 8 (by kernel_rfl) (by kernel_rfl)
set_option maxRecDepth 100000 in
theorem reads (os : Os) {H : Type} (enc : TypeId × Value → H) : ∃ places, DataW.whole enc Try.prog ((laidWorld os).forCall (fun _ _ => 0) ⟨#[], wArgs, []⟩).memory Try.f7.params.toList Rows.heapLongestSpec.vars false wArgs.toList 8 =
    some ([.lit (.int .i64 0)], [], places) :=
  ⟨[], by kernel_rfl⟩

set_option maxRecDepth 100000 in
theorem lifted (os : Os) (started : os.Started) (H : Type) (enc : TypeId × Value → H) (F : Stop.Interp) :
    ReturnsInHanded {} Try.checked os 7 .any ((OpenSpec.ofChange Rows.heapLongestSpec).preRow enc Try.prog Try.f7 Rows.heapLongestRow.domain false Rows.heapLongestRow.laid) (((OpenSpec.ofChange Rows.heapLongestSpec).at F).post enc Try.prog Try.f7 false true false false) := by
  obtain ⟨places, hx⟩ := reads os enc
  refine handed_of (C := Try.checked) (s := OpenSpec.ofChange Rows.heapLongestSpec) own started (by kernel_rfl) Try.func7
    (witness_row_at (enc := enc) (C := Try.checked) false (laidWorld os) wArgs rfl (by kernel_rfl) (by kernel_rfl) (by kernel_rfl)
      (OpenSpec.preRow_of_cond 8 hx (by kernel_rfl) (fun k hk => by cases hk) (by kernel_rfl) (laid_met os))) ?_
  intro W base args ds gs before hval hW hL
  exact contract H enc W args ds gs before (base := base) (by assumption) hW hL

theorem said : Rows.HeapLongestSaid :=
  OpenClaim.holds_of_cond 7 Try.f7 rfl rfl rfl rfl rfl rfl rfl ⟨rfl, rfl, rfl, rfl, rfl⟩ rfl rfl rfl rfl rfl (by kernel_rfl) Try.func7 (by kernel_rfl)
    (of_decide_eq_true (by kernel_rfl)) (by unfold Func.isWrapper; first | (rw [if_pos (by decide +kernel)]; kernel_rfl) | (rw [if_neg (by decide +kernel)]; exact ⟨rfl, rfl⟩))
    (fun os started H enc _ F => by rw [OpenClaim.pre_eq_preRow]; exact lifted os started H enc F)

end Go.Proofs.Ytgddliaacoofiaa.heapLongest
