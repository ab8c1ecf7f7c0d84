/- HeapKnown: the examples of the chapter hold, whatever the world. The road: the code in slim form, a verified interpreter, and its run seen by the kernel; some functions of counts by proved models. -/
import Derived.Test.YtgddliaacoofiaaRows
import Derived.Test.YtgddliaacoofiaaSpClox
import Derived.Test.YtgddliaacoofiaaHpAJoinx
import Derived.Test.YtgddliaacoofiaaHpKRun
import Derived.Test.YtgddliaacoofiaaHpARep

namespace Go.Proofs.Ytgddliaacoofiaa.heapKnown
open Go.ChangeShapes Go.WideShapes Go.ChangeAt Go.RowKit Go.Sp Go.HpAM

theorem own : ownKnob Try.prog.godebug = none := by kernel_rfl
theorem mixed : Try.prog.follows .mixedOrders = true := by kernel_rfl
theorem kids : Kids Try.prog (· < Try.prog.types.size) := kids_rows (by kernel_rfl) (by kernel_rfl)
theorem full : ∀ t e, t < Try.prog.types.size → Try.prog.underlying t = some (.slice e) → 0 < Try.prog.cellsOf e := slices_full_of _ (by kernel_rfl)
theorem size : Try.prog.types.size = 147 := by kernel_rfl
theorem res : Try.f8.resultTypes = #[4] := by kernel_rfl
theorem hw : PureOk Try.prog tabs 75 orc75 := HpA.orc75_ok mixed
theorem law : PureOk Try.prog [] 8 (fun args => ll args (some (.bool true)) fun _ _ => none) := by
  have all := HpA.all_ok mixed hw 30
  refine pureOk_closedP (tabs := tabs) (n := 1000) (g := 8) (H := tabsHeap tabs) (isP := isP) (pu := puN 30) (inl := inl (puN 30)) HpA.ttOk HpA.tabs_ne HpA.tabs_pl HpA.fnsOk mixed all.1 (HpA.inl_ok mixed all.2.1 all.2.2) (fun i => tabsHeap_get i) rfl (enter_ok HpA.fok8) fun args v h => ?_
  replace h := ll_end h; obtain ⟨rfl, h⟩ := h
  injection h with h; subst h
  exact ⟨rfl, .inl knownRun⟩

theorem walk (W : World) (h : laidMetH Try.prog Rows.heapKnownRow.laid W) (H : Type) (enc : TypeId × Value → H) (args : Array Value) (ds gs : List (DataW H)) (before : List MemPlace) (base : Nat)
    (hval : OkArgs Try.prog Try.f8 W base args)
    (hW : DataW.Whole enc Try.prog Try.f8.params.toList Rows.heapKnownSpec.vars false W args.toList ds gs before) :
    Calls Try.prog 8 args W fun e W' => e = .returned (.bool true) ∧ GrownB W W' := by
  obtain ⟨p, q, hA, _⟩ := hW
  rw [Try.params8] at hA
  obtain ⟨hargs, _, _⟩ := trodAll_nil hA
  obtain rfl : args = #[] := by cases args; simp_all
  obtain ⟨R, hR1, hR2, hs⟩ := Go.Sp.start0 W

  clear hval
  

  have hm : (fun args : List Value => ll args (some (.bool true)) fun _ _ => none) [] = some (Value.bool true) := rfl
  refine law_true0 law (args := []) hm ?_ hR1 hs ?_
  · intro x hx
    simp at hx
    done
  · exact .nil

theorem contract (H : Type) (enc : TypeId × Value → H) (W : World) (args : Array Value) (ds gs : List (DataW H)) (before : List MemPlace) {base : Nat}
    (hval : OkArgs Try.prog Try.f8 W base args)
    (hW : DataW.Whole enc Try.prog Try.f8.params.toList Rows.heapKnownSpec.vars false W args.toList ds gs before) (hL : laidMetH Try.prog Rows.heapKnownRow.laid W) :
    Calls Try.prog 8 args W fun e W' => ∃ v, e = .returned v ∧ Rows.heapKnownSpec.post enc Try.prog Try.f8 false true false false W args v W' := by
  have hA := hW
  obtain ⟨p, q, hA, _⟩ := hA
  rw [Try.params8] at hA
  obtain ⟨hargs, _, _⟩ := trodAll_nil hA
  obtain rfl : args = #[] := by cases args; simp_all
  exact Go.Sp.post_true0 hW rfl Try.params8 rfl res Try.underlying4 (walk W hL H enc #[] ds gs before base (by assumption) hW)

noncomputable def laidWorld (os : Os) : World := World.holding Try.prog os ⟨#[], #[], []⟩
def wArgs : Array Value := #[]
set_option maxRecDepth 100000 in
theorem laid_met (os : Os) : laidMet Try.prog Rows.heapKnownRow.laid ((laidWorld os).forCall (fun _ _ => 0) ⟨#[], wArgs, []⟩).memory :=
  laidMet_of_run' 8 (by kernel_rfl) (by kernel_rfl)
set_option maxRecDepth 100000 in
theorem reads (os : Os) {H : Type} (enc : TypeId × Value → H) : ∃ places, DataW.whole enc Try.prog ((laidWorld os).forCall (fun _ _ => 0) ⟨#[], wArgs, []⟩).memory Try.f8.params.toList Rows.heapKnownSpec.vars false wArgs.toList 8 =
    some ([], [], places) :=
  ⟨[], by kernel_rfl⟩

set_option maxRecDepth 100000 in
theorem lifted (os : Os) (started : os.Started) (H : Type) (enc : TypeId × Value → H) (F : Stop.Interp) :
    ReturnsInHanded {} Try.checked os 8 .any ((OpenSpec.ofChange Rows.heapKnownSpec).preRow enc Try.prog Try.f8 Rows.heapKnownRow.domain false Rows.heapKnownRow.laid) (((OpenSpec.ofChange Rows.heapKnownSpec).at F).post enc Try.prog Try.f8 false true false false) := by
  obtain ⟨places, hx⟩ := reads os enc
  refine handed_of (C := Try.checked) (s := OpenSpec.ofChange Rows.heapKnownSpec) own started (by kernel_rfl) Try.func8
    (witness_row_at (enc := enc) (C := Try.checked) false (laidWorld os) wArgs rfl (by kernel_rfl) (by kernel_rfl) (by kernel_rfl)
      (OpenSpec.preRow_of_cond 8 hx (by kernel_rfl) (fun k hk => by cases hk) (by kernel_rfl) (laid_met os))) ?_
  intro W base args ds gs before hval hW hL
  exact contract H enc W args ds gs before (base := base) (by assumption) hW hL

theorem said : Rows.HeapKnownSaid :=
  OpenClaim.holds_of_cond 8 Try.f8 rfl rfl rfl rfl rfl rfl rfl ⟨rfl, rfl, rfl, rfl, rfl⟩ rfl rfl rfl rfl rfl (by kernel_rfl) Try.func8 (by kernel_rfl)
    (of_decide_eq_true (by kernel_rfl)) (by unfold Func.isWrapper; first | (rw [if_pos (by decide +kernel)]; kernel_rfl) | (rw [if_neg (by decide +kernel)]; exact ⟨rfl, rfl⟩))
    (fun os started H enc _ F => by rw [OpenClaim.pre_eq_preRow]; exact lifted os started H enc F)

end Go.Proofs.Ytgddliaacoofiaa.heapKnown
