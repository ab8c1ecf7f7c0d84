/- TableSorts: whether a table sorts, a row that it does not sort, and all outcomes, are as stated: the law returns true for every table, whatever the world. The road: the code in slim form, models of its functions proved by a verified interpreter, and a plain law about the models. -/
import Derived.Test.YtchpnknhdgplgaaDoorCards
import Derived.Test.YtchpnknhdgplgaaDoorTie
import Derived.Test.YtchpnknhdgplgaaDoorSpSortKx
import Derived.Test.YtchpnknhdgplgaaDoorTabSJoin
import Derived.Test.YtchpnknhdgplgaaDoorTabSRun
import Derived.Test.YtchpnknhdgplgaaDoorTabSLaw8x

namespace Go.Proofs.YtchpnknhdgplgaaDoor.tableSorts
open Go.ChangeShapes Go.WideShapes Go.ChangeAt Go.RowKit Go.Sp Go.TabSM

theorem own : ownKnob Tryd.prog.godebug = none := by kernel_rfl
theorem gTab : Tryd.prog.globalNamed "math/bits.deBruijn64tab" = some 0 := by kernel_rfl
theorem gTabType : (Tryd.prog.globals[0]?).map (·.type) = some 110 := by kernel_rfl
theorem cells110 : Tryd.prog.cellsOf 110 = 64 := by kernel_rfl
theorem cells5 : Tryd.prog.cellsOf 5 = 1 := by kernel_rfl
theorem cells3 : Tryd.prog.cellsOf 3 = 1 := by kernel_rfl
theorem cells50 : Tryd.prog.cellsOf 50 = 2 := by kernel_rfl
theorem mixed : Tryd.prog.follows .mixedOrders = true := by kernel_rfl
theorem kids : Kids Tryd.prog (· < Tryd.prog.types.size) := kids_rows (by kernel_rfl) (by kernel_rfl)
theorem full : ∀ t e, t < Tryd.prog.types.size → Tryd.prog.underlying t = some (.slice e) → 0 < Tryd.prog.cellsOf e := slices_full_of _ (by kernel_rfl)
theorem size : Tryd.prog.types.size = 137 := by kernel_rfl
theorem small : ∀ t ∈ Tryd.f3.params.toList, t < Tryd.prog.types.size := by
  rw [Tryd.params3, size]
  intro t ht
  simp only [List.mem_cons, List.not_mem_nil, or_false] at ht
  subst ht; decide
theorem lt24 : 24 < Tryd.prog.types.size := by rw [size]; decide
theorem res : Tryd.f3.resultTypes = #[4] := by kernel_rfl
set_option maxRecDepth 100000 in
theorem ws24 : Tryd.pinned.checked.prog.wantsStandIn 24 = false := by kernel_rfl
theorem plain24 : plainTy Tryd.prog 5 24 = true := by kernel_rfl

def tabI : List Int := [0, 1, 56, 2, 57, 49, 28, 3, 61, 58, 42, 50, 38, 29, 17, 4, 62, 47, 59, 36, 45, 43, 51, 22, 53, 39, 33, 30, 24, 18, 12, 5, 63, 55, 48, 27, 60, 41, 37, 16, 46, 35, 44, 21, 52, 32, 23, 11, 54, 26, 40, 15, 34, 20, 31, 10, 25, 14, 19, 9, 13, 8, 7, 6]
theorem tabI_eq : (tabI.map fun z => Value.int .u8 z) = tab0 := rfl
theorem table {W : World} (h : laidMetH Tryd.prog Rows.tableSortsRow.laid W) : Lib.TabIs Tryd.prog W "math/bits.deBruijn64tab" .u8 tabI :=
  Lib.tabIs_of_head (rest := []) gTab gTabType Tryd.underlying110 Tryd.underlying5 cells5 cells110 h

theorem works : PureOk Tryd.prog tabs 8 (fun args => ll args (some (.bool true)) fun _ _ => none) := pureOk_closed TabS.ttOk TabS.fnsOk mixed worksRun
theorem law : PureOk Tryd.prog [tab0] 3 (puN 12 3) := TabS.pu_ok mixed works 12 3 (by kernel_rfl)

theorem walk (W : World) (h : laidMetH Tryd.prog Rows.tableSortsRow.laid W) (H : Type) (enc : TypeId × Value → H) (args : Array Value) (ds gs : List (DataW H)) (before : List MemPlace) (base : Nat)
    (hval : OkArgs Tryd.prog Tryd.f3 W base args)
    (hW : DataW.Whole enc Tryd.prog Tryd.f3.params.toList Rows.tableSortsSpec.vars false W args.toList ds gs before) :
    Calls Tryd.prog 3 args W fun e W' => e = .returned (.bool true) ∧ GrownB W W' := by
  obtain ⟨p, q, hA, _⟩ := hW
  rw [Tryd.params3] at hA
  obtain ⟨v, d, hargs, _, f1, h1⟩ := trodAll_one hA
  subst hargs
  obtain ⟨R, hR1, hR2, hs⟩ := Go.Sp.start (table h) gTab (by decide)
  rw [tabI_eq] at hs
  obtain ⟨cs, hcs⟩ := OkArgs.struct (P := Tryd.prog) (f := Tryd.f3) (W := W) (base := base) (args := #[v]) (by assumption) 0 (by rw [Tryd.params3]; rfl) rfl Tryd.underlying24
  clear hval
  subst hcs
  obtain ⟨xs, hv, hcl, hsh⟩ := read_ok (R := R) kids full hR2 5 f1 24 _ _ lt24 plain24 h1
  obtain ⟨ls, hl, rfl, hf⟩ := hsh.struct_inv Tryd.underlying24
  match ls, hl with
  | [l0, l1], _ =>
    obtain ⟨k, rfl, _⟩ := (hf 0 _ l0 rfl rfl).int_inv Tryd.underlying3
    obtain ⟨C, rfl, _⟩ := (hf 1 _ l1 rfl rfl).pairs Tryd.underlying22 Tryd.underlying50 Tryd.underlying3 cells50
    have hm := p3 1 0 k C
    refine law_true law (args := [tb 0 k C]) hm ?_ hR1 hs ?_
    · intro x hx
      simp at hx
      subst hx; rfl
    · refine .cons ?_ .nil
      exact .agg hv.1 hv.2

theorem contract (H : Type) (enc : TypeId × Value → H) (W : World) (args : Array Value) (ds gs : List (DataW H)) (before : List MemPlace) {base : Nat}
    (hval : OkArgs Tryd.prog Tryd.f3 W base args)
    (hW : DataW.Whole enc Tryd.prog Tryd.f3.params.toList Rows.tableSortsSpec.vars false W args.toList ds gs before) (hL : laidMetH Tryd.prog Rows.tableSortsRow.laid W) :
    Calls Tryd.prog 3 args W fun e W' => ∃ v, e = .returned v ∧ Rows.tableSortsSpec.post enc Tryd.prog Tryd.f3 false true false false W args v W' := by
  have hd : Rows.tableSortsSpec.fn H ds = { results := [.lit (.bool true)], args := ds } := by
    obtain ⟨p, q, hA, _⟩ := hW
    rw [Tryd.params3] at hA
    obtain ⟨_, d1, _, rfl, _⟩ := trodAll_one hA
    rfl
  exact post_trueA kids full small hW rfl hd res Tryd.underlying4 (walk W hL H enc args ds gs before base (by assumption) hW)

noncomputable def laidWorld (os : Os) : World :=
  { World.holding Tryd.prog os ⟨#[], #[], []⟩ with heap := (World.holding Tryd.prog os ⟨#[], #[], []⟩).heap.modify 0 fun
      | .cells _ t frozen => .cells (tabI.map fun z => Value.int .u8 z).toArray t frozen
      | o => o }
def wArgs : Array Value := #[.agg #[.int .i64 0, .slice none 0 0]]
set_option maxRecDepth 100000 in
theorem laid_met (os : Os) : laidMet Tryd.prog Rows.tableSortsRow.laid ((laidWorld os).forCall (fun _ _ => 0) ⟨#[], wArgs, []⟩).memory :=
  laidMet_of_run' 8 (by kernel_rfl) (by kernel_rfl)
set_option maxRecDepth 100000 in
theorem reads (os : Os) {H : Type} (enc : TypeId × Value → H) : ∃ places, DataW.whole enc Tryd.prog ((laidWorld os).forCall (fun _ _ => 0) ⟨#[], wArgs, []⟩).memory Tryd.f3.params.toList Rows.tableSortsSpec.vars false wArgs.toList 8 =
    some ([.agg [.lit (.int .i64 0), .nil]], [], places) :=
  ⟨[], by kernel_rfl⟩

set_option maxRecDepth 100000 in
theorem lifted (os : Os) (started : os.Started) (H : Type) (enc : TypeId × Value → H) (F : Stop.Interp) :
    ReturnsInHanded {} Tryd.checked os 3 .any ((OpenSpec.ofChange Rows.tableSortsSpec).preRow enc Tryd.prog Tryd.f3 Rows.tableSortsRow.domain false Rows.tableSortsRow.laid) (((OpenSpec.ofChange Rows.tableSortsSpec).at F).post enc Tryd.prog Tryd.f3 false true false false) := by
  obtain ⟨places, hx⟩ := reads os enc
  refine handed_of (C := Tryd.checked) (s := OpenSpec.ofChange Rows.tableSortsSpec) own started (by kernel_rfl) Tryd.func3
    (witness_row_at (enc := enc) (C := Tryd.checked) false (laidWorld os) wArgs rfl (by kernel_rfl) (by kernel_rfl) (by kernel_rfl)
      (OpenSpec.preRow_of_cond 8 hx (by kernel_rfl) (fun k hk => by cases hk) (by kernel_rfl) (laid_met os))) ?_
  intro W base args ds gs before hval hW hL
  exact contract H enc W args ds gs before (base := base) (by assumption) hW hL

theorem said : Rows.TableSortsSaid :=
  OpenClaim.holds_of_cond 3 Tryd.f3 rfl rfl rfl rfl rfl rfl rfl ⟨rfl, rfl, rfl, rfl, rfl⟩ rfl rfl rfl rfl rfl (by kernel_rfl) Tryd.func3 (by kernel_rfl)
    (of_decide_eq_true (by kernel_rfl)) (by unfold Func.isWrapper; first | (rw [if_pos (by decide +kernel)]; kernel_rfl) | (rw [if_neg (by decide +kernel)]; exact ⟨rfl, rfl⟩))
    (fun os started H enc _ F => by rw [OpenClaim.pre_eq_preRow]; exact lifted os started H enc F)

theorem plain (f : FuncId) (fn : Func) (hf : Tryd.pinned.checked.prog.funcNamed "spadille/spadillelaw07.TableSorts" = some f) (hfn : Tryd.pinned.checked.prog.funcs[f]? = some fn) :
    false = Tryd.pinned.checked.prog.looks [] ∧ ∀ (j : Nat) t, fn.params[j]? = some t → Tryd.pinned.checked.prog.wantsStandIn t = false := by
  obtain rfl : f = 3 := Option.some.inj ((show Tryd.prog.funcNamed "spadille/spadillelaw07.TableSorts" = some 3 by kernel_rfl).symm.trans hf) |>.symm
  obtain rfl : fn = Tryd.f3 := (Option.some.inj (Tryd.func3.symm.trans hfn)).symm
  refine ⟨by kernel_rfl, fun j t ht => ?_⟩
  rw [Tryd.params3] at ht
  match j, ht with
  | 0, ht => have e : (24 : Nat) = t := Option.some.inj ht; rw [← e]; exact ws24
  | j + 1, ht => simp at ht

/-- THE CARD: TableSorts returns true. -/
theorem card : Rows.TableSortsCardSaid :=
  Claim7.holds_tied_plain_at .later [] _ _ _ _ said (fun _ h => by cases h) (by kernel_rfl) (fun _ h => by cases h) tableSorts_row_tie rfl ⟨rfl, rfl⟩ (by kernel_rfl) rfl plain (by kernel_rfl)
end Go.Proofs.YtchpnknhdgplgaaDoor.tableSorts
