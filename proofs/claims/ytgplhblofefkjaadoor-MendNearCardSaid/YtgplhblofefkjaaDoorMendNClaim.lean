/- MendNear: how bad a tray can be, sources, and exchanges of neighbours, are as stated: the law returns true for every tray and both numbers, whatever the world. The road: the code in slim form, models of its functions proved by a verified interpreter, and a plain law about the models. -/
import Derived.Test.YtgplhblofefkjaaDoorCards
import Derived.Test.YtgplhblofefkjaaDoorTie
import Derived.Test.YtgplhblofefkjaaDoorSpArgsx
import Derived.Test.YtgplhblofefkjaaDoorMendNJoinx
import Derived.Test.YtgplhblofefkjaaDoorMendNRun
import Derived.Test.YtgplhblofefkjaaDoorMendNLaw6x

namespace Go.Proofs.YtgplhblofefkjaaDoor.mendNear
open Go.ChangeShapes Go.WideShapes Go.ChangeAt Go.RowKit Go.Sp Go.MendNM

theorem own : ownKnob Tryd.prog.godebug = none := by kernel_rfl
theorem gTab : Tryd.prog.globalNamed "math/bits.deBruijn32tab" = some 0 := by kernel_rfl
theorem gTabType : (Tryd.prog.globals[0]?).map (·.type) = some 107 := by kernel_rfl
theorem cells107 : Tryd.prog.cellsOf 107 = 32 := by kernel_rfl
theorem cells5 : Tryd.prog.cellsOf 5 = 1 := by kernel_rfl
theorem cells3 : Tryd.prog.cellsOf 3 = 1 := by kernel_rfl
theorem mixed : Tryd.prog.follows .mixedOrders = true := by kernel_rfl
theorem kids : Kids Tryd.prog (· < Tryd.prog.types.size) := kids_rows (by kernel_rfl) (by kernel_rfl)
theorem full : ∀ t e, t < Tryd.prog.types.size → Tryd.prog.underlying t = some (.slice e) → 0 < Tryd.prog.cellsOf e := slices_full_of _ (by kernel_rfl)
theorem size : Tryd.prog.types.size = 130 := by kernel_rfl
theorem small : ∀ t ∈ Tryd.f6.params.toList, t < Tryd.prog.types.size := by
  rw [Tryd.params6, size]
  intro t ht
  simp only [List.mem_cons, List.not_mem_nil, or_false] at ht
  rcases ht with rfl | rfl | rfl <;> decide
theorem lt24 : 24 < Tryd.prog.types.size := by rw [size]; decide
theorem res : Tryd.f6.resultTypes = #[4] := by kernel_rfl
set_option maxRecDepth 100000 in
theorem ws24 : Tryd.pinned.checked.prog.wantsStandIn 24 = false := by kernel_rfl
set_option maxRecDepth 100000 in
theorem ws3 : Tryd.pinned.checked.prog.wantsStandIn 3 = false := by kernel_rfl
theorem plain24 : plainTy Tryd.prog 5 24 = true := by kernel_rfl

def tabI : List Int := [0, 1, 28, 2, 29, 14, 24, 3, 30, 22, 20, 15, 25, 17, 4, 8, 31, 27, 13, 23, 21, 19, 16, 7, 26, 12, 18, 6, 11, 5, 10, 9]
theorem tabI_eq : (tabI.map fun z => Value.int .u8 z) = tab0 := rfl
theorem table {W : World} (h : laidMetH Tryd.prog Rows.mendNearRow.laid W) : Lib.TabIs Tryd.prog W "math/bits.deBruijn32tab" .u8 tabI :=
  Lib.tabIs_of_head (rest := []) gTab gTabType Tryd.underlying107 Tryd.underlying5 cells5 cells107 h

theorem works : PureOk Tryd.prog tabs 15 (fun args => ll args (some (.bool true)) fun _ _ => none) := pureOk_closed MendN.ttOk MendN.fnsOk mixed worksRun
theorem law : PureOk Tryd.prog [tab0] 6 (puN 10 6) := MendN.pu_ok mixed works 10 6 (by kernel_rfl)

theorem walk (W : World) (h : laidMetH Tryd.prog Rows.mendNearRow.laid W) (H : Type) (enc : TypeId × Value → H) (args : Array Value) (ds gs : List (DataW H)) (before : List MemPlace) (base : Nat)
    (hval : OkArgs Tryd.prog Tryd.f6 W base args)
    (hW : DataW.Whole enc Tryd.prog Tryd.f6.params.toList Rows.mendNearSpec.vars false W args.toList ds gs before) :
    Calls Tryd.prog 6 args W fun e W' => e = .returned (.bool true) ∧ Grown W W' := by
  obtain ⟨p, q, hA, _⟩ := hW
  rw [Tryd.params6] at hA
  obtain ⟨v, v', v'', d, d', d'', q1, q2, q3, hargs, _, _, ⟨f1, h1⟩, ⟨f2, h2⟩, ⟨f3, h3⟩⟩ := trodAll_three hA
  subst hargs
  obtain ⟨R, hR1, hR2, hs⟩ := Go.Sp.start (table h) gTab (by decide)
  rw [tabI_eq] at hs
  obtain ⟨cs, hcs⟩ := OkArgs.struct (P := Tryd.prog) (f := Tryd.f6) (W := W) (base := base) (args := #[v, v', v'']) (by assumption) 0 (by rw [Tryd.params6]; rfl) rfl Tryd.underlying24
  obtain ⟨a, ha, _⟩ := OkArgs.int (P := Tryd.prog) (f := Tryd.f6) (W := W) (base := base) (args := #[v, v', v'']) (by assumption) 1 (by rw [Tryd.params6]; rfl) rfl Tryd.underlying3
  obtain ⟨b, hb, _⟩ := OkArgs.int (P := Tryd.prog) (f := Tryd.f6) (W := W) (base := base) (args := #[v, v', v'']) (by assumption) 2 (by rw [Tryd.params6]; rfl) rfl Tryd.underlying3
  clear hval
  subst hcs; subst ha; subst hb
  obtain ⟨xs, hv, hcl, hsh⟩ := read_ok (R := R) kids full hR2 5 f1 24 _ _ lt24 plain24 h1
  obtain ⟨ls, hl, rfl, hf⟩ := hsh.struct_inv Tryd.underlying24
  match ls, hl with
  | [l0, l1, l2], _ =>
    obtain ⟨k, rfl, _⟩ := (hf 0 _ l0 rfl rfl).int_inv Tryd.underlying3
    obtain ⟨hs1, rfl, _⟩ := (hf 1 _ l1 rfl rfl).ints Tryd.underlying22 Tryd.underlying3 cells3
    obtain ⟨ws1, rfl, _⟩ := (hf 2 _ l2 rfl rfl).ints Tryd.underlying22 Tryd.underlying3 cells3
    have hm := p6 5 k a b hs1 ws1
    refine law_true law (args := [tr 0 0 k hs1 ws1, I a, I b]) hm ?_ hR1 hs ?_
    · intro x hx
      simp at hx
      rcases hx with rfl | rfl | rfl <;> rfl
    · refine .cons ?_ (.cons (.int _ _) (.cons (.int _ _) .nil))
      exact .agg hv.1 hv.2

theorem contract (H : Type) (enc : TypeId × Value → H) (W : World) (args : Array Value) (ds gs : List (DataW H)) (before : List MemPlace) {base : Nat}
    (hval : OkArgs Tryd.prog Tryd.f6 W base args)
    (hW : DataW.Whole enc Tryd.prog Tryd.f6.params.toList Rows.mendNearSpec.vars false W args.toList ds gs before) (hL : laidMetH Tryd.prog Rows.mendNearRow.laid W) :
    Calls Tryd.prog 6 args W fun e W' => ∃ v, e = .returned v ∧ Rows.mendNearSpec.post enc Tryd.prog Tryd.f6 false true false false W args v W' := by
  have hd : Rows.mendNearSpec.fn H ds = { results := [.lit (.bool true)], args := ds } := by
    obtain ⟨p, q, hA, _⟩ := hW
    rw [Tryd.params6] at hA
    obtain ⟨_, _, _, d1, d2, d3, _, _, _, _, rfl, _⟩ := trodAll_three hA
    rfl
  exact post_trueA kids full small hW rfl hd res Tryd.underlying4 (walk W hL H enc args ds gs before base (by assumption) hW)

noncomputable def laidWorld (os : Os) : World :=
  { World.holding Tryd.prog os ⟨#[], #[], []⟩ with heap := (World.holding Tryd.prog os ⟨#[], #[], []⟩).heap.modify 0 fun
      | .cells _ t frozen => .cells (tabI.map fun z => Value.int .u8 z).toArray t frozen
      | o => o }
def wArgs : Array Value := #[.agg #[.int .i64 0, .slice none 0 0, .slice none 0 0], .int .i64 0, .int .i64 0]
set_option maxRecDepth 100000 in
theorem laid_met (os : Os) : laidMet Tryd.prog Rows.mendNearRow.laid ((laidWorld os).forCall (fun _ _ => 0) ⟨#[], wArgs, []⟩).memory :=
  laidMet_of_run' 8 (by kernel_rfl) (by kernel_rfl)
set_option maxRecDepth 100000 in
theorem reads (os : Os) {H : Type} (enc : TypeId × Value → H) : ∃ places, DataW.whole enc Tryd.prog ((laidWorld os).forCall (fun _ _ => 0) ⟨#[], wArgs, []⟩).memory Tryd.f6.params.toList Rows.mendNearSpec.vars false wArgs.toList 8 =
    some ([.agg [.lit (.int .i64 0), .nil, .nil], .lit (.int .i64 0), .lit (.int .i64 0)], [], places) :=
  ⟨[], by kernel_rfl⟩

set_option maxRecDepth 100000 in
theorem lifted (os : Os) (started : os.Started) (H : Type) (enc : TypeId × Value → H) (F : Stop.Interp) :
    ReturnsInHanded {} Tryd.checked os 6 .any ((OpenSpec.ofChange Rows.mendNearSpec).preRow enc Tryd.prog Tryd.f6 Rows.mendNearRow.domain false Rows.mendNearRow.laid) (((OpenSpec.ofChange Rows.mendNearSpec).at F).post enc Tryd.prog Tryd.f6 false true false false) := by
  obtain ⟨places, hx⟩ := reads os enc
  refine handed_of (C := Tryd.checked) (s := OpenSpec.ofChange Rows.mendNearSpec) own started (by kernel_rfl) Tryd.func6
    (witness_row_at (enc := enc) (C := Tryd.checked) false (laidWorld os) wArgs rfl (by kernel_rfl) (by kernel_rfl) (by kernel_rfl)
      (OpenSpec.preRow_of_cond 8 hx (by kernel_rfl) (fun k hk => by cases hk) (by kernel_rfl) (laid_met os))) ?_
  intro W base args ds gs before hval hW hL
  exact contract H enc W args ds gs before (base := base) (by assumption) hW hL

theorem said : Rows.MendNearSaid :=
  OpenClaim.holds_of_cond 6 Tryd.f6 rfl rfl rfl rfl rfl rfl rfl ⟨rfl, rfl, rfl, rfl, rfl⟩ rfl rfl rfl rfl rfl (by kernel_rfl) Tryd.func6 (by kernel_rfl)
    (of_decide_eq_true (by kernel_rfl)) (by unfold Func.isWrapper; first | (rw [if_pos (by decide +kernel)]; kernel_rfl) | (rw [if_neg (by decide +kernel)]; exact ⟨rfl, rfl⟩))
    (fun os started H enc _ F => by rw [OpenClaim.pre_eq_preRow]; exact lifted os started H enc F)

theorem plain (f : FuncId) (fn : Func) (hf : Tryd.pinned.checked.prog.funcNamed "spadille/spadillelaw09.MendNear" = some f) (hfn : Tryd.pinned.checked.prog.funcs[f]? = some fn) :
    false = Tryd.pinned.checked.prog.looks [] ∧ ∀ (j : Nat) t, fn.params[j]? = some t → Tryd.pinned.checked.prog.wantsStandIn t = false := by
  obtain rfl : f = 6 := Option.some.inj ((show Tryd.prog.funcNamed "spadille/spadillelaw09.MendNear" = some 6 by kernel_rfl).symm.trans hf) |>.symm
  obtain rfl : fn = Tryd.f6 := (Option.some.inj (Tryd.func6.symm.trans hfn)).symm
  refine ⟨by kernel_rfl, fun j t ht => ?_⟩
  rw [Tryd.params6] at ht
  match j, ht with
  | 0, ht => have e : (24 : Nat) = t := Option.some.inj ht; rw [← e]; exact ws24
  | 1, ht => have e : (3 : Nat) = t := Option.some.inj ht; rw [← e]; exact ws3
  | 2, ht => have e : (3 : Nat) = t := Option.some.inj ht; rw [← e]; exact ws3
  | j + 3, ht => simp at ht

/-- THE CARD: MendNear returns true. -/
theorem card : Rows.MendNearCardSaid :=
  Claim7.holds_tied_plain_at .later [] _ _ _ _ said (fun _ h => by cases h) (by kernel_rfl) (fun _ h => by cases h) mendNear_row_tie rfl ⟨rfl, rfl⟩ (by kernel_rfl) rfl plain (by kernel_rfl)
end Go.Proofs.YtgplhblofefkjaaDoor.mendNear
