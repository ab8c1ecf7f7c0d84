/- TableTurned: a table turned, a monotone change of numbers, and one more comparator, are as stated: the law returns true for every plan, row and comparator, whatever the world. The road: the code in slim form, models of its functions proved by a verified interpreter, and a plain law about the models. -/
import Derived.Test.YtchpnknhdgplgaaDoorCards
import Derived.Test.YtchpnknhdgplgaaDoorTie
import Derived.Test.YtchpnknhdgplgaaDoorSpObjx
import Derived.Test.YtchpnknhdgplgaaDoorTabUJoinx
import Derived.Test.YtchpnknhdgplgaaDoorTabURun
import Derived.Test.YtchpnknhdgplgaaDoorTabULaw10x

namespace Go.Proofs.YtchpnknhdgplgaaDoor.tableTurned
open Go.ChangeShapes Go.WideShapes Go.ChangeAt Go.RowKit Go.Sp Go.TabUM

theorem own : ownKnob Tryd.prog.godebug = none := by kernel_rfl
theorem gTab : Tryd.prog.globalNamed "math/bits.deBruijn64tab" = some 0 := by kernel_rfl
theorem gTabType : (Tryd.prog.globals[0]?).map (·.type) = some 110 := by kernel_rfl
theorem cells110 : Tryd.prog.cellsOf 110 = 64 := by kernel_rfl
theorem cells5 : Tryd.prog.cellsOf 5 = 1 := by kernel_rfl
theorem cells53 : Tryd.prog.cellsOf 53 = 2 := by kernel_rfl
theorem mixed : Tryd.prog.follows .mixedOrders = true := by kernel_rfl
theorem kids : Kids Tryd.prog (· < Tryd.prog.types.size) := kids_rows (by kernel_rfl) (by kernel_rfl)
theorem full : ∀ t e, t < Tryd.prog.types.size → Tryd.prog.underlying t = some (.slice e) → 0 < Tryd.prog.cellsOf e := slices_full_of _ (by kernel_rfl)
theorem size : Tryd.prog.types.size = 137 := by kernel_rfl
theorem small : ∀ t ∈ Tryd.f6.params.toList, t < Tryd.prog.types.size := by
  rw [Tryd.params6, size]
  intro t ht
  simp only [List.mem_cons, List.not_mem_nil, or_false] at ht
  rcases ht with rfl | rfl | rfl <;> decide
theorem lt45 : 45 < Tryd.prog.types.size := by rw [size]; decide
theorem lt47 : 47 < Tryd.prog.types.size := by rw [size]; decide
theorem lt53 : 53 < Tryd.prog.types.size := by rw [size]; decide
theorem res : Tryd.f6.resultTypes = #[4] := by kernel_rfl
set_option maxRecDepth 100000 in
theorem ws45 : Tryd.pinned.checked.prog.wantsStandIn 45 = false := by kernel_rfl
set_option maxRecDepth 100000 in
theorem ws47 : Tryd.pinned.checked.prog.wantsStandIn 47 = false := by kernel_rfl
set_option maxRecDepth 100000 in
theorem ws53 : Tryd.pinned.checked.prog.wantsStandIn 53 = false := by kernel_rfl
theorem plain45 : plainTy Tryd.prog 5 45 = true := by kernel_rfl
theorem plain47 : plainTy Tryd.prog 5 47 = true := by kernel_rfl
theorem plain53 : plainTy Tryd.prog 5 53 = true := by kernel_rfl

theorem wfU {n : Int} (h : (Lit.int .u8 n).wf = true) : ∃ m : Nat, n = Int.ofNat m ∧ m < 256 := by
  simp only [Lit.wf, Bool.and_eq_true, decide_eq_true_eq] at h
  have h1 : (0 : Int) ≤ n := h.1
  have h2 : n ≤ (255 : Int) := h.2
  exact ⟨n.toNat, (Int.toNat_of_nonneg h1).symm, by omega⟩
theorem wfI {n : Int} (h : (Lit.int .i8 n).wf = true) : -128 ≤ n ∧ n ≤ 127 := by
  simp only [Lit.wf, Bool.and_eq_true, decide_eq_true_eq] at h
  exact ⟨h.1, h.2⟩
section
variable {P : Program} {t : TypeId} {xs : List Value}
theorem pairs8 {e e3 : TypeId} (ht : P.underlying t = some (.slice e)) (he : P.underlying e = some (.array 2 e3)) (h3 : P.underlying e3 = some (.int .u8)) (hc : P.cellsOf e = 2) (h : Shp P t xs) :
    ∃ C : List (Nat × Nat), xs = [Sl.v 2 (ps C)] ∧ byte C := by
  obtain ⟨ls, hl, hs, rfl⟩ := h.slice_inv ht
  have : ∃ C : List (Nat × Nat), C.length = ls.length ∧ ls.flatten = pl C ∧ byte C := by
    clear hl h
    induction ls with
    | nil => exact ⟨[], rfl, rfl, by intro p hp; cases hp⟩
    | cons m ls ih =>
      obtain ⟨C, h1, h2, h4⟩ := ih fun l hl => hs l (by simp [hl])
      obtain ⟨ms, k1, rfl, k3⟩ := (hs m (by simp)).array_inv he
      match ms, k1 with
      | [x, y], _ =>
        obtain ⟨a, rfl, wa⟩ := (k3 x (by simp)).int_inv h3
        obtain ⟨b, rfl, wb⟩ := (k3 y (by simp)).int_inv h3
        obtain ⟨a, rfl, la⟩ := wfU wa
        obtain ⟨b, rfl, lb⟩ := wfU wb
        refine ⟨(a, b) :: C, by simp [h1], by simp [h2, pl], ?_⟩
        intro p hp
        rcases List.mem_cons.1 hp with rfl | hp
        · exact ⟨la, lb⟩
        · exact h4 p hp
  obtain ⟨C, h1, h2, h4⟩ := this
  refine ⟨C, ?_, h4⟩
  rw [hc, h2, ← h1]; rfl
end

def tabI : List Int := [0, 1, 56, 2, 57, 49, 28, 3, 61, 58, 42, 50, 38, 29, 17, 4, 62, 47, 59, 36, 45, 43, 51, 22, 53, 39, 33, 30, 24, 18, 12, 5, 63, 55, 48, 27, 60, 41, 37, 16, 46, 35, 44, 21, 52, 32, 23, 11, 54, 26, 40, 15, 34, 20, 31, 10, 25, 14, 19, 9, 13, 8, 7, 6]
theorem tabI_eq : (tabI.map fun z => Value.int .u8 z) = tab0 := rfl
theorem table {W : World} (h : laidMetH Tryd.prog Rows.tableTurnedRow.laid W) : Lib.TabIs Tryd.prog W "math/bits.deBruijn64tab" .u8 tabI :=
  Lib.tabIs_of_head (rest := []) gTab gTabType Tryd.underlying110 Tryd.underlying5 cells5 cells110 h

theorem works : PureOk Tryd.prog tabs 8 (fun args => ll args (some (.bool true)) fun _ _ => none) := pureOk_closed TabU.ttOk TabU.fnsOk mixed worksRun
theorem law : PureOk Tryd.prog [tab0] 6 (puN 12 6) := TabU.pu_ok mixed works 12 6 (by kernel_rfl)

theorem walk (W : World) (h : laidMetH Tryd.prog Rows.tableTurnedRow.laid W) (H : Type) (enc : TypeId × Value → H) (args : Array Value) (ds gs : List (DataW H)) (before : List MemPlace) (base : Nat)
    (hval : OkArgs Tryd.prog Tryd.f6 W base args)
    (hW : DataW.Whole enc Tryd.prog Tryd.f6.params.toList Rows.tableTurnedSpec.vars false W args.toList ds gs before) :
    Calls Tryd.prog 6 args W fun e W' => e = .returned (.bool true) ∧ GrownB W W' := by
  obtain ⟨p, q, hA, _⟩ := hW
  rw [Tryd.params6] at hA
  obtain ⟨v, v', v'', d, d', d'', q1, q2, q3, hargs, _, _, ⟨f1, h1⟩, ⟨f2, h2⟩, ⟨f3, h3⟩⟩ := trodAll_three hA
  subst hargs
  obtain ⟨R, hR1, hR2, hs⟩ := Go.Sp.start (table h) gTab (by decide)
  rw [tabI_eq] at hs
  obtain ⟨cs, hcs⟩ := OkArgs.struct (P := Tryd.prog) (f := Tryd.f6) (W := W) (base := base) (args := #[v, v', v'']) (by assumption) 0 (by rw [Tryd.params6]; rfl) rfl Tryd.underlying45
  obtain ⟨cs2, hcs2⟩ := OkArgs.array (P := Tryd.prog) (f := Tryd.f6) (W := W) (base := base) (args := #[v, v', v'']) (by assumption) 1 (by rw [Tryd.params6]; rfl) rfl Tryd.underlying47
  obtain ⟨cs3, hcs3⟩ := OkArgs.array (P := Tryd.prog) (f := Tryd.f6) (W := W) (base := base) (args := #[v, v', v'']) (by assumption) 2 (by rw [Tryd.params6]; rfl) rfl Tryd.underlying53
  clear hval
  subst hcs; subst hcs2; subst hcs3
  obtain ⟨xs, hv, hcl, hsh⟩ := read_ok (R := R) kids full hR2 5 f1 45 _ _ lt45 plain45 h1
  obtain ⟨xs2, hv2, hcl2, hsh2⟩ := read_ok (R := R) kids full hR2 5 f2 47 _ _ lt47 plain47 h2
  obtain ⟨xs3, hv3, hcl3, hsh3⟩ := read_ok (R := R) kids full hR2 5 f3 53 _ _ lt53 plain53 h3
  obtain ⟨ls, hl, rfl, hf⟩ := hsh.struct_inv Tryd.underlying45
  obtain ⟨ls2, hl2, rfl, hf2⟩ := hsh2.array_inv Tryd.underlying47
  obtain ⟨ls3, hl3, rfl, hf3⟩ := hsh3.array_inv Tryd.underlying53
  match ls, hl, ls2, hl2, ls3, hl3 with
  | [l0, l1, l2], _, [y0, y1, y2, y3, y4], _, [x0, x1], _ =>
    obtain ⟨k, rfl, wk⟩ := (hf 0 _ l0 rfl rfl).int_inv Tryd.underlying5
    obtain ⟨L, rfl, hL⟩ := wfU wk
    obtain ⟨C, rfl, hC⟩ := pairs8 Tryd.underlying43 Tryd.underlying53 Tryd.underlying5 cells53 (hf 1 _ l1 rfl rfl)
    obtain ⟨b, rfl⟩ := (hf 2 _ l2 rfl rfl).bool_inv Tryd.underlying4
    obtain ⟨z0, rfl, w0⟩ := (hf2 y0 (by simp)).int_inv Tryd.underlying46
    obtain ⟨z1, rfl, w1⟩ := (hf2 y1 (by simp)).int_inv Tryd.underlying46
    obtain ⟨z2, rfl, w2⟩ := (hf2 y2 (by simp)).int_inv Tryd.underlying46
    obtain ⟨z3, rfl, w3⟩ := (hf2 y3 (by simp)).int_inv Tryd.underlying46
    obtain ⟨z4, rfl, w4⟩ := (hf2 y4 (by simp)).int_inv Tryd.underlying46
    obtain ⟨a0, rfl, u0⟩ := (hf3 x0 (by simp)).int_inv Tryd.underlying5
    obtain ⟨a1, rfl, u1⟩ := (hf3 x1 (by simp)).int_inv Tryd.underlying5
    obtain ⟨m0, rfl, hm0⟩ := wfU u0
    obtain ⟨m1, rfl, hm1⟩ := wfU u1
    have hm := p6 1 L m0 m1 C b z0 z1 z2 z3 z4 hL hC hm0 hm1 (by
      intro j hj
      match j, hj with
      | 0, _ => exact wfI w0
      | 1, _ => exact wfI w1
      | 2, _ => exact wfI w2
      | 3, _ => exact wfI w3
      | 4, _ => exact wfI w4
      | j + 5, hj => omega)
    refine law_true law (args := [.agg ⟨[.int .u8 (Int.ofNat L), Sl.v 2 (ps C), .bool b]⟩, .agg ⟨[.int .i8 z0, .int .i8 z1, .int .i8 z2, .int .i8 z3, .int .i8 z4]⟩, .agg ⟨[.int .u8 (Int.ofNat m0), .int .u8 (Int.ofNat m1)]⟩]) hm ?_ hR1 hs ?_
    · intro x hx
      simp at hx
      rcases hx with rfl | rfl | rfl <;> rfl
    · refine .cons ?_ (.cons ?_ (.cons ?_ .nil))
      · exact .agg hv.1 hv.2
      · exact .agg hv2.1 hv2.2
      · exact .agg hv3.1 hv3.2

theorem contract (H : Type) (enc : TypeId × Value → H) (W : World) (args : Array Value) (ds gs : List (DataW H)) (before : List MemPlace) {base : Nat}
    (hval : OkArgs Tryd.prog Tryd.f6 W base args)
    (hW : DataW.Whole enc Tryd.prog Tryd.f6.params.toList Rows.tableTurnedSpec.vars false W args.toList ds gs before) (hL : laidMetH Tryd.prog Rows.tableTurnedRow.laid W) :
    Calls Tryd.prog 6 args W fun e W' => ∃ v, e = .returned v ∧ Rows.tableTurnedSpec.post enc Tryd.prog Tryd.f6 false true false false W args v W' := by
  have hd : Rows.tableTurnedSpec.fn H ds = { results := [.lit (.bool true)], args := ds } := by
    obtain ⟨p, q, hA, _⟩ := hW
    rw [Tryd.params6] at hA
    obtain ⟨_, _, _, d1, d2, d3, _, _, _, _, rfl, _⟩ := trodAll_three hA
    rfl
  exact post_trueA kids full small hW rfl hd res Tryd.underlying4 (walk W hL H enc args ds gs before base (by assumption) hW)

noncomputable def laidWorld (os : Os) : World :=
  { World.holding Tryd.prog os ⟨#[], #[], []⟩ with heap := (World.holding Tryd.prog os ⟨#[], #[], []⟩).heap.modify 0 fun
      | .cells _ t frozen => .cells (tabI.map fun z => Value.int .u8 z).toArray t frozen
      | o => o }
def wArgs : Array Value := #[.agg #[.int .u8 0, .slice none 0 0, .bool false], .agg #[.int .i8 0, .int .i8 0, .int .i8 0, .int .i8 0, .int .i8 0], .agg #[.int .u8 0, .int .u8 0]]
set_option maxRecDepth 100000 in
theorem laid_met (os : Os) : laidMet Tryd.prog Rows.tableTurnedRow.laid ((laidWorld os).forCall (fun _ _ => 0) ⟨#[], wArgs, []⟩).memory :=
  laidMet_of_run' 8 (by kernel_rfl) (by kernel_rfl)
set_option maxRecDepth 100000 in
theorem reads (os : Os) {H : Type} (enc : TypeId × Value → H) : ∃ places, DataW.whole enc Tryd.prog ((laidWorld os).forCall (fun _ _ => 0) ⟨#[], wArgs, []⟩).memory Tryd.f6.params.toList Rows.tableTurnedSpec.vars false wArgs.toList 8 =
    some ([.agg [.lit (.int .u8 0), .nil, .lit (.bool false)], .agg [.lit (.int .i8 0), .lit (.int .i8 0), .lit (.int .i8 0), .lit (.int .i8 0), .lit (.int .i8 0)], .agg [.lit (.int .u8 0), .lit (.int .u8 0)]], [], places) :=
  ⟨[], by kernel_rfl⟩

set_option maxRecDepth 100000 in
theorem lifted (os : Os) (started : os.Started) (H : Type) (enc : TypeId × Value → H) (F : Stop.Interp) :
    ReturnsInHanded {} Tryd.checked os 6 .any ((OpenSpec.ofChange Rows.tableTurnedSpec).preRow enc Tryd.prog Tryd.f6 Rows.tableTurnedRow.domain false Rows.tableTurnedRow.laid) (((OpenSpec.ofChange Rows.tableTurnedSpec).at F).post enc Tryd.prog Tryd.f6 false true false false) := by
  obtain ⟨places, hx⟩ := reads os enc
  refine handed_of (C := Tryd.checked) (s := OpenSpec.ofChange Rows.tableTurnedSpec) own started (by kernel_rfl) Tryd.func6
    (witness_row_at (enc := enc) (C := Tryd.checked) false (laidWorld os) wArgs rfl (by kernel_rfl) (by kernel_rfl) (by kernel_rfl)
      (OpenSpec.preRow_of_cond 8 hx (by kernel_rfl) (fun k hk => by cases hk) (by kernel_rfl) (laid_met os))) ?_
  intro W base args ds gs before hval hW hL
  exact contract H enc W args ds gs before (base := base) (by assumption) hW hL

theorem said : Rows.TableTurnedSaid :=
  OpenClaim.holds_of_cond 6 Tryd.f6 rfl rfl rfl rfl rfl rfl rfl ⟨rfl, rfl, rfl, rfl, rfl⟩ rfl rfl rfl rfl rfl (by kernel_rfl) Tryd.func6 (by kernel_rfl)
    (of_decide_eq_true (by kernel_rfl)) (by unfold Func.isWrapper; first | (rw [if_pos (by decide +kernel)]; kernel_rfl) | (rw [if_neg (by decide +kernel)]; exact ⟨rfl, rfl⟩))
    (fun os started H enc _ F => by rw [OpenClaim.pre_eq_preRow]; exact lifted os started H enc F)

theorem plain (f : FuncId) (fn : Func) (hf : Tryd.pinned.checked.prog.funcNamed "spadille/spadillelaw07.TableTurned" = some f) (hfn : Tryd.pinned.checked.prog.funcs[f]? = some fn) :
    false = Tryd.pinned.checked.prog.looks [] ∧ ∀ (j : Nat) t, fn.params[j]? = some t → Tryd.pinned.checked.prog.wantsStandIn t = false := by
  obtain rfl : f = 6 := Option.some.inj ((show Tryd.prog.funcNamed "spadille/spadillelaw07.TableTurned" = some 6 by kernel_rfl).symm.trans hf) |>.symm
  obtain rfl : fn = Tryd.f6 := (Option.some.inj (Tryd.func6.symm.trans hfn)).symm
  refine ⟨by kernel_rfl, fun j t ht => ?_⟩
  rw [Tryd.params6] at ht
  match j, ht with
  | 0, ht => have e : (45 : Nat) = t := Option.some.inj ht; rw [← e]; exact ws45
  | 1, ht => have e : (47 : Nat) = t := Option.some.inj ht; rw [← e]; exact ws47
  | 2, ht => have e : (53 : Nat) = t := Option.some.inj ht; rw [← e]; exact ws53
  | j + 3, ht => simp at ht

theorem card : Rows.TableTurnedCardSaid :=
  Claim7.holds_tied_plain_at .later [] _ _ _ _ said (fun _ h => by cases h) (by kernel_rfl) (fun _ h => by cases h) tableTurned_row_tie rfl ⟨rfl, rfl⟩ (by kernel_rfl) rfl plain (by kernel_rfl)
end Go.Proofs.YtchpnknhdgplgaaDoor.tableTurned
