/- Made from wip. -/
import Derived.Test.YtokbaaeimejjlaaDoorCards
import Derived.Test.YtokbaaeimejjlaaDoorTie
import Derived.Test.YtokbaaeimejjlaaDoorSpClox
import Derived.Test.YtokbaaeimejjlaaDoorBkKJoinx

namespace Go.Proofs.YtokbaaeimejjlaaDoor.backKnown
open Go.ChangeShapes Go.WideShapes Go.ChangeAt Go.RowKit Go.Sp Go.BkKM

theorem own:ownKnob Tryd.prog.godebug = none:=by kernel_rfl
theorem gTab : Tryd.prog.globalNamed "math/bits.deBruijn32tab" = some 0 := by kernel_rfl
theorem gTabType:(Tryd.prog.globals[0]?).map (·.type) = some 98:=by kernel_rfl
theorem cells5:Tryd.prog.cellsOf 5 = 1:=by kernel_rfl
theorem cells98:Tryd.prog.cellsOf 98 = 32:=by kernel_rfl
theorem mixed:Tryd.prog.follows .mixedOrders = true:=by kernel_rfl
theorem kids:Kids Tryd.prog (· < Tryd.prog.types.size):=kids_rows (by kernel_rfl) (by kernel_rfl)
theorem full:∀ t e,t < Tryd.prog.types.size→Tryd.prog.underlying t = some (.slice e)→0 < Tryd.prog.cellsOf e:=slices_full_of _ (by kernel_rfl)
theorem size:Tryd.prog.types.size = 156:=by kernel_rfl
theorem res:Tryd.f8.resultTypes = #[4]:=by kernel_rfl

def tabI:List Int:=[0,1,28,2,29,14,24,3,30,22,20,15,25,17,4,8,31,27,13,23,21,19,16,7,26,12,18,6,11,5,10,9]
theorem tabI_eq:(tabI.map fun z=>Value.int .u8 z) = tab0:=rfl
theorem table {W : World} (h : laidMetH Tryd.prog Rows.backKnownRow.laid W) : Lib.TabIs Tryd.prog W "math/bits.deBruijn32tab" .u8 tabI :=
 Lib.tabIs_of_head (rest:=[]) gTab gTabType Tryd.underlying98 Tryd.underlying5 cells5 cells98 h

theorem law:PureOk Tryd.prog [tab0] 8 BkK.trueF:=BkK.ok8 mixed

theorem walk (W : World) (h : laidMetH Tryd.prog Rows.backKnownRow.laid W) (H : Type) (enc : TypeId × Value → H) (args : Array Value) (ds gs : List (DataW H)) (before : List MemPlace) (base : Nat)
 (hval:OkArgs Tryd.prog Tryd.f8 W base args)
 (hW:DataW.Whole enc Tryd.prog Tryd.f8.params.toList Rows.backKnownSpec.vars false W args.toList ds gs before) :
 Calls Tryd.prog 8 args W fun e W'=>e = .returned (.bool true)∧GrownB W W':=by
 obtain ⟨p,q,hA,_⟩:=hW
 rw [Tryd.params8] at hA
 obtain ⟨hargs,_,_⟩:=trodAll_nil hA
 obtain rfl:args = #[]:=by cases args;simp_all
 obtain ⟨R,hR1,hR2,hs⟩:=Go.Sp.start (table h) gTab (by decide)
 rw [tabI_eq] at hs

 clear hval
  

 have hm:BkK.trueF [] = some (Value.bool true):=rfl
 refine law_true law (args:=[]) hm ?_ hR1 hs ?_
 ·intro x hx
  simp at hx
  done
 ·exact .nil

theorem contract (H : Type) (enc : TypeId × Value → H) (W : World) (args : Array Value) (ds gs : List (DataW H)) (before : List MemPlace) {base : Nat}
 (hval:OkArgs Tryd.prog Tryd.f8 W base args)
 (hW:DataW.Whole enc Tryd.prog Tryd.f8.params.toList Rows.backKnownSpec.vars false W args.toList ds gs before) (hL:laidMetH Tryd.prog Rows.backKnownRow.laid W) :
 Calls Tryd.prog 8 args W fun e W'=>∃ v,e = .returned v∧Rows.backKnownSpec.post enc Tryd.prog Tryd.f8 false true false false W args v W':=by
 have hA:=hW
 obtain ⟨p,q,hA,_⟩:=hA
 rw [Tryd.params8] at hA
 obtain ⟨hargs,_,_⟩:=trodAll_nil hA
 obtain rfl:args = #[]:=by cases args;simp_all
 exact Go.Sp.post_true0 hW rfl Tryd.params8 rfl res Tryd.underlying4 (walk W hL H enc #[] ds gs before base (by assumption) hW)

noncomputable def laidWorld (os:Os):World:=
 { World.holding Tryd.prog os ⟨#[], #[], []⟩ with heap := (World.holding Tryd.prog os ⟨#[], #[], []⟩).heap.modify 0 fun
  | .cells _ t frozen=>.cells (tabI.map fun z=>Value.int .u8 z).toArray t frozen
  | o=>o }
def wArgs:Array Value:=#[]
set_option maxRecDepth 100000 in
theorem laid_met (os:Os):laidMet Tryd.prog Rows.backKnownRow.laid ((laidWorld os).forCall (fun _ _=>0) ⟨#[],wArgs,[]⟩).memory:=
 laidMet_of_run' 8 (by kernel_rfl) (by kernel_rfl)
set_option maxRecDepth 100000 in
theorem reads (os : Os) {H : Type} (enc : TypeId × Value → H) : ∃ places, DataW.whole enc Tryd.prog ((laidWorld os).forCall (fun _ _ => 0) ⟨#[], wArgs, []⟩).memory Tryd.f8.params.toList Rows.backKnownSpec.vars false wArgs.toList 8 =
 some ([],[],places):=
 ⟨[],by kernel_rfl⟩

set_option maxRecDepth 100000 in
theorem lifted (os : Os) (started : os.Started) (H : Type) (enc : TypeId × Value → H) (F : Stop.Interp) :
 ReturnsInHanded {} Tryd.checked os 8 .any ((OpenSpec.ofChange Rows.backKnownSpec).preRow enc Tryd.prog Tryd.f8 Rows.backKnownRow.domain false Rows.backKnownRow.laid) (((OpenSpec.ofChange Rows.backKnownSpec).at F).post enc Tryd.prog Tryd.f8 false true false false):=by
 obtain ⟨places,hx⟩:=reads os enc
 refine handed_of (C := Tryd.checked) (s := OpenSpec.ofChange Rows.backKnownSpec) own started (by kernel_rfl) Tryd.func8
  (witness_row_at (enc := enc) (C := Tryd.checked) false (laidWorld os) wArgs rfl (by kernel_rfl) (by kernel_rfl) (by kernel_rfl)
    (OpenSpec.preRow_of_cond 8 hx (by kernel_rfl) (fun k hk=>by cases hk) (by kernel_rfl) (laid_met os))) ?_
 intro W base args ds gs before hval hW hL
 exact contract H enc W args ds gs before (base:=base) (by assumption) hW hL

theorem said:Rows.BackKnownSaid:=
 OpenClaim.holds_of_cond 8 Tryd.f8 rfl rfl rfl rfl rfl rfl rfl ⟨rfl, rfl, rfl, rfl, rfl⟩ rfl rfl rfl rfl rfl (by kernel_rfl) Tryd.func8 (by kernel_rfl)
  (of_decide_eq_true (by kernel_rfl)) (by unfold Func.isWrapper;first | (rw [if_pos (by decide +kernel)];kernel_rfl) | (rw [if_neg (by decide +kernel)];exact ⟨rfl,rfl⟩))
  (fun os started H enc _ F=>by rw [OpenClaim.pre_eq_preRow];exact lifted os started H enc F)

theorem plain (f : FuncId) (fn : Func) (hf : Tryd.pinned.checked.prog.funcNamed "spadille/spadillelaw03.BackKnown" = some f) (hfn : Tryd.pinned.checked.prog.funcs[f]? = some fn) :
 false = Tryd.pinned.checked.prog.looks []∧∀ (j:Nat) t,fn.params[j]? = some t→Tryd.pinned.checked.prog.wantsStandIn t = false:=by
 obtain rfl : f = 8 := Option.some.inj ((show Tryd.prog.funcNamed "spadille/spadillelaw03.BackKnown" = some 8 by kernel_rfl).symm.trans hf) |>.symm
 obtain rfl:fn = Tryd.f8:=(Option.some.inj (Tryd.func8.symm.trans hfn)).symm
 refine ⟨by kernel_rfl,fun j t ht=>?_⟩
 rw [Tryd.params8] at ht
 match j,ht with
 | j + 0,ht=>simp at ht

theorem card:Rows.BackKnownCardSaid:=
 Claim7.holds_tied_plain_at .later [] _ _ _ _ said (fun _ h=>by cases h) (by kernel_rfl) (fun _ h=>by cases h) backKnown_row_tie rfl ⟨rfl,rfl⟩ (by kernel_rfl) rfl plain (by kernel_rfl)
end Go.Proofs.YtokbaaeimejjlaaDoor.backKnown
