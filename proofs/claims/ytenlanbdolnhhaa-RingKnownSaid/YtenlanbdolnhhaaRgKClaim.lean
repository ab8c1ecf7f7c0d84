/- Made from wip. -/
import Derived.Test.YtenlanbdolnhhaaRows
import Derived.Test.YtenlanbdolnhhaaSpObj2x
import Derived.Test.YtenlanbdolnhhaaRgKJoinx
import Derived.Test.YtenlanbdolnhhaaRgKTow

namespace Go.Proofs.Ytenlanbdolnhhaa.ringKnown
open Go.ChangeShapes Go.WideShapes Go.ChangeAt Go.RowKit Go.Sp Go.RgKM

theorem own:ownKnob Try.prog.godebug = none:=by kernel_rfl
theorem mixed:Try.prog.follows .mixedOrders = true:=by kernel_rfl
theorem kids:Kids Try.prog (· < Try.prog.types.size):=kids_rows (by kernel_rfl) (by kernel_rfl)
theorem full:∀ t e,t < Try.prog.types.size→Try.prog.underlying t = some (.slice e)→0 < Try.prog.cellsOf e:=slices_full_of _ (by kernel_rfl)
theorem size:Try.prog.types.size = 156:=by kernel_rfl
theorem res:Try.f10.resultTypes = #[4]:=by kernel_rfl
theorem law:PureOk Try.prog [] 10 RgK.trueF:=RgK.lawOk mixed

theorem walk (W : World) (h : laidMetH Try.prog Rows.ringKnownRow.laid W) (H : Type) (enc : TypeId × Value → H) (args : Array Value) (ds gs : List (DataW H)) (before : List MemPlace) (base : Nat)
 (hval:OkArgs Try.prog Try.f10 W base args)
 (hW:DataW.Whole enc Try.prog Try.f10.params.toList Rows.ringKnownSpec.vars false W args.toList ds gs before) :
 Calls Try.prog 10 args W fun e W'=>e = .returned (.bool true)∧GrownB W W':=by
 obtain ⟨p,q,hA,_⟩:=hW
 rw [Try.params10] at hA
 obtain ⟨hargs,_,_⟩:=trodAll_nil hA
 obtain rfl:args = #[]:=by cases args;simp_all
 obtain ⟨R,hR1,hR2,hs⟩:=Go.Sp.start0 W

 clear hval
  

 have hm:RgK.trueF [] = some (Value.bool true):=rfl
 refine law_true0 law (args:=[]) hm ?_ hR1 hs ?_
 ·intro x hx
  simp at hx
  done
 ·exact .nil

theorem contract (H : Type) (enc : TypeId × Value → H) (W : World) (args : Array Value) (ds gs : List (DataW H)) (before : List MemPlace) {base : Nat}
 (hval:OkArgs Try.prog Try.f10 W base args)
 (hW:DataW.Whole enc Try.prog Try.f10.params.toList Rows.ringKnownSpec.vars false W args.toList ds gs before) (hL:laidMetH Try.prog Rows.ringKnownRow.laid W) :
 Calls Try.prog 10 args W fun e W'=>∃ v,e = .returned v∧Rows.ringKnownSpec.post enc Try.prog Try.f10 false true false false W args v W':=by
 have hA:=hW
 obtain ⟨p,q,hA,_⟩:=hA
 rw [Try.params10] at hA
 obtain ⟨hargs,_,_⟩:=trodAll_nil hA
 obtain rfl:args = #[]:=by cases args;simp_all
 exact Go.Sp.post_true0 hW rfl Try.params10 rfl res Try.underlying4 (walk W hL H enc #[] ds gs before base (by assumption) hW)

noncomputable def laidWorld (os:Os):World:=World.holding Try.prog os ⟨#[],#[],[]⟩
def wArgs:Array Value:=#[]
set_option maxRecDepth 100000 in
theorem laid_met (os:Os):laidMet Try.prog Rows.ringKnownRow.laid ((laidWorld os).forCall (fun _ _=>0) ⟨#[],wArgs,[]⟩).memory:=
 laidMet_of_run' 8 (by kernel_rfl) (by kernel_rfl)
set_option maxRecDepth 100000 in
theorem reads (os : Os) {H : Type} (enc : TypeId × Value → H) : ∃ places, DataW.whole enc Try.prog ((laidWorld os).forCall (fun _ _ => 0) ⟨#[], wArgs, []⟩).memory Try.f10.params.toList Rows.ringKnownSpec.vars false wArgs.toList 8 =
 some ([],[],places):=
 ⟨[],by kernel_rfl⟩

set_option maxRecDepth 100000 in
theorem lifted (os : Os) (started : os.Started) (H : Type) (enc : TypeId × Value → H) (F : Stop.Interp) :
 ReturnsInHanded {} Try.checked os 10 .any ((OpenSpec.ofChange Rows.ringKnownSpec).preRow enc Try.prog Try.f10 Rows.ringKnownRow.domain false Rows.ringKnownRow.laid) (((OpenSpec.ofChange Rows.ringKnownSpec).at F).post enc Try.prog Try.f10 false true false false):=by
 obtain ⟨places,hx⟩:=reads os enc
 refine handed_of (C := Try.checked) (s := OpenSpec.ofChange Rows.ringKnownSpec) own started (by kernel_rfl) Try.func10
  (witness_row_at (enc := enc) (C := Try.checked) false (laidWorld os) wArgs rfl (by kernel_rfl) (by kernel_rfl) (by kernel_rfl)
    (OpenSpec.preRow_of_cond 8 hx (by kernel_rfl) (fun k hk=>by cases hk) (by kernel_rfl) (laid_met os))) ?_
 intro W base args ds gs before hval hW hL
 exact contract H enc W args ds gs before (base:=base) (by assumption) hW hL

theorem said:Rows.RingKnownSaid:=
 OpenClaim.holds_of_cond 10 Try.f10 rfl rfl rfl rfl rfl rfl rfl ⟨rfl, rfl, rfl, rfl, rfl⟩ rfl rfl rfl rfl rfl (by kernel_rfl) Try.func10 (by kernel_rfl)
  (of_decide_eq_true (by kernel_rfl)) (by unfold Func.isWrapper;first | (rw [if_pos (by decide +kernel)];kernel_rfl) | (rw [if_neg (by decide +kernel)];exact ⟨rfl,rfl⟩))
  (fun os started H enc _ F=>by rw [OpenClaim.pre_eq_preRow];exact lifted os started H enc F)

end Go.Proofs.Ytenlanbdolnhhaa.ringKnown
