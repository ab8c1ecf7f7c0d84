/- Made from wip. -/
import Derived.Test.YtkhedoaiejjcfaaGreatRows
import Derived.Test.YtkhedoaiejjcfaaGreatSpObjx
import Derived.Test.YtkhedoaiejjcfaaGreatHzSRepx
import Derived.Test.YtkhedoaiejjcfaaGreatHzSTow

namespace Go.Proofs.YtkhedoaiejjcfaaGreat.heapBasins
open Go.ChangeShapes Go.WideShapes Go.ChangeAt Go.RowKit Go.Sp Go.HzSM

theorem own:ownKnob Tryz.prog.godebug = none:=by kernel_rfl
theorem cells5:Tryz.prog.cellsOf 5 = 1:=by kernel_rfl
theorem mixed:Tryz.prog.follows .mixedOrders = true:=by kernel_rfl
theorem kids:Kids Tryz.prog (· < Tryz.prog.types.size):=kids_rows (by kernel_rfl) (by kernel_rfl)
theorem full:∀ t e,t < Tryz.prog.types.size→Tryz.prog.underlying t = some (.slice e)→0 < Tryz.prog.cellsOf e:=slices_full_of _ (by kernel_rfl)
theorem size:Tryz.prog.types.size = 146:=by kernel_rfl
theorem small:∀ t ∈ Tryz.f5.params.toList,t < Tryz.prog.types.size:=by
 rw [Tryz.params5,size]
 intro t ht
 simp only [List.mem_cons,List.not_mem_nil,or_false] at ht
 subst ht;decide
theorem lt39:39 < Tryz.prog.types.size:=by rw [size];decide
theorem res:Tryz.f5.resultTypes = #[4]:=by kernel_rfl
theorem plain39:plainTy Tryz.prog 6 39 = true:=by kernel_rfl
theorem law:PureOk Tryz.prog [] 5 HzS.mLaw:=HzS.lawOk mixed
theorem wfU {n:Int} (h:(Lit.int .u8 n).wf = true):0≤n∧n < 256:=by
 simp only [Lit.wf,Bool.and_eq_true,decide_eq_true_eq] at h
 have h1:(0:Int)≤n:=h.1
 have h2:n≤(255:Int):=h.2
 omega

theorem walk (W : World) (h : laidMetH Tryz.prog Rows.heapBasinsRow.laid W) (H : Type) (enc : TypeId × Value → H) (args : Array Value) (ds gs : List (DataW H)) (before : List MemPlace) (base : Nat)
 (hval:OkArgs Tryz.prog Tryz.f5 W base args)
 (hW:DataW.Whole enc Tryz.prog Tryz.f5.params.toList Rows.heapBasinsSpec.vars false W args.toList ds gs before) :
 Calls Tryz.prog 5 args W fun e W'=>e = .returned (.bool true)∧GrownB W W':=by
 obtain ⟨p,q,hA,_⟩:=hW
 rw [Tryz.params5] at hA
 obtain ⟨v,d,hargs,_,f1,h1⟩:=trodAll_one hA
 subst hargs
 obtain ⟨R,hR1,hR2,hs⟩:=Go.Sp.start0 W
 obtain ⟨sa0,sl0,sc0,ha0⟩:=OkArgs.slice (P:=Tryz.prog) (f:=Tryz.f5) (W:=W) (base:=base) (args:=#[v]) (by assumption) 0 (by rw [Tryz.params5];rfl) rfl Tryz.underlying39
 clear hval
 subst ha0
 obtain ⟨xs0,hv0,hcl0,hsh0⟩:=read_ok (R:=R) kids full hR2 6 f1 39 _ _ lt39 plain39 h1
 obtain ⟨p0,rfl,len_p0,w_p0⟩:=(hsh0).intsK Tryz.underlying39 Tryz.underlying5 cells5
 have hm:=HzS.mLaw_ok p0 (fun x hx=>wfU (w_p0 x hx))
 refine law_true0 law (args:=[Sl.v 1 ⟨(p0).length,0,(p0).map (Value.int .u8)⟩]) hm ?_ hR1 hs ?_
 ·intro x hx
  simp at hx
  subst hx;rfl
 ·exact .cons (hv0.2 0 _ _ rfl rfl) (.nil)

theorem contract (H : Type) (enc : TypeId × Value → H) (W : World) (args : Array Value) (ds gs : List (DataW H)) (before : List MemPlace) {base : Nat}
 (hval:OkArgs Tryz.prog Tryz.f5 W base args)
 (hW:DataW.Whole enc Tryz.prog Tryz.f5.params.toList Rows.heapBasinsSpec.vars false W args.toList ds gs before) (hL:laidMetH Tryz.prog Rows.heapBasinsRow.laid W) :
 Calls Tryz.prog 5 args W fun e W'=>∃ v,e = .returned v∧Rows.heapBasinsSpec.post enc Tryz.prog Tryz.f5 false true false false W args v W':=by
 have hd:Rows.heapBasinsSpec.fn H ds = { results:=[.lit (.bool true)],args:=ds }:=by
  obtain ⟨p,q,hA,_⟩:=hW
  rw [Tryz.params5] at hA
  obtain ⟨_,d1,_,rfl,_⟩:=trodAll_one hA
  rfl
 exact post_trueA kids full small hW rfl hd res Tryz.underlying4 (walk W hL H enc args ds gs before base (by assumption) hW)

noncomputable def laidWorld (os:Os):World:=World.holding Tryz.prog os ⟨#[],#[],[]⟩
def wArgs:Array Value:=#[.slice none 0 0]
set_option maxRecDepth 100000 in
theorem laid_met (os:Os):laidMet Tryz.prog Rows.heapBasinsRow.laid ((laidWorld os).forCall (fun _ _=>0) ⟨#[],wArgs,[]⟩).memory:=
 laidMet_of_run' 8 (by kernel_rfl) (by kernel_rfl)
set_option maxRecDepth 100000 in
theorem reads (os : Os) {H : Type} (enc : TypeId × Value → H) : ∃ places, DataW.whole enc Tryz.prog ((laidWorld os).forCall (fun _ _ => 0) ⟨#[], wArgs, []⟩).memory Tryz.f5.params.toList Rows.heapBasinsSpec.vars false wArgs.toList 8 =
 some ([.nil],[],places):=
 ⟨[],by kernel_rfl⟩

set_option maxRecDepth 100000 in
theorem lifted (os : Os) (started : os.Started) (H : Type) (enc : TypeId × Value → H) (F : Stop.Interp) :
 ReturnsInHanded {} Tryz.checked os 5 .any ((OpenSpec.ofChange Rows.heapBasinsSpec).preRow enc Tryz.prog Tryz.f5 Rows.heapBasinsRow.domain false Rows.heapBasinsRow.laid) (((OpenSpec.ofChange Rows.heapBasinsSpec).at F).post enc Tryz.prog Tryz.f5 false true false false):=by
 obtain ⟨places,hx⟩:=reads os enc
 refine handed_of (C := Tryz.checked) (s := OpenSpec.ofChange Rows.heapBasinsSpec) own started (by kernel_rfl) Tryz.func5
  (witness_row_at (enc := enc) (C := Tryz.checked) false (laidWorld os) wArgs rfl (by kernel_rfl) (by kernel_rfl) (by kernel_rfl)
    (OpenSpec.preRow_of_cond 8 hx (by kernel_rfl) (fun k hk=>by cases hk) (by kernel_rfl) (laid_met os))) ?_
 intro W base args ds gs before hval hW hL
 exact contract H enc W args ds gs before (base:=base) (by assumption) hW hL

theorem said:Rows.HeapBasinsSaid:=
 OpenClaim.holds_of_cond 5 Tryz.f5 rfl rfl rfl rfl rfl rfl rfl ⟨rfl, rfl, rfl, rfl, rfl⟩ rfl rfl rfl rfl rfl (by kernel_rfl) Tryz.func5 (by kernel_rfl)
  (of_decide_eq_true (by kernel_rfl)) (by unfold Func.isWrapper;first | (rw [if_pos (by decide +kernel)];kernel_rfl) | (rw [if_neg (by decide +kernel)];exact ⟨rfl,rfl⟩))
  (fun os started H enc _ F=>by rw [OpenClaim.pre_eq_preRow];exact lifted os started H enc F)

end Go.Proofs.YtkhedoaiejjcfaaGreat.heapBasins
