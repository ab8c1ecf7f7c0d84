/- Made from wip. -/
import Derived.Test.YtlgmapibifphaaaDoorCards
import Derived.Test.YtlgmapibifphaaaDoorTie
import Derived.Test.YtlgmapibifphaaaDoorSpObj2x
import Derived.Test.YtlgmapibifphaaaDoorMdFJoinx
import Derived.Test.YtlgmapibifphaaaDoorMdFRun
import Derived.Test.YtlgmapibifphaaaDoorMdFLaw18x

namespace Go.Proofs.YtlgmapibifphaaaDoor.mendFewest
open Go.ChangeShapes Go.WideShapes Go.ChangeAt Go.RowKit Go.Sp Go.MdFM

theorem own:ownKnob Tryd.prog.godebug = none:=by kernel_rfl
theorem gTab : Tryd.prog.globalNamed "math/bits.deBruijn32tab" = some 0 := by kernel_rfl
theorem gTabType:(Tryd.prog.globals[0]?).map (·.type) = some 107:=by kernel_rfl
theorem cells3:Tryd.prog.cellsOf 3 = 1:=by kernel_rfl
theorem cells5:Tryd.prog.cellsOf 5 = 1:=by kernel_rfl
theorem cells51:Tryd.prog.cellsOf 51 = 2:=by kernel_rfl
theorem cells107:Tryd.prog.cellsOf 107 = 32:=by kernel_rfl
theorem mixed:Tryd.prog.follows .mixedOrders = true:=by kernel_rfl
theorem kids:Kids Tryd.prog (· < Tryd.prog.types.size):=kids_rows (by kernel_rfl) (by kernel_rfl)
theorem full:∀ t e,t < Tryd.prog.types.size→Tryd.prog.underlying t = some (.slice e)→0 < Tryd.prog.cellsOf e:=slices_full_of _ (by kernel_rfl)
theorem size:Tryd.prog.types.size = 125:=by kernel_rfl
theorem small:∀ t ∈ Tryd.f9.params.toList,t < Tryd.prog.types.size:=by
 rw [Tryd.params9,size]
 intro t ht
 simp only [List.mem_cons,List.not_mem_nil,or_false] at ht
 rcases ht with rfl | rfl <;> decide
theorem lt24:24 < Tryd.prog.types.size:=by rw [size];decide
theorem lt27:27 < Tryd.prog.types.size:=by rw [size];decide
theorem res:Tryd.f9.resultTypes = #[4]:=by kernel_rfl
set_option maxRecDepth 100000 in
theorem ws24:Tryd.pinned.checked.prog.wantsStandIn 24 = false:=by kernel_rfl
set_option maxRecDepth 100000 in
theorem ws27:Tryd.pinned.checked.prog.wantsStandIn 27 = false:=by kernel_rfl
theorem plain24:plainTy Tryd.prog 6 24 = true:=by kernel_rfl
theorem plain27:plainTy Tryd.prog 6 27 = true:=by kernel_rfl

def tabI:List Int:=[0,1,28,2,29,14,24,3,30,22,20,15,25,17,4,8,31,27,13,23,21,19,16,7,26,12,18,6,11,5,10,9]
theorem tabI_eq:(tabI.map fun z=>Value.int .u8 z) = tab0:=rfl
theorem table {W : World} (h : laidMetH Tryd.prog Rows.mendFewestRow.laid W) : Lib.TabIs Tryd.prog W "math/bits.deBruijn32tab" .u8 tabI :=
 Lib.tabIs_of_head (rest:=[]) gTab gTabType Tryd.underlying107 Tryd.underlying5 cells5 cells107 h

theorem works:PureOk Tryd.prog tabs 12 (fun args=>ll args (some (.bool true)) fun _ _=>none):=pureOk_closed MdF.ttOk MdF.fnsOk mixed worksRun
theorem law:PureOk Tryd.prog [tab0] 9 (puN 30 9):=MdF.pu_ok mixed works 30 9 (by kernel_rfl)

theorem walk (W : World) (h : laidMetH Tryd.prog Rows.mendFewestRow.laid W) (H : Type) (enc : TypeId × Value → H) (args : Array Value) (ds gs : List (DataW H)) (before : List MemPlace) (base : Nat)
 (hval:OkArgs Tryd.prog Tryd.f9 W base args)
 (hW:DataW.Whole enc Tryd.prog Tryd.f9.params.toList Rows.mendFewestSpec.vars false W args.toList ds gs before) :
 Calls Tryd.prog 9 args W fun e W'=>e = .returned (.bool true)∧GrownB W W':=by
 obtain ⟨p,q,hA,_⟩:=hW
 rw [Tryd.params9] at hA
 obtain ⟨v,v',d,d',q1,q2,hargs,_,_,⟨f1,h1⟩,⟨f2,h2⟩⟩:=trodAll_two hA
 subst hargs
 obtain ⟨R,hR1,hR2,hs⟩:=Go.Sp.start (table h) gTab (by decide)
 rw [tabI_eq] at hs
 obtain ⟨cs0,ha0⟩:=OkArgs.struct (P:=Tryd.prog) (f:=Tryd.f9) (W:=W) (base:=base) (args:=#[v,v']) (by assumption) 0 (by rw [Tryd.params9];rfl) rfl Tryd.underlying24
 obtain ⟨sa1,sl1,sc1,ha1⟩:=OkArgs.slice (P:=Tryd.prog) (f:=Tryd.f9) (W:=W) (base:=base) (args:=#[v,v']) (by assumption) 1 (by rw [Tryd.params9];rfl) rfl Tryd.underlying27
 clear hval
 subst ha0;subst ha1
 obtain ⟨xs0,hv0,hcl0,hsh0⟩:=read_ok (R:=R) kids full hR2 6 f1 24 _ _ lt24 plain24 h1
 obtain ⟨ls1,hl1,rfl,hf1⟩:=(hsh0).struct_inv Tryd.underlying24
 obtain ⟨y1_0,y1_1,y1_2,hy1⟩:∃ y1_0 y1_1 y1_2,ls1 = [y1_0,y1_1,y1_2]:=by
  match ls1,hl1 with
  | [x0,x1,x2],_=>exact ⟨x0,x1,x2,rfl⟩
 subst hy1
 obtain ⟨p0_0,rfl,w_p0_0⟩:=(hf1 0 _ y1_0 rfl rfl).int_inv Tryd.underlying3
 obtain ⟨p0_1,rfl,len_p0_1,w_p0_1⟩:=(hf1 1 _ y1_1 rfl rfl).ints Tryd.underlying22 Tryd.underlying3 cells3
 obtain ⟨p0_2,rfl,len_p0_2,w_p0_2⟩:=(hf1 2 _ y1_2 rfl rfl).ints Tryd.underlying22 Tryd.underlying3 cells3
 obtain ⟨xs1,hv1,hcl1,hsh1⟩:=read_ok (R:=R) kids full hR2 6 f2 27 _ _ lt27 plain27 h2
 obtain ⟨p1,rfl,len_p1⟩:=(hsh1).pairs Tryd.underlying27 Tryd.underlying51 Tryd.underlying3 cells51
 have hm:=pFewest 0 0 0 p0_0 p0_1 p0_2 p1
 have hm:puN 30 9 [.agg ⟨[.int .i64 p0_0,S 0 p0_1,S 0 p0_2]⟩,Sl.v 2 ⟨(p1).length,0,(p1).flatMap fun p=>[I p.1,I p.2]⟩] = some (.bool true):=hm
 generalize ha:([.agg ⟨[.int .i64 p0_0,S 0 p0_1,S 0 p0_2]⟩,Sl.v 2 ⟨(p1).length,0,(p1).flatMap fun p=>[I p.1,I p.2]⟩]:List Value) = args at hm
 refine law_true law (args:=args) hm ?_ hR1 hs ?_
 ·rw [← ha]; intro x hx
  simp at hx
  rcases hx with rfl | rfl <;> rfl
 ·rw [←ha];exact .cons (.agg hv0.1 hv0.2) (.cons (hv1.2 0 _ _ rfl rfl) (.nil))

theorem contract (H : Type) (enc : TypeId × Value → H) (W : World) (args : Array Value) (ds gs : List (DataW H)) (before : List MemPlace) {base : Nat}
 (hval:OkArgs Tryd.prog Tryd.f9 W base args)
 (hW:DataW.Whole enc Tryd.prog Tryd.f9.params.toList Rows.mendFewestSpec.vars false W args.toList ds gs before) (hL:laidMetH Tryd.prog Rows.mendFewestRow.laid W) :
 Calls Tryd.prog 9 args W fun e W'=>∃ v,e = .returned v∧Rows.mendFewestSpec.post enc Tryd.prog Tryd.f9 false true false false W args v W':=by
 have hd:Rows.mendFewestSpec.fn H ds = { results:=[.lit (.bool true)],args:=ds }:=by
  obtain ⟨p,q,hA,_⟩:=hW
  rw [Tryd.params9] at hA
  obtain ⟨_,_,d1,d2,_,_,_,rfl,_⟩:=trodAll_two hA
  rfl
 exact post_trueA kids full small hW rfl hd res Tryd.underlying4 (walk W hL H enc args ds gs before base (by assumption) hW)

noncomputable def laidWorld (os:Os):World:=
 { World.holding Tryd.prog os ⟨#[], #[], []⟩ with heap := (World.holding Tryd.prog os ⟨#[], #[], []⟩).heap.modify 0 fun
  | .cells _ t frozen=>.cells (tabI.map fun z=>Value.int .u8 z).toArray t frozen
  | o=>o }
def wArgs:Array Value:=#[.agg #[.int .i64 0,.slice none 0 0,.slice none 0 0],.slice none 0 0]
set_option maxRecDepth 100000 in
theorem laid_met (os:Os):laidMet Tryd.prog Rows.mendFewestRow.laid ((laidWorld os).forCall (fun _ _=>0) ⟨#[],wArgs,[]⟩).memory:=
 laidMet_of_run' 8 (by kernel_rfl) (by kernel_rfl)
set_option maxRecDepth 100000 in
theorem reads (os : Os) {H : Type} (enc : TypeId × Value → H) : ∃ places, DataW.whole enc Tryd.prog ((laidWorld os).forCall (fun _ _ => 0) ⟨#[], wArgs, []⟩).memory Tryd.f9.params.toList Rows.mendFewestSpec.vars false wArgs.toList 8 =
 some ([.agg [.lit (.int .i64 0),.nil,.nil],.nil],[],places):=
 ⟨[],by kernel_rfl⟩

set_option maxRecDepth 100000 in
theorem lifted (os : Os) (started : os.Started) (H : Type) (enc : TypeId × Value → H) (F : Stop.Interp) :
 ReturnsInHanded {} Tryd.checked os 9 .any ((OpenSpec.ofChange Rows.mendFewestSpec).preRow enc Tryd.prog Tryd.f9 Rows.mendFewestRow.domain false Rows.mendFewestRow.laid) (((OpenSpec.ofChange Rows.mendFewestSpec).at F).post enc Tryd.prog Tryd.f9 false true false false):=by
 obtain ⟨places,hx⟩:=reads os enc
 refine handed_of (C := Tryd.checked) (s := OpenSpec.ofChange Rows.mendFewestSpec) own started (by kernel_rfl) Tryd.func9
  (witness_row_at (enc := enc) (C := Tryd.checked) false (laidWorld os) wArgs rfl (by kernel_rfl) (by kernel_rfl) (by kernel_rfl)
    (OpenSpec.preRow_of_cond 8 hx (by kernel_rfl) (fun k hk=>by cases hk) (by kernel_rfl) (laid_met os))) ?_
 intro W base args ds gs before hval hW hL
 exact contract H enc W args ds gs before (base:=base) (by assumption) hW hL

theorem said:Rows.MendFewestSaid:=
 OpenClaim.holds_of_cond 9 Tryd.f9 rfl rfl rfl rfl rfl rfl rfl ⟨rfl, rfl, rfl, rfl, rfl⟩ rfl rfl rfl rfl rfl (by kernel_rfl) Tryd.func9 (by kernel_rfl)
  (of_decide_eq_true (by kernel_rfl)) (by unfold Func.isWrapper;first | (rw [if_pos (by decide +kernel)];kernel_rfl) | (rw [if_neg (by decide +kernel)];exact ⟨rfl,rfl⟩))
  (fun os started H enc _ F=>by rw [OpenClaim.pre_eq_preRow];exact lifted os started H enc F)

theorem plain (f : FuncId) (fn : Func) (hf : Tryd.pinned.checked.prog.funcNamed "spadille/spadillelaw09.MendFewest" = some f) (hfn : Tryd.pinned.checked.prog.funcs[f]? = some fn) :
 false = Tryd.pinned.checked.prog.looks []∧∀ (j:Nat) t,fn.params[j]? = some t→Tryd.pinned.checked.prog.wantsStandIn t = false:=by
 obtain rfl : f = 9 := Option.some.inj ((show Tryd.prog.funcNamed "spadille/spadillelaw09.MendFewest" = some 9 by kernel_rfl).symm.trans hf) |>.symm
 obtain rfl:fn = Tryd.f9:=(Option.some.inj (Tryd.func9.symm.trans hfn)).symm
 refine ⟨by kernel_rfl,fun j t ht=>?_⟩
 rw [Tryd.params9] at ht
 match j,ht with
 | 0,ht=>have e:(24:Nat) = t:=Option.some.inj ht;rw [←e];exact ws24
 | 1,ht=>have e:(27:Nat) = t:=Option.some.inj ht;rw [←e];exact ws27
 | j + 2,ht=>simp at ht

theorem card:Rows.MendFewestCardSaid:=
 Claim7.holds_tied_plain_at .later [] _ _ _ _ said (fun _ h=>by cases h) (by kernel_rfl) (fun _ h=>by cases h) mendFewest_row_tie rfl ⟨rfl,rfl⟩ (by kernel_rfl) rfl plain (by kernel_rfl)
end Go.Proofs.YtlgmapibifphaaaDoor.mendFewest
