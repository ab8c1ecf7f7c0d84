import Derived.Test.YtlgmapibifphaaaDoorCards
import Derived.Test.YtlgmapibifphaaaDoorTie
import Derived.Test.YtlgmapibifphaaaDoorSpObjx
import Derived.Test.YtlgmapibifphaaaDoorMnSJoinx
import Derived.Test.YtlgmapibifphaaaDoorMnSRun
import Derived.Test.YtlgmapibifphaaaDoorMnSKx
namespace Go.Proofs.YtlgmapibifphaaaDoor.mendSaved
open Go.ChangeShapes Go.WideShapes Go.ChangeAt Go.RowKit Go.Sp Go.MnSM
theorem own:ownKnob Tryd.prog.godebug=none:=by kernel_rfl
theorem gTab : Tryd.prog.globalNamed "math/bits.deBruijn32tab" = some 0 := by kernel_rfl
theorem gTabType:(Tryd.prog.globals[0]?).map (·.type)=some 107:=by kernel_rfl
theorem cells5:Tryd.prog.cellsOf 5=1:=by kernel_rfl
theorem cells107:Tryd.prog.cellsOf 107=32:=by kernel_rfl
theorem mixed:Tryd.prog.follows .mixedOrders=true:=by kernel_rfl
theorem kids:Kids Tryd.prog (· < Tryd.prog.types.size):=kids_rows (by kernel_rfl) (by kernel_rfl)
theorem full:∀ t e,t < Tryd.prog.types.size→Tryd.prog.underlying t=some (.slice e)→0 < Tryd.prog.cellsOf e:=slices_full_of _ (by kernel_rfl)
theorem size:Tryd.prog.types.size=125:=by kernel_rfl
theorem small:∀ t∈Tryd.f10.params.toList,t < Tryd.prog.types.size:=by
 rw[Tryd.params10,size]
 intro t ht
 simp only[List.mem_cons,List.not_mem_nil,or_false] at ht
 subst ht;decide
theorem lt45:45 < Tryd.prog.types.size:=by rw[size];decide
theorem res:Tryd.f10.resultTypes = #[4]:=by kernel_rfl
set_option maxRecDepth 100000 in
theorem ws45:Tryd.pinned.checked.prog.wantsStandIn 45=false:=by kernel_rfl
theorem plain45:Io Tryd.prog 6 45=true:=by kernel_rfl
def tabI:List Int:=[0,1,28,2,29,14,24,3,30,22,20,15,25,17,4,8,31,27,13,23,21,19,16,7,26,12,18,6,11,5,10,9]
theorem tabI_eq:(tabI.map λz=>Value.int .u8 z)=UY:=rfl
theorem table {W : World} (h : laidMetH Tryd.prog Rows.mendSavedRow.laid W) : Lib.TabIs Tryd.prog W "math/bits.deBruijn32tab" .u8 tabI :=
 Lib.tabIs_of_head (rest:=[]) gTab gTabType Tryd.underlying107 Tryd.underlying5 cells5 cells107 h
theorem works:BA Tryd.prog tabs 12 (λargs=>ll args (some (.bool true)) λ_ _=>none):=MJ MnS.ttOk MnS.fnsOk mixed gL
theorem law:BA Tryd.prog [UY] 10 (FK 32 10):=MnS.pu_ok mixed works 32 10 (by kernel_rfl)
theorem walk (W:World) (h:laidMetH Tryd.prog Rows.mendSavedRow.laid W) (H:Type) (enc:TypeId×Value→H) (args:Array Value) (ds gs:List (DataW H)) (before:List MemPlace) (base:Nat)
 (hval:Dw Tryd.prog Tryd.f10 W base args)
 (hW:DataW.Whole enc Tryd.prog Tryd.f10.params.toList Rows.mendSavedSpec.vars false W args.toList ds gs before) :
 Calls Tryd.prog 10 args W λe W'=>e = .returned (.bool true)∧J9 W W':=by
 obtain⟨p,q,hA,_⟩:=hW
 rw[Tryd.params10] at hA
 obtain⟨v,d,hargs,_,f1,h1⟩:=trodAll_one hA
 subst hargs
 obtain⟨R,hR1,hR2,hs⟩:=Go.Sp.start (table h) gTab (by decide)
 rw[tabI_eq] at hs
 obtain⟨cs0,ha0⟩:=Dw.struct (P:=Tryd.prog) (f:=Tryd.f10) (W:=W) (base:=base) (args:=#[v]) (by assumption) 0 (by rw[Tryd.params10];rfl) rfl Tryd.underlying45
 clear hval
 subst ha0
 obtain⟨xs0,hv0,hcl0,hsh0⟩:=XI (R:=R) kids full hR2 6 f1 45 _ _ lt45 plain45 h1
 obtain⟨ls1,hl1,rfl,hf1⟩:=(hsh0).struct_inv Tryd.underlying45
 obtain⟨y1_0,y1_1,y1_2,y1_3,hy1⟩:∃ y1_0 y1_1 y1_2 y1_3,ls1=[y1_0,y1_1,y1_2,y1_3]:=by
  match ls1,hl1 with
  | [x0,x1,x2,x3],_=>exact⟨x0,x1,x2,x3,rfl⟩
 subst hy1
 obtain⟨p0_0,rfl,w_p0_0⟩:=(hf1 0 _ y1_0 rfl rfl).int_inv Tryd.underlying5
 obtain⟨p0_1,rfl,w_p0_1⟩:=(hf1 1 _ y1_1 rfl rfl).int_inv Tryd.underlying5
 obtain⟨ls2,hl2,rfl,hf2⟩:=(hf1 2 _ y1_2 rfl rfl).array_inv Tryd.underlying43
 obtain⟨y2_0,y2_1,y2_2,y2_3,y2_4,y2_5,y2_6,y2_7,y2_8,y2_9,hy2⟩:∃ y2_0 y2_1 y2_2 y2_3 y2_4 y2_5 y2_6 y2_7 y2_8 y2_9,ls2=[y2_0,y2_1,y2_2,y2_3,y2_4,y2_5,y2_6,y2_7,y2_8,y2_9]:=by
  match ls2,hl2 with
  | [x0,x1,x2,x3,x4,x5,x6,x7,x8,x9],_=>exact⟨x0,x1,x2,x3,x4,x5,x6,x7,x8,x9,rfl⟩
 subst hy2
 obtain⟨p0_2_0,rfl,w_p0_2_0⟩:=(hf2 y2_0 (by simp)).int_inv Tryd.underlying5
 obtain⟨p0_2_1,rfl,w_p0_2_1⟩:=(hf2 y2_1 (by simp)).int_inv Tryd.underlying5
 obtain⟨p0_2_2,rfl,w_p0_2_2⟩:=(hf2 y2_2 (by simp)).int_inv Tryd.underlying5
 obtain⟨p0_2_3,rfl,w_p0_2_3⟩:=(hf2 y2_3 (by simp)).int_inv Tryd.underlying5
 obtain⟨p0_2_4,rfl,w_p0_2_4⟩:=(hf2 y2_4 (by simp)).int_inv Tryd.underlying5
 obtain⟨p0_2_5,rfl,w_p0_2_5⟩:=(hf2 y2_5 (by simp)).int_inv Tryd.underlying5
 obtain⟨p0_2_6,rfl,w_p0_2_6⟩:=(hf2 y2_6 (by simp)).int_inv Tryd.underlying5
 obtain⟨p0_2_7,rfl,w_p0_2_7⟩:=(hf2 y2_7 (by simp)).int_inv Tryd.underlying5
 obtain⟨p0_2_8,rfl,w_p0_2_8⟩:=(hf2 y2_8 (by simp)).int_inv Tryd.underlying5
 obtain⟨p0_2_9,rfl,w_p0_2_9⟩:=(hf2 y2_9 (by simp)).int_inv Tryd.underlying5
 obtain⟨ls3,hl3,rfl,hf3⟩:=(hf1 3 _ y1_3 rfl rfl).array_inv Tryd.underlying43
 obtain⟨y3_0,y3_1,y3_2,y3_3,y3_4,y3_5,y3_6,y3_7,y3_8,y3_9,hy3⟩:∃ y3_0 y3_1 y3_2 y3_3 y3_4 y3_5 y3_6 y3_7 y3_8 y3_9,ls3=[y3_0,y3_1,y3_2,y3_3,y3_4,y3_5,y3_6,y3_7,y3_8,y3_9]:=by
  match ls3,hl3 with
  | [x0,x1,x2,x3,x4,x5,x6,x7,x8,x9],_=>exact⟨x0,x1,x2,x3,x4,x5,x6,x7,x8,x9,rfl⟩
 subst hy3
 obtain⟨p0_3_0,rfl,w_p0_3_0⟩:=(hf3 y3_0 (by simp)).int_inv Tryd.underlying5
 obtain⟨p0_3_1,rfl,w_p0_3_1⟩:=(hf3 y3_1 (by simp)).int_inv Tryd.underlying5
 obtain⟨p0_3_2,rfl,w_p0_3_2⟩:=(hf3 y3_2 (by simp)).int_inv Tryd.underlying5
 obtain⟨p0_3_3,rfl,w_p0_3_3⟩:=(hf3 y3_3 (by simp)).int_inv Tryd.underlying5
 obtain⟨p0_3_4,rfl,w_p0_3_4⟩:=(hf3 y3_4 (by simp)).int_inv Tryd.underlying5
 obtain⟨p0_3_5,rfl,w_p0_3_5⟩:=(hf3 y3_5 (by simp)).int_inv Tryd.underlying5
 obtain⟨p0_3_6,rfl,w_p0_3_6⟩:=(hf3 y3_6 (by simp)).int_inv Tryd.underlying5
 obtain⟨p0_3_7,rfl,w_p0_3_7⟩:=(hf3 y3_7 (by simp)).int_inv Tryd.underlying5
 obtain⟨p0_3_8,rfl,w_p0_3_8⟩:=(hf3 y3_8 (by simp)).int_inv Tryd.underlying5
 obtain⟨p0_3_9,rfl,w_p0_3_9⟩:=(hf3 y3_9 (by simp)).int_inv Tryd.underlying5
 have hm:FK 32 10 [.agg ⟨[.int .u8 p0_0,.int .u8 p0_1,.int .u8 p0_2_0,.int .u8 p0_2_1,.int .u8 p0_2_2,.int .u8 p0_2_3,.int .u8 p0_2_4,.int .u8 p0_2_5,.int .u8 p0_2_6,.int .u8 p0_2_7,.int .u8 p0_2_8,.int .u8 p0_2_9,.int .u8 p0_3_0,.int .u8 p0_3_1,.int .u8 p0_3_2,.int .u8 p0_3_3,.int .u8 p0_3_4,.int .u8 p0_3_5,.int .u8 p0_3_6,.int .u8 p0_3_7,.int .u8 p0_3_8,.int .u8 p0_3_9]⟩]=some (.bool true):=X4 [p0_0,p0_1,p0_2_0,p0_2_1,p0_2_2,p0_2_3,p0_2_4,p0_2_5,p0_2_6,p0_2_7,p0_2_8,p0_2_9,p0_3_0,p0_3_1,p0_3_2,p0_3_3,p0_3_4,p0_3_5,p0_3_6,p0_3_7,p0_3_8,p0_3_9] rfl (List.forall_mem_cons.2 ⟨K5 w_p0_0,List.forall_mem_cons.2 ⟨K5 w_p0_1,List.forall_mem_cons.2 ⟨K5 w_p0_2_0,List.forall_mem_cons.2 ⟨K5 w_p0_2_1,List.forall_mem_cons.2 ⟨K5 w_p0_2_2,List.forall_mem_cons.2 ⟨K5 w_p0_2_3,List.forall_mem_cons.2 ⟨K5 w_p0_2_4,List.forall_mem_cons.2 ⟨K5 w_p0_2_5,List.forall_mem_cons.2 ⟨K5 w_p0_2_6,List.forall_mem_cons.2 ⟨K5 w_p0_2_7,List.forall_mem_cons.2 ⟨K5 w_p0_2_8,List.forall_mem_cons.2 ⟨K5 w_p0_2_9,List.forall_mem_cons.2 ⟨K5 w_p0_3_0,List.forall_mem_cons.2 ⟨K5 w_p0_3_1,List.forall_mem_cons.2 ⟨K5 w_p0_3_2,List.forall_mem_cons.2 ⟨K5 w_p0_3_3,List.forall_mem_cons.2 ⟨K5 w_p0_3_4,List.forall_mem_cons.2 ⟨K5 w_p0_3_5,List.forall_mem_cons.2 ⟨K5 w_p0_3_6,List.forall_mem_cons.2 ⟨K5 w_p0_3_7,List.forall_mem_cons.2 ⟨K5 w_p0_3_8,List.forall_mem_cons.2 ⟨K5 w_p0_3_9,λ_ h=>by cases h⟩⟩⟩⟩⟩⟩⟩⟩⟩⟩⟩⟩⟩⟩⟩⟩⟩⟩⟩⟩⟩⟩)
 refine bF law (args:=[.agg ⟨[.int .u8 p0_0,.int .u8 p0_1,.int .u8 p0_2_0,.int .u8 p0_2_1,.int .u8 p0_2_2,.int .u8 p0_2_3,.int .u8 p0_2_4,.int .u8 p0_2_5,.int .u8 p0_2_6,.int .u8 p0_2_7,.int .u8 p0_2_8,.int .u8 p0_2_9,.int .u8 p0_3_0,.int .u8 p0_3_1,.int .u8 p0_3_2,.int .u8 p0_3_3,.int .u8 p0_3_4,.int .u8 p0_3_5,.int .u8 p0_3_6,.int .u8 p0_3_7,.int .u8 p0_3_8,.int .u8 p0_3_9]⟩]) hm ?_ hR1 hs ?_
 ·intro x hx
  simp at hx
  subst hx;rfl
 ·exact .cons (.agg hv0.1 hv0.2) (.nil)
theorem contract (H:Type) (enc:TypeId×Value→H) (W:World) (args:Array Value) (ds gs:List (DataW H)) (before:List MemPlace) {base:Nat}
 (hval:Dw Tryd.prog Tryd.f10 W base args)
 (hW:DataW.Whole enc Tryd.prog Tryd.f10.params.toList Rows.mendSavedSpec.vars false W args.toList ds gs before) (hL:laidMetH Tryd.prog Rows.mendSavedRow.laid W) :
 Calls Tryd.prog 10 args W λe W'=>∃ v,e = .returned v∧Rows.mendSavedSpec.post enc Tryd.prog Tryd.f10 false true false false W args v W':=by
 have hd:Rows.mendSavedSpec.fn H ds = { results:=[.lit (.bool true)],args:=ds }:=by
  obtain⟨p,q,hA,_⟩:=hW
  rw[Tryd.params10] at hA
  obtain⟨_,d1,_,rfl,_⟩:=trodAll_one hA
  rfl
 exact VJ kids full small hW rfl hd res Tryd.underlying4 (walk W hL H enc args ds gs before base (by assumption) hW)
noncomputable def laidWorld (os:Os):World:=
 { World.holding Tryd.prog os ⟨#[], #[], []⟩ with heap := (World.holding Tryd.prog os ⟨#[], #[], []⟩).heap.modify 0 fun
  | .cells _ t frozen=>.cells (tabI.map λz=>Value.int .u8 z).toArray t frozen
  | o=>o }
def wArgs:Array Value:=#[.agg #[.int .u8 0,.int .u8 0,.int .u8 0,.int .u8 0,.int .u8 0,.int .u8 0,.int .u8 0,.int .u8 0,.int .u8 0,.int .u8 0,.int .u8 0,.int .u8 0,.int .u8 0,.int .u8 0,.int .u8 0,.int .u8 0,.int .u8 0,.int .u8 0,.int .u8 0,.int .u8 0,.int .u8 0,.int .u8 0]]
set_option maxRecDepth 100000 in
theorem laid_met (os:Os):laidMet Tryd.prog Rows.mendSavedRow.laid ((laidWorld os).forCall (λ_ _=>0) ⟨#[],wArgs,[]⟩).memory:=
 laidMet_of_run' 8 (by kernel_rfl) (by kernel_rfl)
set_option maxRecDepth 100000 in
theorem reads (os : Os) {H : Type} (enc : TypeId × Value → H) : ∃ places, DataW.whole enc Tryd.prog ((laidWorld os).forCall (fun _ _ => 0) ⟨#[], wArgs, []⟩).memory Tryd.f10.params.toList Rows.mendSavedSpec.vars false wArgs.toList 8 =
 some ([.agg [.lit (.int .u8 0),.lit (.int .u8 0),.agg [.lit (.int .u8 0),.lit (.int .u8 0),.lit (.int .u8 0),.lit (.int .u8 0),.lit (.int .u8 0),.lit (.int .u8 0),.lit (.int .u8 0),.lit (.int .u8 0),.lit (.int .u8 0),.lit (.int .u8 0)],.agg [.lit (.int .u8 0),.lit (.int .u8 0),.lit (.int .u8 0),.lit (.int .u8 0),.lit (.int .u8 0),.lit (.int .u8 0),.lit (.int .u8 0),.lit (.int .u8 0),.lit (.int .u8 0),.lit (.int .u8 0)]]],[],places):=
 ⟨[],by kernel_rfl⟩
set_option maxRecDepth 100000 in
theorem lifted (os:Os) (started:os.Started) (H:Type) (enc:TypeId×Value→H) (F:Stop.Interp) :
 ReturnsInHanded {} Tryd.checked os 10 .any ((OpenSpec.ofChange Rows.mendSavedSpec).preRow enc Tryd.prog Tryd.f10 Rows.mendSavedRow.domain false Rows.mendSavedRow.laid) (((OpenSpec.ofChange Rows.mendSavedSpec).at F).post enc Tryd.prog Tryd.f10 false true false false):=by
 obtain⟨places,hx⟩:=reads os enc
 refine Zj (C := Tryd.checked) (s := OpenSpec.ofChange Rows.mendSavedSpec) own started (by kernel_rfl) Tryd.func10
  (witness_row_at (enc := enc) (C := Tryd.checked) false (laidWorld os) wArgs rfl (by kernel_rfl) (by kernel_rfl) (by kernel_rfl)
    (OpenSpec.preRow_of_cond 8 hx (by kernel_rfl) (λk hk=>by cases hk) (by kernel_rfl) (laid_met os))) ?_
 intro W base args ds gs before hval hW hL
 exact contract H enc W args ds gs before (base:=base) (by assumption) hW hL
theorem said:Rows.MendSavedSaid:=
 OpenClaim.holds_of_cond 10 Tryd.f10 rfl rfl rfl rfl rfl rfl rfl ⟨rfl, rfl, rfl, rfl, rfl⟩ rfl rfl rfl rfl rfl (by kernel_rfl) Tryd.func10 (by kernel_rfl)
  (of_decide_eq_true (by kernel_rfl)) (by unfold Func.isWrapper;first | (rw[if_pos (by decide +kernel)];kernel_rfl) | (rw[if_neg (by decide +kernel)];exact⟨rfl,rfl⟩))
  (λos started H enc _ F=>by rw[OpenClaim.pre_eq_preRow];exact lifted os started H enc F)
theorem plain (f : FuncId) (fn : Func) (hf : Tryd.pinned.checked.prog.funcNamed "spadille/spadillelaw09.MendSaved" = some f) (hfn : Tryd.pinned.checked.prog.funcs[f]? = some fn) :
 false=Tryd.pinned.checked.prog.looks []∧∀ (j:Nat) t,fn.params[j]?=some t→Tryd.pinned.checked.prog.wantsStandIn t=false:=by
 obtain rfl : f = 10 := Option.some.inj ((show Tryd.prog.funcNamed "spadille/spadillelaw09.MendSaved" = some 10 by kernel_rfl).symm.trans hf) |>.symm
 obtain rfl:fn=Tryd.f10:=(Option.some.inj (Tryd.func10.symm.trans hfn)).symm
 refine⟨by kernel_rfl,λj t ht=>?_⟩
 rw[Tryd.params10] at ht
 match j,ht with
 | 0,ht=>have e:(45:Nat)=t:=Option.some.inj ht;rw[←e];exact ws45
 | j+1,ht=>simp at ht
theorem card:Rows.MendSavedCardSaid:=
 Claim7.holds_tied_plain_at .later [] _ _ _ _ said (λ_ h=>by cases h) (by kernel_rfl) (λ_ h=>by cases h) mendSaved_row_tie rfl ⟨rfl,rfl⟩ (by kernel_rfl) rfl plain (by kernel_rfl)
end Go.Proofs.YtlgmapibifphaaaDoor.mendSaved
