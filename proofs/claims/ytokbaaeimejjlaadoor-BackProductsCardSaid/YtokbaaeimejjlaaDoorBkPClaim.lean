/- Made from wip. -/
import Derived.Test.YtokbaaeimejjlaaDoorCards
import Derived.Test.YtokbaaeimejjlaaDoorTie
import Derived.Test.YtokbaaeimejjlaaDoorSpMorex
import Derived.Test.YtokbaaeimejjlaaDoorBkChunkx
import Derived.Test.YtokbaaeimejjlaaDoorBkPTow

namespace Go.Proofs.YtokbaaeimejjlaaDoor.backProducts
open Go.ChangeShapes Go.WideShapes Go.ChangeAt Go.RowKit Go.Sp Go.BkPM

theorem own:ownKnob Tryd.prog.godebug = none:=by kernel_rfl
theorem gTab : Tryd.prog.globalNamed "math/bits.deBruijn32tab" = some 0 := by kernel_rfl
theorem gTabType:(Tryd.prog.globals[0]?).map (·.type) = some 98:=by kernel_rfl
theorem cells5:Tryd.prog.cellsOf 5 = 1:=by kernel_rfl
theorem cells98:Tryd.prog.cellsOf 98 = 32:=by kernel_rfl
theorem mixed:Tryd.prog.follows .mixedOrders = true:=by kernel_rfl
theorem kids:Kids Tryd.prog (· < Tryd.prog.types.size):=kids_rows (by kernel_rfl) (by kernel_rfl)
theorem full:∀ t e,t < Tryd.prog.types.size→Tryd.prog.underlying t = some (.slice e)→0 < Tryd.prog.cellsOf e:=slices_full_of _ (by kernel_rfl)
theorem size:Tryd.prog.types.size = 156:=by kernel_rfl
theorem small:∀ t ∈ Tryd.f6.params.toList,t < Tryd.prog.types.size:=by
 rw [Tryd.params6,size]
 intro t ht
 simp only [List.mem_cons,List.not_mem_nil,or_false] at ht
 rcases ht with rfl | rfl <;> decide
theorem lt48:48 < Tryd.prog.types.size:=by rw [size];decide
theorem res:Tryd.f6.resultTypes = #[4]:=by kernel_rfl
set_option maxRecDepth 100000 in
theorem ws5:Tryd.pinned.checked.prog.wantsStandIn 5 = false:=by kernel_rfl
set_option maxRecDepth 100000 in
theorem ws48:Tryd.pinned.checked.prog.wantsStandIn 48 = false:=by kernel_rfl
theorem plain48:plainTy Tryd.prog 6 48 = true:=by kernel_rfl

def tabI:List Int:=[0,1,28,2,29,14,24,3,30,22,20,15,25,17,4,8,31,27,13,23,21,19,16,7,26,12,18,6,11,5,10,9]
theorem tabI_eq:(tabI.map fun z=>Value.int .u8 z) = tab0:=rfl
theorem table {W : World} (h : laidMetH Tryd.prog Rows.backProductsRow.laid W) : Lib.TabIs Tryd.prog W "math/bits.deBruijn32tab" .u8 tabI :=
 Lib.tabIs_of_head (rest:=[]) gTab gTabType Tryd.underlying98 Tryd.underlying5 cells5 cells98 h

theorem wfN8 {n:Int} (h:(Lit.int .u8 n).wf = true):∃ k:Nat,n = Int.ofNat k∧k < 256:=by
 simp only [Lit.wf,Bool.and_eq_true,decide_eq_true_eq] at h
 have h1:(0:Int)≤n:=h.1
 have h2:n≤(255:Int):=h.2
 exact ⟨n.toNat,by show n = ((n.toNat:Nat):Int);omega,by omega⟩
theorem law:PureOk Tryd.prog [tab0] 6 (puN 9 6):=BkP.lawOk mixed

theorem walk (W : World) (h : laidMetH Tryd.prog Rows.backProductsRow.laid W) (H : Type) (enc : TypeId × Value → H) (args : Array Value) (ds gs : List (DataW H)) (before : List MemPlace) (base : Nat)
 (hval:OkArgs Tryd.prog Tryd.f6 W base args)
 (hW:DataW.Whole enc Tryd.prog Tryd.f6.params.toList Rows.backProductsSpec.vars false W args.toList ds gs before) :
 Calls Tryd.prog 6 args W fun e W'=>e = .returned (.bool true)∧GrownB W W':=by
 obtain ⟨p,q,hA,_⟩:=hW
 rw [Tryd.params6] at hA
 obtain ⟨v,v',d,d',q1,q2,hargs,_,_,⟨f1,h1⟩,⟨f2,h2⟩⟩:=trodAll_two hA
 subst hargs
 obtain ⟨R,hR1,hR2,hs⟩:=Go.Sp.start (table h) gTab (by decide)
 rw [tabI_eq] at hs
 obtain ⟨cs0,ha0⟩:=OkArgs.array (P:=Tryd.prog) (f:=Tryd.f6) (W:=W) (base:=base) (args:=#[v,v']) (by assumption) 0 (by rw [Tryd.params6];rfl) rfl Tryd.underlying48
 obtain ⟨a1,ha1,w1⟩:=OkArgs.int (P:=Tryd.prog) (f:=Tryd.f6) (W:=W) (base:=base) (args:=#[v,v']) (by assumption) 1 (by rw [Tryd.params6];rfl) rfl Tryd.underlying5
 clear hval
 subst ha0;subst ha1
 obtain ⟨xs0,hv0,hcl0,hsh0⟩:=read_ok (R:=R) kids full hR2 6 f1 48 _ _ lt48 plain48 h1
 obtain ⟨ls1,hl1,rfl,hf1⟩:=(hsh0).array_inv Tryd.underlying48
 obtain ⟨y1_0,y1_1,y1_2,y1_3,y1_4,y1_5,y1_6,y1_7,y1_8,hy1⟩:∃ y1_0 y1_1 y1_2 y1_3 y1_4 y1_5 y1_6 y1_7 y1_8,ls1 = [y1_0,y1_1,y1_2,y1_3,y1_4,y1_5,y1_6,y1_7,y1_8]:=by
  match ls1,hl1 with
  | [x0,x1,x2,x3,x4,x5,x6,x7,x8],_=>exact ⟨x0,x1,x2,x3,x4,x5,x6,x7,x8,rfl⟩
 subst hy1
 obtain ⟨p0_0,rfl,w_p0_0⟩:=(hf1 y1_0 (by simp)).int_inv Tryd.underlying5
 obtain ⟨p0_1,rfl,w_p0_1⟩:=(hf1 y1_1 (by simp)).int_inv Tryd.underlying5
 obtain ⟨p0_2,rfl,w_p0_2⟩:=(hf1 y1_2 (by simp)).int_inv Tryd.underlying5
 obtain ⟨p0_3,rfl,w_p0_3⟩:=(hf1 y1_3 (by simp)).int_inv Tryd.underlying5
 obtain ⟨p0_4,rfl,w_p0_4⟩:=(hf1 y1_4 (by simp)).int_inv Tryd.underlying5
 obtain ⟨p0_5,rfl,w_p0_5⟩:=(hf1 y1_5 (by simp)).int_inv Tryd.underlying5
 obtain ⟨p0_6,rfl,w_p0_6⟩:=(hf1 y1_6 (by simp)).int_inv Tryd.underlying5
 obtain ⟨p0_7,rfl,w_p0_7⟩:=(hf1 y1_7 (by simp)).int_inv Tryd.underlying5
 obtain ⟨p0_8,rfl,w_p0_8⟩:=(hf1 y1_8 (by simp)).int_inv Tryd.underlying5
 obtain ⟨a10,e0,h20⟩:=wfN8 w_p0_0
 obtain ⟨a11,e1,h21⟩:=wfN8 w_p0_1
 obtain ⟨a12,e2,h22⟩:=wfN8 w_p0_2
 obtain ⟨a13,e3,h23⟩:=wfN8 w_p0_3
 obtain ⟨a14,e4,h24⟩:=wfN8 w_p0_4
 obtain ⟨a15,e5,h25⟩:=wfN8 w_p0_5
 obtain ⟨a16,e6,h26⟩:=wfN8 w_p0_6
 obtain ⟨a17,e7,h27⟩:=wfN8 w_p0_7
 obtain ⟨a18,e8,h28⟩:=wfN8 w_p0_8
 obtain ⟨z,ez,hz⟩:=wfN8 w1
 have hm:=Go.BkQ.law 0 hz h20 h21 h22 h23 h24 h25 h26 h27 h28
 rw [←e0,←e1,←e2,←e3,←e4,←e5,←e6,←e7,←e8,←ez] at hm
 refine law_true law (args:=[.agg ⟨[.int .u8 p0_0,.int .u8 p0_1,.int .u8 p0_2,.int .u8 p0_3,.int .u8 p0_4,.int .u8 p0_5,.int .u8 p0_6,.int .u8 p0_7,.int .u8 p0_8]⟩,.int .u8 a1]) hm ?_ hR1 hs ?_
 ·intro x hx
  simp at hx
  rcases hx with rfl | rfl <;> rfl
 ·exact .cons (.agg hv0.1 hv0.2) (.cons (.int _ _) (.nil))

theorem contract (H : Type) (enc : TypeId × Value → H) (W : World) (args : Array Value) (ds gs : List (DataW H)) (before : List MemPlace) {base : Nat}
 (hval:OkArgs Tryd.prog Tryd.f6 W base args)
 (hW:DataW.Whole enc Tryd.prog Tryd.f6.params.toList Rows.backProductsSpec.vars false W args.toList ds gs before) (hL:laidMetH Tryd.prog Rows.backProductsRow.laid W) :
 Calls Tryd.prog 6 args W fun e W'=>∃ v,e = .returned v∧Rows.backProductsSpec.post enc Tryd.prog Tryd.f6 false true false false W args v W':=by
 have hd:Rows.backProductsSpec.fn H ds = { results:=[.lit (.bool true)],args:=ds }:=by
  obtain ⟨p,q,hA,_⟩:=hW
  rw [Tryd.params6] at hA
  obtain ⟨_,_,d1,d2,_,_,_,rfl,_⟩:=trodAll_two hA
  rfl
 exact post_trueA kids full small hW rfl hd res Tryd.underlying4 (walk W hL H enc args ds gs before base (by assumption) hW)

noncomputable def laidWorld (os:Os):World:=
 { World.holding Tryd.prog os ⟨#[], #[], []⟩ with heap := (World.holding Tryd.prog os ⟨#[], #[], []⟩).heap.modify 0 fun
  | .cells _ t frozen=>.cells (tabI.map fun z=>Value.int .u8 z).toArray t frozen
  | o=>o }
def wArgs:Array Value:=#[.agg #[.int .u8 0,.int .u8 0,.int .u8 0,.int .u8 0,.int .u8 0,.int .u8 0,.int .u8 0,.int .u8 0,.int .u8 0],.int .u8 0]
set_option maxRecDepth 100000 in
theorem laid_met (os:Os):laidMet Tryd.prog Rows.backProductsRow.laid ((laidWorld os).forCall (fun _ _=>0) ⟨#[],wArgs,[]⟩).memory:=
 laidMet_of_run' 8 (by kernel_rfl) (by kernel_rfl)
set_option maxRecDepth 100000 in
theorem reads (os : Os) {H : Type} (enc : TypeId × Value → H) : ∃ places, DataW.whole enc Tryd.prog ((laidWorld os).forCall (fun _ _ => 0) ⟨#[], wArgs, []⟩).memory Tryd.f6.params.toList Rows.backProductsSpec.vars false wArgs.toList 8 =
 some ([.agg [.lit (.int .u8 0),.lit (.int .u8 0),.lit (.int .u8 0),.lit (.int .u8 0),.lit (.int .u8 0),.lit (.int .u8 0),.lit (.int .u8 0),.lit (.int .u8 0),.lit (.int .u8 0)],.lit (.int .u8 0)],[],places):=
 ⟨[],by kernel_rfl⟩

set_option maxRecDepth 100000 in
theorem lifted (os : Os) (started : os.Started) (H : Type) (enc : TypeId × Value → H) (F : Stop.Interp) :
 ReturnsInHanded {} Tryd.checked os 6 .any ((OpenSpec.ofChange Rows.backProductsSpec).preRow enc Tryd.prog Tryd.f6 Rows.backProductsRow.domain false Rows.backProductsRow.laid) (((OpenSpec.ofChange Rows.backProductsSpec).at F).post enc Tryd.prog Tryd.f6 false true false false):=by
 obtain ⟨places,hx⟩:=reads os enc
 refine handed_of (C := Tryd.checked) (s := OpenSpec.ofChange Rows.backProductsSpec) own started (by kernel_rfl) Tryd.func6
  (witness_row_at (enc := enc) (C := Tryd.checked) false (laidWorld os) wArgs rfl (by kernel_rfl) (by kernel_rfl) (by kernel_rfl)
    (OpenSpec.preRow_of_cond 8 hx (by kernel_rfl) (fun k hk=>by cases hk) (by kernel_rfl) (laid_met os))) ?_
 intro W base args ds gs before hval hW hL
 exact contract H enc W args ds gs before (base:=base) (by assumption) hW hL

theorem said:Rows.BackProductsSaid:=
 OpenClaim.holds_of_cond 6 Tryd.f6 rfl rfl rfl rfl rfl rfl rfl ⟨rfl, rfl, rfl, rfl, rfl⟩ rfl rfl rfl rfl rfl (by kernel_rfl) Tryd.func6 (by kernel_rfl)
  (of_decide_eq_true (by kernel_rfl)) (by unfold Func.isWrapper;first | (rw [if_pos (by decide +kernel)];kernel_rfl) | (rw [if_neg (by decide +kernel)];exact ⟨rfl,rfl⟩))
  (fun os started H enc _ F=>by rw [OpenClaim.pre_eq_preRow];exact lifted os started H enc F)

theorem plain (f : FuncId) (fn : Func) (hf : Tryd.pinned.checked.prog.funcNamed "spadille/spadillelaw03.BackProducts" = some f) (hfn : Tryd.pinned.checked.prog.funcs[f]? = some fn) :
 false = Tryd.pinned.checked.prog.looks []∧∀ (j:Nat) t,fn.params[j]? = some t→Tryd.pinned.checked.prog.wantsStandIn t = false:=by
 obtain rfl : f = 6 := Option.some.inj ((show Tryd.prog.funcNamed "spadille/spadillelaw03.BackProducts" = some 6 by kernel_rfl).symm.trans hf) |>.symm
 obtain rfl:fn = Tryd.f6:=(Option.some.inj (Tryd.func6.symm.trans hfn)).symm
 refine ⟨by kernel_rfl,fun j t ht=>?_⟩
 rw [Tryd.params6] at ht
 match j,ht with
 | 0,ht=>have e:(48:Nat) = t:=Option.some.inj ht;rw [←e];exact ws48
 | 1,ht=>have e:(5:Nat) = t:=Option.some.inj ht;rw [←e];exact ws5
 | j + 2,ht=>simp at ht

theorem card:Rows.BackProductsCardSaid:=
 Claim7.holds_tied_plain_at .later [] _ _ _ _ said (fun _ h=>by cases h) (by kernel_rfl) (fun _ h=>by cases h) backProducts_row_tie rfl ⟨rfl,rfl⟩ (by kernel_rfl) rfl plain (by kernel_rfl)
end Go.Proofs.YtokbaaeimejjlaaDoor.backProducts
