/- Made from wip. -/
import Derived.Test.YtokbaaeimejjlaaDoorCards
import Derived.Test.YtokbaaeimejjlaaDoorTie
import Derived.Test.YtokbaaeimejjlaaDoorSpMorex
import Derived.Test.YtokbaaeimejjlaaDoorBkSJoinx
import Derived.Test.YtokbaaeimejjlaaDoorBkSTow

namespace Go.Proofs.YtokbaaeimejjlaaDoor.backShown
open Go.ChangeShapes Go.WideShapes Go.ChangeAt Go.RowKit Go.Sp Go.BkSM

theorem own:ownKnob Tryd.prog.godebug=none:=by kernel_rfl
theorem gTab : Tryd.prog.globalNamed "math/bits.deBruijn32tab" = some 0 := by kernel_rfl
theorem gTabType:(Tryd.prog.globals[0]?).map (·.type)=some 98:=by kernel_rfl
theorem cells5:Tryd.prog.cellsOf 5=1:=by kernel_rfl
theorem cells98:Tryd.prog.cellsOf 98=32:=by kernel_rfl
theorem mixed:Tryd.prog.follows .mixedOrders=true:=by kernel_rfl
theorem kids:Kids Tryd.prog (· < Tryd.prog.types.size):=kids_rows (by kernel_rfl) (by kernel_rfl)
theorem Uz:∀ t e,t < Tryd.prog.types.size→Tryd.prog.underlying t=some (.slice e)→0 < Tryd.prog.cellsOf e:=slices_full_of _ (by kernel_rfl)
theorem size:Tryd.prog.types.size=156:=by kernel_rfl
theorem small:∀ t∈Tryd.f4.params.toList,t < Tryd.prog.types.size:=by
 rw[Tryd.params4,size]
 intro t ht
 simp only[List.mem_cons,List.not_mem_nil,or_false] at ht
 subst ht;decide
theorem lt24:24 < Tryd.prog.types.size:=by rw[size];decide
theorem res:Tryd.f4.resultTypes = #[4]:=by kernel_rfl
set_option maxRecDepth 100000 in
theorem ws24:Tryd.pinned.checked.prog.wantsStandIn 24=false:=by kernel_rfl
theorem plain24:Io Tryd.prog 6 24=true:=by kernel_rfl

def tabI:List Int:=[0,1,28,2,29,14,24,3,30,22,20,15,25,17,4,8,31,27,13,23,21,19,16,7,26,12,18,6,11,5,10,9]
theorem tabI_eq:(tabI.map fun z=>Value.int .u8 z)=OY:=rfl
theorem table {W : World} (h : laidMetH Tryd.prog Rows.backShownRow.laid W) : Lib.TabIs Tryd.prog W "math/bits.deBruijn32tab" .u8 tabI :=
 Lib.tabIs_of_head (rest:=[]) gTab gTabType Tryd.underlying98 Tryd.underlying5 cells5 cells98 h

theorem wfN8 {n:Int} (h:(Lit.int .u8 n).wf=true):0≤n∧n < 256:=by
 simp only[Lit.wf,Bool.and_eq_true,decide_eq_true_eq] at h
 have h1:(0:Int)≤n:=h.1
 have h2:n≤(255:Int):=h.2
 exact⟨h1,by omega⟩
theorem law:BA Tryd.prog [OY] 4 (Bp 20 4):=BkS.lawOk mixed
theorem getB {l:List Int} (h:∀ z∈l,0≤z∧z < 256) (i:Nat):0≤l.getD i 0∧l.getD i 0 < 256:=by
 rw[List.getD_eq_getElem?_getD]
 cases e:l[i]? with
 | none=>exact⟨by decide,by decide⟩
 | some z=>exact h z (List.mem_of_getElem? e)

theorem walk (W:World) (h:laidMetH Tryd.prog Rows.backShownRow.laid W) (H:Type) (enc:TypeId×Value→H) (args:Array Value) (ds gs:List (DataW H)) (before:List MemPlace) (base:Nat)
 (hval:Dw Tryd.prog Tryd.f4 W base args)
 (hW:DataW.Whole enc Tryd.prog Tryd.f4.params.toList Rows.backShownSpec.vars false W args.toList ds gs before) :
 Calls Tryd.prog 4 args W fun e W'=>e = .returned (.bool true)∧J9 W W':=by
 obtain⟨p,q,hA,_⟩:=hW
 rw[Tryd.params4] at hA
 obtain⟨v,d,hargs,_,f1,h1⟩:=trodAll_one hA
 subst hargs
 obtain⟨R,hR1,hR2,hs⟩:=Go.Sp.start (table h) gTab (by decide)
 rw[tabI_eq] at hs
 obtain⟨cs0,ha0⟩:=Dw.struct (P:=Tryd.prog) (f:=Tryd.f4) (W:=W) (base:=base) (args:=#[v]) (by assumption) 0 (by rw[Tryd.params4];rfl) rfl Tryd.underlying24
 clear hval
 subst ha0
 obtain⟨xs0,hv0,hcl0,hsh0⟩:=XI (R:=R) kids Uz hR2 6 f1 24 _ _ lt24 plain24 h1
 obtain⟨ls1,hl1,rfl,hf1⟩:=(hsh0).struct_inv Tryd.underlying24
 obtain⟨y1_0,y1_1,y1_2,y1_3,y1_4,hy1⟩:∃ y1_0 y1_1 y1_2 y1_3 y1_4,ls1=[y1_0,y1_1,y1_2,y1_3,y1_4]:=by
  match ls1,hl1 with
  | [x0,x1,x2,x3,x4],_=>exact⟨x0,x1,x2,x3,x4,rfl⟩
 subst hy1
 obtain⟨p0_0,rfl,w_p0_0⟩:=(hf1 0 _ y1_0 rfl rfl).int_inv Tryd.underlying5
 obtain⟨p0_1,rfl,w_p0_1⟩:=(hf1 1 _ y1_1 rfl rfl).int_inv Tryd.underlying5
 obtain⟨p0_2,rfl,w_p0_2⟩:=(hf1 2 _ y1_2 rfl rfl).int_inv Tryd.underlying5
 obtain⟨p0_3,rfl,w_p0_3⟩:=(hf1 3 _ y1_3 rfl rfl).int_inv Tryd.underlying5
 obtain⟨ls2,hl2,rfl,hf2⟩:=(hf1 4 _ y1_4 rfl rfl).array_inv Tryd.underlying22
 obtain⟨y2_0,y2_1,y2_2,y2_3,y2_4,y2_5,y2_6,y2_7,y2_8,y2_9,y2_10,y2_11,y2_12,y2_13,y2_14,y2_15,hy2⟩:∃ y2_0 y2_1 y2_2 y2_3 y2_4 y2_5 y2_6 y2_7 y2_8 y2_9 y2_10 y2_11 y2_12 y2_13 y2_14 y2_15,ls2=[y2_0,y2_1,y2_2,y2_3,y2_4,y2_5,y2_6,y2_7,y2_8,y2_9,y2_10,y2_11,y2_12,y2_13,y2_14,y2_15]:=by
  match ls2,hl2 with
  | [x0,x1,x2,x3,x4,x5,x6,x7,x8,x9,x10,x11,x12,x13,x14,x15],_=>exact⟨x0,x1,x2,x3,x4,x5,x6,x7,x8,x9,x10,x11,x12,x13,x14,x15,rfl⟩
 subst hy2
 obtain⟨p0_4_0,rfl,w_p0_4_0⟩:=(hf2 y2_0 (by simp)).int_inv Tryd.underlying5
 obtain⟨p0_4_1,rfl,w_p0_4_1⟩:=(hf2 y2_1 (by simp)).int_inv Tryd.underlying5
 obtain⟨p0_4_2,rfl,w_p0_4_2⟩:=(hf2 y2_2 (by simp)).int_inv Tryd.underlying5
 obtain⟨p0_4_3,rfl,w_p0_4_3⟩:=(hf2 y2_3 (by simp)).int_inv Tryd.underlying5
 obtain⟨p0_4_4,rfl,w_p0_4_4⟩:=(hf2 y2_4 (by simp)).int_inv Tryd.underlying5
 obtain⟨p0_4_5,rfl,w_p0_4_5⟩:=(hf2 y2_5 (by simp)).int_inv Tryd.underlying5
 obtain⟨p0_4_6,rfl,w_p0_4_6⟩:=(hf2 y2_6 (by simp)).int_inv Tryd.underlying5
 obtain⟨p0_4_7,rfl,w_p0_4_7⟩:=(hf2 y2_7 (by simp)).int_inv Tryd.underlying5
 obtain⟨p0_4_8,rfl,w_p0_4_8⟩:=(hf2 y2_8 (by simp)).int_inv Tryd.underlying5
 obtain⟨p0_4_9,rfl,w_p0_4_9⟩:=(hf2 y2_9 (by simp)).int_inv Tryd.underlying5
 obtain⟨p0_4_10,rfl,w_p0_4_10⟩:=(hf2 y2_10 (by simp)).int_inv Tryd.underlying5
 obtain⟨p0_4_11,rfl,w_p0_4_11⟩:=(hf2 y2_11 (by simp)).int_inv Tryd.underlying5
 obtain⟨p0_4_12,rfl,w_p0_4_12⟩:=(hf2 y2_12 (by simp)).int_inv Tryd.underlying5
 obtain⟨p0_4_13,rfl,w_p0_4_13⟩:=(hf2 y2_13 (by simp)).int_inv Tryd.underlying5
 obtain⟨p0_4_14,rfl,w_p0_4_14⟩:=(hf2 y2_14 (by simp)).int_inv Tryd.underlying5
 obtain⟨p0_4_15,rfl,w_p0_4_15⟩:=(hf2 y2_15 (by simp)).int_inv Tryd.underlying5
 have hm:Bp 20 4 [.agg ⟨[.int .u8 p0_0,.int .u8 p0_1,.int .u8 p0_2,.int .u8 p0_3,.int .u8 p0_4_0,.int .u8 p0_4_1,.int .u8 p0_4_2,.int .u8 p0_4_3,.int .u8 p0_4_4,.int .u8 p0_4_5,.int .u8 p0_4_6,.int .u8 p0_4_7,.int .u8 p0_4_8,.int .u8 p0_4_9,.int .u8 p0_4_10,.int .u8 p0_4_11,.int .u8 p0_4_12,.int .u8 p0_4_13,.int .u8 p0_4_14,.int .u8 p0_4_15]⟩]=some (.bool true):=Go.BkQ.shown_law 4 p0_0 p0_1 p0_2 p0_3 (fun i=>[p0_4_0,p0_4_1,p0_4_2,p0_4_3,p0_4_4,p0_4_5,p0_4_6,p0_4_7,p0_4_8,p0_4_9,p0_4_10,p0_4_11,p0_4_12,p0_4_13,p0_4_14,p0_4_15].getD i 0) (wfN8 w_p0_0) (wfN8 w_p0_1) (wfN8 w_p0_2) (wfN8 w_p0_3) (getB (List.forall_mem_cons.2 ⟨wfN8 w_p0_4_0,List.forall_mem_cons.2 ⟨wfN8 w_p0_4_1,List.forall_mem_cons.2 ⟨wfN8 w_p0_4_2,List.forall_mem_cons.2 ⟨wfN8 w_p0_4_3,List.forall_mem_cons.2 ⟨wfN8 w_p0_4_4,List.forall_mem_cons.2 ⟨wfN8 w_p0_4_5,List.forall_mem_cons.2 ⟨wfN8 w_p0_4_6,List.forall_mem_cons.2 ⟨wfN8 w_p0_4_7,List.forall_mem_cons.2 ⟨wfN8 w_p0_4_8,List.forall_mem_cons.2 ⟨wfN8 w_p0_4_9,List.forall_mem_cons.2 ⟨wfN8 w_p0_4_10,List.forall_mem_cons.2 ⟨wfN8 w_p0_4_11,List.forall_mem_cons.2 ⟨wfN8 w_p0_4_12,List.forall_mem_cons.2 ⟨wfN8 w_p0_4_13,List.forall_mem_cons.2 ⟨wfN8 w_p0_4_14,List.forall_mem_cons.2 ⟨wfN8 w_p0_4_15,fun _ h=>by cases h⟩⟩⟩⟩⟩⟩⟩⟩⟩⟩⟩⟩⟩⟩⟩⟩))
 refine bF law (args:=[.agg ⟨[.int .u8 p0_0,.int .u8 p0_1,.int .u8 p0_2,.int .u8 p0_3,.int .u8 p0_4_0,.int .u8 p0_4_1,.int .u8 p0_4_2,.int .u8 p0_4_3,.int .u8 p0_4_4,.int .u8 p0_4_5,.int .u8 p0_4_6,.int .u8 p0_4_7,.int .u8 p0_4_8,.int .u8 p0_4_9,.int .u8 p0_4_10,.int .u8 p0_4_11,.int .u8 p0_4_12,.int .u8 p0_4_13,.int .u8 p0_4_14,.int .u8 p0_4_15]⟩]) hm ?_ hR1 hs ?_
 ·intro x hx
  simp at hx
  subst hx;rfl
 ·exact .cons (.agg hv0.1 hv0.2) (.nil)

theorem contract (H:Type) (enc:TypeId×Value→H) (W:World) (args:Array Value) (ds gs:List (DataW H)) (before:List MemPlace) {base:Nat}
 (hval:Dw Tryd.prog Tryd.f4 W base args)
 (hW:DataW.Whole enc Tryd.prog Tryd.f4.params.toList Rows.backShownSpec.vars false W args.toList ds gs before) (hL:laidMetH Tryd.prog Rows.backShownRow.laid W) :
 Calls Tryd.prog 4 args W fun e W'=>∃ v,e = .returned v∧Rows.backShownSpec.post enc Tryd.prog Tryd.f4 false true false false W args v W':=by
 have hd:Rows.backShownSpec.fn H ds = { results:=[.lit (.bool true)],args:=ds }:=by
  obtain⟨p,q,hA,_⟩:=hW
  rw[Tryd.params4] at hA
  obtain⟨_,d1,_,rfl,_⟩:=trodAll_one hA
  rfl
 exact VJ kids Uz small hW rfl hd res Tryd.underlying4 (walk W hL H enc args ds gs before base (by assumption) hW)

noncomputable def laidWorld (os:Os):World:=
 { World.holding Tryd.prog os ⟨#[], #[], []⟩ with heap := (World.holding Tryd.prog os ⟨#[], #[], []⟩).heap.modify 0 fun
  | .cells _ t frozen=>.cells (tabI.map fun z=>Value.int .u8 z).toArray t frozen
  | o=>o }
def wArgs:Array Value:=#[.agg #[.int .u8 0,.int .u8 0,.int .u8 0,.int .u8 0,.int .u8 0,.int .u8 0,.int .u8 0,.int .u8 0,.int .u8 0,.int .u8 0,.int .u8 0,.int .u8 0,.int .u8 0,.int .u8 0,.int .u8 0,.int .u8 0,.int .u8 0,.int .u8 0,.int .u8 0,.int .u8 0]]
set_option maxRecDepth 100000 in
theorem laid_met (os:Os):laidMet Tryd.prog Rows.backShownRow.laid ((laidWorld os).forCall (fun _ _=>0) ⟨#[],wArgs,[]⟩).memory:=
 laidMet_of_run' 8 (by kernel_rfl) (by kernel_rfl)
set_option maxRecDepth 100000 in
theorem reads (os : Os) {H : Type} (enc : TypeId × Value → H) : ∃ places, DataW.whole enc Tryd.prog ((laidWorld os).forCall (fun _ _ => 0) ⟨#[], wArgs, []⟩).memory Tryd.f4.params.toList Rows.backShownSpec.vars false wArgs.toList 8 =
 some ([.agg [.lit (.int .u8 0),.lit (.int .u8 0),.lit (.int .u8 0),.lit (.int .u8 0),.agg [.lit (.int .u8 0),.lit (.int .u8 0),.lit (.int .u8 0),.lit (.int .u8 0),.lit (.int .u8 0),.lit (.int .u8 0),.lit (.int .u8 0),.lit (.int .u8 0),.lit (.int .u8 0),.lit (.int .u8 0),.lit (.int .u8 0),.lit (.int .u8 0),.lit (.int .u8 0),.lit (.int .u8 0),.lit (.int .u8 0),.lit (.int .u8 0)]]],[],places):=
 ⟨[],by kernel_rfl⟩

set_option maxRecDepth 100000 in
theorem lifted (os:Os) (started:os.Started) (H:Type) (enc:TypeId×Value→H) (F:Stop.Interp) :
 ReturnsInHanded {} Tryd.checked os 4 .any ((OpenSpec.ofChange Rows.backShownSpec).preRow enc Tryd.prog Tryd.f4 Rows.backShownRow.domain false Rows.backShownRow.laid) (((OpenSpec.ofChange Rows.backShownSpec).at F).post enc Tryd.prog Tryd.f4 false true false false):=by
 obtain⟨places,hx⟩:=reads os enc
 refine Zj (C := Tryd.checked) (s := OpenSpec.ofChange Rows.backShownSpec) own started (by kernel_rfl) Tryd.func4
  (witness_row_at (enc := enc) (C := Tryd.checked) false (laidWorld os) wArgs rfl (by kernel_rfl) (by kernel_rfl) (by kernel_rfl)
    (OpenSpec.preRow_of_cond 8 hx (by kernel_rfl) (fun k hk=>by cases hk) (by kernel_rfl) (laid_met os))) ?_
 intro W base args ds gs before hval hW hL
 exact contract H enc W args ds gs before (base:=base) (by assumption) hW hL

theorem said:Rows.BackShownSaid:=
 OpenClaim.holds_of_cond 4 Tryd.f4 rfl rfl rfl rfl rfl rfl rfl ⟨rfl, rfl, rfl, rfl, rfl⟩ rfl rfl rfl rfl rfl (by kernel_rfl) Tryd.func4 (by kernel_rfl)
  (of_decide_eq_true (by kernel_rfl)) (by unfold Func.isWrapper;first | (rw[if_pos (by decide +kernel)];kernel_rfl) | (rw[if_neg (by decide +kernel)];exact⟨rfl,rfl⟩))
  (fun os started H enc _ F=>by rw[OpenClaim.pre_eq_preRow];exact lifted os started H enc F)

theorem plain (f : FuncId) (fn : Func) (hf : Tryd.pinned.checked.prog.funcNamed "spadille/spadillelaw03.BackShown" = some f) (hfn : Tryd.pinned.checked.prog.funcs[f]? = some fn) :
 false=Tryd.pinned.checked.prog.looks []∧∀ (j:Nat) t,fn.params[j]?=some t→Tryd.pinned.checked.prog.wantsStandIn t=false:=by
 obtain rfl : f = 4 := Option.some.inj ((show Tryd.prog.funcNamed "spadille/spadillelaw03.BackShown" = some 4 by kernel_rfl).symm.trans hf) |>.symm
 obtain rfl:fn=Tryd.f4:=(Option.some.inj (Tryd.func4.symm.trans hfn)).symm
 refine⟨by kernel_rfl,fun j t ht=>?_⟩
 rw[Tryd.params4] at ht
 match j,ht with
 | 0,ht=>have e:(24:Nat)=t:=Option.some.inj ht;rw[←e];exact ws24
 | j+1,ht=>simp at ht

theorem card:Rows.BackShownCardSaid:=
 Claim7.holds_tied_plain_at .later [] _ _ _ _ said (fun _ h=>by cases h) (by kernel_rfl) (fun _ h=>by cases h) backShown_row_tie rfl ⟨rfl,rfl⟩ (by kernel_rfl) rfl plain (by kernel_rfl)
end Go.Proofs.YtokbaaeimejjlaaDoor.backShown
