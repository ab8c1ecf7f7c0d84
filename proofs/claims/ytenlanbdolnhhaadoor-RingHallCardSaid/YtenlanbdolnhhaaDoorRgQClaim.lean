/- Made from wip. -/
import Derived.Test.YtenlanbdolnhhaaDoorCards
import Derived.Test.YtenlanbdolnhhaaDoorTie
import Derived.Test.YtenlanbdolnhhaaDoorSpObjx
import Derived.Test.YtenlanbdolnhhaaDoorRgQJoinx
import Derived.Test.YtenlanbdolnhhaaDoorRgQTow

namespace Go.Proofs.YtenlanbdolnhhaaDoor.ringHall
open Go.ChangeShapes Go.WideShapes Go.ChangeAt Go.RowKit Go.Sp Go.RgQM

theorem own:ownKnob Tryd.prog.godebug=none:=by kernel_rfl
theorem gTab : Tryd.prog.globalNamed "math/bits.deBruijn32tab" = some 0 := by kernel_rfl
theorem gTabType:(Tryd.prog.globals[0]?).map (·.type)=some 63:=by kernel_rfl
theorem cells5:Tryd.prog.cellsOf 5=1:=by kernel_rfl
theorem cells63:Tryd.prog.cellsOf 63=32:=by kernel_rfl
theorem mixed:Tryd.prog.follows .mixedOrders=true:=by kernel_rfl
theorem kids:Kids Tryd.prog (· < Tryd.prog.types.size):=kids_rows (by kernel_rfl) (by kernel_rfl)
theorem full:∀ t e,t < Tryd.prog.types.size→Tryd.prog.underlying t=some (.slice e)→0 < Tryd.prog.cellsOf e:=slices_full_of _ (by kernel_rfl)
theorem size:Tryd.prog.types.size=99:=by kernel_rfl
theorem small:∀ t∈Tryd.f3.params.toList,t < Tryd.prog.types.size:=by
 rw[Tryd.params3,size]
 intro t ht
 simp only[List.mem_cons,List.not_mem_nil,or_false] at ht
 rcases ht with rfl | rfl | rfl <;> decide
theorem res:Tryd.f3.resultTypes = #[4]:=by kernel_rfl
set_option maxRecDepth 100000 in
theorem ws5:Tryd.pinned.checked.prog.wantsStandIn 5=false:=by kernel_rfl

def tabI:List Int:=[0,1,28,2,29,14,24,3,30,22,20,15,25,17,4,8,31,27,13,23,21,19,16,7,26,12,18,6,11,5,10,9]
theorem tabI_eq:(tabI.map fun z=>Value.int .u8 z)=SK:=rfl
theorem table {W : World} (h : laidMetH Tryd.prog Rows.ringHallRow.laid W) : Lib.TabIs Tryd.prog W "math/bits.deBruijn32tab" .u8 tabI :=
 Lib.tabIs_of_head (rest:=[]) gTab gTabType Tryd.underlying63 Tryd.underlying5 cells5 cells63 h

theorem law:BA Tryd.prog [SK] 3 (m3 RgP.puB L):=RgQ.lawOk mixed

theorem walk (W:World) (h:laidMetH Tryd.prog Rows.ringHallRow.laid W) (H:Type) (enc:TypeId×Value→H) (args:Array Value) (ds gs:List (DataW H)) (before:List MemPlace) (base:Nat)
 (hval:Dw Tryd.prog Tryd.f3 W base args)
 (hW:DataW.Whole enc Tryd.prog Tryd.f3.params.toList Rows.ringHallSpec.vars false W args.toList ds gs before) :
 Calls Tryd.prog 3 args W fun e W'=>e = .returned (.bool true)∧J9 W W':=by
 obtain⟨p,q,hA,_⟩:=hW
 rw[Tryd.params3] at hA
 obtain⟨v,v',v'',d,d',d'',q1,q2,q3,hargs,_,_,⟨f1,h1⟩,⟨f2,h2⟩,⟨f3,h3⟩⟩:=trodAll_three hA
 subst hargs
 obtain⟨R,hR1,hR2,hs⟩:=Go.Sp.start (table h) gTab (by decide)
 rw[tabI_eq] at hs
 obtain⟨a0,ha0,w0⟩:=Dw.int (P:=Tryd.prog) (f:=Tryd.f3) (W:=W) (base:=base) (args:=#[v,v',v'']) (by assumption) 0 (by rw[Tryd.params3];rfl) rfl Tryd.underlying5
 obtain⟨a1,ha1,w1⟩:=Dw.int (P:=Tryd.prog) (f:=Tryd.f3) (W:=W) (base:=base) (args:=#[v,v',v'']) (by assumption) 1 (by rw[Tryd.params3];rfl) rfl Tryd.underlying5
 obtain⟨a2,ha2,w2⟩:=Dw.int (P:=Tryd.prog) (f:=Tryd.f3) (W:=W) (base:=base) (args:=#[v,v',v'']) (by assumption) 2 (by rw[Tryd.params3];rfl) rfl Tryd.underlying5
 clear hval
 subst ha0;subst ha1;subst ha2

 have hm:m3 RgP.puB L [.int .u8 a0,.int .u8 a1,.int .u8 a2]=some (.bool true):=RgP.hall_law a0 a1 a2 (RgQ.wfU w0).1 (RgQ.wfU w0).2 (RgQ.wfU w1).1 (RgQ.wfU w1).2 (RgQ.wfU w2).1 (RgQ.wfU w2).2
 generalize ha:([.int .u8 a0,.int .u8 a1,.int .u8 a2]:List Value)=args at hm
 refine bF law (args:=args) hm ?_ hR1 hs ?_
 ·rw[←ha];intro x hx
  simp at hx
  rcases hx with rfl | rfl | rfl <;> rfl
 ·rw[←ha];exact .cons (.int _ _) (.cons (.int _ _) (.cons (.int _ _) (.nil)))

theorem contract (H:Type) (enc:TypeId×Value→H) (W:World) (args:Array Value) (ds gs:List (DataW H)) (before:List MemPlace) {base:Nat}
 (hval:Dw Tryd.prog Tryd.f3 W base args)
 (hW:DataW.Whole enc Tryd.prog Tryd.f3.params.toList Rows.ringHallSpec.vars false W args.toList ds gs before) (hL:laidMetH Tryd.prog Rows.ringHallRow.laid W) :
 Calls Tryd.prog 3 args W fun e W'=>∃ v,e = .returned v∧Rows.ringHallSpec.post enc Tryd.prog Tryd.f3 false true false false W args v W':=by
 have hd:Rows.ringHallSpec.fn H ds = { results:=[.lit (.bool true)],args:=ds }:=by
  obtain⟨p,q,hA,_⟩:=hW
  rw[Tryd.params3] at hA
  obtain⟨_,_,_,d1,d2,d3,_,_,_,_,rfl,_⟩:=trodAll_three hA
  rfl
 exact VJ kids full small hW rfl hd res Tryd.underlying4 (walk W hL H enc args ds gs before base (by assumption) hW)

noncomputable def laidWorld (os:Os):World:=
 { World.holding Tryd.prog os ⟨#[], #[], []⟩ with heap := (World.holding Tryd.prog os ⟨#[], #[], []⟩).heap.modify 0 fun
  | .cells _ t frozen=>.cells (tabI.map fun z=>Value.int .u8 z).toArray t frozen
  | o=>o }
def wArgs:Array Value:=#[.int .u8 0,.int .u8 0,.int .u8 0]
set_option maxRecDepth 100000 in
theorem laid_met (os:Os):laidMet Tryd.prog Rows.ringHallRow.laid ((laidWorld os).forCall (fun _ _=>0) ⟨#[],wArgs,[]⟩).memory:=
 laidMet_of_run' 8 (by kernel_rfl) (by kernel_rfl)
set_option maxRecDepth 100000 in
theorem reads (os : Os) {H : Type} (enc : TypeId × Value → H) : ∃ places, DataW.whole enc Tryd.prog ((laidWorld os).forCall (fun _ _ => 0) ⟨#[], wArgs, []⟩).memory Tryd.f3.params.toList Rows.ringHallSpec.vars false wArgs.toList 8 =
 some ([.lit (.int .u8 0),.lit (.int .u8 0),.lit (.int .u8 0)],[],places):=
 ⟨[],by kernel_rfl⟩

set_option maxRecDepth 100000 in
theorem lifted (os:Os) (started:os.Started) (H:Type) (enc:TypeId×Value→H) (F:Stop.Interp) :
 ReturnsInHanded {} Tryd.checked os 3 .any ((OpenSpec.ofChange Rows.ringHallSpec).preRow enc Tryd.prog Tryd.f3 Rows.ringHallRow.domain false Rows.ringHallRow.laid) (((OpenSpec.ofChange Rows.ringHallSpec).at F).post enc Tryd.prog Tryd.f3 false true false false):=by
 obtain⟨places,hx⟩:=reads os enc
 refine Zj (C := Tryd.checked) (s := OpenSpec.ofChange Rows.ringHallSpec) own started (by kernel_rfl) Tryd.func3
  (witness_row_at (enc := enc) (C := Tryd.checked) false (laidWorld os) wArgs rfl (by kernel_rfl) (by kernel_rfl) (by kernel_rfl)
    (OpenSpec.preRow_of_cond 8 hx (by kernel_rfl) (fun k hk=>by cases hk) (by kernel_rfl) (laid_met os))) ?_
 intro W base args ds gs before hval hW hL
 exact contract H enc W args ds gs before (base:=base) (by assumption) hW hL

theorem said:Rows.RingHallSaid:=
 OpenClaim.holds_of_cond 3 Tryd.f3 rfl rfl rfl rfl rfl rfl rfl ⟨rfl, rfl, rfl, rfl, rfl⟩ rfl rfl rfl rfl rfl (by kernel_rfl) Tryd.func3 (by kernel_rfl)
  (of_decide_eq_true (by kernel_rfl)) (by unfold Func.isWrapper;first | (rw[if_pos (by decide +kernel)];kernel_rfl) | (rw[if_neg (by decide +kernel)];exact⟨rfl,rfl⟩))
  (fun os started H enc _ F=>by rw[OpenClaim.pre_eq_preRow];exact lifted os started H enc F)

theorem plain (f : FuncId) (fn : Func) (hf : Tryd.pinned.checked.prog.funcNamed "spadille/spadillelaw12.RingHall" = some f) (hfn : Tryd.pinned.checked.prog.funcs[f]? = some fn) :
 false=Tryd.pinned.checked.prog.looks []∧∀ (j:Nat) t,fn.params[j]?=some t→Tryd.pinned.checked.prog.wantsStandIn t=false:=by
 obtain rfl : f = 3 := Option.some.inj ((show Tryd.prog.funcNamed "spadille/spadillelaw12.RingHall" = some 3 by kernel_rfl).symm.trans hf) |>.symm
 obtain rfl:fn=Tryd.f3:=(Option.some.inj (Tryd.func3.symm.trans hfn)).symm
 refine⟨by kernel_rfl,fun j t ht=>?_⟩
 rw[Tryd.params3] at ht
 match j,ht with
 | 0,ht=>have e:(5:Nat)=t:=Option.some.inj ht;rw[←e];exact ws5
 | 1,ht=>have e:(5:Nat)=t:=Option.some.inj ht;rw[←e];exact ws5
 | 2,ht=>have e:(5:Nat)=t:=Option.some.inj ht;rw[←e];exact ws5
 | j+3,ht=>simp at ht

theorem card:Rows.RingHallCardSaid:=
 Claim7.holds_tied_plain_at .later [] _ _ _ _ said (fun _ h=>by cases h) (by kernel_rfl) (fun _ h=>by cases h) ringHall_row_tie rfl ⟨rfl,rfl⟩ (by kernel_rfl) rfl plain (by kernel_rfl)
end Go.Proofs.YtenlanbdolnhhaaDoor.ringHall
