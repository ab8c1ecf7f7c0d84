/- Made from wip. -/
import Derived.Test.YtflonlkiajhhjaaGreatDoorCards
import Derived.Test.YtflonlkiajhhjaaGreatDoorTie
import Derived.Test.YtflonlkiajhhjaaGreatDoorSpClox
import Derived.Test.YtflonlkiajhhjaaGreatDoorSpObj3x
import Derived.Test.YtflonlkiajhhjaaGreatDoorTpDJoinx
import Derived.Test.YtflonlkiajhhjaaGreatDoorTpDLaw2

namespace Go.Proofs.YtflonlkiajhhjaaGreatDoor.topMoved
open Go.ChangeShapes Go.WideShapes Go.ChangeAt Go.RowKit Go.Sp Go.TpDM

theorem own:ownKnob Tryz.prog.godebug=none:=by kernel_rfl
theorem gTab : Tryz.prog.globalNamed "math/bits.deBruijn32tab" = some 0 := by kernel_rfl
theorem gTabType:(Tryz.prog.globals[0]?).map (·.type)=some 181:=by kernel_rfl
theorem gTab1 : Tryz.prog.globalNamed "math/bits.deBruijn64tab" = some 1 := by kernel_rfl
theorem gTab1Type:(Tryz.prog.globals[1]?).map (·.type)=some 267:=by kernel_rfl
theorem cells5:Tryz.prog.cellsOf 5=1:=by kernel_rfl
theorem cells181:Tryz.prog.cellsOf 181=32:=by kernel_rfl
theorem cells267:Tryz.prog.cellsOf 267=64:=by kernel_rfl
theorem mixed:Tryz.prog.follows .mixedOrders=true:=by kernel_rfl
theorem kids:Kids Tryz.prog (· < Tryz.prog.types.size):=kids_rows (by kernel_rfl) (by kernel_rfl)
theorem full:∀ t e,t < Tryz.prog.types.size→Tryz.prog.underlying t=some (.slice e)→0 < Tryz.prog.cellsOf e:=slices_full_of _ (by kernel_rfl)
theorem size:Tryz.prog.types.size=356:=by kernel_rfl
theorem small:∀ t∈Tryz.f3.params.toList,t < Tryz.prog.types.size:=by
 rw[Tryz.params3,size]
 intro t ht
 simp only[List.mem_cons,List.not_mem_nil,or_false] at ht
 rcases ht with rfl | rfl <;> decide
theorem lt22:22 < Tryz.prog.types.size:=by rw[size];decide
theorem res:Tryz.f3.resultTypes = #[4]:=by kernel_rfl
set_option maxRecDepth 100000 in
theorem ws5:Tryz.pinned.checked.prog.wantsStandIn 5=false:=by kernel_rfl
set_option maxRecDepth 100000 in
theorem ws22:Tryz.pinned.checked.prog.wantsStandIn 22=false:=by kernel_rfl
theorem plain22:Io Tryz.prog 6 22=true:=by kernel_rfl

def tabI:List Int:=[0,1,28,2,29,14,24,3,30,22,20,15,25,17,4,8,31,27,13,23,21,19,16,7,26,12,18,6,11,5,10,9]
theorem tabI_eq:(tabI.map fun z=>Value.int .u8 z)=Ps:=rfl

def tabI1:List Int:=[0,1,56,2,57,49,28,3,61,58,42,50,38,29,17,4,62,47,59,36,45,43,51,22,53,39,33,30,24,18,12,5,63,55,48,27,60,41,37,16,46,35,44,21,52,32,23,11,54,26,40,15,34,20,31,10,25,14,19,9,13,8,7,6]
theorem tabI1_eq:(tabI1.map fun z=>Value.int .u8 z)=Ay:=rfl
theorem table {W : World} (h : laidMetH Tryz.prog Rows.topMovedRow.laid W) : Lib.TabIs Tryz.prog W "math/bits.deBruijn32tab" .u8 tabI :=
 Lib.tabIs_of_head (rest := [("math/bits.deBruijn64tab", Lib.tabData .u8 tabI1)]) gTab gTabType Tryz.underlying181 Tryz.underlying5 cells5 cells181 h

theorem table1 {W : World} (h : laidMetH Tryz.prog Rows.topMovedRow.laid W) : Lib.TabIs Tryz.prog W "math/bits.deBruijn64tab" .u8 tabI1 :=
 Ji (rest:=[]) gTab1 gTab1Type Tryz.underlying267 Tryz.underlying5 cells5 cells267 h

theorem law:BA Tryz.prog [Ps,Ay] 3 (m3 TpD.puB L):=TpD.lawOk mixed

theorem walk (W:World) (h:laidMetH Tryz.prog Rows.topMovedRow.laid W) (H:Type) (enc:TypeId×Value→H) (args:Array Value) (ds gs:List (DataW H)) (before:List MemPlace) (base:Nat)
 (hval:Dw Tryz.prog Tryz.f3 W base args)
 (hW:DataW.Whole enc Tryz.prog Tryz.f3.params.toList Rows.topMovedSpec.vars false W args.toList ds gs before) :
 Calls Tryz.prog 3 args W fun e W'=>e = .returned (.bool true)∧J9 W W':=by
 obtain⟨p,q,hA,_⟩:=hW
 rw[Tryz.params3] at hA
 obtain⟨v,v',d,d',q1,q2,hargs,_,_,⟨f1,h1⟩,⟨f2,h2⟩⟩:=trodAll_two hA
 subst hargs
 obtain⟨R,hR1,hR2,hs⟩:=Go.Sp.start2 (table h) (table1 h) gTab gTab1 (by decide) (by decide)
 rw[tabI_eq,tabI1_eq] at hs
 obtain⟨a0,ha0,w0⟩:=Dw.int (P:=Tryz.prog) (f:=Tryz.f3) (W:=W) (base:=base) (args:=#[v,v']) (by assumption) 0 (by rw[Tryz.params3];rfl) rfl Tryz.underlying5
 obtain⟨sa1,sl1,sc1,ha1⟩:=Dw.slice (P:=Tryz.prog) (f:=Tryz.f3) (W:=W) (base:=base) (args:=#[v,v']) (by assumption) 1 (by rw[Tryz.params3];rfl) rfl Tryz.underlying22
 clear hval
 subst ha0;subst ha1
 obtain⟨xs1,hv1,hcl1,hsh1⟩:=XI (R:=R) kids full hR2 6 f2 22 _ _ lt22 plain22 h2
 obtain⟨p1,rfl,len_p1,w_p1⟩:=(hsh1).intsK Tryz.underlying22 Tryz.underlying5 cells5
 have hm:m3 TpD.puB L [.int .u8 a0,Sl.v 1 ⟨(p1).length,0,(p1).map (Value.int .u8)⟩]=some (.bool true):=TpD.moved_law (x:=a0) (bs:=p1) (TpD.wfU w0).1 (TpD.wfU w0).2 (fun y hy=>TpD.wfU (w_p1 y hy))
 generalize ha:([.int .u8 a0,Sl.v 1 ⟨(p1).length,0,(p1).map (Value.int .u8)⟩]:List Value)=args at hm
 refine R7 law (args:=args) hm ?_ hR1 hs ?_
 ·rw[←ha];intro x hx
  simp at hx
  rcases hx with rfl | rfl <;> rfl
 ·rw[←ha];exact .cons (.int _ _) (.cons (hv1.2 0 _ _ rfl rfl) (.nil))

theorem contract (H:Type) (enc:TypeId×Value→H) (W:World) (args:Array Value) (ds gs:List (DataW H)) (before:List MemPlace) {base:Nat}
 (hval:Dw Tryz.prog Tryz.f3 W base args)
 (hW:DataW.Whole enc Tryz.prog Tryz.f3.params.toList Rows.topMovedSpec.vars false W args.toList ds gs before) (hL:laidMetH Tryz.prog Rows.topMovedRow.laid W) :
 Calls Tryz.prog 3 args W fun e W'=>∃ v,e = .returned v∧Rows.topMovedSpec.post enc Tryz.prog Tryz.f3 false true false false W args v W':=by
 have hd:Rows.topMovedSpec.fn H ds = { results:=[.lit (.bool true)],args:=ds }:=by
  obtain⟨p,q,hA,_⟩:=hW
  rw[Tryz.params3] at hA
  obtain⟨_,_,d1,d2,_,_,_,rfl,_⟩:=trodAll_two hA
  rfl
 exact VJ kids full small hW rfl hd res Tryz.underlying4 (walk W hL H enc args ds gs before base (by assumption) hW)

def put8 (l:List Int):Obj→Obj
 | .cells _ t frozen=>.cells (l.map fun z=>Value.int .u8 z).toArray t frozen
 | o=>o
noncomputable def laidWorld (os:Os):World:=
 { World.holding Tryz.prog os ⟨#[],#[],[]⟩ with heap:=((World.holding Tryz.prog os ⟨#[],#[],[]⟩).heap.modify 0 (put8 tabI)).modify 1 (put8 tabI1) }
def wArgs:Array Value:=#[.int .u8 0,.slice none 0 0]
set_option maxRecDepth 100000 in
theorem laid_met (os:Os):laidMet Tryz.prog Rows.topMovedRow.laid ((laidWorld os).forCall (fun _ _=>0) ⟨#[],wArgs,[]⟩).memory:=
 laidMet_of_run' 8 (by kernel_rfl) (by kernel_rfl)
set_option maxRecDepth 100000 in
theorem reads (os : Os) {H : Type} (enc : TypeId × Value → H) : ∃ places, DataW.whole enc Tryz.prog ((laidWorld os).forCall (fun _ _ => 0) ⟨#[], wArgs, []⟩).memory Tryz.f3.params.toList Rows.topMovedSpec.vars false wArgs.toList 8 =
 some ([.lit (.int .u8 0),.nil],[],places):=
 ⟨[],by kernel_rfl⟩

set_option maxRecDepth 100000 in
theorem lifted (os:Os) (started:os.Started) (H:Type) (enc:TypeId×Value→H) (F:Stop.Interp) :
 ReturnsInHanded {} Tryz.checked os 3 .any ((OpenSpec.ofChange Rows.topMovedSpec).preRow enc Tryz.prog Tryz.f3 Rows.topMovedRow.domain false Rows.topMovedRow.laid) (((OpenSpec.ofChange Rows.topMovedSpec).at F).post enc Tryz.prog Tryz.f3 false true false false):=by
 obtain⟨places,hx⟩:=reads os enc
 refine Zj (C := Tryz.checked) (s := OpenSpec.ofChange Rows.topMovedSpec) own started (by kernel_rfl) Tryz.func3
  (witness_row_at (enc := enc) (C := Tryz.checked) false (laidWorld os) wArgs rfl (by kernel_rfl) (by kernel_rfl) (by kernel_rfl)
    (OpenSpec.preRow_of_cond 8 hx (by kernel_rfl) (fun k hk=>by cases hk) (by kernel_rfl) (laid_met os))) ?_
 intro W base args ds gs before hval hW hL
 exact contract H enc W args ds gs before (base:=base) (by assumption) hW hL

theorem said:Rows.TopMovedSaid:=
 OpenClaim.holds_of_cond 3 Tryz.f3 rfl rfl rfl rfl rfl rfl rfl ⟨rfl, rfl, rfl, rfl, rfl⟩ rfl rfl rfl rfl rfl (by kernel_rfl) Tryz.func3 (by kernel_rfl)
  (of_decide_eq_true (by kernel_rfl)) (by unfold Func.isWrapper;first | (rw[if_pos (by decide +kernel)];kernel_rfl) | (rw[if_neg (by decide +kernel)];exact⟨rfl,rfl⟩))
  (fun os started H enc _ F=>by rw[OpenClaim.pre_eq_preRow];exact lifted os started H enc F)

theorem plain (f : FuncId) (fn : Func) (hf : Tryz.pinned.checked.prog.funcNamed "spadille/spadilletop.TopMoved" = some f) (hfn : Tryz.pinned.checked.prog.funcs[f]? = some fn) :
 true=Tryz.pinned.checked.prog.looks []∧∀ (j:Nat) t,fn.params[j]?=some t→Tryz.pinned.checked.prog.wantsStandIn t=false:=by
 obtain rfl : f = 3 := Option.some.inj ((show Tryz.prog.funcNamed "spadille/spadilletop.TopMoved" = some 3 by kernel_rfl).symm.trans hf) |>.symm
 obtain rfl:fn=Tryz.f3:=(Option.some.inj (Tryz.func3.symm.trans hfn)).symm
 refine⟨by kernel_rfl,fun j t ht=>?_⟩
 rw[Tryz.params3] at ht
 match j,ht with
 | 0,ht=>have e:(5:Nat)=t:=Option.some.inj ht;rw[←e];exact ws5
 | 1,ht=>have e:(22:Nat)=t:=Option.some.inj ht;rw[←e];exact ws22
 | j+2,ht=>simp at ht

theorem card:Rows.TopMovedCardSaid:=
 Claim7.holds_tied_plain_at .later [] _ _ _ _ said (fun _ h=>by cases h) (by kernel_rfl) (fun _ h=>by cases h) topMoved_row_tie rfl ⟨rfl,rfl⟩ (by kernel_rfl) rfl plain (by kernel_rfl)
end Go.Proofs.YtflonlkiajhhjaaGreatDoor.topMoved
