/- Made from wip. -/
import Derived.Test.YtflonlkiajhhjaaGreatDoorCards
import Derived.Test.YtflonlkiajhhjaaGreatDoorTie
import Derived.Test.YtflonlkiajhhjaaGreatDoorSpObjx
import Derived.Test.YtflonlkiajhhjaaGreatDoorTpFJoin
import Derived.Test.YtflonlkiajhhjaaGreatDoorTpFLaw2

namespace Go.Proofs.YtflonlkiajhhjaaGreatDoor.topPerfect
open Go.ChangeShapes Go.WideShapes Go.ChangeAt Go.RowKit Go.Sp Go.TpFM

theorem own:ownKnob Tryz.prog.godebug=none:=by kernel_rfl
theorem gTab : Tryz.prog.globalNamed "math/bits.deBruijn32tab" = some 0 := by kernel_rfl
theorem gTabType:(Tryz.prog.globals[0]?).map (·.type)=some 181:=by kernel_rfl
theorem gTab1 : Tryz.prog.globalNamed "math/bits.deBruijn64tab" = some 1 := by kernel_rfl
theorem gTab1Type:(Tryz.prog.globals[1]?).map (·.type)=some 267:=by kernel_rfl
theorem cells5:Tryz.prog.cellsOf 5=1:=by kernel_rfl
theorem cells181:Tryz.prog.cellsOf 181=32:=by kernel_rfl
theorem cells267:Tryz.prog.cellsOf 267=64:=by kernel_rfl
theorem mixed:Tryz.prog.follows .mixedOrders=true:=by kernel_rfl
theorem kids:Kids Tryz.prog (· < Tryz.prog.types.size):=kids_rows (by kernel_rfl) (by kernel_rfl)
theorem full:∀ t e,t < Tryz.prog.types.size→Tryz.prog.underlying t=some (.slice e)→0 < Tryz.prog.cellsOf e:=slices_full_of _ (by kernel_rfl)
theorem size:Tryz.prog.types.size=356:=by kernel_rfl
theorem small:∀ t∈Tryz.f9.params.toList,t < Tryz.prog.types.size:=by
 rw[Tryz.params9,size]
 intro t ht
 simp only[List.mem_cons,List.not_mem_nil,or_false] at ht
 rcases ht with rfl | rfl <;> decide
theorem res:Tryz.f9.resultTypes = #[4]:=by kernel_rfl
set_option maxRecDepth 100000 in
theorem ws5:Tryz.pinned.checked.prog.wantsStandIn 5=false:=by kernel_rfl
set_option maxRecDepth 100000 in
theorem ws53:Tryz.pinned.checked.prog.wantsStandIn 53=false:=by kernel_rfl

def tabI:List Int:=[0,1,28,2,29,14,24,3,30,22,20,15,25,17,4,8,31,27,13,23,21,19,16,7,26,12,18,6,11,5,10,9]

def tabI1:List Int:=[0,1,56,2,57,49,28,3,61,58,42,50,38,29,17,4,62,47,59,36,45,43,51,22,53,39,33,30,24,18,12,5,63,55,48,27,60,41,37,16,46,35,44,21,52,32,23,11,54,26,40,15,34,20,31,10,25,14,19,9,13,8,7,6]
theorem tabI1_eq:(tabI1.map fun z=>Value.int .u8 z)=Ay:=rfl
theorem table1 {W : World} (h : laidMetH Tryz.prog Rows.topPerfectRow.laid W) : Lib.TabIs Tryz.prog W "math/bits.deBruijn64tab" .u8 tabI1 :=
 Lib.tabIs_of_head (rest:=[]) gTab1 gTab1Type Tryz.underlying267 Tryz.underlying5 cells5 cells267 h

theorem law:BA Tryz.prog [rG,Ay] 9 (m9 TpF.puB L):=TpF.lawOk mixed

theorem first0:∃ z t,(((begin Tryz.prog (fun _ _=>0) default).world.heap[0]?).bind Obj.row?)=some (z,t):=by
 have h:((((begin Tryz.prog (fun _ _=>0) default).world.heap[0]?).bind Obj.row?)).isSome=true:=by kernel_rfl
 obtain⟨⟨z,t⟩,h⟩:=Option.isSome_iff_exists.1 h
 exact⟨z,t,h⟩
theorem walk (W:World) (hsh:W.ShapedOpen Tryz.prog) (h:laidMetH Tryz.prog Rows.topPerfectRow.laid W) (H:Type) (enc:TypeId×Value→H) (args:Array Value) (ds gs:List (DataW H)) (before:List MemPlace) (base:Nat)
 (hval:Dw Tryz.prog Tryz.f9 W base args)
 (hW:DataW.Whole enc Tryz.prog Tryz.f9.params.toList Rows.topPerfectSpec.vars false W args.toList ds gs before) :
 Calls Tryz.prog 9 args W fun e W'=>e = .returned (.bool true)∧J9 W W':=by
 obtain⟨p,q,hA,_⟩:=hW
 rw[Tryz.params9] at hA
 obtain⟨v,v',d,d',q1,q2,hargs,_,_,⟨f1,h1⟩,⟨f2,h2⟩⟩:=trodAll_two hA
 subst hargs
 obtain⟨z0,t0,hz0⟩:=first0
 obtain⟨R,hR1,hR2,hs⟩:=Go.Sp.startX hsh (of_decide_eq_true (by kernel_rfl)) hz0 (table1 h) gTab1 (by decide)
 rw[tabI1_eq] at hs
 obtain⟨a0,ha0,w0⟩:=Dw.int (P:=Tryz.prog) (f:=Tryz.f9) (W:=W) (base:=base) (args:=#[v,v']) (by assumption) 0 (by rw[Tryz.params9];rfl) rfl Tryz.underlying5
 obtain⟨a1,ha1,w1⟩:=Dw.int (P:=Tryz.prog) (f:=Tryz.f9) (W:=W) (base:=base) (args:=#[v,v']) (by assumption) 1 (by rw[Tryz.params9];rfl) rfl Tryz.underlying53
 clear hval
 subst ha0;subst ha1

 have hm:m9 TpF.puB L [.int .u8 a0,.int .u16 a1]=some (.bool true):=TpF.perfect_law (x0:=a0) (x1:=a1) (TpF.wfU w0).1 (TpF.wfU w0).2 (TpF.wfU16 w1).1 (TpF.wfU16 w1).2
 generalize ha:([.int .u8 a0,.int .u16 a1]:List Value)=args at hm
 refine R7 law (args:=args) hm ?_ hR1 hs ?_
 ·rw[←ha];intro x hx
  simp at hx
  rcases hx with rfl | rfl <;> rfl
 ·rw[←ha];exact .cons (.int _ _) (.cons (.int _ _) (.nil))

theorem contract (H:Type) (enc:TypeId×Value→H) (W:World) (args:Array Value) (ds gs:List (DataW H)) (before:List MemPlace) {base:Nat}
 (hval:Dw Tryz.prog Tryz.f9 W base args)
 (hW:DataW.Whole enc Tryz.prog Tryz.f9.params.toList Rows.topPerfectSpec.vars false W args.toList ds gs before) (hL:laidMetH Tryz.prog Rows.topPerfectRow.laid W) (hsh:W.ShapedOpen Tryz.prog) :
 Calls Tryz.prog 9 args W fun e W'=>∃ v,e = .returned v∧Rows.topPerfectSpec.post enc Tryz.prog Tryz.f9 false true false false W args v W':=by
 have hd:Rows.topPerfectSpec.fn H ds = { results:=[.lit (.bool true)],args:=ds }:=by
  obtain⟨p,q,hA,_⟩:=hW
  rw[Tryz.params9] at hA
  obtain⟨_,_,d1,d2,_,_,_,rfl,_⟩:=trodAll_two hA
  rfl
 exact VJ kids full small hW rfl hd res Tryz.underlying4 (walk W hsh hL H enc args ds gs before base (by assumption) hW)

def put8 (l:List Int):Obj→Obj
 | .cells _ t frozen=>.cells (l.map fun z=>Value.int .u8 z).toArray t frozen
 | o=>o
noncomputable def laidWorld (os:Os):World:=
 { World.holding Tryz.prog os ⟨#[],#[],[]⟩ with heap:=((World.holding Tryz.prog os ⟨#[],#[],[]⟩).heap.modify 0 (put8 tabI)).modify 1 (put8 tabI1) }
def wArgs:Array Value:=#[.int .u8 0,.int .u16 0]
set_option maxRecDepth 100000 in
theorem laid_met (os:Os):laidMet Tryz.prog Rows.topPerfectRow.laid ((laidWorld os).forCall (fun _ _=>0) ⟨#[],wArgs,[]⟩).memory:=
 laidMet_of_run' 8 (by kernel_rfl) (by kernel_rfl)
set_option maxRecDepth 100000 in
theorem reads (os : Os) {H : Type} (enc : TypeId × Value → H) : ∃ places, DataW.whole enc Tryz.prog ((laidWorld os).forCall (fun _ _ => 0) ⟨#[], wArgs, []⟩).memory Tryz.f9.params.toList Rows.topPerfectSpec.vars false wArgs.toList 8 =
 some ([.lit (.int .u8 0),.lit (.int .u16 0)],[],places):=
 ⟨[],by kernel_rfl⟩

set_option maxRecDepth 100000 in
theorem lifted (os:Os) (started:os.Started) (H:Type) (enc:TypeId×Value→H) (F:Stop.Interp) :
 ReturnsInHanded {} Tryz.checked os 9 .any ((OpenSpec.ofChange Rows.topPerfectSpec).preRow enc Tryz.prog Tryz.f9 Rows.topPerfectRow.domain false Rows.topPerfectRow.laid) (((OpenSpec.ofChange Rows.topPerfectSpec).at F).post enc Tryz.prog Tryz.f9 false true false false):=by
 obtain⟨places,hx⟩:=reads os enc
 refine SC (C := Tryz.checked) (s := OpenSpec.ofChange Rows.topPerfectSpec) own started (by kernel_rfl) Tryz.func9
  (witness_row_at (enc := enc) (C := Tryz.checked) false (laidWorld os) wArgs rfl (by kernel_rfl) (by kernel_rfl) (by kernel_rfl)
    (OpenSpec.preRow_of_cond 8 hx (by kernel_rfl) (fun k hk=>by cases hk) (by kernel_rfl) (laid_met os))) ?_
 intro W base args ds gs before hval hW hL hsh
 exact contract H enc W args ds gs before (base:=base) (by assumption) hW hL hsh

theorem said:Rows.TopPerfectSaid:=
 OpenClaim.holds_of_cond 9 Tryz.f9 rfl rfl rfl rfl rfl rfl rfl ⟨rfl, rfl, rfl, rfl, rfl⟩ rfl rfl rfl rfl rfl (by kernel_rfl) Tryz.func9 (by kernel_rfl)
  (of_decide_eq_true (by kernel_rfl)) (by unfold Func.isWrapper;first | (rw[if_pos (by decide +kernel)];kernel_rfl) | (rw[if_neg (by decide +kernel)];exact⟨rfl,rfl⟩))
  (fun os started H enc _ F=>by rw[OpenClaim.pre_eq_preRow];exact lifted os started H enc F)

theorem plain (f : FuncId) (fn : Func) (hf : Tryz.pinned.checked.prog.funcNamed "spadille/spadilletop.TopPerfect" = some f) (hfn : Tryz.pinned.checked.prog.funcs[f]? = some fn) :
 true=Tryz.pinned.checked.prog.looks []∧∀ (j:Nat) t,fn.params[j]?=some t→Tryz.pinned.checked.prog.wantsStandIn t=false:=by
 obtain rfl : f = 9 := Option.some.inj ((show Tryz.prog.funcNamed "spadille/spadilletop.TopPerfect" = some 9 by kernel_rfl).symm.trans hf) |>.symm
 obtain rfl:fn=Tryz.f9:=(Option.some.inj (Tryz.func9.symm.trans hfn)).symm
 refine⟨by kernel_rfl,fun j t ht=>?_⟩
 rw[Tryz.params9] at ht
 match j,ht with
 | 0,ht=>have e:(5:Nat)=t:=Option.some.inj ht;rw[←e];exact ws5
 | 1,ht=>have e:(53:Nat)=t:=Option.some.inj ht;rw[←e];exact ws53
 | j+2,ht=>simp at ht

theorem card:Rows.TopPerfectCardSaid:=
 Claim7.holds_tied_plain_at .later [] _ _ _ _ said (fun _ h=>by cases h) (by kernel_rfl) (fun _ h=>by cases h) topPerfect_row_tie rfl ⟨rfl,rfl⟩ (by kernel_rfl) rfl plain (by kernel_rfl)
end Go.Proofs.YtflonlkiajhhjaaGreatDoor.topPerfect
