/- Made from wip. -/
import Derived.Test.YtpfpakeeaehmhaaDoorCards
import Derived.Test.YtpfpakeeaehmhaaDoorTie
import Derived.Test.YtpfpakeeaehmhaaDoorSpObjx
import Derived.Test.YtpfpakeeaehmhaaDoorTbWJoinx
import Derived.Test.YtpfpakeeaehmhaaDoorTbWRun
import Derived.Test.YtpfpakeeaehmhaaDoorTbWPairx

namespace Go.Proofs.YtpfpakeeaehmhaaDoor.tableWork
open Go.ChangeShapes Go.WideShapes Go.ChangeAt Go.RowKit Go.Sp Go.TbWM

theorem own:ownKnob Tryd.prog.godebug=none:=by kernel_rfl
theorem gTab : Tryd.prog.globalNamed "math/bits.deBruijn64tab" = some 0 := by kernel_rfl
theorem gTabType:(Tryd.prog.globals[0]?).map (·.type)=some 130:=by kernel_rfl
theorem cells5:Tryd.prog.cellsOf 5=1:=by kernel_rfl
theorem cells109:Tryd.prog.cellsOf 109=2:=by kernel_rfl
theorem cells130:Tryd.prog.cellsOf 130=64:=by kernel_rfl
theorem mixed:Tryd.prog.follows .mixedOrders=true:=by kernel_rfl
theorem kids:Kids Tryd.prog (· < Tryd.prog.types.size):=kids_rows (by kernel_rfl) (by kernel_rfl)
theorem MF:∀ t e,t < Tryd.prog.types.size→Tryd.prog.underlying t=some (.slice e)→0 < Tryd.prog.cellsOf e:=slices_full_of _ (by kernel_rfl)
theorem size:Tryd.prog.types.size=164:=by kernel_rfl
theorem small:∀ t∈Tryd.f7.params.toList,t < Tryd.prog.types.size:=by
 rw[Tryd.params7,size]
 intro t ht
 simp only[List.mem_cons,List.not_mem_nil,or_false] at ht
 subst ht;decide
theorem lt53:53 < Tryd.prog.types.size:=by rw[size];decide
theorem res:Tryd.f7.resultTypes = #[4]:=by kernel_rfl
set_option maxRecDepth 100000 in
theorem ws53:Tryd.pinned.checked.prog.wantsStandIn 53=false:=by kernel_rfl
theorem plain53:Io Tryd.prog 6 53=true:=by kernel_rfl

def tabI:List Int:=[0,1,56,2,57,49,28,3,61,58,42,50,38,29,17,4,62,47,59,36,45,43,51,22,53,39,33,30,24,18,12,5,63,55,48,27,60,41,37,16,46,35,44,21,52,32,23,11,54,26,40,15,34,20,31,10,25,14,19,9,13,8,7,6]
theorem tabI_eq:(tabI.map fun z=>Value.int .u8 z)=Pe:=rfl
theorem table {W : World} (h : laidMetH Tryd.prog Rows.tableWorkRow.laid W) : Lib.TabIs Tryd.prog W "math/bits.deBruijn64tab" .u8 tabI :=
 Lib.tabIs_of_head (rest:=[]) gTab gTabType Tryd.underlying130 Tryd.underlying5 cells5 cells130 h

theorem works:BA Tryd.prog tabs 10 (fun args=>ll args (some (.bool true)) fun _ _=>none):=MJ TbW.ttOk TbW.fnsOk mixed Wn
theorem law:BA Tryd.prog [Pe] 7 (BI 20 7):=TbW.pu_ok mixed works 20 7 (by kernel_rfl)

theorem walk (W:World) (h:laidMetH Tryd.prog Rows.tableWorkRow.laid W) (H:Type) (enc:TypeId×Value→H) (args:Array Value) (ds gs:List (DataW H)) (before:List MemPlace) (base:Nat)
 (hval:Dw Tryd.prog Tryd.f7 W base args)
 (hW:DataW.Whole enc Tryd.prog Tryd.f7.params.toList Rows.tableWorkSpec.vars false W args.toList ds gs before) :
 Calls Tryd.prog 7 args W fun e W'=>e = .returned (.bool true)∧J9 W W':=by
 obtain⟨p,q,hA,_⟩:=hW
 rw[Tryd.params7] at hA
 obtain⟨v,d,hargs,_,f1,h1⟩:=trodAll_one hA
 subst hargs
 obtain⟨R,hR1,hR2,hs⟩:=Go.Sp.start (table h) gTab (by decide)
 rw[tabI_eq] at hs
 obtain⟨cs0,ha0⟩:=Dw.struct (P:=Tryd.prog) (f:=Tryd.f7) (W:=W) (base:=base) (args:=#[v]) (by assumption) 0 (by rw[Tryd.params7];rfl) rfl Tryd.underlying53
 clear hval
 subst ha0
 obtain⟨xs0,hv0,hcl0,hsh0⟩:=XI (R:=R) kids MF hR2 6 f1 53 _ _ lt53 plain53 h1
 obtain⟨ls1,hl1,rfl,hf1⟩:=(hsh0).struct_inv Tryd.underlying53
 obtain⟨y1_0,y1_1,y1_2,hy1⟩:∃ y1_0 y1_1 y1_2,ls1=[y1_0,y1_1,y1_2]:=by
  match ls1,hl1 with
  | [x0,x1,x2],_=>exact⟨x0,x1,x2,rfl⟩
 subst hy1
 obtain⟨p0_0,rfl,w_p0_0⟩:=(hf1 0 _ y1_0 rfl rfl).int_inv Tryd.underlying5
 obtain⟨p0_1,rfl,w_p0_1⟩:=oO Tryd.underlying51 Tryd.underlying109 Tryd.underlying5 cells109 (hf1 1 _ y1_1 rfl rfl)
 obtain⟨p0_2,rfl⟩:=(hf1 2 _ y1_2 rfl rfl).bool_inv Tryd.underlying4
 have hm:BI 20 7 [.agg ⟨[.int .u8 p0_0,Sl.v 2 (ps p0_1),.bool p0_2]⟩]=some (.bool true):=by
  obtain⟨L,e1,hL⟩:=wfU w_p0_0
  rw[e1]
  exact Ya 6 L p0_1 p0_2 hL w_p0_1
 refine bF law (args:=[.agg ⟨[.int .u8 p0_0,Sl.v 2 (ps p0_1),.bool p0_2]⟩]) hm ?_ hR1 hs ?_
 ·intro x hx
  simp at hx
  subst hx;rfl
 ·exact .cons (.agg hv0.1 hv0.2) (.nil)

theorem contract (H:Type) (enc:TypeId×Value→H) (W:World) (args:Array Value) (ds gs:List (DataW H)) (before:List MemPlace) {base:Nat}
 (hval:Dw Tryd.prog Tryd.f7 W base args)
 (hW:DataW.Whole enc Tryd.prog Tryd.f7.params.toList Rows.tableWorkSpec.vars false W args.toList ds gs before) (hL:laidMetH Tryd.prog Rows.tableWorkRow.laid W) :
 Calls Tryd.prog 7 args W fun e W'=>∃ v,e = .returned v∧Rows.tableWorkSpec.post enc Tryd.prog Tryd.f7 false true false false W args v W':=by
 have hd:Rows.tableWorkSpec.fn H ds = { results:=[.lit (.bool true)],args:=ds }:=by
  obtain⟨p,q,hA,_⟩:=hW
  rw[Tryd.params7] at hA
  obtain⟨_,d1,_,rfl,_⟩:=trodAll_one hA
  rfl
 exact VJ kids MF small hW rfl hd res Tryd.underlying4 (walk W hL H enc args ds gs before base (by assumption) hW)

noncomputable def laidWorld (os:Os):World:=
 { World.holding Tryd.prog os ⟨#[], #[], []⟩ with heap := (World.holding Tryd.prog os ⟨#[], #[], []⟩).heap.modify 0 fun
  | .cells _ t frozen=>.cells (tabI.map fun z=>Value.int .u8 z).toArray t frozen
  | o=>o }
def wArgs:Array Value:=#[.agg #[.int .u8 0,.slice none 0 0,.bool false]]
set_option maxRecDepth 100000 in
theorem laid_met (os:Os):laidMet Tryd.prog Rows.tableWorkRow.laid ((laidWorld os).forCall (fun _ _=>0) ⟨#[],wArgs,[]⟩).memory:=
 laidMet_of_run' 8 (by kernel_rfl) (by kernel_rfl)
set_option maxRecDepth 100000 in
theorem reads (os : Os) {H : Type} (enc : TypeId × Value → H) : ∃ places, DataW.whole enc Tryd.prog ((laidWorld os).forCall (fun _ _ => 0) ⟨#[], wArgs, []⟩).memory Tryd.f7.params.toList Rows.tableWorkSpec.vars false wArgs.toList 8 =
 some ([.agg [.lit (.int .u8 0),.nil,.lit (.bool false)]],[],places):=
 ⟨[],by kernel_rfl⟩

set_option maxRecDepth 100000 in
theorem lifted (os:Os) (started:os.Started) (H:Type) (enc:TypeId×Value→H) (F:Stop.Interp) :
 ReturnsInHanded {} Tryd.checked os 7 .any ((OpenSpec.ofChange Rows.tableWorkSpec).preRow enc Tryd.prog Tryd.f7 Rows.tableWorkRow.domain false Rows.tableWorkRow.laid) (((OpenSpec.ofChange Rows.tableWorkSpec).at F).post enc Tryd.prog Tryd.f7 false true false false):=by
 obtain⟨places,hx⟩:=reads os enc
 refine Zj (C := Tryd.checked) (s := OpenSpec.ofChange Rows.tableWorkSpec) own started (by kernel_rfl) Tryd.func7
  (witness_row_at (enc := enc) (C := Tryd.checked) false (laidWorld os) wArgs rfl (by kernel_rfl) (by kernel_rfl) (by kernel_rfl)
    (OpenSpec.preRow_of_cond 8 hx (by kernel_rfl) (fun k hk=>by cases hk) (by kernel_rfl) (laid_met os))) ?_
 intro W base args ds gs before hval hW hL
 exact contract H enc W args ds gs before (base:=base) (by assumption) hW hL

theorem said:Rows.TableWorkSaid:=
 OpenClaim.holds_of_cond 7 Tryd.f7 rfl rfl rfl rfl rfl rfl rfl ⟨rfl, rfl, rfl, rfl, rfl⟩ rfl rfl rfl rfl rfl (by kernel_rfl) Tryd.func7 (by kernel_rfl)
  (of_decide_eq_true (by kernel_rfl)) (by unfold Func.isWrapper;first | (rw[if_pos (by decide +kernel)];kernel_rfl) | (rw[if_neg (by decide +kernel)];exact⟨rfl,rfl⟩))
  (fun os started H enc _ F=>by rw[OpenClaim.pre_eq_preRow];exact lifted os started H enc F)

theorem plain (f : FuncId) (fn : Func) (hf : Tryd.pinned.checked.prog.funcNamed "spadille/spadillelaw07.TableWork" = some f) (hfn : Tryd.pinned.checked.prog.funcs[f]? = some fn) :
 false=Tryd.pinned.checked.prog.looks []∧∀ (j:Nat) t,fn.params[j]?=some t→Tryd.pinned.checked.prog.wantsStandIn t=false:=by
 obtain rfl : f = 7 := Option.some.inj ((show Tryd.prog.funcNamed "spadille/spadillelaw07.TableWork" = some 7 by kernel_rfl).symm.trans hf) |>.symm
 obtain rfl:fn=Tryd.f7:=(Option.some.inj (Tryd.func7.symm.trans hfn)).symm
 refine⟨by kernel_rfl,fun j t ht=>?_⟩
 rw[Tryd.params7] at ht
 match j,ht with
 | 0,ht=>have e:(53:Nat)=t:=Option.some.inj ht;rw[←e];exact ws53
 | j+1,ht=>simp at ht

theorem card:Rows.TableWorkCardSaid:=
 Claim7.holds_tied_plain_at .later [] _ _ _ _ said (fun _ h=>by cases h) (by kernel_rfl) (fun _ h=>by cases h) tableWork_row_tie rfl ⟨rfl,rfl⟩ (by kernel_rfl) rfl plain (by kernel_rfl)
end Go.Proofs.YtpfpakeeaehmhaaDoor.tableWork
