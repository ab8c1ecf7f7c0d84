/- Made from wip. -/
import Derived.Test.YtciohfkjabeooaaGreatDoorCards
import Derived.Test.YtciohfkjabeooaaGreatDoorTie
import Derived.Test.YtciohfkjabeooaaGreatDoorSpClox
import Derived.Test.YtciohfkjabeooaaGreatDoorBaAJoinx
import Derived.Test.YtciohfkjabeooaaGreatDoorBaATow
import Derived.Test.YtciohfkjabeooaaGreatDoorBaAF8x

namespace Go.Proofs.YtciohfkjabeooaaGreatDoor.backAll
open Go.ChangeShapes Go.WideShapes Go.ChangeAt Go.RowKit Go.Sp Go.BaAM

theorem own:ownKnob Tryz.prog.godebug=none:=by kernel_rfl
theorem gTab : Tryz.prog.globalNamed "math/bits.deBruijn32tab" = some 0 := by kernel_rfl
theorem gTabType:(Tryz.prog.globals[0]?).map (·.type)=some 93:=by kernel_rfl
theorem cells3:Tryz.prog.cellsOf 3=1:=by kernel_rfl
theorem cells5:Tryz.prog.cellsOf 5=1:=by kernel_rfl
theorem cells93:Tryz.prog.cellsOf 93=32:=by kernel_rfl
theorem mixed:Tryz.prog.follows .mixedOrders=true:=by kernel_rfl
theorem kids:Kids Tryz.prog (· < Tryz.prog.types.size):=kids_rows (by kernel_rfl) (by kernel_rfl)
theorem full:∀ t e,t < Tryz.prog.types.size→Tryz.prog.underlying t=some (.slice e)→0 < Tryz.prog.cellsOf e:=slices_full_of _ (by kernel_rfl)
theorem size:Tryz.prog.types.size=151:=by kernel_rfl
theorem small:∀ t∈Tryz.f3.params.toList,t < Tryz.prog.types.size:=by
 rw[Tryz.params3,size]
 intro t ht
 simp only[List.mem_cons,List.not_mem_nil,or_false] at ht
 subst ht;decide
theorem lt24:24 < Tryz.prog.types.size:=by rw[size];decide
theorem res:Tryz.f3.resultTypes = #[4]:=by kernel_rfl
set_option maxRecDepth 100000 in
theorem ws24:Tryz.pinned.checked.prog.wantsStandIn 24=false:=by kernel_rfl
theorem plain24:Io Tryz.prog 6 24=true:=by kernel_rfl

def tabI:List Int:=[0,1,28,2,29,14,24,3,30,22,20,15,25,17,4,8,31,27,13,23,21,19,16,7,26,12,18,6,11,5,10,9]
theorem tabI_eq:(tabI.map fun z=>Value.int .u8 z)=Yf:=rfl
theorem table {W : World} (h : laidMetH Tryz.prog Rows.backAllRow.laid W) : Lib.TabIs Tryz.prog W "math/bits.deBruijn32tab" .u8 tabI :=
 Lib.tabIs_of_head (rest:=[]) gTab gTabType Tryz.underlying93 Tryz.underlying5 cells5 cells93 h

theorem law:BA Tryz.prog [Yf] 3 (Bp 30 3):=BaA.lawK mixed

theorem walk (W:World) (h:laidMetH Tryz.prog Rows.backAllRow.laid W) (H:Type) (enc:TypeId×Value→H) (args:Array Value) (ds gs:List (DataW H)) (before:List MemPlace) (base:Nat)
 (hval:Dw Tryz.prog Tryz.f3 W base args)
 (hW:DataW.Whole enc Tryz.prog Tryz.f3.params.toList Rows.backAllSpec.vars false W args.toList ds gs before) :
 Calls Tryz.prog 3 args W fun e W'=>e = .returned (.bool true)∧J9 W W':=by
 obtain⟨p,q,hA,_⟩:=hW
 rw[Tryz.params3] at hA
 obtain⟨v,d,hargs,_,f1,h1⟩:=trodAll_one hA
 subst hargs
 obtain⟨R,hR1,hR2,hs⟩:=Go.Sp.start (table h) gTab (by decide)
 rw[tabI_eq] at hs
 obtain⟨cs0,ha0⟩:=Dw.struct (P:=Tryz.prog) (f:=Tryz.f3) (W:=W) (base:=base) (args:=#[v]) (by assumption) 0 (by rw[Tryz.params3];rfl) rfl Tryz.underlying24
 clear hval
 subst ha0
 obtain⟨xs0,hv0,hcl0,hsh0⟩:=XI (R:=R) kids full hR2 6 f1 24 _ _ lt24 plain24 h1
 obtain⟨ls1,hl1,rfl,hf1⟩:=(hsh0).struct_inv Tryz.underlying24
 obtain⟨y1_0,y1_1,y1_2,y1_3,hy1⟩:∃ y1_0 y1_1 y1_2 y1_3,ls1=[y1_0,y1_1,y1_2,y1_3]:=by
  match ls1,hl1 with
  | [x0,x1,x2,x3],_=>exact⟨x0,x1,x2,x3,rfl⟩
 subst hy1
 obtain⟨p0_0,rfl,w_p0_0⟩:=(hf1 0 _ y1_0 rfl rfl).int_inv Tryz.underlying3
 obtain⟨p0_1,rfl,w_p0_1⟩:=(hf1 1 _ y1_1 rfl rfl).int_inv Tryz.underlying3
 obtain⟨p0_2,rfl,w_p0_2⟩:=(hf1 2 _ y1_2 rfl rfl).int_inv Tryz.underlying3
 obtain⟨p0_3,rfl,len_p0_3,w_p0_3⟩:=(hf1 3 _ y1_3 rfl rfl).ints Tryz.underlying22 Tryz.underlying3 cells3
 have hm:=Go.BkQ.allLaw 6 0 (R:=p0_0) (C:=p0_1) (K:=p0_2) (ts:=p0_3)
 refine bF law (args:=[.agg ⟨[.int .i64 p0_0,.int .i64 p0_1,.int .i64 p0_2,S 0 p0_3]⟩]) hm ?_ hR1 hs ?_
 ·intro x hx
  simp at hx
  subst hx;rfl
 ·exact .cons (.agg hv0.1 hv0.2) (.nil)

theorem contract (H:Type) (enc:TypeId×Value→H) (W:World) (args:Array Value) (ds gs:List (DataW H)) (before:List MemPlace) {base:Nat}
 (hval:Dw Tryz.prog Tryz.f3 W base args)
 (hW:DataW.Whole enc Tryz.prog Tryz.f3.params.toList Rows.backAllSpec.vars false W args.toList ds gs before) (hL:laidMetH Tryz.prog Rows.backAllRow.laid W) :
 Calls Tryz.prog 3 args W fun e W'=>∃ v,e = .returned v∧Rows.backAllSpec.post enc Tryz.prog Tryz.f3 false true false false W args v W':=by
 have hd:Rows.backAllSpec.fn H ds = { results:=[.lit (.bool true)],args:=ds }:=by
  obtain⟨p,q,hA,_⟩:=hW
  rw[Tryz.params3] at hA
  obtain⟨_,d1,_,rfl,_⟩:=trodAll_one hA
  rfl
 exact VJ kids full small hW rfl hd res Tryz.underlying4 (walk W hL H enc args ds gs before base (by assumption) hW)

noncomputable def laidWorld (os:Os):World:=
 { World.holding Tryz.prog os ⟨#[], #[], []⟩ with heap := (World.holding Tryz.prog os ⟨#[], #[], []⟩).heap.modify 0 fun
  | .cells _ t frozen=>.cells (tabI.map fun z=>Value.int .u8 z).toArray t frozen
  | o=>o }
def wArgs:Array Value:=#[.agg #[.int .i64 0,.int .i64 0,.int .i64 0,.slice none 0 0]]
set_option maxRecDepth 100000 in
theorem laid_met (os:Os):laidMet Tryz.prog Rows.backAllRow.laid ((laidWorld os).forCall (fun _ _=>0) ⟨#[],wArgs,[]⟩).memory:=
 laidMet_of_run' 8 (by kernel_rfl) (by kernel_rfl)
set_option maxRecDepth 100000 in
theorem reads (os : Os) {H : Type} (enc : TypeId × Value → H) : ∃ places, DataW.whole enc Tryz.prog ((laidWorld os).forCall (fun _ _ => 0) ⟨#[], wArgs, []⟩).memory Tryz.f3.params.toList Rows.backAllSpec.vars false wArgs.toList 8 =
 some ([.agg [.lit (.int .i64 0),.lit (.int .i64 0),.lit (.int .i64 0),.nil]],[],places):=
 ⟨[],by kernel_rfl⟩

set_option maxRecDepth 100000 in
theorem lifted (os:Os) (started:os.Started) (H:Type) (enc:TypeId×Value→H) (F:Stop.Interp) :
 ReturnsInHanded {} Tryz.checked os 3 .any ((OpenSpec.ofChange Rows.backAllSpec).preRow enc Tryz.prog Tryz.f3 Rows.backAllRow.domain false Rows.backAllRow.laid) (((OpenSpec.ofChange Rows.backAllSpec).at F).post enc Tryz.prog Tryz.f3 false true false false):=by
 obtain⟨places,hx⟩:=reads os enc
 refine Zj (C := Tryz.checked) (s := OpenSpec.ofChange Rows.backAllSpec) own started (by kernel_rfl) Tryz.func3
  (witness_row_at (enc := enc) (C := Tryz.checked) false (laidWorld os) wArgs rfl (by kernel_rfl) (by kernel_rfl) (by kernel_rfl)
    (OpenSpec.preRow_of_cond 8 hx (by kernel_rfl) (fun k hk=>by cases hk) (by kernel_rfl) (laid_met os))) ?_
 intro W base args ds gs before hval hW hL
 exact contract H enc W args ds gs before (base:=base) (by assumption) hW hL

theorem said:Rows.BackAllSaid:=
 OpenClaim.holds_of_cond 3 Tryz.f3 rfl rfl rfl rfl rfl rfl rfl ⟨rfl, rfl, rfl, rfl, rfl⟩ rfl rfl rfl rfl rfl (by kernel_rfl) Tryz.func3 (by kernel_rfl)
  (of_decide_eq_true (by kernel_rfl)) (by unfold Func.isWrapper;first | (rw[if_pos (by decide +kernel)];kernel_rfl) | (rw[if_neg (by decide +kernel)];exact⟨rfl,rfl⟩))
  (fun os started H enc _ F=>by rw[OpenClaim.pre_eq_preRow];exact lifted os started H enc F)

theorem plain (f : FuncId) (fn : Func) (hf : Tryz.pinned.checked.prog.funcNamed "spadille/spadillelaw03.BackAll" = some f) (hfn : Tryz.pinned.checked.prog.funcs[f]? = some fn) :
 false=Tryz.pinned.checked.prog.looks []∧∀ (j:Nat) t,fn.params[j]?=some t→Tryz.pinned.checked.prog.wantsStandIn t=false:=by
 obtain rfl : f = 3 := Option.some.inj ((show Tryz.prog.funcNamed "spadille/spadillelaw03.BackAll" = some 3 by kernel_rfl).symm.trans hf) |>.symm
 obtain rfl:fn=Tryz.f3:=(Option.some.inj (Tryz.func3.symm.trans hfn)).symm
 refine⟨by kernel_rfl,fun j t ht=>?_⟩
 rw[Tryz.params3] at ht
 match j,ht with
 | 0,ht=>have e:(24:Nat)=t:=Option.some.inj ht;rw[←e];exact ws24
 | j+1,ht=>simp at ht

theorem card:Rows.BackAllCardSaid:=
 Claim7.holds_tied_plain_at .later [] _ _ _ _ said (fun _ h=>by cases h) (by kernel_rfl) (fun _ h=>by cases h) backAll_row_tie rfl ⟨rfl,rfl⟩ (by kernel_rfl) rfl plain (by kernel_rfl)
end Go.Proofs.YtciohfkjabeooaaGreatDoor.backAll
