/- Made from wip. -/
import Derived.Test.YtokbaaeimejjlaaGreatDoorCards
import Derived.Test.YtokbaaeimejjlaaGreatDoorTie
import Derived.Test.YtokbaaeimejjlaaGreatDoorSpMorex
import Derived.Test.YtokbaaeimejjlaaGreatDoorBzChunkx
import Derived.Test.YtokbaaeimejjlaaGreatDoorBkYTow
import Derived.Test.YtokbaaeimejjlaaGreatDoorBkYT9x

namespace Go.Proofs.YtokbaaeimejjlaaGreatDoor.backKin
open Go.ChangeShapes Go.WideShapes Go.ChangeAt Go.RowKit Go.Sp Go.BkYM

theorem own:ownKnob Tryz.prog.godebug = none:=by kernel_rfl
theorem U0 : Tryz.prog.globalNamed "math/bits.deBruijn32tab" = some 0 := by kernel_rfl
theorem jC:(Tryz.prog.globals[0]?).map (·.type) = some 112:=by kernel_rfl
theorem cells3:Tryz.prog.cellsOf 3 = 1:=by kernel_rfl
theorem cells5:Tryz.prog.cellsOf 5 = 1:=by kernel_rfl
theorem jD:Tryz.prog.cellsOf 112 = 32:=by kernel_rfl
theorem mixed:Tryz.prog.follows .mixedOrders = true:=by kernel_rfl
theorem kids:Kids Tryz.prog (· < Tryz.prog.types.size):=kids_rows (by kernel_rfl) (by kernel_rfl)
theorem AbG:∀ t e,t < Tryz.prog.types.size→Tryz.prog.underlying t = some (.slice e)→0 < Tryz.prog.cellsOf e:=slices_full_of _ (by kernel_rfl)
theorem size:Tryz.prog.types.size = 169:=by kernel_rfl
theorem small:∀ t ∈ Tryz.f4.params.toList,t < Tryz.prog.types.size:=by
 rw [Tryz.params4,size]
 intro t ht
 simp only [List.mem_cons,List.not_mem_nil,or_false] at ht
 rcases ht with rfl | rfl <;> decide
theorem AjW:22 < Tryz.prog.types.size:=by rw [size];decide
theorem AjX:24 < Tryz.prog.types.size:=by rw [size];decide
theorem res:Tryz.f4.resultTypes = #[4]:=by kernel_rfl
set_option maxRecDepth 100000 in
theorem AjY:Tryz.pinned.checked.prog.wantsStandIn 22 = false:=by kernel_rfl
set_option maxRecDepth 100000 in
theorem AjZ:Tryz.pinned.checked.prog.wantsStandIn 24 = false:=by kernel_rfl
theorem mO:Io Tryz.prog 6 22 = true:=by kernel_rfl
theorem mP:Io Tryz.prog 6 24 = true:=by kernel_rfl

def AbH:List Int:=[0,1,28,2,29,14,24,3,30,22,20,15,25,17,4,8,31,27,13,23,21,19,16,7,26,12,18,6,11,5,10,9]
theorem mQ:(AbH.map fun z=>Value.int .u8 z) = VY:=rfl
theorem table {W : World} (h : laidMetH Tryz.prog Rows.backKinRow.laid W) : Lib.TabIs Tryz.prog W "math/bits.deBruijn32tab" .u8 AbH :=
 Lib.tabIs_of_head (rest:=[]) U0 jC Tryz.underlying112 Tryz.underlying5 cells5 jD h

theorem law:BA Tryz.prog [VY] 4 (AQ 9 4):=BkY.lawK mixed

theorem walk (W : World) (h : laidMetH Tryz.prog Rows.backKinRow.laid W) (H : Type) (enc : TypeId × Value → H) (args : Array Value) (ds gs : List (DataW H)) (before : List MemPlace) (base : Nat)
 (hval:Dw Tryz.prog Tryz.f4 W base args)
 (hW:DataW.Whole enc Tryz.prog Tryz.f4.params.toList Rows.backKinSpec.vars false W args.toList ds gs before) :
 Calls Tryz.prog 4 args W fun e W'=>e = .returned (.bool true)∧J9 W W':=by
 obtain ⟨p,q,hA,_⟩:=hW
 rw [Tryz.params4] at hA
 obtain ⟨v,v',d,d',q1,q2,hargs,_,_,⟨f1,h1⟩,⟨f2,h2⟩⟩:=trodAll_two hA
 subst hargs
 obtain ⟨R,hR1,hR2,hs⟩:=Go.Sp.start (table h) U0 (by decide)
 rw [mQ] at hs
 obtain ⟨cs0,ha0⟩:=Dw.struct (P:=Tryz.prog) (f:=Tryz.f4) (W:=W) (base:=base) (args:=#[v,v']) (by assumption) 0 (by rw [Tryz.params4];rfl) rfl Tryz.underlying24
 obtain ⟨sa1,sl1,sc1,ha1⟩:=Dw.slice (P:=Tryz.prog) (f:=Tryz.f4) (W:=W) (base:=base) (args:=#[v,v']) (by assumption) 1 (by rw [Tryz.params4];rfl) rfl Tryz.underlying22
 clear hval
 subst ha0;subst ha1
 obtain ⟨xs0,hv0,hcl0,hsh0⟩:=XI (R:=R) kids AbG hR2 6 f1 24 _ _ AjX mP h1
 obtain ⟨ls1,hl1,rfl,hf1⟩:=(hsh0).struct_inv Tryz.underlying24
 obtain ⟨y1_0,y1_1,y1_2,y1_3,hy1⟩:∃ y1_0 y1_1 y1_2 y1_3,ls1 = [y1_0,y1_1,y1_2,y1_3]:=by
  match ls1,hl1 with
  | [x0,x1,x2,x3],_=>exact ⟨x0,x1,x2,x3,rfl⟩
 subst hy1
 obtain ⟨p0_0,rfl,w_p0_0⟩:=(hf1 0 _ y1_0 rfl rfl).int_inv Tryz.underlying3
 obtain ⟨p0_1,rfl,w_p0_1⟩:=(hf1 1 _ y1_1 rfl rfl).int_inv Tryz.underlying3
 obtain ⟨p0_2,rfl,w_p0_2⟩:=(hf1 2 _ y1_2 rfl rfl).int_inv Tryz.underlying3
 obtain ⟨p0_3,rfl,len_p0_3,w_p0_3⟩:=(hf1 3 _ y1_3 rfl rfl).ints Tryz.underlying22 Tryz.underlying3 cells3
 obtain ⟨xs1,hv1,hcl1,hsh1⟩:=XI (R:=R) kids AbG hR2 6 f2 22 _ _ AjW mO h2
 obtain ⟨p1,rfl,len_p1,w_p1⟩:=(hsh1).ints Tryz.underlying22 Tryz.underlying3 cells3
 have hm:=Go.BkQ.kinLaw 0 0 0 (R:=p0_0) (C:=p0_1) (K:=p0_2) (ts:=p0_3) (x:=p1)
 refine bF law (args:=[.agg ⟨[.int .i64 p0_0,.int .i64 p0_1,.int .i64 p0_2,S 0 p0_3]⟩,S 0 p1]) hm ?_ hR1 hs ?_
 ·intro x hx
  simp at hx
  rcases hx with rfl | rfl <;> rfl
 ·exact .cons (.agg hv0.1 hv0.2) (.cons (hv1.2 0 _ _ rfl rfl) (.nil))

theorem Pt (H : Type) (enc : TypeId × Value → H) (W : World) (args : Array Value) (ds gs : List (DataW H)) (before : List MemPlace) {base : Nat}
 (hval:Dw Tryz.prog Tryz.f4 W base args)
 (hW:DataW.Whole enc Tryz.prog Tryz.f4.params.toList Rows.backKinSpec.vars false W args.toList ds gs before) (hL:laidMetH Tryz.prog Rows.backKinRow.laid W) :
 Calls Tryz.prog 4 args W fun e W'=>∃ v,e = .returned v∧Rows.backKinSpec.post enc Tryz.prog Tryz.f4 false true false false W args v W':=by
 have hd:Rows.backKinSpec.fn H ds = { results:=[.lit (.bool true)],args:=ds }:=by
  obtain ⟨p,q,hA,_⟩:=hW
  rw [Tryz.params4] at hA
  obtain ⟨_,_,d1,d2,_,_,_,rfl,_⟩:=trodAll_two hA
  rfl
 exact VJ kids AbG small hW rfl hd res Tryz.underlying4 (walk W hL H enc args ds gs before base (by assumption) hW)

noncomputable def L8 (os:Os):World:=
 { World.holding Tryz.prog os ⟨#[], #[], []⟩ with heap := (World.holding Tryz.prog os ⟨#[], #[], []⟩).heap.modify 0 fun
  | .cells _ t frozen=>.cells (AbH.map fun z=>Value.int .u8 z).toArray t frozen
  | o=>o }
def YC:Array Value:=#[.agg #[.int .i64 0,.int .i64 0,.int .i64 0,.slice none 0 0],.slice none 0 0]
set_option maxRecDepth 100000 in
theorem jE (os:Os):laidMet Tryz.prog Rows.backKinRow.laid ((L8 os).forCall (fun _ _=>0) ⟨#[],YC,[]⟩).memory:=
 laidMet_of_run' 8 (by kernel_rfl) (by kernel_rfl)
set_option maxRecDepth 100000 in
theorem reads (os : Os) {H : Type} (enc : TypeId × Value → H) : ∃ places, DataW.whole enc Tryz.prog ((L8 os).forCall (fun _ _ => 0) ⟨#[], YC, []⟩).memory Tryz.f4.params.toList Rows.backKinSpec.vars false YC.toList 8 =
 some ([.agg [.lit (.int .i64 0),.lit (.int .i64 0),.lit (.int .i64 0),.nil],.nil],[],places):=
 ⟨[],by kernel_rfl⟩

set_option maxRecDepth 100000 in
theorem lifted (os : Os) (started : os.Started) (H : Type) (enc : TypeId × Value → H) (F : Stop.Interp) :
 ReturnsInHanded {} Tryz.checked os 4 .any ((OpenSpec.ofChange Rows.backKinSpec).preRow enc Tryz.prog Tryz.f4 Rows.backKinRow.domain false Rows.backKinRow.laid) (((OpenSpec.ofChange Rows.backKinSpec).at F).post enc Tryz.prog Tryz.f4 false true false false):=by
 obtain ⟨places,hx⟩:=reads os enc
 refine Zj (C := Tryz.checked) (s := OpenSpec.ofChange Rows.backKinSpec) own started (by kernel_rfl) Tryz.func4
  (witness_row_at (enc := enc) (C := Tryz.checked) false (L8 os) YC rfl (by kernel_rfl) (by kernel_rfl) (by kernel_rfl)
    (OpenSpec.preRow_of_cond 8 hx (by kernel_rfl) (fun k hk=>by cases hk) (by kernel_rfl) (jE os))) ?_
 intro W base args ds gs before hval hW hL
 exact Pt H enc W args ds gs before (base:=base) (by assumption) hW hL

theorem said:Rows.BackKinSaid:=
 OpenClaim.holds_of_cond 4 Tryz.f4 rfl rfl rfl rfl rfl rfl rfl ⟨rfl, rfl, rfl, rfl, rfl⟩ rfl rfl rfl rfl rfl (by kernel_rfl) Tryz.func4 (by kernel_rfl)
  (of_decide_eq_true (by kernel_rfl)) (by unfold Func.isWrapper;first | (rw [if_pos (by decide +kernel)];kernel_rfl) | (rw [if_neg (by decide +kernel)];exact ⟨rfl,rfl⟩))
  (fun os started H enc _ F=>by rw [OpenClaim.pre_eq_preRow];exact lifted os started H enc F)

theorem plain (f : FuncId) (fn : Func) (hf : Tryz.pinned.checked.prog.funcNamed "spadille/spadillelaw03.BackKin" = some f) (hfn : Tryz.pinned.checked.prog.funcs[f]? = some fn) :
 false = Tryz.pinned.checked.prog.looks []∧∀ (j:Nat) t,fn.params[j]? = some t→Tryz.pinned.checked.prog.wantsStandIn t = false:=by
 obtain rfl : f = 4 := Option.some.inj ((show Tryz.prog.funcNamed "spadille/spadillelaw03.BackKin" = some 4 by kernel_rfl).symm.trans hf) |>.symm
 obtain rfl:fn = Tryz.f4:=(Option.some.inj (Tryz.func4.symm.trans hfn)).symm
 refine ⟨by kernel_rfl,fun j t ht=>?_⟩
 rw [Tryz.params4] at ht
 match j,ht with
 | 0,ht=>have e:(24:Nat) = t:=Option.some.inj ht;rw [←e];exact AjZ
 | 1,ht=>have e:(22:Nat) = t:=Option.some.inj ht;rw [←e];exact AjY
 | j + 2,ht=>simp at ht

theorem card:Rows.BackKinCardSaid:=
 Claim7.holds_tied_plain_at .later [] _ _ _ _ said (fun _ h=>by cases h) (by kernel_rfl) (fun _ h=>by cases h) backKin_row_tie rfl ⟨rfl,rfl⟩ (by kernel_rfl) rfl plain (by kernel_rfl)
end Go.Proofs.YtokbaaeimejjlaaGreatDoor.backKin
