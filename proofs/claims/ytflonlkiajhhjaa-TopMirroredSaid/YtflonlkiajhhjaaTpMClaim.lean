/- Made from wip. -/
import Derived.Test.YtflonlkiajhhjaaRows
import Derived.Test.YtflonlkiajhhjaaSpObjx
import Derived.Test.YtflonlkiajhhjaaTpMJoinx
import Derived.Test.YtflonlkiajhhjaaTpMLaw2

namespace Go.Proofs.Ytflonlkiajhhjaa.topMirrored
open Go.ChangeShapes Go.WideShapes Go.ChangeAt Go.RowKit Go.Sp Go.TpMM

theorem own:ownKnob Try.prog.godebug=none:=by kernel_rfl
theorem mixed:Try.prog.follows .mixedOrders=true:=by kernel_rfl
theorem kids:Kids Try.prog (· < Try.prog.types.size):=kids_rows (by kernel_rfl) (by kernel_rfl)
theorem full:∀ t e,t < Try.prog.types.size→Try.prog.underlying t=some (.slice e)→0 < Try.prog.cellsOf e:=slices_full_of _ (by kernel_rfl)
theorem size:Try.prog.types.size=194:=by kernel_rfl
theorem small:∀ t∈Try.f4.params.toList,t < Try.prog.types.size:=by
 rw[Try.params4,size]
 intro t ht
 simp only[List.mem_cons,List.not_mem_nil,or_false] at ht
 rcases ht with rfl | rfl | rfl | rfl | rfl <;> decide
theorem res:Try.f4.resultTypes = #[4]:=by kernel_rfl
theorem law:BA Try.prog [] 4 (m4 TpM.puB L):=TpM.lawOk mixed

theorem walk (W:World) (h:laidMetH Try.prog Rows.topMirroredRow.laid W) (H:Type) (enc:TypeId×Value→H) (args:Array Value) (ds gs:List (DataW H)) (before:List MemPlace) (base:Nat)
 (hval:Dw Try.prog Try.f4 W base args)
 (hW:DataW.Whole enc Try.prog Try.f4.params.toList Rows.topMirroredSpec.vars false W args.toList ds gs before) :
 Calls Try.prog 4 args W fun e W'=>e = .returned (.bool true)∧J9 W W':=by
 obtain⟨p,q,hA,_⟩:=hW
 rw[Try.params4] at hA
 obtain⟨v,vs,d,ds',_,_,hargs,rfl,_,⟨f1,h1⟩,hA⟩:=trodAll_cons hA
 obtain⟨v',vs',d',ds'',_,_,rfl,rfl,_,⟨f2,h2⟩,hA⟩:=trodAll_cons hA
 obtain⟨v'',vs'',d'',ds''',_,_,rfl,rfl,_,⟨f3,h3⟩,hA⟩:=trodAll_cons hA
 obtain⟨v3,vs3,d3,ds3,_,_,rfl,rfl,_,⟨f4,h4⟩,hA⟩:=trodAll_cons hA
 obtain⟨v4,vs4,d4,ds4,_,_,rfl,rfl,_,⟨f5,h5⟩,hA⟩:=trodAll_cons hA
 obtain⟨rfl,rfl,rfl⟩:=trodAll_nil hA
 replace hargs:args = #[v,v',v'',v3,v4]:=by cases args;simp_all
 subst hargs
 obtain⟨R,hR1,hR2,hs⟩:=Go.Sp.start0 W
 obtain⟨a0,ha0,w0⟩:=Dw.int (P:=Try.prog) (f:=Try.f4) (W:=W) (base:=base) (args:=#[v,v',v'',v3,v4]) (by assumption) 0 (by rw[Try.params4];rfl) rfl Try.underlying5
 obtain⟨a1,ha1,w1⟩:=Dw.int (P:=Try.prog) (f:=Try.f4) (W:=W) (base:=base) (args:=#[v,v',v'',v3,v4]) (by assumption) 1 (by rw[Try.params4];rfl) rfl Try.underlying5
 obtain⟨a2,ha2,w2⟩:=Dw.int (P:=Try.prog) (f:=Try.f4) (W:=W) (base:=base) (args:=#[v,v',v'',v3,v4]) (by assumption) 2 (by rw[Try.params4];rfl) rfl Try.underlying5
 obtain⟨a3,ha3,w3⟩:=Dw.int (P:=Try.prog) (f:=Try.f4) (W:=W) (base:=base) (args:=#[v,v',v'',v3,v4]) (by assumption) 3 (by rw[Try.params4];rfl) rfl Try.underlying5
 obtain⟨a4,ha4,w4⟩:=Dw.int (P:=Try.prog) (f:=Try.f4) (W:=W) (base:=base) (args:=#[v,v',v'',v3,v4]) (by assumption) 4 (by rw[Try.params4];rfl) rfl Try.underlying5
 clear hval
 subst ha0;subst ha1;subst ha2;subst ha3;subst ha4

 have hm:=TpM.mir_law (TpM.wfU w0).1 (TpM.wfU w0).2 (TpM.wfU w1).1 (TpM.wfU w1).2 (TpM.wfU w2).1 (TpM.wfU w2).2 (TpM.wfU w3).1 (TpM.wfU w3).2 (TpM.wfU w4).1
 generalize ha:([.int .u8 a0,.int .u8 a1,.int .u8 a2,.int .u8 a3,.int .u8 a4]:List Value)=args at hm
 refine Uo law (args:=args) hm ?_ hR1 hs ?_
 ·rw[←ha];intro x hx
  simp at hx
  rcases hx with rfl | rfl | rfl | rfl | rfl <;> rfl
 ·rw[←ha];exact .cons (.int _ _) (.cons (.int _ _) (.cons (.int _ _) (.cons (.int _ _) (.cons (.int _ _) (.nil)))))

theorem contract (H:Type) (enc:TypeId×Value→H) (W:World) (args:Array Value) (ds gs:List (DataW H)) (before:List MemPlace) {base:Nat}
 (hval:Dw Try.prog Try.f4 W base args)
 (hW:DataW.Whole enc Try.prog Try.f4.params.toList Rows.topMirroredSpec.vars false W args.toList ds gs before) (hL:laidMetH Try.prog Rows.topMirroredRow.laid W) :
 Calls Try.prog 4 args W fun e W'=>∃ v,e = .returned v∧Rows.topMirroredSpec.post enc Try.prog Try.f4 false true false false W args v W':=by
 have hd:Rows.topMirroredSpec.fn H ds = { results:=[.lit (.bool true)],args:=ds }:=by
  obtain⟨p,q,hA,_⟩:=hW
  rw[Try.params4] at hA
  obtain⟨_,_,d1,ds',_,_,_,rfl,_,_,hA⟩:=trodAll_cons hA
  obtain⟨_,_,d2,ds'',_,_,_,rfl,_,_,hA⟩:=trodAll_cons hA
  obtain⟨_,_,d3,ds3,_,_,_,rfl,_,_,hA⟩:=trodAll_cons hA
  obtain⟨_,_,d4,ds4,_,_,_,rfl,_,_,hA⟩:=trodAll_cons hA
  obtain⟨_,_,d5,ds5,_,_,_,rfl,_,_,hA⟩:=trodAll_cons hA
  obtain⟨_,rfl,_⟩:=trodAll_nil hA
  rfl
 exact VJ kids full small hW rfl hd res Try.underlying4 (walk W hL H enc args ds gs before base (by assumption) hW)

noncomputable def laidWorld (os:Os):World:=World.holding Try.prog os ⟨#[],#[],[]⟩
def wArgs:Array Value:=#[.int .u8 0,.int .u8 0,.int .u8 0,.int .u8 0,.int .u8 0]
set_option maxRecDepth 100000 in
theorem laid_met (os:Os):laidMet Try.prog Rows.topMirroredRow.laid ((laidWorld os).forCall (fun _ _=>0) ⟨#[],wArgs,[]⟩).memory:=
 laidMet_of_run' 8 (by kernel_rfl) (by kernel_rfl)
set_option maxRecDepth 100000 in
theorem reads (os : Os) {H : Type} (enc : TypeId × Value → H) : ∃ places, DataW.whole enc Try.prog ((laidWorld os).forCall (fun _ _ => 0) ⟨#[], wArgs, []⟩).memory Try.f4.params.toList Rows.topMirroredSpec.vars false wArgs.toList 8 =
 some ([.lit (.int .u8 0),.lit (.int .u8 0),.lit (.int .u8 0),.lit (.int .u8 0),.lit (.int .u8 0)],[],places):=
 ⟨[],by kernel_rfl⟩

set_option maxRecDepth 100000 in
theorem lifted (os:Os) (started:os.Started) (H:Type) (enc:TypeId×Value→H) (F:Stop.Interp) :
 ReturnsInHanded {} Try.checked os 4 .any ((OpenSpec.ofChange Rows.topMirroredSpec).preRow enc Try.prog Try.f4 Rows.topMirroredRow.domain false Rows.topMirroredRow.laid) (((OpenSpec.ofChange Rows.topMirroredSpec).at F).post enc Try.prog Try.f4 false true false false):=by
 obtain⟨places,hx⟩:=reads os enc
 refine Zj (C := Try.checked) (s := OpenSpec.ofChange Rows.topMirroredSpec) own started (by kernel_rfl) Try.func4
  (witness_row_at (enc := enc) (C := Try.checked) false (laidWorld os) wArgs rfl (by kernel_rfl) (by kernel_rfl) (by kernel_rfl)
    (OpenSpec.preRow_of_cond 8 hx (by kernel_rfl) (fun k hk=>by cases hk) (by kernel_rfl) (laid_met os))) ?_
 intro W base args ds gs before hval hW hL
 exact contract H enc W args ds gs before (base:=base) (by assumption) hW hL

theorem said:Rows.TopMirroredSaid:=
 OpenClaim.holds_of_cond 4 Try.f4 rfl rfl rfl rfl rfl rfl rfl ⟨rfl, rfl, rfl, rfl, rfl⟩ rfl rfl rfl rfl rfl (by kernel_rfl) Try.func4 (by kernel_rfl)
  (of_decide_eq_true (by kernel_rfl)) (by unfold Func.isWrapper;first | (rw[if_pos (by decide +kernel)];kernel_rfl) | (rw[if_neg (by decide +kernel)];exact⟨rfl,rfl⟩))
  (fun os started H enc _ F=>by rw[OpenClaim.pre_eq_preRow];exact lifted os started H enc F)

end Go.Proofs.Ytflonlkiajhhjaa.topMirrored
