/- Made from wip. -/
import Derived.Test.YtflonlkiajhhjaaRows
import Derived.Test.YtflonlkiajhhjaaSpObjx
import Derived.Test.YtflonlkiajhhjaaTpAJoinx
import Derived.Test.YtflonlkiajhhjaaTpALawx

namespace Go.Proofs.Ytflonlkiajhhjaa.topAlike
open Go.ChangeShapes Go.WideShapes Go.ChangeAt Go.RowKit Go.Sp Go.TpAM

theorem own:ownKnob Try.prog.godebug=none:=by kernel_rfl
theorem mixed:Try.prog.follows .mixedOrders=true:=by kernel_rfl
theorem kids:Kids Try.prog (· < Try.prog.types.size):=kids_rows (by kernel_rfl) (by kernel_rfl)
theorem full:∀ t e,t < Try.prog.types.size→Try.prog.underlying t=some (.slice e)→0 < Try.prog.cellsOf e:=slices_full_of _ (by kernel_rfl)
theorem size:Try.prog.types.size=194:=by kernel_rfl
theorem small:∀ t∈Try.f3.params.toList,t < Try.prog.types.size:=by
 rw[Try.params3,size]
 intro t ht
 simp only[List.mem_cons,List.not_mem_nil,or_false] at ht
 subst ht;decide
theorem lt22:22 < Try.prog.types.size:=by rw[size];decide
theorem res:Try.f3.resultTypes = #[4]:=by kernel_rfl
theorem plain22:Io Try.prog 6 22=true:=by kernel_rfl
theorem law:BA Try.prog [] 3 (m3 TpA.puB L):=TpA.lawOk mixed

theorem walk (W:World) (h:laidMetH Try.prog Rows.topAlikeRow.laid W) (H:Type) (enc:TypeId×Value→H) (args:Array Value) (ds gs:List (DataW H)) (before:List MemPlace) (base:Nat)
 (hval:Dw Try.prog Try.f3 W base args)
 (hW:DataW.Whole enc Try.prog Try.f3.params.toList Rows.topAlikeSpec.vars false W args.toList ds gs before) :
 Calls Try.prog 3 args W fun e W'=>e = .returned (.bool true)∧J9 W W':=by
 obtain⟨p,q,hA,_⟩:=hW
 rw[Try.params3] at hA
 obtain⟨v,d,hargs,_,f1,h1⟩:=trodAll_one hA
 subst hargs
 obtain⟨R,hR1,hR2,hs⟩:=Go.Sp.start0 W
 obtain⟨cs0,ha0⟩:=Dw.array (P:=Try.prog) (f:=Try.f3) (W:=W) (base:=base) (args:=#[v]) (by assumption) 0 (by rw[Try.params3];rfl) rfl Try.underlying22
 clear hval
 subst ha0
 obtain⟨xs0,hv0,hcl0,hsh0⟩:=XI (R:=R) kids full hR2 6 f1 22 _ _ lt22 plain22 h1
 obtain⟨ls1,hl1,rfl,hf1⟩:=(hsh0).array_inv Try.underlying22
 obtain⟨y1_0,y1_1,y1_2,y1_3,hy1⟩:∃ y1_0 y1_1 y1_2 y1_3,ls1=[y1_0,y1_1,y1_2,y1_3]:=by
  match ls1,hl1 with
  | [x0,x1,x2,x3],_=>exact⟨x0,x1,x2,x3,rfl⟩
 subst hy1
 obtain⟨p0_0,rfl,w_p0_0⟩:=(hf1 y1_0 (by simp)).int_inv Try.underlying5
 obtain⟨p0_1,rfl,w_p0_1⟩:=(hf1 y1_1 (by simp)).int_inv Try.underlying5
 obtain⟨p0_2,rfl,w_p0_2⟩:=(hf1 y1_2 (by simp)).int_inv Try.underlying5
 obtain⟨p0_3,rfl,w_p0_3⟩:=(hf1 y1_3 (by simp)).int_inv Try.underlying5
 have hm:=TpA.alike_law (TpA.wfU w_p0_0).1 (TpA.wfU w_p0_0).2 (TpA.wfU w_p0_1).1 (TpA.wfU w_p0_1).2 (TpA.wfU w_p0_2).1 (TpA.wfU w_p0_2).2 (TpA.wfU w_p0_3).1 (TpA.wfU w_p0_3).2
 generalize ha:([.agg ⟨[.int .u8 p0_0,.int .u8 p0_1,.int .u8 p0_2,.int .u8 p0_3]⟩]:List Value)=args at hm
 refine Uo law (args:=args) hm ?_ hR1 hs ?_
 ·rw[←ha];intro x hx
  simp at hx
  subst hx;rfl
 ·rw[←ha];exact .cons (.agg hv0.1 hv0.2) (.nil)

theorem contract (H:Type) (enc:TypeId×Value→H) (W:World) (args:Array Value) (ds gs:List (DataW H)) (before:List MemPlace) {base:Nat}
 (hval:Dw Try.prog Try.f3 W base args)
 (hW:DataW.Whole enc Try.prog Try.f3.params.toList Rows.topAlikeSpec.vars false W args.toList ds gs before) (hL:laidMetH Try.prog Rows.topAlikeRow.laid W) :
 Calls Try.prog 3 args W fun e W'=>∃ v,e = .returned v∧Rows.topAlikeSpec.post enc Try.prog Try.f3 false true false false W args v W':=by
 have hd:Rows.topAlikeSpec.fn H ds = { results:=[.lit (.bool true)],args:=ds }:=by
  obtain⟨p,q,hA,_⟩:=hW
  rw[Try.params3] at hA
  obtain⟨_,d1,_,rfl,_⟩:=trodAll_one hA
  rfl
 exact VJ kids full small hW rfl hd res Try.underlying4 (walk W hL H enc args ds gs before base (by assumption) hW)

noncomputable def laidWorld (os:Os):World:=World.holding Try.prog os ⟨#[],#[],[]⟩
def wArgs:Array Value:=#[.agg #[.int .u8 0,.int .u8 0,.int .u8 0,.int .u8 0]]
set_option maxRecDepth 100000 in
theorem laid_met (os:Os):laidMet Try.prog Rows.topAlikeRow.laid ((laidWorld os).forCall (fun _ _=>0) ⟨#[],wArgs,[]⟩).memory:=
 laidMet_of_run' 8 (by kernel_rfl) (by kernel_rfl)
set_option maxRecDepth 100000 in
theorem reads (os : Os) {H : Type} (enc : TypeId × Value → H) : ∃ places, DataW.whole enc Try.prog ((laidWorld os).forCall (fun _ _ => 0) ⟨#[], wArgs, []⟩).memory Try.f3.params.toList Rows.topAlikeSpec.vars false wArgs.toList 8 =
 some ([.agg [.lit (.int .u8 0),.lit (.int .u8 0),.lit (.int .u8 0),.lit (.int .u8 0)]],[],places):=
 ⟨[],by kernel_rfl⟩

set_option maxRecDepth 100000 in
theorem lifted (os:Os) (started:os.Started) (H:Type) (enc:TypeId×Value→H) (F:Stop.Interp) :
 ReturnsInHanded {} Try.checked os 3 .any ((OpenSpec.ofChange Rows.topAlikeSpec).preRow enc Try.prog Try.f3 Rows.topAlikeRow.domain false Rows.topAlikeRow.laid) (((OpenSpec.ofChange Rows.topAlikeSpec).at F).post enc Try.prog Try.f3 false true false false):=by
 obtain⟨places,hx⟩:=reads os enc
 refine Zj (C := Try.checked) (s := OpenSpec.ofChange Rows.topAlikeSpec) own started (by kernel_rfl) Try.func3
  (witness_row_at (enc := enc) (C := Try.checked) false (laidWorld os) wArgs rfl (by kernel_rfl) (by kernel_rfl) (by kernel_rfl)
    (OpenSpec.preRow_of_cond 8 hx (by kernel_rfl) (fun k hk=>by cases hk) (by kernel_rfl) (laid_met os))) ?_
 intro W base args ds gs before hval hW hL
 exact contract H enc W args ds gs before (base:=base) (by assumption) hW hL

theorem said:Rows.TopAlikeSaid:=
 OpenClaim.holds_of_cond 3 Try.f3 rfl rfl rfl rfl rfl rfl rfl ⟨rfl, rfl, rfl, rfl, rfl⟩ rfl rfl rfl rfl rfl (by kernel_rfl) Try.func3 (by kernel_rfl)
  (of_decide_eq_true (by kernel_rfl)) (by unfold Func.isWrapper;first | (rw[if_pos (by decide +kernel)];kernel_rfl) | (rw[if_neg (by decide +kernel)];exact⟨rfl,rfl⟩))
  (fun os started H enc _ F=>by rw[OpenClaim.pre_eq_preRow];exact lifted os started H enc F)

end Go.Proofs.Ytflonlkiajhhjaa.topAlike
