/- Made from wip. -/
import Derived.Test.YtenlanbdolnhhaaRows
import Derived.Test.YtenlanbdolnhhaaSpClox
import Derived.Test.YtenlanbdolnhhaaRgHJoinx
import Derived.Test.YtenlanbdolnhhaaRgHTow

namespace Go.Proofs.Ytenlanbdolnhhaa.ringFinds
open Go.ChangeShapes Go.WideShapes Go.ChangeAt Go.RowKit Go.Sp Go.RgHM

theorem own:ownKnob Try.prog.godebug=none:=by kernel_rfl
theorem cells3:Try.prog.cellsOf 3=1:=by kernel_rfl
theorem mixed:Try.prog.follows .mixedOrders=true:=by kernel_rfl
theorem kids:Kids Try.prog (· < Try.prog.types.size):=kids_rows (by kernel_rfl) (by kernel_rfl)
theorem full:∀ t e,t < Try.prog.types.size→Try.prog.underlying t=some (.slice e)→0 < Try.prog.cellsOf e:=slices_full_of _ (by kernel_rfl)
theorem size:Try.prog.types.size=156:=by kernel_rfl
theorem small:∀ t∈Try.f5.params.toList,t < Try.prog.types.size:=by
 rw[Try.params5,size]
 intro t ht
 simp only[List.mem_cons,List.not_mem_nil,or_false] at ht
 rcases ht with rfl | rfl | rfl <;> decide
theorem lt22:22 < Try.prog.types.size:=by rw[size];decide
theorem res:Try.f5.resultTypes = #[4]:=by kernel_rfl
theorem plain22:plainTy Try.prog 6 22=true:=by kernel_rfl
theorem law:PureOk Try.prog [] 5 (m5 RgH.puX L):=RgH.lawOk mixed

theorem walk (W:World) (h:laidMetH Try.prog Rows.ringFindsRow.laid W) (H:Type) (enc:TypeId×Value→H) (args:Array Value) (ds gs:List (DataW H)) (before:List MemPlace) (base:Nat)
 (hval:OkArgs Try.prog Try.f5 W base args)
 (hW:DataW.Whole enc Try.prog Try.f5.params.toList Rows.ringFindsSpec.vars false W args.toList ds gs before) :
 Calls Try.prog 5 args W fun e W'=>e = .returned (.bool true)∧GrownB W W':=by
 obtain⟨p,q,hA,_⟩:=hW
 rw[Try.params5] at hA
 obtain⟨v,v',v'',d,d',d'',q1,q2,q3,hargs,_,_,⟨f1,h1⟩,⟨f2,h2⟩,⟨f3,h3⟩⟩:=trodAll_three hA
 subst hargs
 obtain⟨R,hR1,hR2,hs⟩:=Go.Sp.start0 W
 obtain⟨a0,ha0,w0⟩:=OkArgs.int (P:=Try.prog) (f:=Try.f5) (W:=W) (base:=base) (args:=#[v,v',v'']) (by assumption) 0 (by rw[Try.params5];rfl) rfl Try.underlying3
 obtain⟨a1,ha1,w1⟩:=OkArgs.int (P:=Try.prog) (f:=Try.f5) (W:=W) (base:=base) (args:=#[v,v',v'']) (by assumption) 1 (by rw[Try.params5];rfl) rfl Try.underlying3
 obtain⟨sa2,sl2,sc2,ha2⟩:=OkArgs.slice (P:=Try.prog) (f:=Try.f5) (W:=W) (base:=base) (args:=#[v,v',v'']) (by assumption) 2 (by rw[Try.params5];rfl) rfl Try.underlying22
 clear hval
 subst ha0;subst ha1;subst ha2
 obtain⟨xs2,hv2,hcl2,hsh2⟩:=read_ok (R:=R) kids full hR2 6 f3 22 _ _ lt22 plain22 h3
 obtain⟨p2,rfl,len_p2,w_p2⟩:=(hsh2).ints Try.underlying22 Try.underlying3 cells3
 have hm:=RgP.finds_law RgH.puX RgH.eX (by rw[RgH.eX14];rfl) a0 a1 0 p2
 refine law_true0 law (args:=[.int .i64 a0,.int .i64 a1,S 0 p2]) hm ?_ hR1 hs ?_
 ·intro x hx
  simp at hx
  rcases hx with rfl | rfl | rfl <;> rfl
 ·exact .cons (.int _ _) (.cons (.int _ _) (.cons (hv2.2 0 _ _ rfl rfl) (.nil)))

theorem contract (H:Type) (enc:TypeId×Value→H) (W:World) (args:Array Value) (ds gs:List (DataW H)) (before:List MemPlace) {base:Nat}
 (hval:OkArgs Try.prog Try.f5 W base args)
 (hW:DataW.Whole enc Try.prog Try.f5.params.toList Rows.ringFindsSpec.vars false W args.toList ds gs before) (hL:laidMetH Try.prog Rows.ringFindsRow.laid W) :
 Calls Try.prog 5 args W fun e W'=>∃ v,e = .returned v∧Rows.ringFindsSpec.post enc Try.prog Try.f5 false true false false W args v W':=by
 have hd:Rows.ringFindsSpec.fn H ds = { results:=[.lit (.bool true)],args:=ds }:=by
  obtain⟨p,q,hA,_⟩:=hW
  rw[Try.params5] at hA
  obtain⟨_,_,_,d1,d2,d3,_,_,_,_,rfl,_⟩:=trodAll_three hA
  rfl
 exact post_trueA kids full small hW rfl hd res Try.underlying4 (walk W hL H enc args ds gs before base (by assumption) hW)

noncomputable def laidWorld (os:Os):World:=World.holding Try.prog os ⟨#[],#[],[]⟩
def wArgs:Array Value:=#[.int .i64 0,.int .i64 0,.slice none 0 0]
set_option maxRecDepth 100000 in
theorem laid_met (os:Os):laidMet Try.prog Rows.ringFindsRow.laid ((laidWorld os).forCall (fun _ _=>0) ⟨#[],wArgs,[]⟩).memory:=
 laidMet_of_run' 8 (by kernel_rfl) (by kernel_rfl)
set_option maxRecDepth 100000 in
theorem reads (os : Os) {H : Type} (enc : TypeId × Value → H) : ∃ places, DataW.whole enc Try.prog ((laidWorld os).forCall (fun _ _ => 0) ⟨#[], wArgs, []⟩).memory Try.f5.params.toList Rows.ringFindsSpec.vars false wArgs.toList 8 =
 some ([.lit (.int .i64 0),.lit (.int .i64 0),.nil],[],places):=
 ⟨[],by kernel_rfl⟩

set_option maxRecDepth 100000 in
theorem lifted (os:Os) (started:os.Started) (H:Type) (enc:TypeId×Value→H) (F:Stop.Interp) :
 ReturnsInHanded {} Try.checked os 5 .any ((OpenSpec.ofChange Rows.ringFindsSpec).preRow enc Try.prog Try.f5 Rows.ringFindsRow.domain false Rows.ringFindsRow.laid) (((OpenSpec.ofChange Rows.ringFindsSpec).at F).post enc Try.prog Try.f5 false true false false):=by
 obtain⟨places,hx⟩:=reads os enc
 refine handed_of (C := Try.checked) (s := OpenSpec.ofChange Rows.ringFindsSpec) own started (by kernel_rfl) Try.func5
  (witness_row_at (enc := enc) (C := Try.checked) false (laidWorld os) wArgs rfl (by kernel_rfl) (by kernel_rfl) (by kernel_rfl)
    (OpenSpec.preRow_of_cond 8 hx (by kernel_rfl) (fun k hk=>by cases hk) (by kernel_rfl) (laid_met os))) ?_
 intro W base args ds gs before hval hW hL
 exact contract H enc W args ds gs before (base:=base) (by assumption) hW hL

theorem said:Rows.RingFindsSaid:=
 OpenClaim.holds_of_cond 5 Try.f5 rfl rfl rfl rfl rfl rfl rfl ⟨rfl, rfl, rfl, rfl, rfl⟩ rfl rfl rfl rfl rfl (by kernel_rfl) Try.func5 (by kernel_rfl)
  (of_decide_eq_true (by kernel_rfl)) (by unfold Func.isWrapper;first | (rw[if_pos (by decide +kernel)];kernel_rfl) | (rw[if_neg (by decide +kernel)];exact⟨rfl,rfl⟩))
  (fun os started H enc _ F=>by rw[OpenClaim.pre_eq_preRow];exact lifted os started H enc F)

end Go.Proofs.Ytenlanbdolnhhaa.ringFinds
