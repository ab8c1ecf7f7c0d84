/- Made from wip. -/
import Derived.Test.YtenlanbdolnhhaaRows
import Derived.Test.YtenlanbdolnhhaaSpObjx
import Derived.Test.YtenlanbdolnhhaaRgJJoinx
import Derived.Test.YtenlanbdolnhhaaRgJTow

namespace Go.Proofs.Ytenlanbdolnhhaa.ringFrom
open Go.ChangeShapes Go.WideShapes Go.ChangeAt Go.RowKit Go.Sp Go.RgJM

theorem own:ownKnob Try.prog.godebug=none:=by kernel_rfl
theorem mixed:Try.prog.follows .mixedOrders=true:=by kernel_rfl
theorem kids:Kids Try.prog (· < Try.prog.types.size):=kids_rows (by kernel_rfl) (by kernel_rfl)
theorem full:∀ t e,t < Try.prog.types.size→Try.prog.underlying t=some (.slice e)→0 < Try.prog.cellsOf e:=slices_full_of _ (by kernel_rfl)
theorem size:Try.prog.types.size=156:=by kernel_rfl
theorem small:∀ t∈Try.f13.params.toList,t < Try.prog.types.size:=by
 rw[Try.params13,size]
 intro t ht
 simp only[List.mem_cons,List.not_mem_nil,or_false] at ht
 subst ht;decide
theorem lt67:67 < Try.prog.types.size:=by rw[size];decide
theorem res:Try.f13.resultTypes = #[4]:=by kernel_rfl
theorem plain67:plainTy Try.prog 6 67=true:=by kernel_rfl
theorem wfN8 {n:Int} (h:(Lit.int .u8 n).wf=true):∃ k:Nat,n=Int.ofNat k∧k < 256:=by
 simp only[Lit.wf,Bool.and_eq_true,decide_eq_true_eq] at h
 have h1:(0:Int)≤n:=h.1
 have h2:n≤(255:Int):=h.2
 exact⟨n.toNat,by show n=((n.toNat:Nat):Int);omega,by omega⟩
theorem wfN32 {n:Int} (h:(Lit.int .u32 n).wf=true):∃ k:Nat,n=Int.ofNat k∧k < 4294967296:=by
 simp only[Lit.wf,Bool.and_eq_true,decide_eq_true_eq] at h
 have h1:(0:Int)≤n:=h.1
 have h2:n≤(4294967295:Int):=h.2
 exact⟨n.toNat,by show n=((n.toNat:Nat):Int);omega,by omega⟩
theorem law:PureOk Try.prog [] 13 (m13 RgJ.puX L):=RgJ.lawOk mixed

theorem walk (W:World) (h:laidMetH Try.prog Rows.ringFromRow.laid W) (H:Type) (enc:TypeId×Value→H) (args:Array Value) (ds gs:List (DataW H)) (before:List MemPlace) (base:Nat)
 (hval:OkArgs Try.prog Try.f13 W base args)
 (hW:DataW.Whole enc Try.prog Try.f13.params.toList Rows.ringFromSpec.vars false W args.toList ds gs before) :
 Calls Try.prog 13 args W fun e W'=>e = .returned (.bool true)∧GrownB W W':=by
 obtain⟨p,q,hA,_⟩:=hW
 rw[Try.params13] at hA
 obtain⟨v,d,hargs,_,f1,h1⟩:=trodAll_one hA
 subst hargs
 obtain⟨R,hR1,hR2,hs⟩:=Go.Sp.start0 W
 obtain⟨cs0,ha0⟩:=OkArgs.struct (P:=Try.prog) (f:=Try.f13) (W:=W) (base:=base) (args:=#[v]) (by assumption) 0 (by rw[Try.params13];rfl) rfl Try.underlying67
 clear hval
 subst ha0
 obtain⟨xs0,hv0,hcl0,hsh0⟩:=read_ok (R:=R) kids full hR2 6 f1 67 _ _ lt67 plain67 h1
 obtain⟨ls1,hl1,rfl,hf1⟩:=(hsh0).struct_inv Try.underlying67
 obtain⟨y1_0,y1_1,hy1⟩:∃ y1_0 y1_1,ls1=[y1_0,y1_1]:=by
  match ls1,hl1 with
  | [x0,x1],_=>exact⟨x0,x1,rfl⟩
 subst hy1
 obtain⟨p0_0,rfl,w_p0_0⟩:=(hf1 0 _ y1_0 rfl rfl).int_inv Try.underlying5
 obtain⟨p0_1,rfl,w_p0_1⟩:=(hf1 1 _ y1_1 rfl rfl).int_inv Try.underlying65
 obtain⟨p,e0,hp⟩:=wfN8 w_p0_0
 obtain⟨b,e1,hb⟩:=wfN32 w_p0_1
 have hm:=RgP.from_law RgJ.puX RgJ.eX (by rw[RgJ.eX14];rfl) hp hb
 rw[←e0,←e1] at hm
 refine law_true0 law (args:=[.agg ⟨[.int .u8 p0_0,.int .u32 p0_1]⟩]) hm ?_ hR1 hs ?_
 ·intro x hx
  simp at hx
  subst hx;rfl
 ·exact .cons (.agg hv0.1 hv0.2) (.nil)

theorem contract (H:Type) (enc:TypeId×Value→H) (W:World) (args:Array Value) (ds gs:List (DataW H)) (before:List MemPlace) {base:Nat}
 (hval:OkArgs Try.prog Try.f13 W base args)
 (hW:DataW.Whole enc Try.prog Try.f13.params.toList Rows.ringFromSpec.vars false W args.toList ds gs before) (hL:laidMetH Try.prog Rows.ringFromRow.laid W) :
 Calls Try.prog 13 args W fun e W'=>∃ v,e = .returned v∧Rows.ringFromSpec.post enc Try.prog Try.f13 false true false false W args v W':=by
 have hd:Rows.ringFromSpec.fn H ds = { results:=[.lit (.bool true)],args:=ds }:=by
  obtain⟨p,q,hA,_⟩:=hW
  rw[Try.params13] at hA
  obtain⟨_,d1,_,rfl,_⟩:=trodAll_one hA
  rfl
 exact post_trueA kids full small hW rfl hd res Try.underlying4 (walk W hL H enc args ds gs before base (by assumption) hW)

noncomputable def laidWorld (os:Os):World:=World.holding Try.prog os ⟨#[],#[],[]⟩
def wArgs:Array Value:=#[.agg #[.int .u8 0,.int .u32 0]]
set_option maxRecDepth 100000 in
theorem laid_met (os:Os):laidMet Try.prog Rows.ringFromRow.laid ((laidWorld os).forCall (fun _ _=>0) ⟨#[],wArgs,[]⟩).memory:=
 laidMet_of_run' 8 (by kernel_rfl) (by kernel_rfl)
set_option maxRecDepth 100000 in
theorem reads (os : Os) {H : Type} (enc : TypeId × Value → H) : ∃ places, DataW.whole enc Try.prog ((laidWorld os).forCall (fun _ _ => 0) ⟨#[], wArgs, []⟩).memory Try.f13.params.toList Rows.ringFromSpec.vars false wArgs.toList 8 =
 some ([.agg [.lit (.int .u8 0),.lit (.int .u32 0)]],[],places):=
 ⟨[],by kernel_rfl⟩

set_option maxRecDepth 100000 in
theorem lifted (os:Os) (started:os.Started) (H:Type) (enc:TypeId×Value→H) (F:Stop.Interp) :
 ReturnsInHanded {} Try.checked os 13 .any ((OpenSpec.ofChange Rows.ringFromSpec).preRow enc Try.prog Try.f13 Rows.ringFromRow.domain false Rows.ringFromRow.laid) (((OpenSpec.ofChange Rows.ringFromSpec).at F).post enc Try.prog Try.f13 false true false false):=by
 obtain⟨places,hx⟩:=reads os enc
 refine handed_of (C := Try.checked) (s := OpenSpec.ofChange Rows.ringFromSpec) own started (by kernel_rfl) Try.func13
  (witness_row_at (enc := enc) (C := Try.checked) false (laidWorld os) wArgs rfl (by kernel_rfl) (by kernel_rfl) (by kernel_rfl)
    (OpenSpec.preRow_of_cond 8 hx (by kernel_rfl) (fun k hk=>by cases hk) (by kernel_rfl) (laid_met os))) ?_
 intro W base args ds gs before hval hW hL
 exact contract H enc W args ds gs before (base:=base) (by assumption) hW hL

theorem said:Rows.RingFromSaid:=
 OpenClaim.holds_of_cond 13 Try.f13 rfl rfl rfl rfl rfl rfl rfl ⟨rfl, rfl, rfl, rfl, rfl⟩ rfl rfl rfl rfl rfl (by kernel_rfl) Try.func13 (by kernel_rfl)
  (of_decide_eq_true (by kernel_rfl)) (by unfold Func.isWrapper;first | (rw[if_pos (by decide +kernel)];kernel_rfl) | (rw[if_neg (by decide +kernel)];exact⟨rfl,rfl⟩))
  (fun os started H enc _ F=>by rw[OpenClaim.pre_eq_preRow];exact lifted os started H enc F)

end Go.Proofs.Ytenlanbdolnhhaa.ringFrom
