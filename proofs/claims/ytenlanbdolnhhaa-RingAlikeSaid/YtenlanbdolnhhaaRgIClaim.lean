/- Made from wip. -/
import Derived.Test.YtenlanbdolnhhaaRows
import Derived.Test.YtenlanbdolnhhaaSpObjx
import Derived.Test.YtenlanbdolnhhaaRgIJoinx
import Derived.Test.YtenlanbdolnhhaaRgITow

namespace Go.Proofs.Ytenlanbdolnhhaa.ringAlike
open Go.ChangeShapes Go.WideShapes Go.ChangeAt Go.RowKit Go.Sp Go.RgIM

theorem own:ownKnob Try.prog.godebug = none:=by kernel_rfl
theorem mixed:Try.prog.follows .mixedOrders = true:=by kernel_rfl
theorem kids:Kids Try.prog (· < Try.prog.types.size):=kids_rows (by kernel_rfl) (by kernel_rfl)
theorem full:∀ t e,t < Try.prog.types.size→Try.prog.underlying t = some (.slice e)→0 < Try.prog.cellsOf e:=slices_full_of _ (by kernel_rfl)
theorem size:Try.prog.types.size = 156:=by kernel_rfl
theorem small:∀ t ∈ Try.f11.params.toList,t < Try.prog.types.size:=by
 rw [Try.params11,size]
 intro t ht
 simp only [List.mem_cons,List.not_mem_nil,or_false] at ht
 rcases ht with rfl | rfl | rfl | rfl <;> decide
theorem lt67:67 < Try.prog.types.size:=by rw [size];decide
theorem res:Try.f11.resultTypes = #[4]:=by kernel_rfl
theorem plain67:plainTy Try.prog 6 67 = true:=by kernel_rfl
theorem wfN8 {n:Int} (h:(Lit.int .u8 n).wf = true):∃ k:Nat,n = Int.ofNat k∧k < 256:=by
 simp only [Lit.wf,Bool.and_eq_true,decide_eq_true_eq] at h
 have h1:(0:Int)≤n:=h.1
 have h2:n≤(255:Int):=h.2
 exact ⟨n.toNat,by show n = ((n.toNat:Nat):Int);omega,by omega⟩
theorem wfN32 {n:Int} (h:(Lit.int .u32 n).wf = true):∃ k:Nat,n = Int.ofNat k∧k < 4294967296:=by
 simp only [Lit.wf,Bool.and_eq_true,decide_eq_true_eq] at h
 have h1:(0:Int)≤n:=h.1
 have h2:n≤(4294967295:Int):=h.2
 exact ⟨n.toNat,by show n = ((n.toNat:Nat):Int);omega,by omega⟩
theorem wf16 {n:Int} (h:(Lit.int .i16 n).wf = true):-32768≤n∧n≤32767:=by
 simp only [Lit.wf,Bool.and_eq_true,decide_eq_true_eq] at h
 have h1:(-32768:Int)≤n:=h.1
 have h2:n≤(32767:Int):=h.2
 exact ⟨h1,h2⟩
theorem law:PureOk Try.prog [] 11 (m11 RgI.puX L):=RgI.lawOk mixed

theorem walk (W : World) (h : laidMetH Try.prog Rows.ringAlikeRow.laid W) (H : Type) (enc : TypeId × Value → H) (args : Array Value) (ds gs : List (DataW H)) (before : List MemPlace) (base : Nat)
 (hval:OkArgs Try.prog Try.f11 W base args)
 (hW:DataW.Whole enc Try.prog Try.f11.params.toList Rows.ringAlikeSpec.vars false W args.toList ds gs before) :
 Calls Try.prog 11 args W fun e W'=>e = .returned (.bool true)∧GrownB W W':=by
 obtain ⟨p,q,hA,_⟩:=hW
 rw [Try.params11] at hA
 obtain ⟨v,v',v'',v3,d,d',d'',d3,q1,q2,q3,q4,hargs,_,_,⟨f1,h1⟩,⟨f2,h2⟩,⟨f3,h3⟩,⟨f4,h4⟩⟩:=trodAll_four hA
 subst hargs
 obtain ⟨R,hR1,hR2,hs⟩:=Go.Sp.start0 W
 obtain ⟨cs0,ha0⟩:=OkArgs.struct (P:=Try.prog) (f:=Try.f11) (W:=W) (base:=base) (args:=#[v,v',v'',v3]) (by assumption) 0 (by rw [Try.params11];rfl) rfl Try.underlying67
 obtain ⟨a1,ha1,w1⟩:=OkArgs.int (P:=Try.prog) (f:=Try.f11) (W:=W) (base:=base) (args:=#[v,v',v'',v3]) (by assumption) 1 (by rw [Try.params11];rfl) rfl Try.underlying65
 obtain ⟨a2,ha2,w2⟩:=OkArgs.int (P:=Try.prog) (f:=Try.f11) (W:=W) (base:=base) (args:=#[v,v',v'',v3]) (by assumption) 2 (by rw [Try.params11];rfl) rfl Try.underlying77
 obtain ⟨a3,ha3,w3⟩:=OkArgs.int (P:=Try.prog) (f:=Try.f11) (W:=W) (base:=base) (args:=#[v,v',v'',v3]) (by assumption) 3 (by rw [Try.params11];rfl) rfl Try.underlying5
 clear hval
 subst ha0;subst ha1;subst ha2;subst ha3
 obtain ⟨xs0,hv0,hcl0,hsh0⟩:=read_ok (R:=R) kids full hR2 6 f1 67 _ _ lt67 plain67 h1
 obtain ⟨ls1,hl1,rfl,hf1⟩:=(hsh0).struct_inv Try.underlying67
 obtain ⟨y1_0,y1_1,hy1⟩:∃ y1_0 y1_1,ls1 = [y1_0,y1_1]:=by
  match ls1,hl1 with
  | [x0,x1],_=>exact ⟨x0,x1,rfl⟩
 subst hy1
 obtain ⟨p0_0,rfl,w_p0_0⟩:=(hf1 0 _ y1_0 rfl rfl).int_inv Try.underlying5
 obtain ⟨p0_1,rfl,w_p0_1⟩:=(hf1 1 _ y1_1 rfl rfl).int_inv Try.underlying65
 obtain ⟨p,e0,hp⟩:=wfN8 w_p0_0
 obtain ⟨b,e1,hb⟩:=wfN32 w_p0_1
 obtain ⟨o,e2,ho⟩:=wfN32 w1
 obtain ⟨t1,t2⟩:=wf16 w2
 obtain ⟨k,e3,hk⟩:=wfN8 w3
 have hm:=RgP.alike_law RgI.puX RgI.eX (by rw [RgI.eX14];rfl) hp hb ho hk t1 t2
 rw [←e0,←e1,←e2,←e3] at hm
 refine law_true0 law (args:=[.agg ⟨[.int .u8 p0_0,.int .u32 p0_1]⟩,.int .u32 a1,.int .i16 a2,.int .u8 a3]) hm ?_ hR1 hs ?_
 ·intro x hx
  simp at hx
  rcases hx with rfl | rfl | rfl | rfl <;> rfl
 ·exact .cons (.agg hv0.1 hv0.2) (.cons (.int _ _) (.cons (.int _ _) (.cons (.int _ _) (.nil))))

theorem contract (H : Type) (enc : TypeId × Value → H) (W : World) (args : Array Value) (ds gs : List (DataW H)) (before : List MemPlace) {base : Nat}
 (hval:OkArgs Try.prog Try.f11 W base args)
 (hW:DataW.Whole enc Try.prog Try.f11.params.toList Rows.ringAlikeSpec.vars false W args.toList ds gs before) (hL:laidMetH Try.prog Rows.ringAlikeRow.laid W) :
 Calls Try.prog 11 args W fun e W'=>∃ v,e = .returned v∧Rows.ringAlikeSpec.post enc Try.prog Try.f11 false true false false W args v W':=by
 have hd:Rows.ringAlikeSpec.fn H ds = { results:=[.lit (.bool true)],args:=ds }:=by
  obtain ⟨p,q,hA,_⟩:=hW
  rw [Try.params11] at hA
  obtain ⟨_,_,_,_,d1,d2,d3,d4,_,_,_,_,_,rfl,_⟩:=trodAll_four hA
  rfl
 exact post_trueA kids full small hW rfl hd res Try.underlying4 (walk W hL H enc args ds gs before base (by assumption) hW)

noncomputable def laidWorld (os:Os):World:=World.holding Try.prog os ⟨#[],#[],[]⟩
def wArgs:Array Value:=#[.agg #[.int .u8 0,.int .u32 0],.int .u32 0,.int .i16 0,.int .u8 0]
set_option maxRecDepth 100000 in
theorem laid_met (os:Os):laidMet Try.prog Rows.ringAlikeRow.laid ((laidWorld os).forCall (fun _ _=>0) ⟨#[],wArgs,[]⟩).memory:=
 laidMet_of_run' 8 (by kernel_rfl) (by kernel_rfl)
set_option maxRecDepth 100000 in
theorem reads (os : Os) {H : Type} (enc : TypeId × Value → H) : ∃ places, DataW.whole enc Try.prog ((laidWorld os).forCall (fun _ _ => 0) ⟨#[], wArgs, []⟩).memory Try.f11.params.toList Rows.ringAlikeSpec.vars false wArgs.toList 8 =
 some ([.agg [.lit (.int .u8 0),.lit (.int .u32 0)],.lit (.int .u32 0),.lit (.int .i16 0),.lit (.int .u8 0)],[],places):=
 ⟨[],by kernel_rfl⟩

set_option maxRecDepth 100000 in
theorem lifted (os : Os) (started : os.Started) (H : Type) (enc : TypeId × Value → H) (F : Stop.Interp) :
 ReturnsInHanded {} Try.checked os 11 .any ((OpenSpec.ofChange Rows.ringAlikeSpec).preRow enc Try.prog Try.f11 Rows.ringAlikeRow.domain false Rows.ringAlikeRow.laid) (((OpenSpec.ofChange Rows.ringAlikeSpec).at F).post enc Try.prog Try.f11 false true false false):=by
 obtain ⟨places,hx⟩:=reads os enc
 refine handed_of (C := Try.checked) (s := OpenSpec.ofChange Rows.ringAlikeSpec) own started (by kernel_rfl) Try.func11
  (witness_row_at (enc := enc) (C := Try.checked) false (laidWorld os) wArgs rfl (by kernel_rfl) (by kernel_rfl) (by kernel_rfl)
    (OpenSpec.preRow_of_cond 8 hx (by kernel_rfl) (fun k hk=>by cases hk) (by kernel_rfl) (laid_met os))) ?_
 intro W base args ds gs before hval hW hL
 exact contract H enc W args ds gs before (base:=base) (by assumption) hW hL

theorem said:Rows.RingAlikeSaid:=
 OpenClaim.holds_of_cond 11 Try.f11 rfl rfl rfl rfl rfl rfl rfl ⟨rfl, rfl, rfl, rfl, rfl⟩ rfl rfl rfl rfl rfl (by kernel_rfl) Try.func11 (by kernel_rfl)
  (of_decide_eq_true (by kernel_rfl)) (by unfold Func.isWrapper;first | (rw [if_pos (by decide +kernel)];kernel_rfl) | (rw [if_neg (by decide +kernel)];exact ⟨rfl,rfl⟩))
  (fun os started H enc _ F=>by rw [OpenClaim.pre_eq_preRow];exact lifted os started H enc F)

end Go.Proofs.Ytenlanbdolnhhaa.ringAlike
