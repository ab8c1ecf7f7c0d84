/- Made from wip. -/
import Derived.Test.YtommhepgkaddaaaGreatRows
import Derived.Test.YtommhepgkaddaaaGreatSpObjx
import Derived.Test.YtommhepgkaddaaaGreatHpYRepx
import Derived.Test.YtommhepgkaddaaaGreatHpYTow

namespace Go.Proofs.YtommhepgkaddaaaGreat.heapPlayed
open Go.ChangeShapes Go.WideShapes Go.ChangeAt Go.RowKit Go.Sp Go.HpYM

theorem own:ownKnob Tryz.prog.godebug = none:=by kernel_rfl
theorem cells5:Tryz.prog.cellsOf 5 = 1:=by kernel_rfl
theorem mixed:Tryz.prog.follows .mixedOrders = true:=by kernel_rfl
theorem kids:Kids Tryz.prog (· < Tryz.prog.types.size):=kids_rows (by kernel_rfl) (by kernel_rfl)
theorem full:∀ t e,t < Tryz.prog.types.size→Tryz.prog.underlying t = some (.slice e)→0 < Tryz.prog.cellsOf e:=slices_full_of _ (by kernel_rfl)
theorem size:Tryz.prog.types.size = 143:=by kernel_rfl
theorem small:∀ t ∈ Tryz.f3.params.toList,t < Tryz.prog.types.size:=by
 rw [Tryz.params3,size]
 intro t ht
 simp only [List.mem_cons,List.not_mem_nil,or_false] at ht
 rcases ht with rfl | rfl | rfl <;> decide
theorem lt22:22 < Tryz.prog.types.size:=by rw [size];decide
theorem res:Tryz.f3.resultTypes = #[4]:=by kernel_rfl
theorem plain22:plainTy Tryz.prog 6 22 = true:=by kernel_rfl
theorem law:PureOk Tryz.prog [] 3 mLaw:=HpY.law3 mixed
theorem wfU {n:Int} (h:(Lit.int .u8 n).wf = true):0≤n∧n < 256:=by
 simp only [Lit.wf,Bool.and_eq_true,decide_eq_true_eq] at h
 have h1:(0:Int)≤n:=h.1
 have h2:n≤(255:Int):=h.2
 omega
theorem wfV {n:Int} (h:(Lit.int .u16 n).wf = true):0≤n∧n < 65536:=by
 simp only [Lit.wf,Bool.and_eq_true,decide_eq_true_eq] at h
 have h1:(0:Int)≤n:=h.1
 have h2:n≤(65535:Int):=h.2
 omega

theorem walk (W : World) (h : laidMetH Tryz.prog Rows.heapPlayedRow.laid W) (H : Type) (enc : TypeId × Value → H) (args : Array Value) (ds gs : List (DataW H)) (before : List MemPlace) (base : Nat)
 (hval:OkArgs Tryz.prog Tryz.f3 W base args)
 (hW:DataW.Whole enc Tryz.prog Tryz.f3.params.toList Rows.heapPlayedSpec.vars false W args.toList ds gs before) :
 Calls Tryz.prog 3 args W fun e W'=>e = .returned (.bool true)∧GrownB W W':=by
 obtain ⟨p,q,hA,_⟩:=hW
 rw [Tryz.params3] at hA
 obtain ⟨v,v',v'',d,d',d'',q1,q2,q3,hargs,_,_,⟨f1,h1⟩,⟨f2,h2⟩,⟨f3,h3⟩⟩:=trodAll_three hA
 subst hargs
 obtain ⟨R,hR1,hR2,hs⟩:=Go.Sp.start0 W
 obtain ⟨sa0,sl0,sc0,ha0⟩:=OkArgs.slice (P:=Tryz.prog) (f:=Tryz.f3) (W:=W) (base:=base) (args:=#[v,v',v'']) (by assumption) 0 (by rw [Tryz.params3];rfl) rfl Tryz.underlying22
 obtain ⟨a1,ha1,w1⟩:=OkArgs.int (P:=Tryz.prog) (f:=Tryz.f3) (W:=W) (base:=base) (args:=#[v,v',v'']) (by assumption) 1 (by rw [Tryz.params3];rfl) rfl Tryz.underlying23
 obtain ⟨a2,ha2,w2⟩:=OkArgs.int (P:=Tryz.prog) (f:=Tryz.f3) (W:=W) (base:=base) (args:=#[v,v',v'']) (by assumption) 2 (by rw [Tryz.params3];rfl) rfl Tryz.underlying23
 clear hval
 subst ha0;subst ha1;subst ha2
 obtain ⟨xs0,hv0,hcl0,hsh0⟩:=read_ok (R:=R) kids full hR2 6 f1 22 _ _ lt22 plain22 h1
 obtain ⟨p0,rfl,len_p0,w_p0⟩:=(hsh0).intsK Tryz.underlying22 Tryz.underlying5 cells5
 have hm:=mLaw_ok p0 (fun x hx=>wfU (w_p0 x hx)) a1 a2 (wfV w1) (wfV w2)
 refine law_true0 law (args:=[Sl.v 1 ⟨(p0).length,0,(p0).map (Value.int .u8)⟩,.int .u16 a1,.int .u16 a2]) hm ?_ hR1 hs ?_
 ·intro x hx
  simp at hx
  rcases hx with rfl | rfl | rfl <;> rfl
 ·exact .cons (hv0.2 0 _ _ rfl rfl) (.cons (.int _ _) (.cons (.int _ _) (.nil)))

theorem contract (H : Type) (enc : TypeId × Value → H) (W : World) (args : Array Value) (ds gs : List (DataW H)) (before : List MemPlace) {base : Nat}
 (hval:OkArgs Tryz.prog Tryz.f3 W base args)
 (hW:DataW.Whole enc Tryz.prog Tryz.f3.params.toList Rows.heapPlayedSpec.vars false W args.toList ds gs before) (hL:laidMetH Tryz.prog Rows.heapPlayedRow.laid W) :
 Calls Tryz.prog 3 args W fun e W'=>∃ v,e = .returned v∧Rows.heapPlayedSpec.post enc Tryz.prog Tryz.f3 false true false false W args v W':=by
 have hd:Rows.heapPlayedSpec.fn H ds = { results:=[.lit (.bool true)],args:=ds }:=by
  obtain ⟨p,q,hA,_⟩:=hW
  rw [Tryz.params3] at hA
  obtain ⟨_,_,_,d1,d2,d3,_,_,_,_,rfl,_⟩:=trodAll_three hA
  rfl
 exact post_trueA kids full small hW rfl hd res Tryz.underlying4 (walk W hL H enc args ds gs before base (by assumption) hW)

noncomputable def laidWorld (os:Os):World:=World.holding Tryz.prog os ⟨#[],#[],[]⟩
def wArgs:Array Value:=#[.slice none 0 0,.int .u16 0,.int .u16 0]
set_option maxRecDepth 100000 in
theorem laid_met (os:Os):laidMet Tryz.prog Rows.heapPlayedRow.laid ((laidWorld os).forCall (fun _ _=>0) ⟨#[],wArgs,[]⟩).memory:=
 laidMet_of_run' 8 (by kernel_rfl) (by kernel_rfl)
set_option maxRecDepth 100000 in
theorem reads (os : Os) {H : Type} (enc : TypeId × Value → H) : ∃ places, DataW.whole enc Tryz.prog ((laidWorld os).forCall (fun _ _ => 0) ⟨#[], wArgs, []⟩).memory Tryz.f3.params.toList Rows.heapPlayedSpec.vars false wArgs.toList 8 =
 some ([.nil,.lit (.int .u16 0),.lit (.int .u16 0)],[],places):=
 ⟨[],by kernel_rfl⟩

set_option maxRecDepth 100000 in
theorem lifted (os : Os) (started : os.Started) (H : Type) (enc : TypeId × Value → H) (F : Stop.Interp) :
 ReturnsInHanded {} Tryz.checked os 3 .any ((OpenSpec.ofChange Rows.heapPlayedSpec).preRow enc Tryz.prog Tryz.f3 Rows.heapPlayedRow.domain false Rows.heapPlayedRow.laid) (((OpenSpec.ofChange Rows.heapPlayedSpec).at F).post enc Tryz.prog Tryz.f3 false true false false):=by
 obtain ⟨places,hx⟩:=reads os enc
 refine handed_of (C := Tryz.checked) (s := OpenSpec.ofChange Rows.heapPlayedSpec) own started (by kernel_rfl) Tryz.func3
  (witness_row_at (enc := enc) (C := Tryz.checked) false (laidWorld os) wArgs rfl (by kernel_rfl) (by kernel_rfl) (by kernel_rfl)
    (OpenSpec.preRow_of_cond 8 hx (by kernel_rfl) (fun k hk=>by cases hk) (by kernel_rfl) (laid_met os))) ?_
 intro W base args ds gs before hval hW hL
 exact contract H enc W args ds gs before (base:=base) (by assumption) hW hL

theorem said:Rows.HeapPlayedSaid:=
 OpenClaim.holds_of_cond 3 Tryz.f3 rfl rfl rfl rfl rfl rfl rfl ⟨rfl, rfl, rfl, rfl, rfl⟩ rfl rfl rfl rfl rfl (by kernel_rfl) Tryz.func3 (by kernel_rfl)
  (of_decide_eq_true (by kernel_rfl)) (by unfold Func.isWrapper;first | (rw [if_pos (by decide +kernel)];kernel_rfl) | (rw [if_neg (by decide +kernel)];exact ⟨rfl,rfl⟩))
  (fun os started H enc _ F=>by rw [OpenClaim.pre_eq_preRow];exact lifted os started H enc F)

end Go.Proofs.YtommhepgkaddaaaGreat.heapPlayed
