/- A law's last step: from what the walk gives to the row's words. -/
import Derived.Test.YtcjocjoaphpclaaDoorSpGlue
import Derived.WalkKit
import Derived.ProofKit
import Derived.OpenShut
import Derived.Deep.DeepHandedRow
namespace Go.Sp
open Go.ChangeShapes Go.WideShapes Go.ChangeAt Go.RowKit

theorem post_true {H : Type} {enc : TypeId × Value → H} {P : Program} {f : Func} {s : ChangeSpec} {apart fresh handsOn again : Bool} {W W' : World} {args : Array Value} {ds gs : List (DataW H)} {before pa pv : List MemPlace} {t : TypeId}
    (hW : DataW.Whole enc P f.params.toList s.vars apart W args.toList ds gs before)
    (hres : (s.fn H (ds ++ gs)).results = [.lit (.bool true)])
    (hargs : ∀ sp : Nat → Bool, (∀ p ∈ before, sp p.block = true) → DataW.TrodAll enc P W' 0 sp true f.params.toList args.toList (s.fn H (ds ++ gs)).args pa)
    (hvars : ∀ sp : Nat → Bool, (∀ p ∈ before, sp p.block = true) → DataW.TrodVars enc P W' sp s.vars (s.fn H (ds ++ gs)).vars pv)
    (hps : before = pa ++ pv) (hg : Grown W W') (hr : f.resultTypes = #[t]) (ht : P.underlying t = some .bool) :
    s.post enc P f apart fresh handsOn again W args (.bool true) W' :=
  post_of_same (pa := pa) (pv := pv) hW (fun _ _ _ => by rw [hr, hres]; exact trodAll_cons_mk (shut_bool ht _) trodAll_mk0) hargs hvars hps (hg.frame _) hg.2.1 (ok_one hr rfl (okWide_bool_mk ht _))

/-- A law without arguments. -/
theorem post_true0 {H : Type} {enc : TypeId × Value → H} {P : Program} {f : Func} {s : ChangeSpec} {W : World} {args : Array Value} {ds gs : List (DataW H)} {before : List MemPlace} {t : TypeId} {fid : FuncId}
    (hW : DataW.Whole enc P f.params.toList s.vars false W args.toList ds gs before) (hsv : s.vars = []) (hp : f.params = #[])
    (hfn : s.fn H [] = { results := [.lit (.bool true)], args := [] })
    (hr : f.resultTypes = #[t]) (ht : P.underlying t = some .bool)
    (walk : Calls P fid #[] W fun e W' => e = .returned (.bool true) ∧ Grown W W') :
    Calls P fid args W fun e W' => ∃ v, e = .returned v ∧ s.post enc P f false true false false W args v W' := by
  have hW' := hW
  obtain ⟨p, q, hA0, hV, rfl, hfz, hnd⟩ := hW
  have hA : DataW.TrodAll enc P W 0 (fun _ => true) true f.params.toList args.toList ds p := hA0
  rw [hp] at hA
  obtain ⟨hargs, rfl, rfl⟩ := trodAll_nil hA
  obtain rfl : args = #[] := by cases args; simp_all
  rw [hsv] at hV
  obtain ⟨rfl, rfl⟩ := trodVars_none hV
  simp only [List.append_nil] at hW'
  refine walk.mono fun e W' ⟨he, hg⟩ => ?_
  subst he
  exact ⟨_, rfl, post_true (pa := []) (pv := []) hW' (by rw [List.append_nil, hfn]) (fun _ _ => by rw [hp, List.append_nil, hfn]; exact trodAll_mk0) (fun _ _ => by rw [hsv, List.append_nil, hfn]; rfl) rfl hg hr ht⟩
end Go.Sp
