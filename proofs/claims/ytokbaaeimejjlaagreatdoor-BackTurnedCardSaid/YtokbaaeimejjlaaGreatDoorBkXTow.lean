/- The laws of seat .ZD as promises. -/
import Derived.Test.YtokbaaeimejjlaaGreatDoorBzChunkx
import Derived.Test.YtokbaaeimejjlaaGreatDoorBkXWkx
import Derived.Test.YtokbaaeimejjlaaGreatDoorBkX7x

set_option maxRecDepth 100000
set_option maxHeartbeats 0
namespace Go.Proofs.YtokbaaeimejjlaaGreatDoor.BkX
open Go Go.Sp Go.BkX Go.BkXM
theorem hw (hm:Tryz.prog.follows .mixedOrders = true):PureOk Tryz.prog tabs 10 orc10∧PureOk Tryz.prog tabs 84 orc84∧PureOk Tryz.prog tabs 98 orc98:=⟨ok19 hm,ok66 hm,⟨(bkFlip_ok hm).1,fun _ _ h=>by cases h⟩⟩
theorem ok34 (hm:Tryz.prog.follows .mixedOrders = true):PureOk Tryz.prog tabs 34 Go.BkQ.prodT:=
 have h:=pu_ok hm (hw hm) 6 34 (by kernel_rfl)
 ⟨h.1,fun args v hv=>h.2 args v (Go.BkQ.prodT_ok 0 hv)⟩
theorem puZ_ne (n:Nat) {g:Nat} (h:Nat.beq g 34 = false):puZ (n + 1) g = disp (puZ n) g:=by
 show bb (Nat.beq g 34) Go.BkQ.prodT (disp (puZ n) g) = _
 rw [h,bb_false]
theorem allZ (hm:Tryz.prog.follows .mixedOrders = true):∀ n,(∀ g,isP g = true→PureOk Tryz.prog tabs g (puZ n g))∧PureOk Tryz.prog tabs 98 (puZ n 98)∧PureOk Tryz.prog tabs 43 (puZ n 43)∧ObjOk Tryz.prog tabs 3 0 48 (puZ n 10480)∧ObjOk Tryz.prog tabs 3 1 48 (puZ n 10481):=fun n=>by
 induction n with
 | zero=>exact all_ok hm (hw hm) 0
 | succ n ih =>
  have d:=disp_ok hm (hw hm) ih
  refine ⟨fun g hg=>?_,by rw [puZ_ne n rfl];exact d.2.1,by rw [puZ_ne n rfl];exact d.2.2.1,by rw [puZ_ne n rfl];exact d.2.2.2.1,by rw [puZ_ne n rfl];exact d.2.2.2.2⟩
  show PureOk Tryz.prog tabs g (bb (Nat.beq g 34) Go.BkQ.prodT (disp (puZ n) g))
  cases e:Nat.beq g 34 with
  | true =>
   obtain rfl:=Nat.eq_of_beq_eq_true e
   exact ok34 hm
  | false=>exact d.1 g hg
theorem lawT (hm:Tryz.prog.follows .mixedOrders = true):PureOk Tryz.prog [tab0] 3 (puZ 9 3):=(allZ hm 9).1 3 (by kernel_rfl)
end Go.Proofs.YtokbaaeimejjlaaGreatDoor.BkX
