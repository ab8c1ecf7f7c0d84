/- The law of seat .ZD as a promise. -/
import Derived.Test.YtokbaaeimejjlaaGreatDoorBzChunkx
import Derived.Test.YtokbaaeimejjlaaGreatDoorBkYWkx
import Derived.Test.YtokbaaeimejjlaaGreatDoorBkY7x

set_option maxRecDepth 100000
set_option maxHeartbeats 0
namespace Go.Proofs.YtokbaaeimejjlaaGreatDoor.BkY
open Go Go.Sp Go.BkY Go.BkYM
theorem hw (hm:Tryz.prog.follows .mixedOrders = true):BA Tryz.prog tabs 10 TW∧BA Tryz.prog tabs 84 TY∧BA Tryz.prog tabs 98 TZ:=⟨AjM hm,AjN hm,⟨(QB hm).1,fun _ _ h=>by cases h⟩⟩
theorem AjR (hm:Tryz.prog.follows .mixedOrders = true):BA Tryz.prog tabs 34 Go.BkQ.prodT:=
 have h:=AhR hm (hw hm) 6 34 (by kernel_rfl)
 ⟨h.1,fun args v hv=>h.2 args v (Go.BkQ.prodT_ok 0 hv)⟩
theorem Ir (n:Nat) {g:Nat} (h:Nat.beq g 34 = false):AQ (n + 1) g = Kc (AQ n) g:=by
 show bb (Nat.beq g 34) Go.BkQ.prodT (Kc (AQ n) g) = _
 rw [h,AA]
theorem AjS (hm:Tryz.prog.follows .mixedOrders = true):∀ n,(∀ g,isP g = true→BA Tryz.prog tabs g (AQ n g))∧BA Tryz.prog tabs 98 (AQ n 98)∧BA Tryz.prog tabs 43 (AQ n 43)∧Cn Tryz.prog tabs 3 0 9 (AQ n 10090)∧Cn Tryz.prog tabs 3 0 48 (AQ n 10480)∧Cn Tryz.prog tabs 3 1 48 (AQ n 10481)∧Cn Tryz.prog tabs 2 1 82 (AQ n 10820)∧Cn Tryz.prog tabs 5 1 94 (AQ n 10940)∧Cn Tryz.prog tabs 4 1 102 (AQ n 11020)∧Cn Tryz.prog tabs 2 1 83 (AQ n 10830):=fun n=>by
 induction n with
 | zero=>exact fG hm (hw hm) 0
 | succ n ih =>
  have d:=Yl hm (hw hm) ih
  refine ⟨fun g hg=>?_,by rw [Ir n rfl];exact d.2.1,by rw [Ir n rfl];exact d.2.2.1,by rw [Ir n rfl];exact d.2.2.2.1,by rw [Ir n rfl];exact d.2.2.2.2.1,by rw [Ir n rfl];exact d.2.2.2.2.2.1,by rw [Ir n rfl];exact d.2.2.2.2.2.2.1,by rw [Ir n rfl];exact d.2.2.2.2.2.2.2.1,by rw [Ir n rfl];exact d.2.2.2.2.2.2.2.2.1,by rw [Ir n rfl];exact d.2.2.2.2.2.2.2.2.2⟩
  show BA Tryz.prog tabs g (bb (Nat.beq g 34) Go.BkQ.prodT (Kc (AQ n) g))
  cases e:Nat.beq g 34 with
  | true =>
   obtain rfl:=Nat.eq_of_beq_eq_true e
   exact AjR hm
  | false=>exact d.1 g hg
theorem lawK (hm:Tryz.prog.follows .mixedOrders = true):BA Tryz.prog [VY] 4 (AQ 9 4):=(AjS hm 9).1 4 (by kernel_rfl)
end Go.Proofs.YtokbaaeimejjlaaGreatDoor.BkY
