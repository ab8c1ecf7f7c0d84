/- The law of seat .ZD as a promise. -/
import Derived.Test.YtokbaaeimejjlaaGreatDoorBzChunkx
import Derived.Test.YtokbaaeimejjlaaGreatDoorBkUWkx
import Derived.Test.YtokbaaeimejjlaaGreatDoorBkU7x

set_option maxRecDepth 100000
set_option maxHeartbeats 0
namespace Go.Proofs.YtokbaaeimejjlaaGreatDoor.BkU
open Go Go.Sp Go.BkU Go.BkUM
theorem hw (hm:Tryz.prog.follows .mixedOrders=true):BA Tryz.prog tabs 10 TN∧BA Tryz.prog tabs 84 TV∧BA Tryz.prog tabs 98 TW:=⟨AjY hm,AjZ hm,⟨(Qw hm).1,fun _ _ h=>by cases h⟩⟩
theorem Aj2 (hm:Tryz.prog.follows .mixedOrders=true):BA Tryz.prog tabs 34 Go.BkQ.prodT:=
 have h:=Ah5 hm (hw hm) 6 34 (by kernel_rfl)
 ⟨h.1,fun args v hv=>h.2 args v (Go.BkQ.prodT_ok 0 hv)⟩
theorem KR (n:Nat) {g:Nat} (h:Nat.beq g 34=false):A7 (n+1) g=LK (A7 n) g:=by
 show bb (Nat.beq g 34) Go.BkQ.prodT (LK (A7 n) g)=_
 rw[h,AA]
theorem Aj3 (hm:Tryz.prog.follows .mixedOrders=true):∀ n,(∀ g,isP g=true→BA Tryz.prog tabs g (A7 n g))∧BA Tryz.prog tabs 98 (A7 n 98)∧BA Tryz.prog tabs 43 (A7 n 43)∧Cn Tryz.prog tabs 3 0 9 (A7 n 10090)∧Cn Tryz.prog tabs 2 1 64 (A7 n 10640)∧Cn Tryz.prog tabs 3 1 48 (A7 n 10480)∧Cn Tryz.prog tabs 3 0 48 (A7 n 10481)∧Cn Tryz.prog tabs 6 3 85 (A7 n 10850):=fun n=>by
 induction n with
 | zero=>exact gX hm (hw hm) 0
 | succ n ih =>
  have d:=Yb hm (hw hm) ih
  refine⟨fun g hg=>?_,by rw[KR n rfl];exact d.2.1,by rw[KR n rfl];exact d.2.2.1,by rw[KR n rfl];exact d.2.2.2.1,by rw[KR n rfl];exact d.2.2.2.2.1,by rw[KR n rfl];exact d.2.2.2.2.2.1,by rw[KR n rfl];exact d.2.2.2.2.2.2.1,by rw[KR n rfl];exact d.2.2.2.2.2.2.2⟩
  show BA Tryz.prog tabs g (bb (Nat.beq g 34) Go.BkQ.prodT (LK (A7 n) g))
  cases e:Nat.beq g 34 with
  | true =>
   obtain rfl:=Nat.eq_of_beq_eq_true e
   exact Aj2 hm
  | false=>exact d.1 g hg
theorem lawK (hm:Tryz.prog.follows .mixedOrders=true):BA Tryz.prog [VV] 5 (A7 101 5):=(Aj3 hm 101).1 5 (by kernel_rfl)
end Go.Proofs.YtokbaaeimejjlaaGreatDoor.BkU
