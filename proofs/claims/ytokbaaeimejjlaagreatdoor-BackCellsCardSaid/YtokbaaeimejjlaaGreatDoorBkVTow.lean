/- The law of seat .ZD as a promise. -/
import Derived.Test.YtokbaaeimejjlaaGreatDoorBkVJoinx
import Derived.Test.YtokbaaeimejjlaaGreatDoorBkVWkx
import Derived.Test.YtokbaaeimejjlaaGreatDoorBkV7x

set_option maxRecDepth 100000
set_option maxHeartbeats 0
namespace Go.Proofs.YtokbaaeimejjlaaGreatDoor.BkV
open Go Go.Sp Go.BkV Go.BkVM
theorem hw (hm:Tryz.prog.follows .mixedOrders=true):BA Tryz.prog tabs 10 UY∧BA Tryz.prog tabs 84 UZ∧BA Tryz.prog tabs 98 U0:=⟨Ajk hm,Ajl hm,⟨(Sj hm).1,fun _ _ h=>by cases h⟩⟩
theorem Ajn (hm:Tryz.prog.follows .mixedOrders=true):BA Tryz.prog tabs 34 Go.BkQ.prodT:=
 have h:=Ahz hm (hw hm) 6 34 (by kernel_rfl)
 ⟨h.1,fun args v hv=>h.2 args v (Go.BkQ.prodT_ok 0 hv)⟩
theorem Jf (n:Nat) {g:Nat} (h:Nat.beq g 34=false):Bp (n+1) g=LQ (Bp n) g:=by
 show bb (Nat.beq g 34) Go.BkQ.prodT (LQ (Bp n) g)=_
 rw[h,AA]
theorem Ajo (hm:Tryz.prog.follows .mixedOrders=true):∀ n,(∀ g,isP g=true→BA Tryz.prog tabs g (Bp n g))∧BA Tryz.prog tabs 98 (Bp n 98)∧BA Tryz.prog tabs 43 (Bp n 43)∧Cn Tryz.prog tabs 7 5 65 (Bp n 10650)∧Cn Tryz.prog tabs 2 1 66 (Bp n 10660)∧Cn Tryz.prog tabs 2 1 86 (Bp n 10860)∧Cn Tryz.prog tabs 2 1 67 (Bp n 10670)∧Cn Tryz.prog tabs 1 0 69 (Bp n 10690)∧Cn Tryz.prog tabs 3 0 73 (Bp n 10730)∧Cn Tryz.prog tabs 3 1 48 (Bp n 10480)∧Cn Tryz.prog tabs 3 0 48 (Bp n 10481):=fun n=>by
 induction n with
 | zero=>exact gU hm (hw hm) 0
 | succ n ih =>
  have d:=Yv hm (hw hm) ih
  refine⟨fun g hg=>?_,by rw[Jf n rfl];exact d.2.1,by rw[Jf n rfl];exact d.2.2.1,by rw[Jf n rfl];exact d.2.2.2.1,by rw[Jf n rfl];exact d.2.2.2.2.1,by rw[Jf n rfl];exact d.2.2.2.2.2.1,by rw[Jf n rfl];exact d.2.2.2.2.2.2.1,by rw[Jf n rfl];exact d.2.2.2.2.2.2.2.1,by rw[Jf n rfl];exact d.2.2.2.2.2.2.2.2.1,by rw[Jf n rfl];exact d.2.2.2.2.2.2.2.2.2.1,by rw[Jf n rfl];exact d.2.2.2.2.2.2.2.2.2.2⟩
  show BA Tryz.prog tabs g (bb (Nat.beq g 34) Go.BkQ.prodT (LQ (Bp n) g))
  cases e:Nat.beq g 34 with
  | true =>
   obtain rfl:=Nat.eq_of_beq_eq_true e
   exact Ajn hm
  | false=>exact d.1 g hg
theorem lawK (hm:Tryz.prog.follows .mixedOrders=true):BA Tryz.prog [RQ] 6 (Bp 30 6):=(Ajo hm 30).1 6 (by kernel_rfl)
end Go.Proofs.YtokbaaeimejjlaaGreatDoor.BkV
