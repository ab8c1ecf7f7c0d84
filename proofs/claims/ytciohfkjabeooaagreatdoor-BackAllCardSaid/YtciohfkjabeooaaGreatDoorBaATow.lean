/- The law of seat .ZD as a promise. -/
import Derived.Test.YtciohfkjabeooaaGreatDoorBaAJoinx
import Derived.Test.YtciohfkjabeooaaGreatDoorBaAWkx
import Derived.Test.YtciohfkjabeooaaGreatDoorBaA7x

set_option maxRecDepth 100000
set_option maxHeartbeats 0
namespace Go.Proofs.YtciohfkjabeooaaGreatDoor.BaA
open Go Go.Sp Go.BaA Go.BaAM
theorem hw (hm:Tryz.prog.follows .mixedOrders=true):BA Tryz.prog tabs 5 bU∧BA Tryz.prog tabs 53 UB∧BA Tryz.prog tabs 70 UC:=⟨AhY hm,AhZ hm,⟨(RZ hm).1,fun _ _ h=>by cases h⟩⟩
theorem Ah2 (hm:Tryz.prog.follows .mixedOrders=true):BA Tryz.prog tabs 57 Go.BkQ.prodT:=
 have h:=Afy hm (hw hm) 6 57 (by kernel_rfl)
 ⟨h.1,fun args v hv=>h.2 args v (Go.BkQ.prodT_ok 0 hv)⟩
theorem LW (n:Nat) {g:Nat} (h:Nat.beq g 57=false):Bp (n+1) g=Oz (Bp n) g:=by
 show bb (Nat.beq g 57) Go.BkQ.prodT (Oz (Bp n) g)=_
 rw[h,AA]
theorem Ah3 (hm:Tryz.prog.follows .mixedOrders=true):∀ n,(∀ g,isP g=true→BA Tryz.prog tabs g (Bp n g))∧FN Tryz.prog tabs 28 1 (Bp n 28)∧FN Tryz.prog tabs 29 1 (Bp n 29)∧FN Tryz.prog tabs 33 1 (Bp n 33)∧BA Tryz.prog tabs 70 (Bp n 70)∧Cn Tryz.prog tabs 3 0 4 (Bp n 10040)∧Cn Tryz.prog tabs 4 4 26 (Bp n 10260)∧Cn Tryz.prog tabs 4 5 26 (Bp n 10261)∧Cn Tryz.prog tabs 3 0 59 (Bp n 10590):=fun n=>by
 induction n with
 | zero=>exact dZ hm (hw hm) 0
 | succ n ih =>
  have d:=XP hm (hw hm) ih
  refine⟨fun g hg=>?_,by rw[LW n rfl];exact d.2.1,by rw[LW n rfl];exact d.2.2.1,by rw[LW n rfl];exact d.2.2.2.1,by rw[LW n rfl];exact d.2.2.2.2.1,by rw[LW n rfl];exact d.2.2.2.2.2.1,by rw[LW n rfl];exact d.2.2.2.2.2.2.1,by rw[LW n rfl];exact d.2.2.2.2.2.2.2.1,by rw[LW n rfl];exact d.2.2.2.2.2.2.2.2⟩
  show BA Tryz.prog tabs g (bb (Nat.beq g 57) Go.BkQ.prodT (Oz (Bp n) g))
  cases e:Nat.beq g 57 with
  | true =>
   obtain rfl:=Nat.eq_of_beq_eq_true e
   exact Ah2 hm
  | false=>exact d.1 g hg
theorem lawK (hm:Tryz.prog.follows .mixedOrders=true):BA Tryz.prog [Yf] 3 (Bp 30 3):=(Ah3 hm 30).1 3 (by kernel_rfl)
end Go.Proofs.YtciohfkjabeooaaGreatDoor.BaA
