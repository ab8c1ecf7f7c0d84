/- Made from wip. -/
import Derived.Test.YtflonlkiajhhjaaGreatDoorTpERun0
import Derived.Test.YtflonlkiajhhjaaGreatDoorTpERun1
import Derived.Test.YtflonlkiajhhjaaGreatDoorTpERun2
import Derived.Test.YtflonlkiajhhjaaGreatDoorTpERun3

set_option linter.unusedVariables false
set_option maxRecDepth 100000
set_option maxHeartbeats 0
namespace Go.Proofs.YtflonlkiajhhjaaGreatDoor.TpE
open Go Go.Sp Go.TpE Go.TpEM Go.BkQ
theorem Gn:∀ k:Fin 16,k.1∈Dr:=by decide
theorem Aeu (j m k:Nat) (hj:j < 16) (hm:m < 16) (hk:k < 8):FY (16*j+m) k=true:=by
 obtain rfl | rfl | rfl | rfl | rfl | rfl | rfl | rfl | rfl | rfl | rfl | rfl | rfl | rfl | rfl | rfl:j=0∨j=1∨j=2∨j=3∨j=4∨j=5∨j=6∨j=7∨j=8∨j=9∨j=10∨j=11∨j=12∨j=13∨j=14∨j=15:=by omega
 ·exact Bp (Bp rn0 (Gn ⟨m,hm⟩)) (IB ⟨k,hk⟩)
 ·exact Bp (Bp rn1 (Gn ⟨m,hm⟩)) (IB ⟨k,hk⟩)
 ·exact Bp (Bp rn2 (Gn ⟨m,hm⟩)) (IB ⟨k,hk⟩)
 ·exact Bp (Bp rn3 (Gn ⟨m,hm⟩)) (IB ⟨k,hk⟩)
 ·exact Bp (Bp rn4 (Gn ⟨m,hm⟩)) (IB ⟨k,hk⟩)
 ·exact Bp (Bp rn5 (Gn ⟨m,hm⟩)) (IB ⟨k,hk⟩)
 ·exact Bp (Bp rn6 (Gn ⟨m,hm⟩)) (IB ⟨k,hk⟩)
 ·exact Bp (Bp rn7 (Gn ⟨m,hm⟩)) (IB ⟨k,hk⟩)
 ·exact Bp (Bp rn8 (Gn ⟨m,hm⟩)) (IB ⟨k,hk⟩)
 ·exact Bp (Bp rn9 (Gn ⟨m,hm⟩)) (IB ⟨k,hk⟩)
 ·exact Bp (Bp Am4 (Gn ⟨m,hm⟩)) (IB ⟨k,hk⟩)
 ·exact Bp (Bp Am5 (Gn ⟨m,hm⟩)) (IB ⟨k,hk⟩)
 ·exact Bp (Bp Am6 (Gn ⟨m,hm⟩)) (IB ⟨k,hk⟩)
 ·exact Bp (Bp Am7 (Gn ⟨m,hm⟩)) (IB ⟨k,hk⟩)
 ·exact Bp (Bp Am8 (Gn ⟨m,hm⟩)) (IB ⟨k,hk⟩)
 ·exact Bp (Bp Am9 (Gn ⟨m,hm⟩)) (IB ⟨k,hk⟩)
theorem border_law {x0 x1:Int} (a0:0≤x0) (b0:x0 < 256) (a1:0≤x1) (b1:x1 < 256):m4 puB L [.int .u8 x0,.int .u8 x1]=some (.bool true):=by
 show m4_ puB 10000 x0 x1=_
 obtain⟨m,rfl⟩:=Int.eq_ofNat_of_zero_le a0
 obtain⟨k,rfl⟩:=Int.eq_ofNat_of_zero_le a1
 have hm:m < 256:=by omega
 have hk:k < 256:=by omega
 obtain⟨q,e⟩:=Am3 ⟨k,hk⟩
 rw[early (x:=((k:Nat):Int)) (r:=.ofNat q.1) e]
 have:=Aeu (m / 16) (m % 16) q.1 (by omega) (by omega) q.2
 rw[show 16*(m / 16)+m % 16=m by omega] at this
 exact Aet this
end Go.Proofs.YtflonlkiajhhjaaGreatDoor.TpE
