/- Made from wip. -/
import Derived.Test.YtflonlkiajhhjaaGreatDoorTpFRun0
import Derived.Test.YtflonlkiajhhjaaGreatDoorTpFRun1
import Derived.Test.YtflonlkiajhhjaaGreatDoorTpFRun2
import Derived.Test.YtflonlkiajhhjaaGreatDoorTpFRun3
import Derived.Test.YtflonlkiajhhjaaGreatDoorTpFRun4
import Derived.Test.YtflonlkiajhhjaaGreatDoorTpFRun5
import Derived.Test.YtflonlkiajhhjaaGreatDoorTpFRun6
import Derived.Test.YtflonlkiajhhjaaGreatDoorTpFRun7

set_option linter.unusedVariables false
set_option maxRecDepth 100000
set_option maxHeartbeats 0
namespace Go.Proofs.YtflonlkiajhhjaaGreatDoor.TpF
open Go Go.Sp Go.TpF Go.TpFM Go.BkQ
theorem ra0 (j m:Nat) (hj:j < 32) (hm:m < 32):Pp 0 (32*j+m)=true:=by
 rw[Oy]
 obtain rfl | rfl | rfl | rfl | rfl | rfl | rfl | rfl | rfl | rfl | rfl | rfl | rfl | rfl | rfl | rfl | rfl | rfl | rfl | rfl | rfl | rfl | rfl | rfl | rfl | rfl | rfl | rfl | rfl | rfl | rfl | rfl:j=0∨j=1∨j=2∨j=3∨j=4∨j=5∨j=6∨j=7∨j=8∨j=9∨j=10∨j=11∨j=12∨j=13∨j=14∨j=15∨j=16∨j=17∨j=18∨j=19∨j=20∨j=21∨j=22∨j=23∨j=24∨j=25∨j=26∨j=27∨j=28∨j=29∨j=30∨j=31:=by omega
 ·exact A7 Aka (AO hm)
 ·exact A7 Akg (AO hm)
 ·exact A7 Akk (AO hm)
 ·exact A7 Ako (AO hm)
 ·exact A7 Aks (AO hm)
 ·exact A7 Akw (AO hm)
 ·exact A7 AkA (AO hm)
 ·exact A7 AkE (AO hm)
 ·exact A7 AkI (AO hm)
 ·exact A7 AkM (AO hm)
 ·exact A7 Ae7 (AO hm)
 ·exact A7 Afb (AO hm)
 ·exact A7 Aff (AO hm)
 ·exact A7 Afj (AO hm)
 ·exact A7 Afn (AO hm)
 ·exact A7 Afr (AO hm)
 ·exact A7 Afw (AO hm)
 ·exact A7 AfA (AO hm)
 ·exact A7 AfE (AO hm)
 ·exact A7 AfI (AO hm)
 ·exact A7 AfM (AO hm)
 ·exact A7 AfQ (AO hm)
 ·exact A7 AfU (AO hm)
 ·exact A7 AfY (AO hm)
 ·exact A7 Af2 (AO hm)
 ·exact A7 Af6 (AO hm)
 ·exact A7 Aga (AO hm)
 ·exact A7 Agf (AO hm)
 ·exact A7 Agj (AO hm)
 ·exact A7 Agn (AO hm)
 ·exact A7 Agr (AO hm)
 ·exact A7 Agv (AO hm)
theorem ra1 (j m:Nat) (hj:j < 32) (hm:m < 32):Pp 1 (32*j+m)=true:=by
 rw[Oy]
 obtain rfl | rfl | rfl | rfl | rfl | rfl | rfl | rfl | rfl | rfl | rfl | rfl | rfl | rfl | rfl | rfl | rfl | rfl | rfl | rfl | rfl | rfl | rfl | rfl | rfl | rfl | rfl | rfl | rfl | rfl | rfl | rfl:j=0∨j=1∨j=2∨j=3∨j=4∨j=5∨j=6∨j=7∨j=8∨j=9∨j=10∨j=11∨j=12∨j=13∨j=14∨j=15∨j=16∨j=17∨j=18∨j=19∨j=20∨j=21∨j=22∨j=23∨j=24∨j=25∨j=26∨j=27∨j=28∨j=29∨j=30∨j=31:=by omega
 ·exact A7 Akc (AO hm)
 ·exact A7 Akh (AO hm)
 ·exact A7 Akl (AO hm)
 ·exact A7 Akp (AO hm)
 ·exact A7 Akt (AO hm)
 ·exact A7 Akx (AO hm)
 ·exact A7 AkB (AO hm)
 ·exact A7 AkF (AO hm)
 ·exact A7 AkJ (AO hm)
 ·exact A7 AkN (AO hm)
 ·exact A7 Ae8 (AO hm)
 ·exact A7 Afc (AO hm)
 ·exact A7 Afg (AO hm)
 ·exact A7 Afk (AO hm)
 ·exact A7 Afo (AO hm)
 ·exact A7 Afs (AO hm)
 ·exact A7 Afx (AO hm)
 ·exact A7 AfB (AO hm)
 ·exact A7 AfF (AO hm)
 ·exact A7 AfJ (AO hm)
 ·exact A7 AfN (AO hm)
 ·exact A7 AfR (AO hm)
 ·exact A7 AfV (AO hm)
 ·exact A7 AfZ (AO hm)
 ·exact A7 Af3 (AO hm)
 ·exact A7 Af7 (AO hm)
 ·exact A7 Agb (AO hm)
 ·exact A7 Agg (AO hm)
 ·exact A7 Agk (AO hm)
 ·exact A7 Ago (AO hm)
 ·exact A7 Ags (AO hm)
 ·exact A7 Agw (AO hm)
theorem ra2 (j m:Nat) (hj:j < 32) (hm:m < 32):Pp 2 (32*j+m)=true:=by
 rw[Oy]
 obtain rfl | rfl | rfl | rfl | rfl | rfl | rfl | rfl | rfl | rfl | rfl | rfl | rfl | rfl | rfl | rfl | rfl | rfl | rfl | rfl | rfl | rfl | rfl | rfl | rfl | rfl | rfl | rfl | rfl | rfl | rfl | rfl:j=0∨j=1∨j=2∨j=3∨j=4∨j=5∨j=6∨j=7∨j=8∨j=9∨j=10∨j=11∨j=12∨j=13∨j=14∨j=15∨j=16∨j=17∨j=18∨j=19∨j=20∨j=21∨j=22∨j=23∨j=24∨j=25∨j=26∨j=27∨j=28∨j=29∨j=30∨j=31:=by omega
 ·exact A7 Ake (AO hm)
 ·exact A7 Aki (AO hm)
 ·exact A7 Akm (AO hm)
 ·exact A7 Akq (AO hm)
 ·exact A7 Aku (AO hm)
 ·exact A7 Aky (AO hm)
 ·exact A7 AkC (AO hm)
 ·exact A7 AkG (AO hm)
 ·exact A7 AkK (AO hm)
 ·exact A7 AkO (AO hm)
 ·exact A7 Ae9 (AO hm)
 ·exact A7 Afd (AO hm)
 ·exact A7 Afh (AO hm)
 ·exact A7 Afl (AO hm)
 ·exact A7 Afp (AO hm)
 ·exact A7 Afu (AO hm)
 ·exact A7 Afy (AO hm)
 ·exact A7 AfC (AO hm)
 ·exact A7 AfG (AO hm)
 ·exact A7 AfK (AO hm)
 ·exact A7 AfO (AO hm)
 ·exact A7 AfS (AO hm)
 ·exact A7 AfW (AO hm)
 ·exact A7 Af0 (AO hm)
 ·exact A7 Af4 (AO hm)
 ·exact A7 Af8 (AO hm)
 ·exact A7 Agc (AO hm)
 ·exact A7 Agh (AO hm)
 ·exact A7 Agl (AO hm)
 ·exact A7 Agp (AO hm)
 ·exact A7 Agt (AO hm)
 ·exact A7 Agx (AO hm)
theorem ra3 (j m:Nat) (hj:j < 32) (hm:m < 32):Pp 3 (32*j+m)=true:=by
 rw[Oy]
 obtain rfl | rfl | rfl | rfl | rfl | rfl | rfl | rfl | rfl | rfl | rfl | rfl | rfl | rfl | rfl | rfl | rfl | rfl | rfl | rfl | rfl | rfl | rfl | rfl | rfl | rfl | rfl | rfl | rfl | rfl | rfl | rfl:j=0∨j=1∨j=2∨j=3∨j=4∨j=5∨j=6∨j=7∨j=8∨j=9∨j=10∨j=11∨j=12∨j=13∨j=14∨j=15∨j=16∨j=17∨j=18∨j=19∨j=20∨j=21∨j=22∨j=23∨j=24∨j=25∨j=26∨j=27∨j=28∨j=29∨j=30∨j=31:=by omega
 ·exact A7 Akf (AO hm)
 ·exact A7 Akj (AO hm)
 ·exact A7 Akn (AO hm)
 ·exact A7 Akr (AO hm)
 ·exact A7 Akv (AO hm)
 ·exact A7 Akz (AO hm)
 ·exact A7 AkD (AO hm)
 ·exact A7 AkH (AO hm)
 ·exact A7 AkL (AO hm)
 ·exact A7 AkP (AO hm)
 ·exact A7 Afa (AO hm)
 ·exact A7 Afe (AO hm)
 ·exact A7 Afi (AO hm)
 ·exact A7 Afm (AO hm)
 ·exact A7 Afq (AO hm)
 ·exact A7 Afv (AO hm)
 ·exact A7 Afz (AO hm)
 ·exact A7 AfD (AO hm)
 ·exact A7 AfH (AO hm)
 ·exact A7 AfL (AO hm)
 ·exact A7 AfP (AO hm)
 ·exact A7 AfT (AO hm)
 ·exact A7 AfX (AO hm)
 ·exact A7 Af1 (AO hm)
 ·exact A7 Af5 (AO hm)
 ·exact A7 Af9 (AO hm)
 ·exact A7 Agd (AO hm)
 ·exact A7 Agi (AO hm)
 ·exact A7 Agm (AO hm)
 ·exact A7 Agq (AO hm)
 ·exact A7 Agu (AO hm)
 ·exact A7 Agy (AO hm)
theorem perfect_law {x0 x1:Int} (a0:0≤x0) (b0:x0 < 256) (a1:0≤x1) (b1:x1 < 65536):m9 puB L [.int .u8 x0,.int .u16 x1]=some (.bool true):=by
 show Yo puB 10000 x0 x1=_
 obtain⟨c,rfl⟩:=Int.eq_ofNat_of_zero_le a0
 obtain⟨m,rfl⟩:=Int.eq_ofNat_of_zero_le a1
 have hc:c < 256:=by omega
 have hm:m < 65536:=by omega
 obtain⟨k,e⟩:=Apz ⟨c,hc⟩
 rw[Ae6 (x:=((c:Nat):Int)) (r:=.ofNat k.1) e]
 have h9:=Aj9 (x:=((m:Nat):Int)) (r:=.ofNat (m % 1024)) (h16 hm) (.ofNat k.1)
 rw[h9]
 have e2:32*(m % 1024 / 32)+m % 1024 % 32=m % 1024:=by omega
 have hr:Pp k.1 (m % 1024)=true:=by
  obtain⟨k,hk⟩:=k
  obtain rfl | rfl | rfl | rfl:k=0∨k=1∨k=2∨k=3:=by omega
  all_goals rw[←e2]
  ·exact ra0 _ _ (by omega) (by omega)
  ·exact ra1 _ _ (by omega) (by omega)
  ·exact ra2 _ _ (by omega) (by omega)
  ·exact ra3 _ _ (by omega) (by omega)
 exact Ae5 hr
end Go.Proofs.YtflonlkiajhhjaaGreatDoor.TpF
