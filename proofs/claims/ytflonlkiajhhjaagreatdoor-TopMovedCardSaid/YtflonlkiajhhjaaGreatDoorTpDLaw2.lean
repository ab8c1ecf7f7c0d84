/- Made from wip. -/
import Derived.Test.YtflonlkiajhhjaaGreatDoorTpDRun0
import Derived.Test.YtflonlkiajhhjaaGreatDoorTpDRun1

set_option maxRecDepth 100000
set_option maxHeartbeats 0
namespace Go.Proofs.YtflonlkiajhhjaaGreatDoor.TpD
open Go Go.Sp Go.TpD Go.TpDM Go.BkQ
theorem rn5 {pk:List Int} (h:pk∈BO 5 [0,1,2,3,4] []):Sc (Gw 5 pk)=true:=by
 obtain⟨k,hk,h⟩:=List.mem_flatMap.1 h
 have hk:k < 5:=List.mem_range.1 hk
 obtain rfl | rfl | rfl | rfl | rfl:k=0∨k=1∨k=2∨k=3∨k=4:=by omega
 ·exact FM Ac5 h
 ·exact FM Ac6 h
 ·exact FM Ac7 h
 ·exact FM Ac8 h
 ·exact FM Ac9 h
theorem moved_law {x:Int} {bs:List Int} (h0:0≤x) (h1:x < 256) (hb:∀ y∈bs,0≤y∧y < 256):m3 puB L [.int .u8 x,Sl.v 1 (G5 bs)]=some (.bool true):=by
 show m3_ puB 1000 x (G5 bs)=_
 unfold m3_
 obtain⟨y,hy⟩:=Int.eq_ofNat_of_zero_le h0
 have hy2:y < 256:=by omega
 rw[hy,show ((y:Nat):Int)=Int.ofNat y from rfl]
 have hn:=zP ⟨y,hy2⟩
 generalize Aj .i64 (Int.add (1:Int) (Int.tmod (Aj .i64 (.ofNat y)) (5:Int)))=z at hn ⊢
 simp only[List.mem_cons,List.not_mem_nil,or_false] at hn
 rcases hn with rfl | rfl | rfl | rfl | rfl
 ·obtain⟨pk,h2,h3⟩:=Ac0 (OQ 59) hb 998 0 (by omega) 0
  have h4:A7 (OQ 59) 1000 1000 (G5 bs) 1 2 0 0 (.ofNat 0) [.int .i64 0] []=some (Sl.v 1 ⟨1,0,AP (fun z=>.int .i64 z) pk⟩):=h2
  rw[Wt,fi1,h4,LY 1 _ pk rfl]
  exact LX (FM rn1 h3)
 ·obtain⟨pk,h2,h3⟩:=Ac1 (OQ 59) hb 997 0 (by omega) 0 1
  have h4:A7 (OQ 59) 1000 1000 (G5 bs) 2 4 0 0 (.ofNat 0) [.int .i64 0,.int .i64 1] []=some (Sl.v 1 ⟨2,0,AP (fun z=>.int .i64 z) pk⟩):=h2
  rw[Wt,fi2,h4,LY 2 _ pk rfl]
  exact LX (FM rn2 h3)
 ·obtain⟨pk,h2,h3⟩:=Ac2 (OQ 59) hb 996 0 (by omega) 0 1 2
  have h4:A7 (OQ 59) 1000 1000 (G5 bs) 3 6 0 0 (.ofNat 0) [.int .i64 0,.int .i64 1,.int .i64 2] []=some (Sl.v 1 ⟨3,0,AP (fun z=>.int .i64 z) pk⟩):=h2
  rw[Wt,fi3,h4,LY 3 _ pk rfl]
  exact LX (FM rn3 h3)
 ·obtain⟨pk,h2,h3⟩:=Ac3 (OQ 59) hb 995 0 (by omega) 0 1 2 3
  have h4:A7 (OQ 59) 1000 1000 (G5 bs) 4 8 0 0 (.ofNat 0) [.int .i64 0,.int .i64 1,.int .i64 2,.int .i64 3] []=some (Sl.v 1 ⟨4,0,AP (fun z=>.int .i64 z) pk⟩):=h2
  rw[Wt,fi4,h4,LY 4 _ pk rfl]
  exact LX (FM rn4 h3)
 ·obtain⟨pk,h2,h3⟩:=Ac4 (OQ 59) hb 994 0 (by omega) 0 1 2 3 4
  have h4:A7 (OQ 59) 1000 1000 (G5 bs) 5 10 0 0 (.ofNat 0) [.int .i64 0,.int .i64 1,.int .i64 2,.int .i64 3,.int .i64 4] []=some (Sl.v 1 ⟨5,0,AP (fun z=>.int .i64 z) pk⟩):=h2
  rw[Wt,fi5,h4,LY 5 _ pk rfl]
  exact LX (rn5 h3)
end Go.Proofs.YtflonlkiajhhjaaGreatDoor.TpD
