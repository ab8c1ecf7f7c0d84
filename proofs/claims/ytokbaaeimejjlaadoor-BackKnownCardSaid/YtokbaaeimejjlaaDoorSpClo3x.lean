/- Made from wip. -/
import Derived.Test.YtokbaaeimejjlaaDoorSpClox

namespace Go.Sp
noncomputable section
end
section
variable {P:Program} {tt:TT} {tabs:List (List Value)}
end
end Go.Sp
namespace Go.Sp
noncomputable section
end
theorem Quiet.refl (n0:Nat) (H:AHeap):Quiet n0 H H:=fun _ _ _ R _ _ _ hp=>⟨R,R.le_refl,rfl,hp⟩
theorem Quiet.trans {n0:Nat} {H H1 H2:AHeap} (h:Quiet n0 H H1) (h':Quiet n0 H1 H2):Quiet n0 H H2:=fun H0 R0 w0 R w hs hn hp=>by
 obtain ⟨R1,a1,a2,a3⟩:=h H0 R0 w0 R w hs hn hp
 obtain ⟨R2,b1,b2,b3⟩:=h' H0 R0 w0 R1 w hs hn a3
 exact ⟨R2,Ren.le_trans a1 b1,b2.trans a2,b3⟩
theorem Quiet.tell {n0:Nat} {H H1:AHeap} (h:Quiet n0 H H1) (v:Value):Tell n0 H v H1 v:=fun H0 R0 w0 R w _ hs hn hp hv=>by
 obtain ⟨R1,a1,a2,a3⟩:=h H0 R0 w0 R w hs hn hp
 exact ⟨R1,a1,a2,a3,hv.mono a1⟩
theorem Tell.trans {n0:Nat} {H H1 H2:AHeap} {v v1 v2:Value} (h:Tell n0 H v H1 v1) (h':Tell n0 H1 v1 H2 v2):Tell n0 H v H2 v2:=fun H0 R0 w0 R w u hs hn hp hv=>by
 obtain ⟨R1,a1,a2,a3,a4⟩:=h H0 R0 w0 R w u hs hn hp hv
 obtain ⟨R2,b1,b2,b3,b4⟩:=h' H0 R0 w0 R1 w u hs hn a3 a4
 exact ⟨R2,Ren.le_trans a1 b1,b2.trans a2,b3,b4⟩
theorem TellL.len {n0:Nat} {H H1:AHeap} {l l':List Value} (h:TellL n0 H l H1 l'):l'.length = l.length:=by
 induction h with
 | nil=>rfl
 | cons _ _ ih=>simp [ih]
structure DeepOk (n0:Nat) (av:List Nat) (H:AHeap) (v:Value) (H':AHeap) (v':Value):Prop where
 tell:Tell n0 H v H' v'
 quiet:Quiet n0 H H'
 keep:∀ i,memN i av = true→H'.get i = H.get i
section
variable {P:Program} {tt:TT} {tabs:List (List Value)}
end
end Go.Sp
