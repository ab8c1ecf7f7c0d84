/- Made from wip. -/
import Derived.Test.YtflonlkiajhhjaaGreatDoorTpEJoin
import Derived.Test.YtflonlkiajhhjaaGreatDoorTpEFlip
import Derived.Test.YtflonlkiajhhjaaGreatDoorBkCellsx
import Derived.Test.YtflonlkiajhhjaaGreatDoorTpEK6x

set_option linter.unusedVariables false
set_option maxRecDepth 100000
set_option maxHeartbeats 0
namespace Go.Proofs.YtflonlkiajhhjaaGreatDoor.TpE
open Go Go.Sp Go.TpE Go.TpEM Go.BkQ
noncomputable section
def isA:FuncId→Bool:=fun _=>false
def puA:Af:=fun _ _=>none
def Aen:A8:=fun g args H=>bb (Nat.beq g 204) (Hr tabs 1 LZ args H) none
def evL (n:Nat) (g:FuncId) (args:List Value):Option (Value×Aa):=Mw tabs isA puA Aen tt Hw n g args (Ao tabs)
def Aeo (v3 v4:Value) (p:Nat×Nat×Nat):Option Value:=(fun r=>oo (kN 2 r) (kP r) fun v=>some v) (evL 100 165 [.agg ⟨[IV (.ofNat p.1),IV (.ofNat p.2.1),v3,v4]⟩,IV (.ofNat p.2.2)])
end
theorem Wu (hm:Tryz.prog.follows .mixedOrders=true):BA Tryz.prog tabs 204 LZ:=WK hm
theorem qA:∀ g,isA g=true→BA Tryz.prog tabs g (puA g):=fun g h=>by cases h
theorem iA (hm:Tryz.prog.follows .mixedOrders=true):CO Tryz.prog (List.range tabs.length) Aen:=fun g args H v H' h=>by
 obtain⟨e,h⟩:=Ae (show bb (Nat.beq g 204) (Hr tabs 1 LZ args H) none=some (v,H') from h)
 obtain rfl:=Nat.eq_of_beq_eq_true e
 exact Og Dy DL (Wu hm) h
theorem SB {α β:Type} {f g:α→β}:∀ {l:List α},AP f l=AP g l→∀ x∈l,f x=g x
 | [],_,_,h=>by cases h
 | a :: l, h, x, hx => by
  injection (show f a::AP f l=g a::AP g l from h) with h1 h2
  cases hx with
  | head=>exact h1
  | tail _ hx=>exact SB h2 x hx
theorem Aep (v3 v4:Value):AP (Aeo v3 v4) triples=AP (fun p=>some (eP (cellL p.1 p.2.1 p.2.2))) triples:=by kernel_rfl
theorem AiA (hm:Tryz.prog.follows .mixedOrders=true):BA Tryz.prog tabs 165 cellsM:=by
 refine I5 (tabs:=tabs) (n:=100) (g:=165) (H:=Ao tabs) (isP:=isA) (pu:=puA) (inl:=Aen) C8 Dy DL Kb hm qA (iA hm) (fun i=>rfl) rfl (A9 ZN) fun args v h=>?_
 obtain⟨r,c,t,v3,v4,rfl,hp,rfl⟩:=SE h
 have hr:=SB (Aep v3 v4) (r,c,t) hp
 replace hr:oo (kN 2 (evL 100 165 [.agg ⟨[IV (.ofNat r),IV (.ofNat c),v3,v4]⟩,IV (.ofNat t)])) (kP (evL 100 165 [.agg ⟨[IV (.ofNat r),IV (.ofNat c),v3,v4]⟩,IV (.ofNat t)])) (fun v=>some v)=some (eP (cellL r c t)):=hr
 refine⟨rfl,?_⟩
 cases hf:kN 2 (evL 100 165 [.agg ⟨[IV (.ofNat r),IV (.ofNat c),v3,v4]⟩,IV (.ofNat t)]) with
 | some w=>rw[hf,Ac] at hr;injection hr with hr;subst hr;exact .inr hf
 | none=>rw[hf,Az] at hr;exact .inl hr
theorem hw (hm:Tryz.prog.follows .mixedOrders=true):BA Tryz.prog tabs 165 Qq∧BA Tryz.prog tabs 204 Qr∧BA Tryz.prog tabs 24 UV:=⟨AiA hm,⟨(Wu hm).1,fun _ _ h=>by cases h⟩,⟨A9 ZC,fun _ _ h=>by cases h⟩⟩
noncomputable def O9:Af:=I8 60
theorem AiB (hm:Tryz.prog.follows .mixedOrders=true):∀ g,isP g=true→BA Tryz.prog tabs g (O9 g):=(Uk hm (hw hm) 60).1
theorem i0 (hm:Tryz.prog.follows .mixedOrders=true):CO Tryz.prog (List.range tabs.length) (inl O9):=by
 obtain⟨_,h0,h1,h2,h3,h4,h5⟩:=Uk hm (hw hm) 60
 exact Uj hm (pu:=O9) h0 h1 h2 h3 h4 h5
theorem Gw {a b:Nat} (h:a≠b):Nat.beq a b=false:=by
 cases e:Nat.beq a b with
 | false=>rfl
 | true=>exact absurd (Nat.eq_of_beq_eq_true e) h
noncomputable section
def mW {β:Type} (args:List Value) (k:Nat→Nat→Option β):Option β:=ll args none fun a r=>ll r (oo (Bt a) none fun l=>ll l none fun v1 l=>ll l none fun v2 l=>ll l (oo (Bi .i64 v1) none fun x=>oo (Bi .u32 v2) none fun y=>oo (EA x) none fun n=>oo (EA y) none fun s=>bb (an (Nat.blt 0 n) (Nat.ble n 60)) (k n s) none) fun _ _=>none) fun _ _=>none
def AiC (args:List Value):Option Value:=mW args fun n s=>some (Go.RgP.IV (Go.RgP.clashN n s))
def AiD (args:List Value):Option Value:=mW args fun n s=>some (.bool (Go.RgP.perfN n s))
end
theorem Wv {β:Type} {args:List Value} {k:Nat→Nat→Option β} {v:β} (h:mW args k=some v):∃ n s,args=[Go.RgP.tv n s]∧0 < n∧n≤60∧k n s=some v:=by
 replace h:=Ad h;obtain⟨a,r,rfl,h⟩:=h
 replace h:=AC h;obtain⟨rfl,h⟩:=h
 obtain⟨l,hl,h⟩:=Ab h
 replace h:=Ad h;obtain⟨v1,l1,rfl,h⟩:=h
 replace h:=Ad h;obtain⟨v2,l2,rfl,h⟩:=h
 replace h:=AC h;obtain⟨rfl,h⟩:=h
 obtain⟨x,hx,h⟩:=Ab h
 obtain⟨y,hy,h⟩:=Ab h
 obtain⟨n,hn,h⟩:=Ab h
 obtain⟨s,hs,h⟩:=Ab h
 obtain⟨hc,h⟩:=Ae h
 obtain⟨c1,c2⟩:=Av hc
 refine⟨n,s,?_,Nat.le_of_ble_eq_true c1,Nat.le_of_ble_eq_true c2,h⟩
 rw[BQ hl,Eh hx,Eh hy,AR hn,AR hs];rfl
theorem orC (args:List Value) (v:Value) (h:AiC args=some v):O9 119 args=some v:=by
 obtain⟨n,s,rfl,h1,h2,h⟩:=Wv h
 rw[←h];exact Go.RgP.pu_clash 56 h1 h2
theorem orP (args:List Value) (v:Value) (h:AiD args=some v):O9 121 args=some v:=by
 obtain⟨n,s,rfl,h1,h2,h⟩:=Wv h
 rw[←h];exact Go.RgP.pu_perf 55 h1 h2
noncomputable def puR:Af:=fun g=>bb (Nat.beq g 119) AiC (bb (Nat.beq g 121) AiD (O9 g))
theorem AmV (hm:Tryz.prog.follows .mixedOrders=true):∀ g,isP g=true→BA Tryz.prog tabs g (puR g):=fun g hg=>by
 have h0:=AiB hm g hg
 unfold puR
 cases e:Nat.beq g 119 with
 | true =>
  obtain rfl:=Nat.eq_of_beq_eq_true e
  rw[Ak];exact⟨h0.1,fun args v h=>h0.2 args v (orC args v h)⟩
 | false =>
  rw[AA]
  cases e2:Nat.beq g 121 with
  | true =>
   obtain rfl:=Nat.eq_of_beq_eq_true e2
   rw[Ak];exact⟨h0.1,fun args v h=>h0.2 args v (orP args v h)⟩
  | false=>rw[AA];exact h0
noncomputable def cO:FuncId→Bool:=fun g=>an (isP g) (nt (ED g [24]))
theorem wZ (hm:Tryz.prog.follows .mixedOrders=true):∀ g,cO g=true→BA Tryz.prog tabs g (puR g):=fun g hg=>AmV hm g (Av (show an (isP g) (nt (ED g [24]))=true from hg)).1
noncomputable def ev0 (n:Nat) (g:FuncId) (args:List Value):Option (Value×Aa):=Mw tabs cO puR (inl O9) tt Hw n g args (KF tabs)
theorem Aer:kP (ev0 4000 148 [])=some (.bool true):=by kernel_rfl
theorem AiE (hm:Tryz.prog.follows .mixedOrders=true):BA Tryz.prog tabs 148 FL:=by
 refine I5 (tabs:=tabs) (n:=4000) (g:=148) (H:=KF tabs) (isP:=cO) (pu:=puR) (inl:=inl O9) C8 Dy DL Kb hm (wZ hm) (i0 hm) (fun i=>RN i) rfl (A9 ZL) fun args v h=>?_
 replace h:=AC h;obtain⟨rfl,h⟩:=h
 injection h with h;subst h
 exact⟨rfl,.inl Aer⟩
noncomputable section
def cZ:FuncId→Bool:=fun g=>Dp (Nat.beq g 148) (cO g)
def RO:Af:=fun g=>bb (Nat.beq g 148) FL (puR g)
end
theorem xA (hm:Tryz.prog.follows .mixedOrders=true):∀ g,cZ g=true→BA Tryz.prog tabs g (RO g):=fun g hg=>by
 by_cases e:g=148
 ·subst e
  have:RO 148=FL:=by unfold RO;rw[show Nat.beq 148 148=true from rfl,Ak]
  rw[this];exact AiE hm
 ·have:RO g=puR g:=by unfold RO;rw[Gw e,AA]
  rw[this]
  have h:Dp (Nat.beq g 148) (cO g)=true:=hg
  rw[Gw e] at h
  exact wZ hm g h
noncomputable def ev1 (n:Nat) (g:FuncId) (args:List Value):Option (Value×Aa):=Mw tabs cZ RO (inl O9) tt Hw n g args (KF tabs)
theorem AiF:kP (ev1 4000 98 [])=some (.bool true):=by kernel_rfl
theorem AmW (hm:Tryz.prog.follows .mixedOrders=true):BA Tryz.prog tabs 98 FL:=by
 refine I5 (tabs:=tabs) (n:=4000) (g:=98) (H:=KF tabs) (isP:=cZ) (pu:=RO) (inl:=inl O9) C8 Dy DL Kb hm (xA hm) (i0 hm) (fun i=>RN i) rfl (A9 wB) fun args v h=>?_
 replace h:=AC h;obtain⟨rfl,h⟩:=h
 injection h with h;subst h
 exact⟨rfl,.inl AiF⟩
noncomputable section
def dA:FuncId→Bool:=fun g=>Dp (Nat.beq g 98) (cZ g)
def RP:Af:=fun g=>bb (Nat.beq g 98) FL (RO g)
end
theorem xB (hm:Tryz.prog.follows .mixedOrders=true):∀ g,dA g=true→BA Tryz.prog tabs g (RP g):=fun g hg=>by
 by_cases e:g=98
 ·subst e
  have:RP 98=FL:=by unfold RP;rw[show Nat.beq 98 98=true from rfl,Ak]
  rw[this];exact AmW hm
 ·have:RP g=RO g:=by unfold RP;rw[Gw e,AA]
  rw[this]
  have h:Dp (Nat.beq g 98) (cZ g)=true:=hg
  rw[Gw e] at h
  exact xA hm g h
noncomputable def ev2 (n:Nat) (g:FuncId) (args:List Value):Option (Value×Aa):=Mw tabs dA RP (inl O9) tt Hw n g args (KF tabs)
theorem AiG:kP (ev2 4000 39 [])=some (.bool true):=by kernel_rfl
theorem AmX (hm:Tryz.prog.follows .mixedOrders=true):BA Tryz.prog tabs 39 FL:=by
 refine I5 (tabs:=tabs) (n:=4000) (g:=39) (H:=KF tabs) (isP:=dA) (pu:=RP) (inl:=inl O9) C8 Dy DL Kb hm (xB hm) (i0 hm) (fun i=>RN i) rfl (A9 vM) fun args v h=>?_
 replace h:=AC h;obtain⟨rfl,h⟩:=h
 injection h with h;subst h
 exact⟨rfl,.inl AiG⟩
noncomputable section
def isW3:FuncId→Bool:=fun g=>Dp (Nat.beq g 39) (dA g)
def RQ:Af:=fun g=>bb (Nat.beq g 39) FL (RP g)
end
theorem xC (hm:Tryz.prog.follows .mixedOrders=true):∀ g,isW3 g=true→BA Tryz.prog tabs g (RQ g):=fun g hg=>by
 by_cases e:g=39
 ·subst e
  have:RQ 39=FL:=by unfold RQ;rw[show Nat.beq 39 39=true from rfl,Ak]
  rw[this];exact AmX hm
 ·have:RQ g=RP g:=by unfold RQ;rw[Gw e,AA]
  rw[this]
  have h:Dp (Nat.beq g 39) (dA g)=true:=hg
  rw[Gw e] at h
  exact xB hm g h
noncomputable def ev3 (n:Nat) (g:FuncId) (args:List Value):Option (Value×Aa):=Mw tabs isW3 RQ (inl O9) tt Hw n g args (KF tabs)
theorem AiH:kP (ev3 4000 30 [])=some (.bool true):=by kernel_rfl
theorem AmY (hm:Tryz.prog.follows .mixedOrders=true):BA Tryz.prog tabs 30 FL:=by
 refine I5 (tabs:=tabs) (n:=4000) (g:=30) (H:=KF tabs) (isP:=isW3) (pu:=RQ) (inl:=inl O9) C8 Dy DL Kb hm (xC hm) (i0 hm) (fun i=>RN i) rfl (A9 vK) fun args v h=>?_
 replace h:=AC h;obtain⟨rfl,h⟩:=h
 injection h with h;subst h
 exact⟨rfl,.inl AiH⟩
noncomputable section
def dB:FuncId→Bool:=fun g=>Dp (Nat.beq g 30) (isW3 g)
def RX:Af:=fun g=>bb (Nat.beq g 30) FL (RQ g)
end
theorem xD (hm:Tryz.prog.follows .mixedOrders=true):∀ g,dB g=true→BA Tryz.prog tabs g (RX g):=fun g hg=>by
 by_cases e:g=30
 ·subst e
  have:RX 30=FL:=by unfold RX;rw[show Nat.beq 30 30=true from rfl,Ak]
  rw[this];exact AmY hm
 ·have:RX g=RQ g:=by unfold RX;rw[Gw e,AA]
  rw[this]
  have h:Dp (Nat.beq g 30) (isW3 g)=true:=hg
  rw[Gw e] at h
  exact xC hm g h
noncomputable def ev4 (n:Nat) (g:FuncId) (args:List Value):Option (Value×Aa):=Mw tabs dB RX (inl O9) tt Hw n g args (KF tabs)
theorem AiI:kP (ev4 4000 63 [])=some (.bool true):=by kernel_rfl
theorem AmZ (hm:Tryz.prog.follows .mixedOrders=true):BA Tryz.prog tabs 63 FL:=by
 refine I5 (tabs:=tabs) (n:=4000) (g:=63) (H:=KF tabs) (isP:=dB) (pu:=RX) (inl:=inl O9) C8 Dy DL Kb hm (xD hm) (i0 hm) (fun i=>RN i) rfl (A9 vY) fun args v h=>?_
 replace h:=AC h;obtain⟨rfl,h⟩:=h
 injection h with h;subst h
 exact⟨rfl,.inl AiI⟩
noncomputable section
def Aes:FuncId→Bool:=fun g=>Dp (Nat.beq g 63) (dB g)
def UA:Af:=fun g=>bb (Nat.beq g 63) FL (RX g)
end
theorem AiJ (hm:Tryz.prog.follows .mixedOrders=true):∀ g,Aes g=true→BA Tryz.prog tabs g (UA g):=fun g hg=>by
 by_cases e:g=63
 ·subst e
  have:UA 63=FL:=by unfold UA;rw[show Nat.beq 63 63=true from rfl,Ak]
  rw[this];exact AmZ hm
 ·have:UA g=RX g:=by unfold UA;rw[Gw e,AA]
  rw[this]
  have h:Dp (Nat.beq g 63) (dB g)=true:=hg
  rw[Gw e] at h
  exact xD hm g h
noncomputable def ev5 (n:Nat) (g:FuncId) (args:List Value):Option (Value×Aa):=Mw tabs Aes UA (inl O9) tt Hw n g args (KF tabs)
theorem AiK:kP (ev5 4000 24 [])=some (.bool true):=by kernel_rfl
theorem Am0 (hm:Tryz.prog.follows .mixedOrders=true):BA Tryz.prog tabs 24 FL:=by
 refine I5 (tabs:=tabs) (n:=4000) (g:=24) (H:=KF tabs) (isP:=Aes) (pu:=UA) (inl:=inl O9) C8 Dy DL Kb hm (AiJ hm) (i0 hm) (fun i=>RN i) rfl (A9 ZC) fun args v h=>?_
 replace h:=AC h;obtain⟨rfl,h⟩:=h
 injection h with h;subst h
 exact⟨rfl,.inl AiK⟩
noncomputable def puB:Af:=fun g=>bb (Nat.beq g 24) FL (O9 g)
theorem eB (g:FuncId) (h24:Nat.beq g 24=false):puB g=O9 g:=by unfold puB;rw[h24,AA]
theorem AiL:puB 24=FL:=by unfold puB;rw[show Nat.beq 24 24=true from rfl,Ak]
theorem Am1 (hm:Tryz.prog.follows .mixedOrders=true):∀ g,isP g=true→BA Tryz.prog tabs g (puB g):=fun g hg=>by
 by_cases e24:g=24
 ·subst e24;rw[AiL];exact Am0 hm
 ·rw[eB g (Gw e24)];exact AiB hm g hg
theorem hcB (hm:Tryz.prog.follows .mixedOrders=true):CO Tryz.prog (List.range tabs.length) (Bb tabs isP puB (inl puB)):=by
 obtain⟨_,h0,h1,h2,h3,h4,h5⟩:=Uk hm (hw hm) 60
 exact TG (P:=Tryz.prog) (tabs:=tabs) (pu:=puB) Dy DL (Uj hm (pu:=puB) (by rw[eB 204 rfl];exact h0) (by rw[eB 52 rfl];exact h1) (by rw[eB 10150 rfl];exact h2) (by rw[eB 10230 rfl];exact h3) (by rw[eB 11700 rfl];exact h4) (by rw[eB 12520 rfl];exact h5)) (Am1 hm)
theorem lawOk (hm:Tryz.prog.follows .mixedOrders=true):BA Tryz.prog tabs 4 (m4 puB L):=Aw (tabs:=tabs) (f:=m4 puB L) C8 hm (hcB hm) fk4 fun args v h hx=>r4 puB L rfl h hx
end Go.Proofs.YtflonlkiajhhjaaGreatDoor.TpE
set_option linter.unusedVariables false
set_option maxRecDepth 100000
set_option maxHeartbeats 0
namespace Go.Proofs.YtflonlkiajhhjaaGreatDoor.TpE
open Go Go.Sp Go.TpE Go.TpEM Go.BkQ
noncomputable section
def isT (o:Option Value):Bool:=oo o false fun v=>oo (Bf v) false fun b=>b
end
section
variable {x r:Int} (h:Int.tmod (Aj .i64 x) 8=Int.tmod (Aj .i64 r) 8)
include h
theorem i2 (y0:Sl) (y1 y2 y3:Int) (y4:Sl) (y5:Int) (y6:Sl):SG puB 10000 x y0 y1 y2 y3 y4 y5 y6=SG puB 10000 r y0 y1 y2 y3 y4 y5 y6:=by unfold SG;rw[h]
omit h in
theorem i13 (ih:Int→Sl→Sl→Sl→Int→Int→Int→Int→Sl→Int→Sl→Int→Sl→List Value→Option Value) (hq:∀ (y0 y1 y2:Sl) (y3 y4 y5 y6:Int) (y7:Sl) (y8:Int) (y9:Sl) (y10:Int) (y11:Sl) (y12:List Value),ih x y0 y1 y2 y3 y4 y5 y6 y7 y8 y9 y10 y11 y12=ih r y0 y1 y2 y3 y4 y5 y6 y7 y8 y9 y10 y11 y12) (w:Nat):∀ (y0:Sl) (y1:Sl) (y2:Sl) (y3:Int) (y4:Sl) (y5:Int) (y6:Int) (y7:Int) (y8:Int) (y9:Int) (y10:Sl) (y11:Int) (y12:Sl) (y13:Int) (y14:Sl) (y15:List Value) (y16:Int) (y17:Sl),MR puB 10000 ih w x y0 y1 y2 y3 y4 y5 y6 y7 y8 y9 y10 y11 y12 y13 y14 y15 y16 y17=MR puB 10000 ih w r y0 y1 y2 y3 y4 y5 y6 y7 y8 y9 y10 y11 y12 y13 y14 y15 y16 y17:=by
 induction w with
 | zero=>intros;rfl
 | succ w iw =>
  intro y0 y1 y2 y3 y4 y5 y6 y7 y8 y9 y10 y11 y12 y13 y14 y15 y16 y17
  show OP puB 10000 ih (MR puB 10000 ih w) x y0 y1 y2 y3 y4 y5 y6 y7 y8 y9 y10 y11 y12 y13 y14 y15 y16 y17=OP puB 10000 ih (MR puB 10000 ih w) r y0 y1 y2 y3 y4 y5 y6 y7 y8 y9 y10 y11 y12 y13 y14 y15 y16 y17
  unfold OP
  simp only[UW,rF]
  simp only[hq,iw]
theorem i8 (w:Nat):∀ (y0:Sl) (y1:Sl) (y2:Sl) (y3:Int) (y4:Int) (y5:Int) (y6:Int) (y7:Sl) (y8:Int) (y9:Sl) (y10:Int) (y11:Sl) (y12:List Value),Jc puB 10000 w x y0 y1 y2 y3 y4 y5 y6 y7 y8 y9 y10 y11 y12=Jc puB 10000 w r y0 y1 y2 y3 y4 y5 y6 y7 y8 y9 y10 y11 y12:=by
 induction w with
 | zero=>intros;rfl
 | succ w iw =>
  intro y0 y1 y2 y3 y4 y5 y6 y7 y8 y9 y10 y11 y12
  show WE puB 10000 (Jc puB 10000 w) x y0 y1 y2 y3 y4 y5 y6 y7 y8 y9 y10 y11 y12=WE puB 10000 (Jc puB 10000 w) r y0 y1 y2 y3 y4 y5 y6 y7 y8 y9 y10 y11 y12
  unfold WE
  simp only[Sd,KX]
  simp only[i2 h,i13 (Jc puB 10000 w) iw]
theorem i1 (y0:Sl) (y1 y2:Nat) (y3 y4 y5:Int) (y6:Sl) (y7:List Value) (y8:Int) (y9:Sl) (y10:Int) (y11 y12:Nat) (y13:List Value):SK puB 10000 x y0 y1 y2 y3 y4 y5 y6 y7 y8 y9 y10 y11 y12 y13=SK puB 10000 r y0 y1 y2 y3 y4 y5 y6 y7 y8 y9 y10 y11 y12 y13:=by
 unfold SK
 simp only[i8 h]
theorem i14 (w:Nat):∀ (y0:Sl) (y1:Nat) (y2:Nat) (y3:Int) (y4:Int) (y5:Int) (y6:Int) (y7:Sl) (y8:List Value) (y9:Int) (y10:Sl) (y11:Int) (y12:Nat) (y13:Nat) (y14:List Value),KZ puB 10000 w x y0 y1 y2 y3 y4 y5 y6 y7 y8 y9 y10 y11 y12 y13 y14=KZ puB 10000 w r y0 y1 y2 y3 y4 y5 y6 y7 y8 y9 y10 y11 y12 y13 y14:=by
 induction w with
 | zero=>intros;rfl
 | succ w iw =>
  intro y0 y1 y2 y3 y4 y5 y6 y7 y8 y9 y10 y11 y12 y13 y14
  show OQ puB 10000 (KZ puB 10000 w) x y0 y1 y2 y3 y4 y5 y6 y7 y8 y9 y10 y11 y12 y13 y14=OQ puB 10000 (KZ puB 10000 w) r y0 y1 y2 y3 y4 y5 y6 y7 y8 y9 y10 y11 y12 y13 y14
  unfold OQ
  simp only[Sg]
  simp only[iw,i1 h]
theorem i0x (y0:Sl) (y1 y2:Nat) (y3 y4 y5:Int) (y6:Sl) (y7:List Value):SQ puB 10000 x y0 y1 y2 y3 y4 y5 y6 y7=SQ puB 10000 r y0 y1 y2 y3 y4 y5 y6 y7:=by
 unfold SQ
 simp only[i14 h]
theorem i16 (w:Nat):∀ (y0:Sl) (y1:Nat) (y2:Nat) (y3:Sl) (y4:Int) (y5:Int) (y6:Int) (y7:Int) (y8:Int) (y9:Sl) (y10:List Value),MU puB 10000 w x y0 y1 y2 y3 y4 y5 y6 y7 y8 y9 y10=MU puB 10000 w r y0 y1 y2 y3 y4 y5 y6 y7 y8 y9 y10:=by
 induction w with
 | zero=>intros;rfl
 | succ w iw =>
  intro y0 y1 y2 y3 y4 y5 y6 y7 y8 y9 y10
  show OT puB 10000 (MU puB 10000 w) x y0 y1 y2 y3 y4 y5 y6 y7 y8 y9 y10=OT puB 10000 (MU puB 10000 w) r y0 y1 y2 y3 y4 y5 y6 y7 y8 y9 y10
  unfold OT
  simp only[iw,i0x h]
theorem early (m:Int):m4_ puB 10000 m x=m4_ puB 10000 m r:=by
 unfold m4_
 simp only[i16 h]
end
theorem Aet {o:Option Value} (h:isT o=true):o=some (.bool true):=by
 unfold isT at h
 cases o with
 | none=>cases h
 | some v =>
  replace h:oo (Bf v) false (fun b=>b)=true:=h
  cases hb:Bf v with
  | none=>rw[hb] at h;cases h
  | some b=>rw[hb,Ac] at h;subst h;rw[BV hb]
theorem Bp {α:Type} {p:α→Bool} {l:List α} (h:Au p l=true) {x:α} (hx:x∈l):p x=true:=by
 rw[Bh] at h
 exact List.all_eq_true.1 h x hx
theorem wfU {n:Int} (h:(Lit.int .u8 n).wf=true):0≤n∧n < 256:=by
 simp only[Lit.wf,Bool.and_eq_true,decide_eq_true_eq] at h
 have h1:(0:Int)≤n:=h.1
 have h2:n≤(255:Int):=h.2
 omega
noncomputable section
def eight:List Nat:=[0,1,2,3,4,5,6,7]
def Dr:List Nat:=[0,1,2,3,4,5,6,7,8,9,10,11,12,13,14,15]
def FY (m k:Nat):Bool:=isT (m4_ puB 10000 (.ofNat m) (.ofNat k))
end
theorem Am3:∀ x:Fin 256,∃ k:Fin 8,Int.tmod (Aj .i64 (.ofNat x.1)) 8=Int.tmod (Aj .i64 (.ofNat k.1)) 8:=by decide +kernel
theorem IB:∀ k:Fin 8,k.1∈eight:=by decide
end Go.Proofs.YtflonlkiajhhjaaGreatDoor.TpE
