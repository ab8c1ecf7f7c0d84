/- Made from wip. -/
import Derived.Test.YtflonlkiajhhjaaGreatDoorTpFJoin
import Derived.Test.YtflonlkiajhhjaaGreatDoorTpFFlip
import Derived.Test.YtflonlkiajhhjaaGreatDoorBkCellsx
import Derived.Test.YtflonlkiajhhjaaGreatDoorTpFK6x

set_option linter.unusedVariables false
set_option maxRecDepth 100000
set_option maxHeartbeats 0
namespace Go.Proofs.YtflonlkiajhhjaaGreatDoor.TpF
open Go Go.Sp Go.TpF Go.TpFM Go.BkQ
noncomputable section
def isA:FuncId→Bool:=fun _=>false
def puA:Af:=fun _ _=>none
def AeP:A8:=fun g args H=>bb (Nat.beq g 204) (Hr tabs 1 Ow args H) none
def evL (n:Nat) (g:FuncId) (args:List Value):Option (Value×Aa):=Mw tabs isA puA AeP tt IB n g args (Ao tabs)
def AeQ (v3 v4:Value) (p:Nat×Nat×Nat):Option Value:=(fun r=>oo (kN 2 r) (kP r) fun v=>some v) (evL 100 165 [.agg ⟨[IV (.ofNat p.1),IV (.ofNat p.2.1),v3,v4]⟩,IV (.ofNat p.2.2)])
end
theorem Wu (hm:Tryz.prog.follows .mixedOrders=true):BA Tryz.prog tabs 204 Ow:=WO hm
theorem qA:∀ g,isA g=true→BA Tryz.prog tabs g (puA g):=fun g h=>by cases h
theorem iA (hm:Tryz.prog.follows .mixedOrders=true):CO Tryz.prog (List.range tabs.length) AeP:=fun g args H v H' h=>by
 obtain⟨e,h⟩:=Ae (show bb (Nat.beq g 204) (Hr tabs 1 Ow args H) none=some (v,H') from h)
 obtain rfl:=Nat.eq_of_beq_eq_true e
 exact Og Eb Eo (Wu hm) h
theorem Uw {α β:Type} {f g:α→β}:∀ {l:List α},AP f l=AP g l→∀ x∈l,f x=g x
 | [],_,_,h=>by cases h
 | a :: l, h, x, hx => by
  injection (show f a::AP f l=g a::AP g l from h) with h1 h2
  cases hx with
  | head=>exact h1
  | tail _ hx=>exact Uw h2 x hx
theorem AeR (v3 v4:Value):AP (AeQ v3 v4) triples=AP (fun p=>some (eH (cellL p.1 p.2.1 p.2.2))) triples:=by kernel_rfl
theorem AjX (hm:Tryz.prog.follows .mixedOrders=true):BA Tryz.prog tabs 165 cellsM:=by
 refine I5 (tabs:=tabs) (n:=100) (g:=165) (H:=Ao tabs) (isP:=isA) (pu:=puA) (inl:=AeP) Fb Eb Eo K3 hm qA (iA hm) (fun i=>rfl) rfl (A9 ZL) fun args v h=>?_
 obtain⟨r,c,t,v3,v4,rfl,hp,rfl⟩:=Ux h
 have hr:=Uw (AeR v3 v4) (r,c,t) hp
 replace hr:oo (kN 2 (evL 100 165 [.agg ⟨[IV (.ofNat r),IV (.ofNat c),v3,v4]⟩,IV (.ofNat t)])) (kP (evL 100 165 [.agg ⟨[IV (.ofNat r),IV (.ofNat c),v3,v4]⟩,IV (.ofNat t)])) (fun v=>some v)=some (eH (cellL r c t)):=hr
 refine⟨rfl,?_⟩
 cases hf:kN 2 (evL 100 165 [.agg ⟨[IV (.ofNat r),IV (.ofNat c),v3,v4]⟩,IV (.ofNat t)]) with
 | some w=>rw[hf,Ac] at hr;injection hr with hr;subst hr;exact .inr hf
 | none=>rw[hf,Az] at hr;exact .inl hr
theorem hw (hm:Tryz.prog.follows .mixedOrders=true):BA Tryz.prog tabs 165 R5∧BA Tryz.prog tabs 204 R6∧BA Tryz.prog tabs 24 V5:=⟨AjX hm,⟨(Wu hm).1,fun _ _ h=>by cases h⟩,⟨A9 Zv,fun _ _ h=>by cases h⟩⟩
noncomputable def LQ:Af:=Jf 60
theorem AeS (hm:Tryz.prog.follows .mixedOrders=true):∀ g,isP g=true→BA Tryz.prog tabs g (LQ g):=(UE hm (hw hm) 60).1
theorem i0 (hm:Tryz.prog.follows .mixedOrders=true):CO Tryz.prog (List.range tabs.length) (inl LQ):=by
 obtain⟨_,h0,h1,h2,h3,h4,h5,h6⟩:=UE hm (hw hm) 60
 exact UD hm (pu:=LQ) h0 h1 h2 h3 h4 h5 h6
theorem Gv {a b:Nat} (h:a≠b):Nat.beq a b=false:=by
 cases e:Nat.beq a b with
 | false=>rfl
 | true=>exact absurd (Nat.eq_of_beq_eq_true e) h
noncomputable section
def mW {β:Type} (args:List Value) (k:Nat→Nat→Option β):Option β:=ll args none fun a r=>ll r (oo (Bt a) none fun l=>ll l none fun v1 l=>ll l none fun v2 l=>ll l (oo (Bi .i64 v1) none fun x=>oo (Bi .u32 v2) none fun y=>oo (EA x) none fun n=>oo (EA y) none fun s=>bb (an (Nat.blt 0 n) (Nat.ble n 60)) (k n s) none) fun _ _=>none) fun _ _=>none
def AjY (args:List Value):Option Value:=mW args fun n s=>some (Go.RgP.IV (Go.RgP.clashN n s))
def AjZ (args:List Value):Option Value:=mW args fun n s=>some (.bool (Go.RgP.perfN n s))
end
theorem Wv {β:Type} {args:List Value} {k:Nat→Nat→Option β} {v:β} (h:mW args k=some v):∃ n s,args=[Go.RgP.tv n s]∧0 < n∧n≤60∧k n s=some v:=by
 replace h:=Ad h;obtain⟨a,r,rfl,h⟩:=h
 replace h:=AC h;obtain⟨rfl,h⟩:=h
 obtain⟨l,hl,h⟩:=Ab h
 replace h:=Ad h;obtain⟨v1,l1,rfl,h⟩:=h
 replace h:=Ad h;obtain⟨v2,l2,rfl,h⟩:=h
 replace h:=AC h;obtain⟨rfl,h⟩:=h
 obtain⟨x,hx,h⟩:=Ab h
 obtain⟨y,hy,h⟩:=Ab h
 obtain⟨n,hn,h⟩:=Ab h
 obtain⟨s,hs,h⟩:=Ab h
 obtain⟨hc,h⟩:=Ae h
 obtain⟨c1,c2⟩:=Av hc
 refine⟨n,s,?_,Nat.le_of_ble_eq_true c1,Nat.le_of_ble_eq_true c2,h⟩
 rw[BQ hl,Eh hx,Eh hy,AR hn,AR hs];rfl
theorem orC (args:List Value) (v:Value) (h:AjY args=some v):LQ 119 args=some v:=by
 obtain⟨n,s,rfl,h1,h2,h⟩:=Wv h
 rw[←h];exact Go.RgP.pu_clash 56 h1 h2
theorem orP (args:List Value) (v:Value) (h:AjZ args=some v):LQ 121 args=some v:=by
 obtain⟨n,s,rfl,h1,h2,h⟩:=Wv h
 rw[←h];exact Go.RgP.pu_perf 55 h1 h2
noncomputable def puR:Af:=fun g=>bb (Nat.beq g 119) AjY (bb (Nat.beq g 121) AjZ (LQ g))
theorem Apq (hm:Tryz.prog.follows .mixedOrders=true):∀ g,isP g=true→BA Tryz.prog tabs g (puR g):=fun g hg=>by
 have h0:=AeS hm g hg
 unfold puR
 cases e:Nat.beq g 119 with
 | true =>
  obtain rfl:=Nat.eq_of_beq_eq_true e
  rw[Ak];exact⟨h0.1,fun args v h=>h0.2 args v (orC args v h)⟩
 | false =>
  rw[AA]
  cases e2:Nat.beq g 121 with
  | true =>
   obtain rfl:=Nat.eq_of_beq_eq_true e2
   rw[Ak];exact⟨h0.1,fun args v h=>h0.2 args v (orP args v h)⟩
  | false=>rw[AA];exact h0
noncomputable def bY:FuncId→Bool:=fun g=>an (isP g) (nt (ED g [24]))
theorem xP (hm:Tryz.prog.follows .mixedOrders=true):∀ g,bY g=true→BA Tryz.prog tabs g (puR g):=fun g hg=>Apq hm g (Av (show an (isP g) (nt (ED g [24]))=true from hg)).1
noncomputable def ev0 (n:Nat) (g:FuncId) (args:List Value):Option (Value×Aa):=Mw tabs bY puR (inl LQ) tt IB n g args (KF tabs)
theorem AeU:kP (ev0 4000 148 [])=some (.bool true):=by kernel_rfl
theorem Aj0 (hm:Tryz.prog.follows .mixedOrders=true):BA Tryz.prog tabs 148 Gm:=by
 refine I5 (tabs:=tabs) (n:=4000) (g:=148) (H:=KF tabs) (isP:=bY) (pu:=puR) (inl:=inl LQ) Fb Eb Eo K3 hm (xP hm) (i0 hm) (fun i=>RN i) rfl (A9 ZJ) fun args v h=>?_
 replace h:=AC h;obtain⟨rfl,h⟩:=h
 injection h with h;subst h
 exact⟨rfl,.inl AeU⟩
noncomputable section
def bZ:FuncId→Bool:=fun g=>Dp (Nat.beq g 148) (bY g)
def SB:Af:=fun g=>bb (Nat.beq g 148) Gm (puR g)
end
theorem xQ (hm:Tryz.prog.follows .mixedOrders=true):∀ g,bZ g=true→BA Tryz.prog tabs g (SB g):=fun g hg=>by
 by_cases e:g=148
 ·subst e
  have:SB 148=Gm:=by unfold SB;rw[show Nat.beq 148 148=true from rfl,Ak]
  rw[this];exact Aj0 hm
 ·have:SB g=puR g:=by unfold SB;rw[Gv e,AA]
  rw[this]
  have h:Dp (Nat.beq g 148) (bY g)=true:=hg
  rw[Gv e] at h
  exact xP hm g h
noncomputable def ev1 (n:Nat) (g:FuncId) (args:List Value):Option (Value×Aa):=Mw tabs bZ SB (inl LQ) tt IB n g args (KF tabs)
theorem Aj2:kP (ev1 4000 98 [])=some (.bool true):=by kernel_rfl
theorem Apr (hm:Tryz.prog.follows .mixedOrders=true):BA Tryz.prog tabs 98 Gm:=by
 refine I5 (tabs:=tabs) (n:=4000) (g:=98) (H:=KF tabs) (isP:=bZ) (pu:=SB) (inl:=inl LQ) Fb Eb Eo K3 hm (xQ hm) (i0 hm) (fun i=>RN i) rfl (A9 wQ) fun args v h=>?_
 replace h:=AC h;obtain⟨rfl,h⟩:=h
 injection h with h;subst h
 exact⟨rfl,.inl Aj2⟩
noncomputable section
def cB:FuncId→Bool:=fun g=>Dp (Nat.beq g 98) (bZ g)
def SE:Af:=fun g=>bb (Nat.beq g 98) Gm (SB g)
end
theorem xR (hm:Tryz.prog.follows .mixedOrders=true):∀ g,cB g=true→BA Tryz.prog tabs g (SE g):=fun g hg=>by
 by_cases e:g=98
 ·subst e
  have:SE 98=Gm:=by unfold SE;rw[show Nat.beq 98 98=true from rfl,Ak]
  rw[this];exact Apr hm
 ·have:SE g=SB g:=by unfold SE;rw[Gv e,AA]
  rw[this]
  have h:Dp (Nat.beq g 98) (bZ g)=true:=hg
  rw[Gv e] at h
  exact xQ hm g h
noncomputable def ev2 (n:Nat) (g:FuncId) (args:List Value):Option (Value×Aa):=Mw tabs cB SE (inl LQ) tt IB n g args (KF tabs)
theorem Aj3:kP (ev2 4000 39 [])=some (.bool true):=by kernel_rfl
theorem Aps (hm:Tryz.prog.follows .mixedOrders=true):BA Tryz.prog tabs 39 Gm:=by
 refine I5 (tabs:=tabs) (n:=4000) (g:=39) (H:=KF tabs) (isP:=cB) (pu:=SE) (inl:=inl LQ) Fb Eb Eo K3 hm (xR hm) (i0 hm) (fun i=>RN i) rfl (A9 vX) fun args v h=>?_
 replace h:=AC h;obtain⟨rfl,h⟩:=h
 injection h with h;subst h
 exact⟨rfl,.inl Aj3⟩
noncomputable section
def isW3:FuncId→Bool:=fun g=>Dp (Nat.beq g 39) (cB g)
def SF:Af:=fun g=>bb (Nat.beq g 39) Gm (SE g)
end
theorem xS (hm:Tryz.prog.follows .mixedOrders=true):∀ g,isW3 g=true→BA Tryz.prog tabs g (SF g):=fun g hg=>by
 by_cases e:g=39
 ·subst e
  have:SF 39=Gm:=by unfold SF;rw[show Nat.beq 39 39=true from rfl,Ak]
  rw[this];exact Aps hm
 ·have:SF g=SE g:=by unfold SF;rw[Gv e,AA]
  rw[this]
  have h:Dp (Nat.beq g 39) (cB g)=true:=hg
  rw[Gv e] at h
  exact xR hm g h
noncomputable def ev3 (n:Nat) (g:FuncId) (args:List Value):Option (Value×Aa):=Mw tabs isW3 SF (inl LQ) tt IB n g args (KF tabs)
theorem Aj4:kP (ev3 4000 30 [])=some (.bool true):=by kernel_rfl
theorem Apt (hm:Tryz.prog.follows .mixedOrders=true):BA Tryz.prog tabs 30 Gm:=by
 refine I5 (tabs:=tabs) (n:=4000) (g:=30) (H:=KF tabs) (isP:=isW3) (pu:=SF) (inl:=inl LQ) Fb Eb Eo K3 hm (xS hm) (i0 hm) (fun i=>RN i) rfl (A9 vW) fun args v h=>?_
 replace h:=AC h;obtain⟨rfl,h⟩:=h
 injection h with h;subst h
 exact⟨rfl,.inl Aj4⟩
noncomputable section
def cK:FuncId→Bool:=fun g=>Dp (Nat.beq g 30) (isW3 g)
def SG:Af:=fun g=>bb (Nat.beq g 30) Gm (SF g)
end
theorem xU (hm:Tryz.prog.follows .mixedOrders=true):∀ g,cK g=true→BA Tryz.prog tabs g (SG g):=fun g hg=>by
 by_cases e:g=30
 ·subst e
  have:SG 30=Gm:=by unfold SG;rw[show Nat.beq 30 30=true from rfl,Ak]
  rw[this];exact Apt hm
 ·have:SG g=SF g:=by unfold SG;rw[Gv e,AA]
  rw[this]
  have h:Dp (Nat.beq g 30) (isW3 g)=true:=hg
  rw[Gv e] at h
  exact xS hm g h
noncomputable def ev4 (n:Nat) (g:FuncId) (args:List Value):Option (Value×Aa):=Mw tabs cK SG (inl LQ) tt IB n g args (KF tabs)
theorem Aj5:kP (ev4 4000 63 [])=some (.bool true):=by kernel_rfl
theorem Apu (hm:Tryz.prog.follows .mixedOrders=true):BA Tryz.prog tabs 63 Gm:=by
 refine I5 (tabs:=tabs) (n:=4000) (g:=63) (H:=KF tabs) (isP:=cK) (pu:=SG) (inl:=inl LQ) Fb Eb Eo K3 hm (xU hm) (i0 hm) (fun i=>RN i) rfl (A9 wN) fun args v h=>?_
 replace h:=AC h;obtain⟨rfl,h⟩:=h
 injection h with h;subst h
 exact⟨rfl,.inl Aj5⟩
noncomputable section
def AeV:FuncId→Bool:=fun g=>Dp (Nat.beq g 63) (cK g)
def UN:Af:=fun g=>bb (Nat.beq g 63) Gm (SG g)
end
theorem Aj6 (hm:Tryz.prog.follows .mixedOrders=true):∀ g,AeV g=true→BA Tryz.prog tabs g (UN g):=fun g hg=>by
 by_cases e:g=63
 ·subst e
  have:UN 63=Gm:=by unfold UN;rw[show Nat.beq 63 63=true from rfl,Ak]
  rw[this];exact Apu hm
 ·have:UN g=SG g:=by unfold UN;rw[Gv e,AA]
  rw[this]
  have h:Dp (Nat.beq g 63) (cK g)=true:=hg
  rw[Gv e] at h
  exact xU hm g h
noncomputable def ev5 (n:Nat) (g:FuncId) (args:List Value):Option (Value×Aa):=Mw tabs AeV UN (inl LQ) tt IB n g args (KF tabs)
theorem Aj7:kP (ev5 4000 24 [])=some (.bool true):=by kernel_rfl
theorem Apv (hm:Tryz.prog.follows .mixedOrders=true):BA Tryz.prog tabs 24 Gm:=by
 refine I5 (tabs:=tabs) (n:=4000) (g:=24) (H:=KF tabs) (isP:=AeV) (pu:=UN) (inl:=inl LQ) Fb Eb Eo K3 hm (Aj6 hm) (i0 hm) (fun i=>RN i) rfl (A9 Zv) fun args v h=>?_
 replace h:=AC h;obtain⟨rfl,h⟩:=h
 injection h with h;subst h
 exact⟨rfl,.inl Aj7⟩
noncomputable section
def cO (args:List Value):Option Value:=ll args none fun a r=>ll r none fun b r=>ll r (oo (Bi .u32 a) none fun x=>oo (EA x) none fun m=>oo (Bi .i64 b) none fun z=>oo (EA z) none fun k=>bb (an (Nat.ble k 10) (Nat.blt m 65536)) (LQ 16 [.int .u32 (.ofNat (Nat.mod m 1024)),.int .i64 (.ofNat k)]) none) fun _ _=>none
end
theorem cZ {a b:Nat} (ha:a < 4294967296) (hb:b < 4294967296):Np .u32 (Int.ofNat a) (Int.ofNat b)=Int.ofNat (a &&& b):=by
 show bb (an (Nat.ble a 4294967295) (Nat.ble b 4294967295)) (Int.ofNat (Nat.land a b)) _=_
 rw[Nat.ble_eq_true_of_le (show a≤4294967295 by omega),Nat.ble_eq_true_of_le (show b≤4294967295 by omega)];rfl
theorem xV {a:Nat} (ha:a < 4294967296) (p:Nat):G6 .u32 (Int.ofNat a) p=Int.ofNat (a / 2 ^ p):=by
 show Int.ofNat (a / 2 ^ (min p 32))=_
 by_cases h:p≤32
 ·rw[Nat.min_eq_left h]
 ·have h1:a / 2 ^ (min p 32)=0:=by rw[Nat.min_eq_right (by omega)];exact Nat.div_eq_of_lt (show a < 2 ^ 32 by omega)
  have h2:a / 2 ^ p=0:=Nat.div_eq_of_lt (Nat.lt_of_lt_of_le (show a < 2 ^ 32 by omega) (Nat.pow_le_pow_right (by omega) (show 32≤p by omega)))
  rw[h1,h2]
theorem sK {m k:Nat} (hm:m < 65536) (hk:k < 10):Np .u32 (G6 .u32 (.ofNat m) k) 1=Np .u32 (G6 .u32 (.ofNat (m % 1024)) k) 1:=by
 have h1:m / 2 ^ k < 4294967296:=Nat.lt_of_le_of_lt (Nat.div_le_self _ _) (by omega)
 have h2:m % 1024 / 2 ^ k < 4294967296:=Nat.lt_of_le_of_lt (Nat.div_le_self _ _) (by omega)
 rw[xV (by omega),xV (by omega),show (1:Int)=Int.ofNat 1 from rfl,cZ h1 (by omega),cZ h2 (by omega),Nat.and_one_is_mod,Nat.and_one_is_mod]
 congr 1
 obtain rfl | rfl | rfl | rfl | rfl | rfl | rfl | rfl | rfl | rfl:k=0∨k=1∨k=2∨k=3∨k=4∨k=5∨k=6∨k=7∨k=8∨k=9:=by omega
 all_goals omega
theorem WY (pu:Af) (n:Nat) {m z:Nat} (hm:m < 65536) (hz:z≤10):∀ (w:Nat) (k c:Nat) (i:Int) (q:List Value),JN pu n w (.ofNat m) k c (.ofNat z) i q=JN pu n w (.ofNat (m % 1024)) k c (.ofNat z) i q:=by
 intro w
 induction w with
 | zero=>intros;rfl
 | succ w iw =>
  intro k c i q
  show PM pu n (JN pu n w) (.ofNat m) k c (.ofNat z) i q=PM pu n (JN pu n w) (.ofNat (m % 1024)) k c (.ofNat z) i q
  unfold PM
  cases hlt:AY i (Int.ofNat z) with
  | false=>rfl
  | true =>
   rw[Ak,Ak]
   cases hn:EA i with
   | none=>rfl
   | some j =>
    have hi:=AR hn
    subst hi
    have hj:j < z:=Nat.le_of_ble_eq_true hlt
    rw[Ac,Ac,sK hm (show j < 10 by omega)]
    simp only[Uj,Ui,iw]
theorem Apw (x z:Int):LQ 16 [.int .u32 x,.int .i64 z]=AbB (Jf 59) 10000 x z:=by kernel_rfl
theorem dA {m z:Nat} (hm:m < 65536) (hz:z≤10):LQ 16 [.int .u32 (.ofNat m),.int .i64 (.ofNat z)]=LQ 16 [.int .u32 (.ofNat (m % 1024)),.int .i64 (.ofNat z)]:=by
 have h:∀ y:Nat,LQ 16 [.int .u32 (.ofNat y),.int .i64 (.ofNat z)]=JN (Jf 59) 10000 10000 (.ofNat y) 0 0 (.ofNat z) 0 []:=fun y=>(Apw _ _).trans rfl
 rw[h,h]
 exact WY _ _ hm hz _ _ _ _ _
theorem okG (hm:Tryz.prog.follows .mixedOrders=true):BA Tryz.prog tabs 16 cO:=by
 have h0:=AeS hm 16 rfl
 refine⟨h0.1,fun args v h=>h0.2 args v ?_⟩
 replace h:=Ad h;obtain⟨a,r,rfl,h⟩:=h
 replace h:=Ad h;obtain⟨b,r,rfl,h⟩:=h
 replace h:=AC h;obtain⟨rfl,h⟩:=h
 obtain⟨x,hx,h⟩:=Ab h
 obtain⟨m,hm1,h⟩:=Ab h
 obtain⟨y,hy,h⟩:=Ab h
 obtain⟨k,hk,h⟩:=Ab h
 obtain⟨hc,h⟩:=Ae h
 obtain⟨c1,c2⟩:=Av hc
 rw[Eh hx,Eh hy,AR hm1,AR hk,dA (Nat.le_of_ble_eq_true c2) (Nat.le_of_ble_eq_true c1)]
 exact h
noncomputable def puB:Af:=fun g=>bb (Nat.beq g 24) Gm (bb (Nat.beq g 16) cO (LQ g))
theorem eB (g:FuncId) (h24:Nat.beq g 24=false) (h16:Nat.beq g 16=false):puB g=LQ g:=by unfold puB;rw[h24,AA,h16,AA]
theorem Aj8:puB 24=Gm:=by unfold puB;rw[show Nat.beq 24 24=true from rfl,Ak]
theorem xW:puB 16=cO:=by unfold puB;rw[show Nat.beq 16 24=false from rfl,AA,show Nat.beq 16 16=true from rfl,Ak]
theorem Apx (hm:Tryz.prog.follows .mixedOrders=true):∀ g,isP g=true→BA Tryz.prog tabs g (puB g):=fun g hg=>by
 by_cases e24:g=24
 ·subst e24;rw[Aj8];exact Apv hm
 ·by_cases e16:g=16
  ·subst e16;rw[xW];exact okG hm
  ·rw[eB g (Gv e24) (Gv e16)];exact AeS hm g hg
theorem hcB (hm:Tryz.prog.follows .mixedOrders=true):CO Tryz.prog (List.range tabs.length) (Bb tabs isP puB (inl puB)):=by
 obtain⟨_,h0,h1,h2,h3,h4,h5,h6⟩:=UE hm (hw hm) 60
 exact TG (P:=Tryz.prog) (tabs:=tabs) (pu:=puB) Eb Eo (UD hm (pu:=puB) (by rw[eB 204 rfl rfl];exact h0) (by rw[eB 10440 rfl rfl];exact h1) (by rw[eB 11030 rfl rfl];exact h2) (by rw[eB 11490 rfl rfl];exact h3) (by rw[eB 10220 rfl rfl];exact h4) (by rw[eB 11700 rfl rfl];exact h5) (by rw[eB 12520 rfl rfl];exact h6)) (Apx hm)
theorem lawOk (hm:Tryz.prog.follows .mixedOrders=true):BA Tryz.prog tabs 9 (m9 puB L):=Aw (tabs:=tabs) (f:=m9 puB L) Fb hm (hcB hm) fk9 fun args v h hx=>r9 puB L rfl h hx
end Go.Proofs.YtflonlkiajhhjaaGreatDoor.TpF
set_option linter.unusedVariables false
set_option maxRecDepth 100000
set_option maxHeartbeats 0
namespace Go.Proofs.YtflonlkiajhhjaaGreatDoor.TpF
open Go Go.Sp Go.TpF Go.TpFM Go.BkQ
noncomputable section
def isT (o:Option Value):Bool:=oo o false fun v=>oo (Bf v) false fun b=>b
end
theorem AeW {x r:Int} (h:∀ z:Int,puB 16 [.int .u32 (Aj .u32 x),.int .i64 z]=puB 16 [.int .u32 (Aj .u32 r),.int .i64 z]) (ih0:Int→Int→Nat→Nat→Int→Int→List Value→Option Value) (hqih0:∀ (y1:Int) (y2 y3:Nat) (y4 y5:Int) (y6:List Value),ih0 x y1 y2 y3 y4 y5 y6=ih0 r y1 y2 y3 y4 y5 y6) (y1:Int) (y2 y3:Nat) (y4 y5:Int) (y6:List Value):WC puB 10000 ih0 x y1 y2 y3 y4 y5 y6=WC puB 10000 ih0 r y1 y2 y3 y4 y5 y6:=by
 unfold WC
 simp only[hqih0]
theorem AeX {x r:Int} (h:∀ z:Int,puB 16 [.int .u32 (Aj .u32 x),.int .i64 z]=puB 16 [.int .u32 (Aj .u32 r),.int .i64 z]) (ih0:Int→Int→Nat→Nat→Int→Int→List Value→Option Value) (hqih0:∀ (y1:Int) (y2 y3:Nat) (y4 y5:Int) (y6:List Value),ih0 x y1 y2 y3 y4 y5 y6=ih0 r y1 y2 y3 y4 y5 y6) (y1:Int) (y2 y3:Nat) (y4 y5 y6:Int) (y7:Sl) (y8:Int) (y9:Sl) (y10:List Value):WE puB 10000 ih0 x y1 y2 y3 y4 y5 y6 y7 y8 y9 y10=WE puB 10000 ih0 r y1 y2 y3 y4 y5 y6 y7 y8 y9 y10:=by
 unfold WE
 simp only[AeW h ih0 hqih0]
theorem AeY {x r:Int} (h:∀ z:Int,puB 16 [.int .u32 (Aj .u32 x),.int .i64 z]=puB 16 [.int .u32 (Aj .u32 r),.int .i64 z]) (ih0:Int→Int→Nat→Nat→Int→Int→List Value→Option Value) (hqih0:∀ (y1:Int) (y2 y3:Nat) (y4 y5:Int) (y6:List Value),ih0 x y1 y2 y3 y4 y5 y6=ih0 r y1 y2 y3 y4 y5 y6) (ih1:Int→Int→Int→Int→Int→Int→Int→Sl→Nat→Nat→Int→Int→Int→Int→Int→Sl→Int→Sl→List Value→Option Value) (hqih1:∀ (y1 y2 y3 y4 y5 y6:Int) (y7:Sl) (y8 y9:Nat) (y10 y11 y12 y13 y14:Int) (y15:Sl) (y16:Int) (y17:Sl) (y18:List Value),ih1 x y1 y2 y3 y4 y5 y6 y7 y8 y9 y10 y11 y12 y13 y14 y15 y16 y17 y18=ih1 r y1 y2 y3 y4 y5 y6 y7 y8 y9 y10 y11 y12 y13 y14 y15 y16 y17 y18) (y1 y2 y3 y4 y5 y6:Int) (y7:Sl) (y8 y9:Nat) (y10 y11 y12 y13 y14:Int) (y15:Sl) (y16:Int) (y17:Sl) (y18:List Value):WF puB 10000 ih0 ih1 x y1 y2 y3 y4 y5 y6 y7 y8 y9 y10 y11 y12 y13 y14 y15 y16 y17 y18=WF puB 10000 ih0 ih1 r y1 y2 y3 y4 y5 y6 y7 y8 y9 y10 y11 y12 y13 y14 y15 y16 y17 y18:=by
 unfold WF
 simp only[hqih1]
theorem sM {x r:Int} (h:∀ z:Int,puB 16 [.int .u32 (Aj .u32 x),.int .i64 z]=puB 16 [.int .u32 (Aj .u32 r),.int .i64 z]) (ih0:Int→Int→Nat→Nat→Int→Int→List Value→Option Value) (hqih0:∀ (y1:Int) (y2 y3:Nat) (y4 y5:Int) (y6:List Value),ih0 x y1 y2 y3 y4 y5 y6=ih0 r y1 y2 y3 y4 y5 y6) (ih1:Int→Int→Int→Int→Int→Int→Int→Sl→Nat→Nat→Int→Int→Int→Int→Int→Sl→Int→Sl→List Value→Option Value) (hqih1:∀ (y1 y2 y3 y4 y5 y6:Int) (y7:Sl) (y8 y9:Nat) (y10 y11 y12 y13 y14:Int) (y15:Sl) (y16:Int) (y17:Sl) (y18:List Value),ih1 x y1 y2 y3 y4 y5 y6 y7 y8 y9 y10 y11 y12 y13 y14 y15 y16 y17 y18=ih1 r y1 y2 y3 y4 y5 y6 y7 y8 y9 y10 y11 y12 y13 y14 y15 y16 y17 y18) (y1 y2 y3 y4 y5 y6:Int) (y7:Sl) (y8 y9:Nat) (y10 y11 y12 y13:Int) (y14:Bool) (y15:Int) (y16:Sl) (y17:Int) (y18:Sl) (y19:Int) (y20:Sl) (y21:List Value):LW puB 10000 ih0 ih1 x y1 y2 y3 y4 y5 y6 y7 y8 y9 y10 y11 y12 y13 y14 y15 y16 y17 y18 y19 y20 y21=LW puB 10000 ih0 ih1 r y1 y2 y3 y4 y5 y6 y7 y8 y9 y10 y11 y12 y13 y14 y15 y16 y17 y18 y19 y20 y21:=by
 unfold LW
 simp only[AeY h ih0 hqih0 ih1 hqih1]
theorem sN {x r:Int} (h:∀ z:Int,puB 16 [.int .u32 (Aj .u32 x),.int .i64 z]=puB 16 [.int .u32 (Aj .u32 r),.int .i64 z]) (ih0:Int→Int→Nat→Nat→Int→Int→List Value→Option Value) (hqih0:∀ (y1:Int) (y2 y3:Nat) (y4 y5:Int) (y6:List Value),ih0 x y1 y2 y3 y4 y5 y6=ih0 r y1 y2 y3 y4 y5 y6) (ih1:Int→Int→Int→Int→Int→Int→Int→Sl→Nat→Nat→Int→Int→Int→Int→Int→Sl→Int→Sl→List Value→Option Value) (hqih1:∀ (y1 y2 y3 y4 y5 y6:Int) (y7:Sl) (y8 y9:Nat) (y10 y11 y12 y13 y14:Int) (y15:Sl) (y16:Int) (y17:Sl) (y18:List Value),ih1 x y1 y2 y3 y4 y5 y6 y7 y8 y9 y10 y11 y12 y13 y14 y15 y16 y17 y18=ih1 r y1 y2 y3 y4 y5 y6 y7 y8 y9 y10 y11 y12 y13 y14 y15 y16 y17 y18) (y1 y2 y3 y4 y5 y6 y7:Int) (y8:Sl) (y9 y10 y11 y12:Nat) (y13 y14 y15 y16 y17:Int) (y18:Sl) (y19:Int) (y20:Sl) (y21:Int) (y22:Sl) (y23 y24:List Value):OD puB 10000 ih0 ih1 x y1 y2 y3 y4 y5 y6 y7 y8 y9 y10 y11 y12 y13 y14 y15 y16 y17 y18 y19 y20 y21 y22 y23 y24=OD puB 10000 ih0 ih1 r y1 y2 y3 y4 y5 y6 y7 y8 y9 y10 y11 y12 y13 y14 y15 y16 y17 y18 y19 y20 y21 y22 y23 y24:=by
 unfold OD
 simp only[sM h ih0 hqih0 ih1 hqih1]
theorem sO {x r:Int} (h:∀ z:Int,puB 16 [.int .u32 (Aj .u32 x),.int .i64 z]=puB 16 [.int .u32 (Aj .u32 r),.int .i64 z]) (ih0:Int→Int→Nat→Nat→Int→Int→List Value→Option Value) (hqih0:∀ (y1:Int) (y2 y3:Nat) (y4 y5:Int) (y6:List Value),ih0 x y1 y2 y3 y4 y5 y6=ih0 r y1 y2 y3 y4 y5 y6) (ih1:Int→Int→Int→Int→Int→Int→Int→Sl→Nat→Nat→Int→Int→Int→Int→Int→Sl→Int→Sl→List Value→Option Value) (hqih1:∀ (y1 y2 y3 y4 y5 y6:Int) (y7:Sl) (y8 y9:Nat) (y10 y11 y12 y13 y14:Int) (y15:Sl) (y16:Int) (y17:Sl) (y18:List Value),ih1 x y1 y2 y3 y4 y5 y6 y7 y8 y9 y10 y11 y12 y13 y14 y15 y16 y17 y18=ih1 r y1 y2 y3 y4 y5 y6 y7 y8 y9 y10 y11 y12 y13 y14 y15 y16 y17 y18) (ih2:Int→Int→Int→Int→Int→Int→Int→Int→Sl→Nat→Nat→Nat→Nat→Int→Int→Int→Int→Sl→Int→Int→Int→Sl→Int→Sl→Int→Sl→List Value→List Value→Option Value) (hqih2:∀ (y1 y2 y3 y4 y5 y6 y7:Int) (y8:Sl) (y9 y10 y11 y12:Nat) (y13 y14 y15 y16:Int) (y17:Sl) (y18 y19 y20:Int) (y21:Sl) (y22:Int) (y23:Sl) (y24:Int) (y25:Sl) (y26 y27:List Value),ih2 x y1 y2 y3 y4 y5 y6 y7 y8 y9 y10 y11 y12 y13 y14 y15 y16 y17 y18 y19 y20 y21 y22 y23 y24 y25 y26 y27=ih2 r y1 y2 y3 y4 y5 y6 y7 y8 y9 y10 y11 y12 y13 y14 y15 y16 y17 y18 y19 y20 y21 y22 y23 y24 y25 y26 y27) (y1 y2 y3 y4 y5 y6 y7:Int) (y8:Sl) (y9 y10 y11 y12:Nat) (y13 y14 y15 y16:Int) (y17:Sl) (y18 y19 y20:Int) (y21:Sl) (y22:Int) (y23:Sl) (y24:Int) (y25:Sl) (y26 y27:List Value):LX puB 10000 ih0 ih1 ih2 x y1 y2 y3 y4 y5 y6 y7 y8 y9 y10 y11 y12 y13 y14 y15 y16 y17 y18 y19 y20 y21 y22 y23 y24 y25 y26 y27=LX puB 10000 ih0 ih1 ih2 r y1 y2 y3 y4 y5 y6 y7 y8 y9 y10 y11 y12 y13 y14 y15 y16 y17 y18 y19 y20 y21 y22 y23 y24 y25 y26 y27:=by
 unfold LX
 simp only[hqih2]
theorem sP {x r:Int} (h:∀ z:Int,puB 16 [.int .u32 (Aj .u32 x),.int .i64 z]=puB 16 [.int .u32 (Aj .u32 r),.int .i64 z]) (ih0:Int→Int→Nat→Nat→Int→Int→List Value→Option Value) (hqih0:∀ (y1:Int) (y2 y3:Nat) (y4 y5:Int) (y6:List Value),ih0 x y1 y2 y3 y4 y5 y6=ih0 r y1 y2 y3 y4 y5 y6) (ih1:Int→Int→Int→Int→Int→Int→Int→Sl→Nat→Nat→Int→Int→Int→Int→Int→Sl→Int→Sl→List Value→Option Value) (hqih1:∀ (y1 y2 y3 y4 y5 y6:Int) (y7:Sl) (y8 y9:Nat) (y10 y11 y12 y13 y14:Int) (y15:Sl) (y16:Int) (y17:Sl) (y18:List Value),ih1 x y1 y2 y3 y4 y5 y6 y7 y8 y9 y10 y11 y12 y13 y14 y15 y16 y17 y18=ih1 r y1 y2 y3 y4 y5 y6 y7 y8 y9 y10 y11 y12 y13 y14 y15 y16 y17 y18) (ih2:Int→Int→Int→Int→Int→Int→Int→Int→Sl→Nat→Nat→Nat→Nat→Int→Int→Int→Int→Sl→Int→Int→Int→Sl→Int→Sl→Int→Sl→List Value→List Value→Option Value) (hqih2:∀ (y1 y2 y3 y4 y5 y6 y7:Int) (y8:Sl) (y9 y10 y11 y12:Nat) (y13 y14 y15 y16:Int) (y17:Sl) (y18 y19 y20:Int) (y21:Sl) (y22:Int) (y23:Sl) (y24:Int) (y25:Sl) (y26 y27:List Value),ih2 x y1 y2 y3 y4 y5 y6 y7 y8 y9 y10 y11 y12 y13 y14 y15 y16 y17 y18 y19 y20 y21 y22 y23 y24 y25 y26 y27=ih2 r y1 y2 y3 y4 y5 y6 y7 y8 y9 y10 y11 y12 y13 y14 y15 y16 y17 y18 y19 y20 y21 y22 y23 y24 y25 y26 y27) (y1 y2 y3 y4 y5 y6 y7:Int) (y8:Sl) (y9 y10:Nat) (y11:Int) (y12 y13:Nat) (y14 y15 y16 y17:Int) (y18:Sl) (y19 y20:Int) (y21:Bool) (y22:Int) (y23:Sl) (y24:Int) (y25:Sl) (y26:Int) (y27:Sl) (y28 y29:List Value):Jw puB 10000 ih0 ih1 ih2 x y1 y2 y3 y4 y5 y6 y7 y8 y9 y10 y11 y12 y13 y14 y15 y16 y17 y18 y19 y20 y21 y22 y23 y24 y25 y26 y27 y28 y29=Jw puB 10000 ih0 ih1 ih2 r y1 y2 y3 y4 y5 y6 y7 y8 y9 y10 y11 y12 y13 y14 y15 y16 y17 y18 y19 y20 y21 y22 y23 y24 y25 y26 y27 y28 y29:=by
 unfold Jw
 simp only[sO h ih0 hqih0 ih1 hqih1 ih2 hqih2]
theorem sQ {x r:Int} (h:∀ z:Int,puB 16 [.int .u32 (Aj .u32 x),.int .i64 z]=puB 16 [.int .u32 (Aj .u32 r),.int .i64 z]) (ih0:Int→Int→Nat→Nat→Int→Int→List Value→Option Value) (hqih0:∀ (y1:Int) (y2 y3:Nat) (y4 y5:Int) (y6:List Value),ih0 x y1 y2 y3 y4 y5 y6=ih0 r y1 y2 y3 y4 y5 y6) (ih1:Int→Int→Int→Int→Int→Int→Int→Sl→Nat→Nat→Int→Int→Int→Int→Int→Sl→Int→Sl→List Value→Option Value) (hqih1:∀ (y1 y2 y3 y4 y5 y6:Int) (y7:Sl) (y8 y9:Nat) (y10 y11 y12 y13 y14:Int) (y15:Sl) (y16:Int) (y17:Sl) (y18:List Value),ih1 x y1 y2 y3 y4 y5 y6 y7 y8 y9 y10 y11 y12 y13 y14 y15 y16 y17 y18=ih1 r y1 y2 y3 y4 y5 y6 y7 y8 y9 y10 y11 y12 y13 y14 y15 y16 y17 y18) (w:Nat):∀ (y1:Int) (y2:Int) (y3:Int) (y4:Int) (y5:Int) (y6:Int) (y7:Int) (y8:Sl) (y9:Nat) (y10:Nat) (y11:Nat) (y12:Nat) (y13:Int) (y14:Int) (y15:Int) (y16:Int) (y17:Sl) (y18:Int) (y19:Int) (y20:Int) (y21:Sl) (y22:Int) (y23:Sl) (y24:Int) (y25:Sl) (y26:List Value) (y27:List Value),Jb puB 10000 ih0 ih1 w x y1 y2 y3 y4 y5 y6 y7 y8 y9 y10 y11 y12 y13 y14 y15 y16 y17 y18 y19 y20 y21 y22 y23 y24 y25 y26 y27=Jb puB 10000 ih0 ih1 w r y1 y2 y3 y4 y5 y6 y7 y8 y9 y10 y11 y12 y13 y14 y15 y16 y17 y18 y19 y20 y21 y22 y23 y24 y25 y26 y27:=by
 induction w with
 | zero=>intros;rfl
 | succ w iw =>
  intro y1 y2 y3 y4 y5 y6 y7 y8 y9 y10 y11 y12 y13 y14 y15 y16 y17 y18 y19 y20 y21 y22 y23 y24 y25 y26 y27
  show PK puB 10000 ih0 ih1 (Jb puB 10000 ih0 ih1 w) x y1 y2 y3 y4 y5 y6 y7 y8 y9 y10 y11 y12 y13 y14 y15 y16 y17 y18 y19 y20 y21 y22 y23 y24 y25 y26 y27=PK puB 10000 ih0 ih1 (Jb puB 10000 ih0 ih1 w) r y1 y2 y3 y4 y5 y6 y7 y8 y9 y10 y11 y12 y13 y14 y15 y16 y17 y18 y19 y20 y21 y22 y23 y24 y25 y26 y27
  unfold PK
  simp only[sN h ih0 hqih0 ih1 hqih1,sP h ih0 hqih0 ih1 hqih1 (Jb puB 10000 ih0 ih1 w) iw]
theorem AeZ {x r:Int} (h:∀ z:Int,puB 16 [.int .u32 (Aj .u32 x),.int .i64 z]=puB 16 [.int .u32 (Aj .u32 r),.int .i64 z]) (ih0:Int→Int→Nat→Nat→Int→Int→List Value→Option Value) (hqih0:∀ (y1:Int) (y2 y3:Nat) (y4 y5:Int) (y6:List Value),ih0 x y1 y2 y3 y4 y5 y6=ih0 r y1 y2 y3 y4 y5 y6) (ih1:Int→Int→Int→Int→Int→Int→Int→Sl→Nat→Nat→Int→Int→Int→Int→Int→Sl→Int→Sl→List Value→Option Value) (hqih1:∀ (y1 y2 y3 y4 y5 y6:Int) (y7:Sl) (y8 y9:Nat) (y10 y11 y12 y13 y14:Int) (y15:Sl) (y16:Int) (y17:Sl) (y18:List Value),ih1 x y1 y2 y3 y4 y5 y6 y7 y8 y9 y10 y11 y12 y13 y14 y15 y16 y17 y18=ih1 r y1 y2 y3 y4 y5 y6 y7 y8 y9 y10 y11 y12 y13 y14 y15 y16 y17 y18) (y1 y2 y3 y4 y5 y6 y7:Int) (y8:Sl) (y9 y10:Nat) (y11 y12 y13 y14:Int) (y15:Bool) (y16:Int) (y17:Sl) (y18:Int) (y19:Sl) (y20:Int) (y21:Sl) (y22:List Value):Ps puB 10000 ih0 ih1 x y1 y2 y3 y4 y5 y6 y7 y8 y9 y10 y11 y12 y13 y14 y15 y16 y17 y18 y19 y20 y21 y22=Ps puB 10000 ih0 ih1 r y1 y2 y3 y4 y5 y6 y7 y8 y9 y10 y11 y12 y13 y14 y15 y16 y17 y18 y19 y20 y21 y22:=by
 unfold Ps
 simp only[sQ h ih0 hqih0 ih1 hqih1 10000]
theorem Ae0 {x r:Int} (h:∀ z:Int,puB 16 [.int .u32 (Aj .u32 x),.int .i64 z]=puB 16 [.int .u32 (Aj .u32 r),.int .i64 z]) (ih0:Int→Int→Nat→Nat→Int→Int→List Value→Option Value) (hqih0:∀ (y1:Int) (y2 y3:Nat) (y4 y5:Int) (y6:List Value),ih0 x y1 y2 y3 y4 y5 y6=ih0 r y1 y2 y3 y4 y5 y6) (w:Nat):∀ (y1:Int) (y2:Int) (y3:Int) (y4:Int) (y5:Int) (y6:Int) (y7:Sl) (y8:Nat) (y9:Nat) (y10:Int) (y11:Int) (y12:Int) (y13:Int) (y14:Int) (y15:Sl) (y16:Int) (y17:Sl) (y18:List Value),Gs puB 10000 ih0 w x y1 y2 y3 y4 y5 y6 y7 y8 y9 y10 y11 y12 y13 y14 y15 y16 y17 y18=Gs puB 10000 ih0 w r y1 y2 y3 y4 y5 y6 y7 y8 y9 y10 y11 y12 y13 y14 y15 y16 y17 y18:=by
 induction w with
 | zero=>intros;rfl
 | succ w iw =>
  intro y1 y2 y3 y4 y5 y6 y7 y8 y9 y10 y11 y12 y13 y14 y15 y16 y17 y18
  show WG puB 10000 ih0 (Gs puB 10000 ih0 w) x y1 y2 y3 y4 y5 y6 y7 y8 y9 y10 y11 y12 y13 y14 y15 y16 y17 y18=WG puB 10000 ih0 (Gs puB 10000 ih0 w) r y1 y2 y3 y4 y5 y6 y7 y8 y9 y10 y11 y12 y13 y14 y15 y16 y17 y18
  unfold WG
  simp only[AeX h ih0 hqih0,AeZ h ih0 hqih0 (Gs puB 10000 ih0 w) iw]
theorem Ae1 {x r:Int} (h:∀ z:Int,puB 16 [.int .u32 (Aj .u32 x),.int .i64 z]=puB 16 [.int .u32 (Aj .u32 r),.int .i64 z]) (ih0:Int→Int→Nat→Nat→Int→Int→List Value→Option Value) (hqih0:∀ (y1:Int) (y2 y3:Nat) (y4 y5:Int) (y6:List Value),ih0 x y1 y2 y3 y4 y5 y6=ih0 r y1 y2 y3 y4 y5 y6) (y1 y2 y3 y4 y5 y6:Int) (y7 y8:Nat) (y9 y10:Int) (y11:Bool) (y12:Int) (y13:Sl) (y14:List Value):Uh puB 10000 ih0 x y1 y2 y3 y4 y5 y6 y7 y8 y9 y10 y11 y12 y13 y14=Uh puB 10000 ih0 r y1 y2 y3 y4 y5 y6 y7 y8 y9 y10 y11 y12 y13 y14:=by
 unfold Uh
 simp only[Ae0 h ih0 hqih0 10000]
theorem Ae2 {x r:Int} (h:∀ z:Int,puB 16 [.int .u32 (Aj .u32 x),.int .i64 z]=puB 16 [.int .u32 (Aj .u32 r),.int .i64 z]) (ih0:Int→Int→Nat→Nat→Int→Int→List Value→Option Value) (hqih0:∀ (y1:Int) (y2 y3:Nat) (y4 y5:Int) (y6:List Value),ih0 x y1 y2 y3 y4 y5 y6=ih0 r y1 y2 y3 y4 y5 y6) (y1 y2 y3 y4 y5:Int) (y6 y7:Nat) (y8 y9 y10:Int) (y11 y12:Nat) (y13 y14:List Value):WH puB 10000 ih0 x y1 y2 y3 y4 y5 y6 y7 y8 y9 y10 y11 y12 y13 y14=WH puB 10000 ih0 r y1 y2 y3 y4 y5 y6 y7 y8 y9 y10 y11 y12 y13 y14:=by
 unfold WH
 simp only[Ae1 h ih0 hqih0]
theorem sS {x r:Int} (h:∀ z:Int,puB 16 [.int .u32 (Aj .u32 x),.int .i64 z]=puB 16 [.int .u32 (Aj .u32 r),.int .i64 z]) (ih0:Int→Int→Nat→Nat→Int→Int→List Value→Option Value) (hqih0:∀ (y1:Int) (y2 y3:Nat) (y4 y5:Int) (y6:List Value),ih0 x y1 y2 y3 y4 y5 y6=ih0 r y1 y2 y3 y4 y5 y6) (w:Nat):∀ (y1:Int) (y2:Int) (y3:Int) (y4:Int) (y5:Int) (y6:Nat) (y7:Nat) (y8:Int) (y9:Int) (y10:Sl) (y11:Int) (y12:Int) (y13:Int) (y14:Nat) (y15:Nat) (y16:List Value) (y17:List Value),OE puB 10000 ih0 w x y1 y2 y3 y4 y5 y6 y7 y8 y9 y10 y11 y12 y13 y14 y15 y16 y17=OE puB 10000 ih0 w r y1 y2 y3 y4 y5 y6 y7 y8 y9 y10 y11 y12 y13 y14 y15 y16 y17:=by
 induction w with
 | zero=>intros;rfl
 | succ w iw =>
  intro y1 y2 y3 y4 y5 y6 y7 y8 y9 y10 y11 y12 y13 y14 y15 y16 y17
  show PL puB 10000 ih0 (OE puB 10000 ih0 w) x y1 y2 y3 y4 y5 y6 y7 y8 y9 y10 y11 y12 y13 y14 y15 y16 y17=PL puB 10000 ih0 (OE puB 10000 ih0 w) r y1 y2 y3 y4 y5 y6 y7 y8 y9 y10 y11 y12 y13 y14 y15 y16 y17
  unfold PL
  simp only[iw,Ae2 h ih0 hqih0]
theorem Ae3 {x r:Int} (h:∀ z:Int,puB 16 [.int .u32 (Aj .u32 x),.int .i64 z]=puB 16 [.int .u32 (Aj .u32 r),.int .i64 z]) (ih0:Int→Int→Nat→Nat→Int→Int→List Value→Option Value) (hqih0:∀ (y1:Int) (y2 y3:Nat) (y4 y5:Int) (y6:List Value),ih0 x y1 y2 y3 y4 y5 y6=ih0 r y1 y2 y3 y4 y5 y6) (y1 y2 y3 y4 y5:Int) (y6 y7:Nat) (y8 y9:Int) (y10:List Value):Uy puB 10000 ih0 x y1 y2 y3 y4 y5 y6 y7 y8 y9 y10=Uy puB 10000 ih0 r y1 y2 y3 y4 y5 y6 y7 y8 y9 y10:=by
 unfold Uy
 simp only[h,sS h ih0 hqih0 10000]
theorem Ae4 {x r:Int} (h:∀ z:Int,puB 16 [.int .u32 (Aj .u32 x),.int .i64 z]=puB 16 [.int .u32 (Aj .u32 r),.int .i64 z]) (w:Nat):∀ (y1:Int) (y2:Nat) (y3:Nat) (y4:Int) (y5:Int) (y6:List Value),CY puB 10000 w x y1 y2 y3 y4 y5 y6=CY puB 10000 w r y1 y2 y3 y4 y5 y6:=by
 induction w with
 | zero=>intros;rfl
 | succ w iw =>
  intro y1 y2 y3 y4 y5 y6
  show WI puB 10000 (CY puB 10000 w) x y1 y2 y3 y4 y5 y6=WI puB 10000 (CY puB 10000 w) r y1 y2 y3 y4 y5 y6
  unfold WI
  simp only[Ae3 h (CY puB 10000 w) iw]
theorem Aj9 {x r:Int} (h:∀ z:Int,puB 16 [.int .u32 (Aj .u32 x),.int .i64 z]=puB 16 [.int .u32 (Aj .u32 r),.int .i64 z]) (y0:Int):Yo puB 10000 y0 x=Yo puB 10000 y0 r:=by
 unfold Yo
 simp only[Ae4 h 10000]
theorem Ae5 {o:Option Value} (h:isT o=true):o=some (.bool true):=by
 unfold isT at h
 cases o with
 | none=>cases h
 | some v =>
  replace h:oo (Bf v) false (fun b=>b)=true:=h
  cases hb:Bf v with
  | none=>rw[hb] at h;cases h
  | some b=>rw[hb,Ac] at h;subst h;rw[BV hb]
theorem A7 {α:Type} {p:α→Bool} {l:List α} (h:Au p l=true) {x:α} (hx:x∈l):p x=true:=by
 rw[Bh] at h
 exact List.all_eq_true.1 h x hx
theorem wfU {n:Int} (h:(Lit.int .u8 n).wf=true):0≤n∧n < 256:=by
 simp only[Lit.wf,Bool.and_eq_true,decide_eq_true_eq] at h
 have h1:(0:Int)≤n:=h.1
 have h2:n≤(255:Int):=h.2
 omega
theorem wfU16 {n:Int} (h:(Lit.int .u16 n).wf=true):0≤n∧n < 65536:=by
 simp only[Lit.wf,Bool.and_eq_true,decide_eq_true_eq] at h
 have h1:(0:Int)≤n:=h.1
 have h2:n≤(65535:Int):=h.2
 omega
theorem h16 {m:Nat} (hm:m < 65536) (z:Int):puB 16 [.int .u32 (Aj .u32 (.ofNat m)),.int .i64 z]=puB 16 [.int .u32 (Aj .u32 (.ofNat (m % 1024))),.int .i64 z]:=by
 have e:∀ y:Nat,y < 65536→Aj .u32 (.ofNat y) = .ofNat y:=fun y hy=>by
  show Int.ofNat (y % 4294967296)=_
  rw[Nat.mod_eq_of_lt (by omega)]
 have h1:m % 1024 < 65536:=by omega
 rw[e m hm,e (m % 1024) h1,xW]
 show oo (EA z) none (fun k=>bb (an (Nat.ble k 10) (Nat.blt m 65536)) (LQ 16 [.int .u32 (.ofNat (Nat.mod m 1024)),.int .i64 (.ofNat k)]) none)=oo (EA z) none (fun k=>bb (an (Nat.ble k 10) (Nat.blt (m % 1024) 65536)) (LQ 16 [.int .u32 (.ofNat (Nat.mod (m % 1024) 1024)),.int .i64 (.ofNat k)]) none)
 rw[show Nat.blt m 65536=true from Nat.ble_eq_true_of_le hm,show Nat.blt (m % 1024) 65536=true from Nat.ble_eq_true_of_le h1,show Nat.mod (m % 1024) 1024=Nat.mod m 1024 from Nat.mod_mod m 1024]
theorem Apz:∀ x:Fin 256,∃ k:Fin 4,Int.tmod (Aj .i64 (.ofNat x.1)) 4=Int.tmod (Aj .i64 (.ofNat k.1)) 4:=by decide +kernel
theorem Ae6 {x r:Int} (h:Int.tmod (Aj .i64 x) 4=Int.tmod (Aj .i64 r) 4) (m:Int):Yo puB 10000 x m=Yo puB 10000 r m:=by
 unfold Yo;rw[h]
noncomputable section
def nums (k:Nat):List Nat:=Nat.rec (motive:=fun _=>List Nat) [] (fun k ih=>k::ih) k
def Pp (k m:Nat):Bool:=isT (Yo puB 10000 (.ofNat k) (.ofNat m))
end
theorem AO:∀ {n k:Nat},k < n→k∈nums n
 | 0,_,h=>by omega
 | n + 1, k, h => by
  show k∈n::nums n
  by_cases e:k=n
  ·rw[e];exact List.mem_cons_self
  ·exact List.mem_cons_of_mem _ (AO (by omega))
end Go.Proofs.YtflonlkiajhhjaaGreatDoor.TpF
set_option linter.unusedVariables false
set_option maxRecDepth 100000
set_option maxHeartbeats 0
namespace Go.Proofs.YtflonlkiajhhjaaGreatDoor.TpF
open Go Go.Sp Go.TpF Go.TpFM Go.BkQ
noncomputable section
end
noncomputable def Bp (k m:Nat):Bool:=isT (Yo puB 10000 (.ofNat k) (.ofNat m))
theorem Oy (k m:Nat):Pp k m=Bp k m:=by
 unfold Pp Bp
 rfl
end Go.Proofs.YtflonlkiajhhjaaGreatDoor.TpF
