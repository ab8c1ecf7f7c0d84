/- Made from wip. -/
import Derived.Test.YtlgmapibifphaaaDoorSpObjSx
import Derived.Test.YtlgmapibifphaaaDoorMdTCodex
import Derived.KernelRfl

set_option maxRecDepth 100000
namespace Go.MdTM
open Go.Sp Go.MdT
noncomputable section
def RZ (sz by':Nat) (args:List Value) (H:Aa):Option (Value×Aa):=
 ll args none fun x r => ll r (oo (Bj sz x) none fun s => Aa.rec (motive := fun _ => Option (Value × Aa)) (fun k T z => bb z (bb (EQ (0 + s.n) by')
  (some (.slice (some ⟨Nat.succ k,0,some sz⟩) s.n (2*s.n+bb false 1 0),((⟨k,T,true⟩:Aa).push (.cells [] false false [])).push (.cells (Aq (s.n*sz) s.cs) false false []))) none) none) H) fun _ _=>none
def xD:List Fs:=[
 ⟨(some 5),.buildSlice 22 0 #[],22,none,[]⟩,
 ⟨(some 6),.move (.tmp 0),22,none,[]⟩,
 ⟨(some 7),.call ⟨.builtin .append,#[(.tmp 5),(.tmp 6)],#[22,22]⟩,22,none,[]⟩,
 ⟨(some 2),.assign (.tmp 7),22,none,[]⟩]
def H1 (k:Nat) (T:Tr AJ):Aa:=(⟨k,T,true⟩:Aa).push (.cells [] false false [])
def F1 (a:Value):Fr:=Fr.puts (Fr.made 8 [a]) [(2,.slice none 0 0),(3,a),(4,.bool false)]
def F2 (a:Value) (k:Nat):Fr:=Fr.puts (F1 a) [(5,.slice (some ⟨k,0,some 1⟩) 0 1)]
def Ay (a:Value) (k:Nat):Fr:=Fr.puts (F2 a k) [(6,a)]
def AO (a:Value) (k:Nat) (v:Value):Fr:=Fr.puts (Ay a k) [(7,v)]
def A7 (a:Value) (k:Nat) (v:Value):Fr:=Fr.puts (AO a k v) [(2,v)]
theorem fZ (k:Nat) (T:Tr AJ):Bv ((H1 k T).get k)=some ⟨[],false,false,[]⟩:=by
 unfold H1
 rw[Aa.get_push,if_pos rfl];rfl
theorem WB (k:Nat) (T:Tr AJ):(H1 k T).next=k+1:=by
 unfold H1;rw[Aa.next_push]
theorem UM (k:Nat) (T:Tr AJ):Cr tt K4 2 63 [FP 1 0 2 []] ⟨k,T,true⟩=some (.slice none 0 0,⟨k,T,true⟩):=by kernel_rfl
theorem ops (call:A8) (k:Nat) (T:Tr AJ) (a v:Value) (H2:Aa) (s:Sl) (ha:a=s.v 1) (hD:Ql (H1 k T) 1 8 (.slice (some ⟨k,0,some 1⟩) 0 1) s=some (v,H2)) :
 BD tt call xD (F1 a) ⟨k,T,true⟩=some (A7 a k v,H2):=by
 subst ha
 refine Ob (some (.slice (some ⟨k,0,some 1⟩) 0 1,H1 k T)) (by kernel_rfl) rfl (by kernel_rfl) ?_
 refine Ob (some (s.v 1,H1 k T)) (by kernel_rfl) rfl (by kernel_rfl) ?_
 refine Ob (Ql (H1 k T) 1 8 (.slice (some ⟨k,0,some 1⟩) 0 1) s) (by kernel_rfl) hD (by kernel_rfl) ?_
 refine Ob (some (v,H2)) (by kernel_rfl) rfl (by kernel_rfl) ?_
 rfl
theorem ev (k:Nat) (T:Tr AJ) (a v:Value) (H2:Aa) (h1:MZ tt (Cr tt K4 1) 1 xB (Fr.made 8 [a]) ⟨k,T,true⟩=MZ tt (Cr tt K4 1) 1 (.seq (.reg [] xD) .ret) (F1 a) ⟨k,T,true⟩)
 (h:BD tt (Cr tt K4 1) xD (F1 a) ⟨k,T,true⟩=some (A7 a k v,H2)):Cr tt K4 2 63 [a] ⟨k,T,true⟩=some (v,H2):=by
 show Xr tt [.tmp 2] (MZ tt (Cr tt K4 1) 1 xB (Fr.made 8 [a]) ⟨k,T,true⟩)=_
 rw[h1]
 show Xr tt [.tmp 2] (IK (Ab2 (BD tt (Cr tt K4 1) xD (F1 a) ⟨k,T,true⟩)) _)=_
 rw[h]
 kernel_rfl
theorem gD (k:Nat) (T:Tr AJ):Cr tt K4 2 63 [FP 1 0 3 []] ⟨k,T,true⟩=some (.slice (some ⟨k,0,some 1⟩) 0 1,H1 k T):=
 ev k T _ _ _ (by kernel_rfl) (ops _ k T _ _ _ ⟨0,3,[]⟩ rfl (Ze rfl))
theorem gF (k:Nat) (T:Tr AJ) (n:Nat) (cs:List Value) (hr:EQ (0+(n+1)) 8=true) :
 Cr tt K4 2 63 [FP 1 (n+1) 0 cs] ⟨k,T,true⟩=some (sliceAt (k+1) 0 1 (0+(n+1)) (0+(n+1)) false,(H1 k T).push (.cells (Aq ((n+1)*1) cs) false false [])):=
 ev k T _ _ _ (by kernel_rfl) (ops _ k T _ _ _ ⟨n+1,0,cs⟩ rfl (by rw[Zf rfl hr (fZ k T),WB]))

theorem R3 {P:Program} (hT:Jm P tt) (hf:∀ f r,K4 f=some r→Ar P [0] f r) (hm:P.follows .mixedOrders=true) {args:List Value} {H H':Aa} {v:Value} (h:RZ 1 8 args H=some (v,H')) :
 (∀ (as:Array Value) (w:World),(callFunc 63 as).run P w = .ok (.enter 63 as) w) ∧
 ∀ R w args',Ck H R w→JH [0] R→Cf R args args'→Calls P 63 ⟨args'⟩ w fun e w'=>∃ u R',e = .returned u∧VR R' v u∧Ba H R w H' R' w':=by
 refine⟨((Rx hT hf hm 2) 63 _ _ _ _ (UM 0 .nil)).1,fun R w args' hs hgl ha=>?_⟩
 obtain⟨x,r,rfl,h⟩:=Ad h
 obtain⟨rfl,h⟩:=AC h
 obtain⟨s,hsl,h⟩:=Ab h
 obtain rfl:=Qh hsl
 obtain⟨k,T,z⟩:=H
 obtain⟨hz,h⟩:=Ae (show bb z _ none=some _ from h)
 subst hz
 obtain⟨hr,h⟩:=Ae h
 injection h with h;injection h with e1 e2;subst e1;subst e2
 obtain⟨u,us,rfl,hu,hnil⟩:=ha.uncons
 obtain rfl:=hnil.unnil
 obtain⟨n,fl,cs⟩:=s
 have run:∀ (a v1:Value) (H2:Aa),Cr tt K4 2 63 [a] ⟨k,T,true⟩=some (v1,H2)→VR R a u→Calls P 63 ⟨[u]⟩ w fun e w'=>∃ u' R',e = .returned u'∧VR R' v1 u'∧Ba ⟨k,T,true⟩ R w H2 R' w':=fun a v1 H2 he hau=>
  ((Rx hT hf hm 2) 63 _ _ _ _ he).2 R w [u] hs hgl (.one hau)
 have empty : ∀ (a : Value), VR R a u → (a = FP 1 0 2 [] ∨ a = FP 1 0 3 []) → ∀ o, o = AJ.cells (Aq (0 * 1) cs) false false [] → Calls P 63 ⟨[u]⟩ w fun e w' => ∃ u' R', e = .returned u' ∧ VR R' (.slice (some ⟨Nat.succ k, 0, some 1⟩) 0 (2 * 0 + bb false 1 0)) u' ∧
  Ba ⟨k,T,true⟩ R w ((H1 k T).push o) R' w':=fun a hau hcase o ho=>by
  rcases hcase with rfl | rfl
  ·refine(run _ _ _ (UM k T) hau).mono fun e w' ⟨u',R',h1,h2,h3⟩=>⟨u',R',h1,?_,(h3.absPush (obj:=.cells [] false false []) rfl).absPush (by rw[ho];rfl)⟩
   rw[h2.slNil_l];exact .slN rfl
  ·refine(run _ _ _ (gD k T) hau).mono fun e w' ⟨u',R',h1,h2,h3⟩=>⟨u',R',h1,?_,h3.absPush (by rw[ho];rfl)⟩
   cases h2 with
   | sl _ _ _ h3 _=>have:=h3 rfl;subst this;exact .slE rfl
   | slE=>exact .slE rfl
   | slN=>exact .slN rfl
 rcases hu.fs_l (f:=⟨1,n,fl,cs⟩) rfl with⟨h1,h2,rfl⟩ | ⟨_,h1,h2,c,o,sp,rfl⟩ | ⟨c,o,cap,C,hro,rfl,hn,k1,k2,k3,hfit,hcr,hcl⟩
 ·have h1:n=0:=h1
  subst h1
  exact empty _ (.fsN 1 2 (by decide)) (.inl rfl) _ rfl
 ·have h1:n=0:=h1
  subst h1
  exact empty _ (.fsE (by decide)) (.inr rfl) _ rfl
 ·cases n with
  | zero =>
   have hc0:cs=[]:=by simpa using hn
   subst hc0
   exact empty (FP 1 0 3 []) (.mkFs hro rfl (Nat.zero_le _) (fun h=>by cases h) (by decide) hfit hcr hcl) (.inr rfl) _ rfl
  | succ n =>
   refine(run _ _ _ (gF k T n cs hr) (.mkFs hro hn k1 (fun h=>by cases h) (by decide) hfit hcr hcl)).mono fun e w' ⟨u',R',g1,g2,g3⟩=>⟨u',R',g1,?_,g3⟩
   rwa [Nat.zero_add] at g2
end
end Go.MdTM
set_option maxRecDepth 100000
set_option maxHeartbeats 20000000
set_option linter.unusedVariables false
namespace Go.MdTM
open Go.Sp Go.MdT
noncomputable section
def Pg:List Value:=[.int .u8 0,.int .u8 1,.int .u8 28,.int .u8 2,.int .u8 29,.int .u8 14,.int .u8 24,.int .u8 3,.int .u8 30,.int .u8 22,.int .u8 20,.int .u8 15,.int .u8 25,.int .u8 17,.int .u8 4,.int .u8 8,.int .u8 31,.int .u8 27,.int .u8 13,.int .u8 23,.int .u8 21,.int .u8 19,.int .u8 16,.int .u8 7,.int .u8 26,.int .u8 12,.int .u8 18,.int .u8 6,.int .u8 11,.int .u8 5,.int .u8 10,.int .u8 9]
def tabs:List (List Value):=[Pg]
theorem Fb {tt:TT} {n0:Nat} {rs:List ResultVar} {v:Value} {F:Fr} {H:Aa} (r:Value) (hm:some r=some v) (h:DV tt F H rs=some r:=by kernel_rfl) (hc:Fe r=true:=by kernel_rfl):Fin tt n0 rs v .ret F H:=kI r h hc hm
theorem Gt {α:Type} {k:IntKind} {o:Option Value} {s:Int→Option α} {w:α} (h:oo o none (fun v=>oo (Bi k v) none s)=some w):∃ x,o=some (.int k x)∧s x=some w:=by
 obtain⟨v,h1,h2⟩:=Ab h
 obtain⟨x,hx,h3⟩:=Ab h2
 obtain rfl:=Eh hx
 exact⟨x,h1,h3⟩
theorem sH {α:Type} {k:Nat} {o:Option Value} {s:Sl→Option α} {w:α} (h:oo o none (fun v=>oo (Bj k v) none s)=some w):∃ x,o=some (Sl.v k x)∧s x=some w:=by
 obtain⟨v,h1,h2⟩:=Ab h
 obtain⟨x,hx,h3⟩:=Ab h2
 obtain rfl:=Qh hx
 exact⟨x,h1,h3⟩
theorem kR {α:Type} {o:Option Value} {s:Bool→Option α} {w:α} (h:oo o none (fun v=>oo (Bf v) none s)=some w):∃ x,o=some (.bool x)∧s x=some w:=by
 obtain⟨v,h1,h2⟩:=Ab h
 obtain⟨x,hx,h3⟩:=Ab h2
 obtain rfl:=BV hx
 exact⟨x,h1,h3⟩
theorem FX {tt:TT} {call:A8} {n0:Nat} {c:Operand} {a b:RC} {F:Fr} {H:Aa} {Q:Ex→Fr→Aa→Prop} (e:Bool) (hb:e=true) (h:BN tt call n0 a F H Q) (he:Bf (F.eval c)=some e:=by kernel_rfl):BN tt call n0 (.cond c a b) F H Q:=.ifT e he hb h
theorem FY {tt:TT} {call:A8} {n0:Nat} {c:Operand} {a b:RC} {F:Fr} {H:Aa} {Q:Ex→Fr→Aa→Prop} (e:Bool) (hb:e=false) (h:BN tt call n0 b F H Q) (he:Bf (F.eval c)=some e:=by kernel_rfl):BN tt call n0 (.cond c a b) F H Q:=.ifF e he hb h
abbrev Eb:Aa:=hp 1 [oT Pg]
abbrev hT (n:Nat) (l:List AJ):Aa:=hp n (oT Pg::l)
theorem Dy {a b:Bool} (h:b=true) (e:a=b:=by kernel_rfl):a=true:=e.trans h
abbrev OV:=Option Value
abbrev LV:=List Value
def PN:List Nat:=[8,12,16,21,30,44,47,48,51,52,53,58,62,64,67,71,72]
def Gy:FuncId→Bool:=fun g=>ED g PN
def inl (pu:Af):A8:=fun g args H=>bb (Nat.beq g 63) (RZ 1 8 args H) (bb (Nat.beq g 29) (EK tabs [[none,some 1,some 1]] 1 [] [] (pu 10290) args H) (bb (Nat.beq g 65) (EK tabs [[none,some 1,some 1]] 1 [] [true,false] (pu 10650) args H) (bb (Nat.beq g 66) (EK tabs [[none],[none]] 2 [.tmp 0 true,.cell 1 3 false] [true,false] (pu 10660) args H) (bb (Nat.beq g 68) (EK tabs [[none],[some 1],[none],[none]] 4 [.tmp 0 true,.cell 1 3 false] [true,false] (pu 10680) args H) (none)))))
def WC:List UInt8:=[0,1,1,2,1,2,2,3,1,2,2,3,2,3,3,4,1,2,2,3,2,3,3,4,2,3,3,4,3,4,4,5,1,2,2,3,2,3,3,4,2,3,3,4,3,4,4,5,2,3,3,4,3,4,4,5,3,4,4,5,4,5,5,6,1,2,2,3,2,3,3,4,2,3,3,4,3,4,4,5,2,3,3,4,3,4,4,5,3,4,4,5,4,5,5,6,2,3,3,4,3,4,4,5,3,4,4,5,4,5,5,6,3,4,4,5,4,5,5,6,4,5,5,6,5,6,6,7,1,2,2,3,2,3,3,4,2,3,3,4,3,4,4,5,2,3,3,4,3,4,4,5,3,4,4,5,4,5,5,6,2,3,3,4,3,4,4,5,3,4,4,5,4,5,5,6,3,4,4,5,4,5,5,6,4,5,5,6,5,6,6,7,2,3,3,4,3,4,4,5,3,4,4,5,4,5,5,6,3,4,4,5,4,5,5,6,4,5,5,6,5,6,6,7,3,4,4,5,4,5,5,6,4,5,5,6,5,6,6,7,4,5,5,6,5,6,6,7,5,6,6,7,6,7,7,8]
end
end Go.MdTM
