/- Made from wip. -/
import Derived.Test.YtlgmapibifphaaaDoorSpItx
import Derived.Test.YtlgmapibifphaaaDoorMnNCodex
import Derived.KernelRfl

set_option maxRecDepth 100000
namespace Go.Sp
theorem PG.cap (id off sz ln m:Nat):PG (.slice (some ⟨id,off,some sz⟩) ln (2*m+1)) (.slice (some ⟨id,off,some sz⟩) ln (2*m)):=fun R u h=>by
 have e1:(2*m+1) / 2=m:=by omega
 have e2:2*m / 2=m:=by omega
 cases h with
 | sl h h1 h2 h3 h4 =>
  rw[e1] at h1 h2
  exact .sl h (by rw[e2];exact h1) (by rw[e2];exact h2) (fun h=>by omega) h4
 | slE h=>exact .slE (by omega)
 | slN h=>exact .slN (by omega)
end Go.Sp
namespace Go.MnNM
open Go.Sp Go.MnN
noncomputable section
def Ua (sz by':Nat) (args:List Value) (H:Aa):Option (Value×Aa):=
 ll args none fun x r => ll r (oo (Bj sz x) none fun s => Aa.rec (motive := fun _ => Option (Value × Aa)) (fun k T z => bb z (bb (EQ (0 + s.n) by')
  (some (.slice (some ⟨Nat.succ k,0,some sz⟩) s.n (2*s.n+bb false 1 0),((⟨k,T,true⟩:Aa).push (.cells [] false false [])).push (.cells (Aq (s.n*sz) s.cs) false false []))) none) none) H) fun _ _=>none
def o63:List Fs:=[
 ⟨(some 5),.buildSlice 22 0 #[],22,none,[]⟩,
 ⟨(some 6),.move (.tmp 0),22,none,[]⟩,
 ⟨(some 7),.call ⟨.builtin .append,#[(.tmp 5),(.tmp 6)],#[22,22]⟩,22,none,[]⟩,
 ⟨(some 2),.assign (.tmp 7),22,none,[]⟩]
def H1 (k:Nat) (T:Tr AJ):Aa:=(⟨k,T,true⟩:Aa).push (.cells [] false false [])
def F1 (a:Value):Fr:=Fr.puts (Fr.made 8 [a]) [(2,.slice none 0 0),(3,a),(4,.bool false)]
def F2 (a:Value) (k:Nat):Fr:=Fr.puts (F1 a) [(5,.slice (some ⟨k,0,some 1⟩) 0 1)]
def Ay (a:Value) (k:Nat):Fr:=Fr.puts (F2 a k) [(6,a)]
def AO (a:Value) (k:Nat) (v:Value):Fr:=Fr.puts (Ay a k) [(7,v)]
def A7 (a:Value) (k:Nat) (v:Value):Fr:=Fr.puts (AO a k v) [(2,v)]
theorem mK (k:Nat) (T:Tr AJ):Bv ((H1 k T).get k)=some ⟨[],false,false,[]⟩:=by
 unfold H1
 rw[Aa.get_push,if_pos rfl];rfl
theorem Ym (k:Nat) (T:Tr AJ):(H1 k T).next=k+1:=by
 unfold H1;rw[Aa.next_push]
theorem WS (k:Nat) (T:Tr AJ):Cr tt LX 2 63 [FP 1 0 2 []] ⟨k,T,true⟩=some (.slice none 0 0,⟨k,T,true⟩):=by kernel_rfl
theorem ops (call:A8) (k:Nat) (T:Tr AJ) (a v:Value) (H2:Aa) (s:Sl) (ha:a=s.v 1) (hD:Ql (H1 k T) 1 8 (.slice (some ⟨k,0,some 1⟩) 0 1) s=some (v,H2)) :
 BD tt call o63 (F1 a) ⟨k,T,true⟩=some (A7 a k v,H2):=by
 subst ha
 refine Ob (some (.slice (some ⟨k,0,some 1⟩) 0 1,H1 k T)) (by kernel_rfl) rfl (by kernel_rfl) ?_
 refine Ob (some (s.v 1,H1 k T)) (by kernel_rfl) rfl (by kernel_rfl) ?_
 refine Ob (Ql (H1 k T) 1 8 (.slice (some ⟨k,0,some 1⟩) 0 1) s) (by kernel_rfl) hD (by kernel_rfl) ?_
 refine Ob (some (v,H2)) (by kernel_rfl) rfl (by kernel_rfl) ?_
 rfl
theorem ev (k:Nat) (T:Tr AJ) (a v:Value) (H2:Aa) (h1:MZ tt (Cr tt LX 1) 1 c63 (Fr.made 8 [a]) ⟨k,T,true⟩=MZ tt (Cr tt LX 1) 1 (.seq (.reg [] o63) .ret) (F1 a) ⟨k,T,true⟩)
 (h:BD tt (Cr tt LX 1) o63 (F1 a) ⟨k,T,true⟩=some (A7 a k v,H2)):Cr tt LX 2 63 [a] ⟨k,T,true⟩=some (v,H2):=by
 show Xr tt [.tmp 2] (MZ tt (Cr tt LX 1) 1 c63 (Fr.made 8 [a]) ⟨k,T,true⟩)=_
 rw[h1]
 show Xr tt [.tmp 2] (IK (Ab2 (BD tt (Cr tt LX 1) o63 (F1 a) ⟨k,T,true⟩)) _)=_
 rw[h]
 kernel_rfl
theorem mM (k:Nat) (T:Tr AJ):Cr tt LX 2 63 [FP 1 0 3 []] ⟨k,T,true⟩=some (.slice (some ⟨k,0,some 1⟩) 0 1,H1 k T):=
 ev k T _ _ _ (by kernel_rfl) (ops _ k T _ _ _ ⟨0,3,[]⟩ rfl (Ze rfl))
theorem mO (k:Nat) (T:Tr AJ) (n:Nat) (cs:List Value) (hr:EQ (0+(n+1)) 8=true) :
 Cr tt LX 2 63 [FP 1 (n+1) 0 cs] ⟨k,T,true⟩=some (sliceAt (k+1) 0 1 (0+(n+1)) (0+(n+1)) false,(H1 k T).push (.cells (Aq ((n+1)*1) cs) false false [])):=
 ev k T _ _ _ (by kernel_rfl) (ops _ k T _ _ _ ⟨n+1,0,cs⟩ rfl (by rw[Zf rfl hr (mK k T),Ym]))

theorem Ub {P:Program} (hT:Jm P tt) (hf:∀ f r,LX f=some r→Ar P [0] f r) (hm:P.follows .mixedOrders=true) {args:List Value} {H H':Aa} {v:Value} (h:Ua 1 8 args H=some (v,H')) :
 (∀ (as:Array Value) (w:World),(callFunc 63 as).run P w = .ok (.enter 63 as) w) ∧
 ∀ R w args',Ck H R w→JH [0] R→Cf R args args'→Calls P 63 ⟨args'⟩ w fun e w'=>∃ u R',e = .returned u∧VR R' v u∧Ba H R w H' R' w':=by
 refine⟨((Rx hT hf hm 2) 63 _ _ _ _ (WS 0 .nil)).1,fun R w args' hs hgl ha=>?_⟩
 obtain⟨x,r,rfl,h⟩:=Ad h
 obtain⟨rfl,h⟩:=AC h
 obtain⟨s,hsl,h⟩:=Ab h
 obtain rfl:=Qh hsl
 obtain⟨k,T,z⟩:=H
 obtain⟨hz,h⟩:=Ae (show bb z _ none=some _ from h)
 subst hz
 obtain⟨hr,h⟩:=Ae h
 injection h with h;injection h with e1 e2;subst e1;subst e2
 obtain⟨u,us,rfl,hu,hnil⟩:=ha.uncons
 obtain rfl:=hnil.unnil
 obtain⟨n,fl,cs⟩:=s
 have run:∀ (a v1:Value) (H2:Aa),Cr tt LX 2 63 [a] ⟨k,T,true⟩=some (v1,H2)→VR R a u→Calls P 63 ⟨[u]⟩ w fun e w'=>∃ u' R',e = .returned u'∧VR R' v1 u'∧Ba ⟨k,T,true⟩ R w H2 R' w':=fun a v1 H2 he hau=>
  ((Rx hT hf hm 2) 63 _ _ _ _ he).2 R w [u] hs hgl (.one hau)
 have empty : ∀ (a : Value), VR R a u → (a = FP 1 0 2 [] ∨ a = FP 1 0 3 []) → ∀ o, o = AJ.cells (Aq (0 * 1) cs) false false [] → Calls P 63 ⟨[u]⟩ w fun e w' => ∃ u' R', e = .returned u' ∧ VR R' (.slice (some ⟨Nat.succ k, 0, some 1⟩) 0 (2 * 0 + bb false 1 0)) u' ∧
  Ba ⟨k,T,true⟩ R w ((H1 k T).push o) R' w':=fun a hau hcase o ho=>by
  rcases hcase with rfl | rfl
  ·refine(run _ _ _ (WS k T) hau).mono fun e w' ⟨u',R',h1,h2,h3⟩=>⟨u',R',h1,?_,(h3.absPush (obj:=.cells [] false false []) rfl).absPush (by rw[ho];rfl)⟩
   rw[h2.slNil_l];exact .slN rfl
  ·refine(run _ _ _ (mM k T) hau).mono fun e w' ⟨u',R',h1,h2,h3⟩=>⟨u',R',h1,?_,h3.absPush (by rw[ho];rfl)⟩
   cases h2 with
   | sl _ _ _ h3 _=>have:=h3 rfl;subst this;exact .slE rfl
   | slE=>exact .slE rfl
   | slN=>exact .slN rfl
 rcases hu.fs_l (f:=⟨1,n,fl,cs⟩) rfl with⟨h1,h2,rfl⟩ | ⟨_,h1,h2,c,o,sp,rfl⟩ | ⟨c,o,cap,C,hro,rfl,hn,k1,k2,k3,hfit,hcr,hcl⟩
 ·have h1:n=0:=h1
  subst h1
  exact empty _ (.fsN 1 2 (by decide)) (.inl rfl) _ rfl
 ·have h1:n=0:=h1
  subst h1
  exact empty _ (.fsE (by decide)) (.inr rfl) _ rfl
 ·cases n with
  | zero =>
   have hc0:cs=[]:=by simpa using hn
   subst hc0
   exact empty (FP 1 0 3 []) (.mkFs hro rfl (Nat.zero_le _) (fun h=>by cases h) (by decide) hfit hcr hcl) (.inr rfl) _ rfl
  | succ n =>
   refine(run _ _ _ (mO k T n cs hr) (.mkFs hro hn k1 (fun h=>by cases h) (by decide) hfit hcr hcl)).mono fun e w' ⟨u',R',g1,g2,g3⟩=>⟨u',R',g1,?_,g3⟩
   rwa [Nat.zero_add] at g2
end
end Go.MnNM
set_option maxRecDepth 100000
set_option maxHeartbeats 20000000
set_option linter.unusedVariables false
namespace Go.MnNM
open Go.Sp Go.MnN
noncomputable section
def QB:List Value:=[.int .u8 0,.int .u8 1,.int .u8 28,.int .u8 2,.int .u8 29,.int .u8 14,.int .u8 24,.int .u8 3,.int .u8 30,.int .u8 22,.int .u8 20,.int .u8 15,.int .u8 25,.int .u8 17,.int .u8 4,.int .u8 8,.int .u8 31,.int .u8 27,.int .u8 13,.int .u8 23,.int .u8 21,.int .u8 19,.int .u8 16,.int .u8 7,.int .u8 26,.int .u8 12,.int .u8 18,.int .u8 6,.int .u8 11,.int .u8 5,.int .u8 10,.int .u8 9]
def tabs:List (List Value):=[QB]
theorem Fb {tt:TT} {n0:Nat} {rs:List ResultVar} {v:Value} {F:Fr} {H:Aa} (r:Value) (hm:some r=some v) (h:DV tt F H rs=some r:=by kernel_rfl) (hc:Fe r=true:=by kernel_rfl):Fin tt n0 rs v .ret F H:=kI r h hc hm
theorem Gq {α:Type} {k:IntKind} {o:Option Value} {s:Int→Option α} {w:α} (h:oo o none (fun v=>oo (Bi k v) none s)=some w):∃ x,o=some (.int k x)∧s x=some w:=by
 obtain⟨v,h1,h2⟩:=Ab h
 obtain⟨x,hx,h3⟩:=Ab h2
 obtain rfl:=Eh hx
 exact⟨x,h1,h3⟩
theorem vJ {α:Type} {k:Nat} {o:Option Value} {s:Sl→Option α} {w:α} (h:oo o none (fun v=>oo (Bj k v) none s)=some w):∃ x,o=some (Sl.v k x)∧s x=some w:=by
 obtain⟨v,h1,h2⟩:=Ab h
 obtain⟨x,hx,h3⟩:=Ab h2
 obtain rfl:=Qh hx
 exact⟨x,h1,h3⟩
theorem vK {α:Type} {o:Option Value} {s:Bool→Option α} {w:α} (h:oo o none (fun v=>oo (Bf v) none s)=some w):∃ x,o=some (.bool x)∧s x=some w:=by
 obtain⟨v,h1,h2⟩:=Ab h
 obtain⟨x,hx,h3⟩:=Ab h2
 obtain rfl:=BV hx
 exact⟨x,h1,h3⟩
theorem Gy {tt:TT} {call:A8} {n0:Nat} {c:Operand} {a b:RC} {F:Fr} {H:Aa} {Q:Ex→Fr→Aa→Prop} (e:Bool) (hb:e=true) (h:BN tt call n0 a F H Q) (he:Bf (F.eval c)=some e:=by kernel_rfl):BN tt call n0 (.cond c a b) F H Q:=.ifT e he hb h
theorem G5 {tt:TT} {call:A8} {n0:Nat} {c:Operand} {a b:RC} {F:Fr} {H:Aa} {Q:Ex→Fr→Aa→Prop} (e:Bool) (hb:e=false) (h:BN tt call n0 b F H Q) (he:Bf (F.eval c)=some e:=by kernel_rfl):BN tt call n0 (.cond c a b) F H Q:=.ifF e he hb h
abbrev FK:Aa:=hp 1 [oT QB]
abbrev hT (n:Nat) (l:List AJ):Aa:=hp n (oT QB::l)
theorem DL {a b:Bool} (h:b=true) (e:a=b:=by kernel_rfl):a=true:=e.trans h
abbrev OV:=Option Value
abbrev LV:=List Value
def RX:List Nat:=[7,12,21,23,24,29,30,31,44,47,51,52,53,58,62,64,67,71]
def Ir:FuncId→Bool:=fun g=>ED g RX
def inl (pu:Af):A8:=fun g args H=>bb (Nat.beq g 63) (Ua 1 8 args H) (bb (Nat.beq g 22) (EK tabs [[some 1],[none]] 2 [] [false] (pu 10220) args H) (bb (Nat.beq g 65) (EK tabs [[none,some 1,some 1]] 1 [] [true,false] (pu 10650) args H) (bb (Nat.beq g 66) (EK tabs [[none],[none]] 2 [.tmp 0 true,.cell 1 3 false] [true,false] (pu 10660) args H) (none))))
def Yn:List UInt8:=[0,1,1,2,1,2,2,3,1,2,2,3,2,3,3,4,1,2,2,3,2,3,3,4,2,3,3,4,3,4,4,5,1,2,2,3,2,3,3,4,2,3,3,4,3,4,4,5,2,3,3,4,3,4,4,5,3,4,4,5,4,5,5,6,1,2,2,3,2,3,3,4,2,3,3,4,3,4,4,5,2,3,3,4,3,4,4,5,3,4,4,5,4,5,5,6,2,3,3,4,3,4,4,5,3,4,4,5,4,5,5,6,3,4,4,5,4,5,5,6,4,5,5,6,5,6,6,7,1,2,2,3,2,3,3,4,2,3,3,4,3,4,4,5,2,3,3,4,3,4,4,5,3,4,4,5,4,5,5,6,2,3,3,4,3,4,4,5,3,4,4,5,4,5,5,6,3,4,4,5,4,5,5,6,4,5,5,6,5,6,6,7,2,3,3,4,3,4,4,5,3,4,4,5,4,5,5,6,3,4,4,5,4,5,5,6,4,5,5,6,5,6,6,7,3,4,4,5,4,5,5,6,4,5,5,6,5,6,6,7,4,5,5,6,5,6,6,7,5,6,6,7,6,7,7,8]
end
end Go.MnNM
set_option maxRecDepth 100000
set_option maxHeartbeats 20000000
set_option linter.unusedVariables false
namespace Go.MnNM
open Go.Sp Go.MnN
noncomputable section
def Wl (pu:Af) (n:Nat) (b0:Bool):OV:=
 (some (.bool b0))
def WT (pu:Af) (n:Nat) (z0 z1:Int):OV:=
 (bb (Bd z1 z0) (oo (pu 12 []) none fun v0=>(oo (Bf v0) none fun b0=>(Wl pu n b0))) (Wl pu n false))
def Yo (pu:Af) (n:Nat) (ih0:Int→Sl→Int→Int→Int→Int→Sl→Sl→OV) (z0:Int) (s0:Sl) (z1 z2 z3 z4:Int) (s1 s2:Sl):OV:=
 (ih0 z0 s0 z1 z2 (Aj .i64 (Int.add z3 (1:Int))) z4 s1 s2)
def WU (pu:Af) (n:Nat) (ih0:Int→Sl→Int→Int→Int→Int→Sl→Sl→OV) (ih1:Int→Sl→Int→Int→Int→Int→Int→Int→Int→Sl→Sl→OV) (z0:Int) (s0:Sl) (z1 z2 z3 z4 z5 z6 z7:Int) (s1 s2:Sl):OV:=
 (ih1 z0 s0 z1 z2 z3 z4 z5 (Aj .i64 (Int.add z6 (1:Int))) z7 s1 s2)
def Ud (pu:Af) (n:Nat) (ih0:Int→Sl→Int→Int→Int→Int→Sl→Sl→OV) (ih1:Int→Sl→Int→Int→Int→Int→Int→Int→Int→Sl→Sl→OV) (z0:Int) (s0:Sl) (z1 z2 z3 z4 z5 z6 z7:Int) (b0:Bool) (z8:Int) (s1 s2:Sl):OV:=
 (bb b0 (some (.bool false)) (oo (EA z3) none fun k1=>(bb (an (Nat.blt k1 (Sl.n s0)) true) (oo (AL (Sl.cs s0) (k1*1)) none fun v0=>(oo (Bi .i64 v0) none fun x0=>(oo (EA z2) none fun k2=>(bb (an (Nat.blt k2 (Sl.n s0)) true) (oo (AL (Sl.cs s0) (k2*1)) none fun v1=>(oo (Bi .i64 v1) none fun x1=>(bb (AY x1 x0) (WU pu n ih0 ih1 z0 s0 (Aj .i64 (Int.add z1 (1:Int))) (Int.ofNat k2) z4 z5 z6 z7 z8 s1 s2) (WU pu n ih0 ih1 z0 s0 z1 (Int.ofNat k2) z4 z5 z6 z7 z8 s1 s2)))) none)))) none)))
def Ue (pu:Af) (n:Nat) (ih0:Int→Sl→Int→Int→Int→Int→Sl→Sl→OV) (ih1:Int→Sl→Int→Int→Int→Int→Int→Int→Int→Sl→Sl→OV) (z0:Int) (s0:Sl) (z1 z2 z3 z4 z5 z6 z7:Int) (s1 s2:Sl):OV:=
 (bb (AY z6 z5) (oo (EA z2) none fun k1=>(bb (an (Nat.blt k1 (Sl.n s0)) true) (oo (AL (Sl.cs s0) (k1*1)) none fun v0=>(oo (Bi .i64 v0) none fun x0=>(oo (EA z6) none fun k2=>(bb (an (Nat.blt k2 (Sl.n s0)) true) (oo (AL (Sl.cs s0) (k2*1)) none fun v1=>(oo (Bi .i64 v1) none fun x1=>(bb (Bd x0 x1) (Ud pu n ih0 ih1 z0 s0 z1 (Int.ofNat k1) (Int.ofNat k2) z3 z4 z5 (Int.ofNat k2) true z7 s1 s2) (bb (an (Nat.blt k1 (Sl.n s0)) true) (oo (AL (Sl.cs s0) (k1*1)) none fun v2=>(oo (Bi .i64 v2) none fun x2=>(bb (an (Nat.blt k2 (Sl.n s0)) true) (oo (AL (Sl.cs s0) (k2*1)) none fun v3=>(oo (Bi .i64 v3) none fun x3=>(bb (AY x2 x3) (bb (an (Nat.blt k1 (Sl.n s2)) true) (oo (AL (Sl.cs s2) (k1*1)) none fun v4=>(oo (Bi .i64 v4) none fun x4=>(bb (an (Nat.blt k2 (Sl.n s2)) true) (oo (AL (Sl.cs s2) (k2*1)) none fun v5=>(oo (Bi .i64 v5) none fun x5=>(Ud pu n ih0 ih1 z0 s0 z1 (Int.ofNat k1) (Int.ofNat k2) z3 z4 z5 (Int.ofNat k2) (Bd x4 x5) z7 s1 s2))) none))) none) (Ud pu n ih0 ih1 z0 s0 z1 (Int.ofNat k1) (Int.ofNat k2) z3 z4 z5 (Int.ofNat k2) false z7 s1 s2)))) none))) none)))) none)))) none)) (Yo pu n ih0 z0 s0 z1 z3 z4 z7 s1 s2))
def QC (pu:Af) (n:Nat) (ih0:Int→Sl→Int→Int→Int→Int→Sl→Sl→OV) (w:Nat):Int→Sl→Int→Int→Int→Int→Int→Int→Int→Sl→Sl→OV:=
 Nat.rec (motive:=fun _=>Int→Sl→Int→Int→Int→Int→Int→Int→Int→Sl→Sl→OV) (fun _ _ _ _ _ _ _ _ _ _ _=>none) (fun _ ih1=>Ue pu n ih0 ih1) w
def Wm (pu:Af) (n:Nat) (ih0:Int→Sl→Int→Int→Int→Int→Sl→Sl→OV) (z0:Int) (s0:Sl) (z1 z2 z3 z4:Int) (b0:Bool) (z5:Int) (s1 s2:Sl):OV:=
 (bb b0 (some (.bool false)) (QC pu n ih0 n z0 s0 z1 z2 z3 z4 z2 (0:Int) z5 s1 s2))
def Uf (pu:Af) (n:Nat) (ih0:Int→Sl→Int→Int→Int→Int→Sl→Sl→OV) (z0:Int) (s0:Sl) (z1 z2 z3 z4:Int) (s1 s2:Sl):OV:=
 (bb (AY z3 z2) (oo (EA z3) none fun k1=>(bb (an (Nat.blt k1 (Sl.n s0)) true) (oo (AL (Sl.cs s0) (k1*1)) none fun v0=>(oo (Bi .i64 v0) none fun x0=>(bb (AY x0 (0:Int)) (Wm pu n ih0 z0 s0 z1 (Int.ofNat k1) z2 (Int.ofNat k1) true z4 s1 s2) (bb (an (Nat.blt k1 (Sl.n s0)) true) (oo (AL (Sl.cs s0) (k1*1)) none fun v1=>(oo (Bi .i64 v1) none fun x1=>(bb (nt (AY x1 (Int.ofNat (Sl.n s0)))) (Wm pu n ih0 z0 s0 z1 (Int.ofNat k1) z2 (Int.ofNat k1) true z4 s1 s2) (bb (an (Nat.blt k1 (Sl.n s0)) true) (oo (AL (Sl.cs s0) (k1*1)) none fun v2=>(oo (Bi .i64 v2) none fun x2=>(oo (EA x2) none fun k2=>(bb (an (Nat.blt k2 (Sl.n s1)) true) (oo (AL (Sl.cs s1) (k2*1)) none fun v3=>(oo (Bi .i64 v3) none fun x3=>(bb (an (Nat.blt k1 (Sl.n s2)) true) (oo (AL (Sl.cs s2) (k1*1)) none fun v4=>(oo (Bi .i64 v4) none fun x4=>(Wm pu n ih0 z0 s0 z1 (Int.ofNat k1) z2 (Int.ofNat k1) (nt (Bd x3 x4)) z4 s1 s2))) none))) none)))) none)))) none)))) none)) (WT pu n z0 z1))
def KW (pu:Af) (n w:Nat):Int→Sl→Int→Int→Int→Int→Sl→Sl→OV:=
 Nat.rec (motive:=fun _=>Int→Sl→Int→Int→Int→Int→Sl→Sl→OV) (fun _ _ _ _ _ _ _ _=>none) (fun _ ih0=>Uf pu n ih0) w
def QD (pu:Af) (n:Nat) (z0:Int) (s0:Sl) (b0:Bool) (z1:Int) (s1 s2:Sl):OV:=
 (bb b0 (some (.bool false)) (KW pu n n z0 s0 (0:Int) (Int.ofNat (Sl.n s0)) (0:Int) z1 s1 s2))
def vL (pu:Af) (n:Nat) (q1:LV):OV:=
 (bb (Au Ah q1) (bb (Nat.ble (0+22) (len q1)) (oo (pu 21 [(.agg ⟨(Aq 22 (Am 0 q1))⟩),(.int .i64 (6:Int)),(.int .i64 (4:Int))]) none fun v21=>(oo (Bt v21) none fun Yc=>(ll Yc none fun v25 Yc=>(ll Yc none fun v26 Yc=>(ll Yc none fun v27 Yc=>(ll Yc (oo (Bi .i64 v25) none fun x28=>(oo (Bj 1 v26) none fun s30=>(oo (Bj 1 v27) none fun s32=>(bb (Au closed2 [(.agg ⟨(Aq 22 (Am 0 q1))⟩),(.int .i64 (6:Int)),(.int .i64 (4:Int))]) (oo (pu 10220 [Sl.v 1 s32,(.bool true)]) none fun v0=>(oo (CQ v0) none fun l0=>(ll l0 none fun v1 l0=>(ll l0 none fun v2 l0=>(ll l0 (bb (FC v1 1) (oo (Fj v2) none fun y0=>(bb (Au F4 (Akd.es y0)) (bb (Au F4 (Akd.es y0)) (oo (pu 30 [(.agg ⟨[.int .i64 x28,Sl.v 1 s30,Sl.v 1 s32]⟩)]) none fun v3=>(oo (CQ v3) none fun l1=>(ll l1 none fun v4 l1=>(ll l1 none fun v5 l1=>(ll l1 (oo (Bi .i64 v4) none fun x0=>(oo (Bi .i64 v5) none fun x1=>(oo (pu 31 [(.agg ⟨[.int .i64 x28,Sl.v 1 s30,Sl.v 1 s32]⟩)]) none fun v6=>(oo (CQ v6) none fun l2=>(ll l2 none fun v7 l2=>(ll l2 none fun v8 l2=>(ll l2 (oo (Bj 1 v7) none fun s0=>(oo (Bi .i64 v8) none fun x2=>(oo (pu 29 [(.agg ⟨[.int .i64 x28,Sl.v 1 s30,Sl.v 1 s32]⟩)]) none fun v9=>(oo (CQ v9) none fun l3=>(ll l3 none fun v10 l3=>(ll l3 none fun v11 l3=>(ll l3 (oo (Bi .i64 v10) none fun x3=>(oo (Bi .i64 v11) none fun x4=>(bb (nt (Bd x1 (0:Int))) (QD pu n x0 s0 true x28 s30 s32) (bb (nt (Bd x2 (0:Int))) (QD pu n x0 s0 true x28 s30 s32) (bb (nt (Bd x4 (0:Int))) (QD pu n x0 s0 true x28 s30 s32) (oo (pu 23 [Sl.v 1 s30]) none fun v12=>(oo (Bi .i64 v12) none fun x5=>(oo (GD (.int .i64 x5) (Akd.es y0) 0) none fun r0=>(oo (Bi .i64 (Wd r0 (.int .i64 (0:Int)))) none fun x6=>(bb (nt (Bd x0 x6)) (QD pu n x0 s0 true x28 s30 s32) (bb (AY x0 x3) (QD pu n x0 s0 true x28 s30 s32) (QD pu n x0 s0 (nt (Bd (Int.ofNat (Sl.n s0)) (Int.ofNat (Sl.n s30)))) x28 s30 s32)))))))))))) fun _ _=>none))))))) fun _ _=>none))))))) fun _ _=>none))))) none) none)) none) fun _ _=>none))))) none)))) fun _ _=>none)))))) none) none)
def m7 (pu:Af) (n:Nat) (args:LV):OV:=
 (ll args none fun a0 args=>(ll args (oo (Bt a0) none fun q1=>(bb (an (Nat.beq (len q1) 22) (Au Ah q1)) (vL pu n q1) none)) fun _ _=>none))
theorem Aa0 (pu:Af) (n:Nat) (b0:Bool) {v:Value} (hm:Wl pu n b0=some v):BN tt (Bb tabs Ir pu (inl pu)) 1 .ret (fr 157 [(2,zB b0)]) FK (Fin tt 1 [.tmp 2] v):=by
 unfold Wl at hm
 refine .ret ?_
 exact Fb (zB b0) hm
theorem Aa1 (pu:Af) (n:Nat) (z0 z1:Int) {v:Value} (hm:WT pu n z0 z1=some v):BN tt (Bb tabs Ir pu (inl pu)) 1 ZR (fr 157 [(5,zI z0),(11,zI z1)]) FK (Fin tt 1 [.tmp 2] v):=by
 unfold WT at hm
 refine .join (v:=v) (fun y:Bool=>((fr 157 [(2,zB y)]),FK)) (fun y=>Wl pu n y) ?_ ?_
 ·rintro b0 hm
  exact Aa0 pu n b0 hm
 ·replace hm:=Ag hm;rcases hm with⟨h0,hm⟩ | ⟨h0,hm⟩
  ·replace hm:=vK hm;obtain⟨b3,h1,hm⟩:=hm
   refine .reg (eC 2 (some ((zB (Bd z1 z0)),FK)) (show _=some ((zB true),_) from (by rw[show (Bd z1 z0)=true from h0])) (eC 1 ((oo (pu 12 []) none fun v=>some (v,FK))) (AB h1) (eE))) ?_
   exact⟨b3,hm,(.k0 [false] [] [2])⟩
  ·refine .reg (eC 2 (some ((zB (Bd z1 z0)),FK)) (show _=some ((zB false),_) from (by rw[show (Bd z1 z0)=false from h0])) (eE)) ?_
   exact⟨false,hm,(.k0 [false] [] [2])⟩
theorem r7 {call:A8} (pu:Af) (n:Nat) (hcall:call=Bb tabs Ir pu (inl pu)) {args:LV} {v:Value} (hm:m7 pu n args=some v) (_:∀ x∈args,closed2 x=true):args.length≤157∧BN tt call 1 UA (Fr.made 157 args) (Ao tabs) (Fin tt 1 [.tmp 2] v):=by
 subst hcall
 unfold m7 at hm
 replace hm:=Ad hm;obtain⟨a0,args_0,rfl,hm⟩:=hm
 replace hm:=AC hm;obtain⟨rfl,hm⟩:=hm
 replace hm:=BG hm;obtain⟨q1,rfl,hm⟩:=hm
 replace hm:=Ae hm;obtain⟨h3,hm⟩:=hm
 unfold vL at hm
 refine⟨by simp,?_⟩
 refine .same (F':=(fr 157 [(0,(.agg ⟨q1⟩))])) (H':=FK) (by kernel_rfl) (by kernel_rfl) ?_
 refine .then (.rK ?_)
 replace hm:=Ae hm;obtain⟨h4,hm⟩:=hm
 refine .ghs (fr 157 [(1,pt 1 0)]) (hT 2 [oC q1]) (.k [1] [false] [.tmp 1 false] [1] ⟨DL h4,trivial⟩) ?_
 refine .then ?_
 replace hm:=Ae hm;obtain⟨h20,hm⟩:=hm
 replace hm:=Ab hm;obtain⟨v21,h22,hm⟩:=hm
 replace hm:=BG hm;obtain⟨Yc,rfl,hm⟩:=hm
 replace hm:=Ad hm;obtain⟨v25,l23_0,rfl,hm⟩:=hm
 replace hm:=Ad hm;obtain⟨v26,Oy,rfl,hm⟩:=hm
 replace hm:=Ad hm;obtain⟨v27,l23_2,rfl,hm⟩:=hm
 replace hm:=AC hm;obtain⟨rfl,hm⟩:=hm
 replace hm:=Ai hm;obtain⟨x28,rfl,hm⟩:=hm
 replace hm:=Al hm;obtain⟨s30,rfl,hm⟩:=hm
 replace hm:=Al hm;obtain⟨s32,rfl,hm⟩:=hm
 replace hm:=Ae hm;obtain⟨h34,hm⟩:=hm
 refine .reg (eD (keep (hT 2 [oC q1]) (bb (Nat.ble (0+22) (len q1)) (some (.agg ⟨(Aq 22 (Am 0 q1))⟩)) none)) (AX h20) (eD (bb (Au closed2 [(.agg ⟨(Aq 22 (Am 0 q1))⟩),(zI (6:Int)),(zI (4:Int))]) (oo (pu 21 [(.agg ⟨(Aq 22 (Am 0 q1))⟩),(zI (6:Int)),(zI (4:Int))]) none fun v=>some (v,(hT 2 [oC q1]))) (oo (CG (RG (hT 2 [oC q1])) [(.agg ⟨(Aq 22 (Am 0 q1))⟩),(zI (6:Int)),(zI (4:Int))]) none fun l1=>oo (pu 21 l1) none fun v=>bb (RH v) (some (v,(hT 2 [oC q1]))) none)) (SL h34 h22) (eE))) ?_
 refine .ghs (fr 157 [(3,pt 1 0)]) (hT 2 [(oC [zI x28,Sl.v 1 s30,Sl.v 1 s32])]) (.k0 [false] [.tmp 3 false] [3]) ?_
 refine .then ?_
 replace hm:=Ab hm;obtain⟨v0,h0,hm⟩:=hm
 replace hm:=Ch hm;obtain⟨l0,rfl,hm⟩:=hm
 replace hm:=Ad hm;obtain⟨v1,l14581_0,rfl,hm⟩:=hm
 replace hm:=Ad hm;obtain⟨v2,l14581_1,rfl,hm⟩:=hm
 replace hm:=AC hm;obtain⟨rfl,hm⟩:=hm
 replace hm:=Ae hm;obtain⟨h1,hm⟩:=hm
 obtain rfl:=Ey h1
 replace hm:=Ab hm;obtain⟨y0,h2,hm⟩:=hm
 replace hm:=Ae hm;obtain⟨h5,hm⟩:=hm
 refine .reg (eC 2 (EK tabs [[some 1],[none]] 2 [] [false] (pu 10220) [Sl.v 1 s32,zB true] (hT 2 [(oC [zI x28,Sl.v 1 s30,Sl.v 1 s32])])) (EL (as:=[Sl.v 1 s32,zB true]) (H1:=(hT 2 [(oC [zI x28,Sl.v 1 s30,Sl.v 1 s32])])) (BS (Dm (KQ (CV (z:=1) (v:=(Sl.v 1 s32)) (H:=(hT 2 [(oC [zI x28,Sl.v 1 s30,Sl.v 1 s32])])) (by kernel_rfl) (by kernel_rfl) (by kernel_rfl)))) (BS (Dm Dk) Gj)) (EI (H2:=(hT 3 [(oC [zI x28,Sl.v 1 s30,Sl.v 1 s32]),(.map (Akd.es y0) (Akd.clock y0))])) (v:=(.map (some 1))) (v':=(.map (some 2))) [some 0] [] [] [Sl.v 1 s32,zB true] [v2] [(.map (Akd.es y0) (Akd.clock y0))] [some 0,none,some 1] [(false,(.map (Akd.es y0) (Akd.clock y0)))] [(.map (Akd.es y0) (Akd.clock y0))] (by kernel_rfl) BX (Eq.trans (by kernel_rfl) h0) (En (CK h2) BX) (En (GZ h5) BX))) (eE)) ?_
 replace hm:=Ae hm;obtain⟨h6,hm⟩:=hm
 refine .ghs (fr 157 [(3,pt 1 0),(4,(.map (some 2)))]) (hT 3 [(oC [zI x28,Sl.v 1 s30,Sl.v 1 s32]),(.map (Akd.es y0) (Akd.clock y0))]) (.k [2] [false] [.tmp 3 false,.tmp 4 false] [3,4] ⟨DL h6,trivial⟩) ?_
 refine .then ?_
 replace hm:=Ab hm;obtain⟨v3,h7,hm⟩:=hm
 replace hm:=Ch hm;obtain⟨l2,rfl,hm⟩:=hm
 replace hm:=Ad hm;obtain⟨v4,l14602_0,rfl,hm⟩:=hm
 replace hm:=Ad hm;obtain⟨v5,l14602_1,rfl,hm⟩:=hm
 replace hm:=AC hm;obtain⟨rfl,hm⟩:=hm
 replace hm:=Ai hm;obtain⟨x0,rfl,hm⟩:=hm
 replace hm:=Ai hm;obtain⟨x1,rfl,hm⟩:=hm
 refine .reg (eC 1 ((oo (pu 30 [(.agg ⟨[zI x28,Sl.v 1 s30,Sl.v 1 s32]⟩)]) none fun v=>some (v,(hT 3 [(oC [zI x28,Sl.v 1 s30,Sl.v 1 s32]),(.map (Akd.es y0) (Akd.clock y0))])))) (AB h7) (eE)) ?_
 refine .ghs (fr 157 [(3,pt 1 0),(4,(.map (some 2))),(5,zI x0),(6,zI x1)]) (hT 3 [(oC [zI x28,Sl.v 1 s30,Sl.v 1 s32]),(.map (Akd.es y0) (Akd.clock y0))]) (.k [2] [false] [.tmp 3 false,.tmp 4 false] [3,4,5,6] ⟨DL h6,trivial⟩) ?_
 refine .then ?_
 replace hm:=Ab hm;obtain⟨v6,h8,hm⟩:=hm
 replace hm:=Ch hm;obtain⟨l3,rfl,hm⟩:=hm
 replace hm:=Ad hm;obtain⟨v7,l14622_0,rfl,hm⟩:=hm
 replace hm:=Ad hm;obtain⟨v8,l14622_1,rfl,hm⟩:=hm
 replace hm:=AC hm;obtain⟨rfl,hm⟩:=hm
 replace hm:=Al hm;obtain⟨s0,rfl,hm⟩:=hm
 replace hm:=Ai hm;obtain⟨x2,rfl,hm⟩:=hm
 refine .reg (eC 1 ((oo (pu 31 [(.agg ⟨[zI x28,Sl.v 1 s30,Sl.v 1 s32]⟩)]) none fun v=>some (v,(hT 3 [(oC [zI x28,Sl.v 1 s30,Sl.v 1 s32]),(.map (Akd.es y0) (Akd.clock y0))])))) (AB h8) (eE)) ?_
 refine .ghs (fr 157 [(3,pt 1 0),(4,(.map (some 2))),(5,zI x0),(6,zI x1),(7,Sl.v 1 s0),(8,zI x2)]) (hT 3 [(oC [zI x28,Sl.v 1 s30,Sl.v 1 s32]),(.map (Akd.es y0) (Akd.clock y0))]) (.k [2] [false] [.tmp 3 false,.tmp 4 false] [3,4,5,6,7,8] ⟨DL h6,trivial⟩) ?_
 refine .then ?_
 replace hm:=Ab hm;obtain⟨v9,h9,hm⟩:=hm
 replace hm:=Ch hm;obtain⟨l4,rfl,hm⟩:=hm
 replace hm:=Ad hm;obtain⟨v10,l14642_0,rfl,hm⟩:=hm
 replace hm:=Ad hm;obtain⟨v11,l14642_1,rfl,hm⟩:=hm
 replace hm:=AC hm;obtain⟨rfl,hm⟩:=hm
 replace hm:=Ai hm;obtain⟨x3,rfl,hm⟩:=hm
 replace hm:=Ai hm;obtain⟨x4,rfl,hm⟩:=hm
 refine .reg (eC 1 ((oo (pu 29 [(.agg ⟨[zI x28,Sl.v 1 s30,Sl.v 1 s32]⟩)]) none fun v=>some (v,(hT 3 [(oC [zI x28,Sl.v 1 s30,Sl.v 1 s32]),(.map (Akd.es y0) (Akd.clock y0))])))) (AB h9) (eE)) ?_
 refine .ghs (fr 157 [(3,pt 1 0),(4,(.map (some 2))),(5,zI x0),(6,zI x1),(7,Sl.v 1 s0),(8,zI x2),(9,zI x3),(10,zI x4)]) (hT 3 [(oC [zI x28,Sl.v 1 s30,Sl.v 1 s32]),(.map (Akd.es y0) (Akd.clock y0))]) (.k [2] [false] [.tmp 3 false,.tmp 4 false] [3,4,5,6,7,8,9,10] ⟨DL h6,trivial⟩) ?_
 refine .then (.join (v:=v) (fun y:Int×Sl×Bool×Int×Sl×Sl=>((fr 157 [(3,pt 1 0),(5,(zI y.1)),(7,(Sl.v 1 y.2.1)),(65,(zB y.2.2.1))]),(hT 2 [(oC [(zI y.2.2.2.1),(Sl.v 1 y.2.2.2.2.1),(Sl.v 1 y.2.2.2.2.2)])]))) (fun y=>QD pu n y.1 y.2.1 y.2.2.1 y.2.2.2.1 y.2.2.2.2.1 y.2.2.2.2.2) ?_ ?_)
 ·rintro⟨z0,s1,b0,z1,s2,s3⟩ hm
  unfold QD at hm
  replace hm:=Ag hm;rcases hm with⟨h10,hm⟩ | ⟨h10,hm⟩
  ·refine .ifT b0 (by kernel_rfl) h10 ?_
   refine .then (.rK (.ghs (fr 157 [(2,zB false)]) FK (.k0 [false] [] [2]) ?_))
   refine .ret ?_
   exact Fb (zB false) hm
  ·refine .ifF b0 (by kernel_rfl) h10 ?_
   refine .skip (.ghs (fr 157 [(3,pt 1 0),(5,zI z0),(7,Sl.v 1 s1)]) (hT 2 [(oC [zI z1,Sl.v 1 s2,Sl.v 1 s3])]) (.k0 [false] [.tmp 3 false] [3,5,7]) ?_)
   refine .then (.rK (.ghs (fr 157 [(3,pt 1 0),(5,zI z0),(7,Sl.v 1 s1),(11,(zI (0:Int)))]) (hT 2 [(oC [zI z1,Sl.v 1 s2,Sl.v 1 s3])]) (.k0 [false] [.tmp 3 false] [3,5,7,11]) ?_))
   refine .join (v:=v) (fun y:Int×Int=>((fr 157 [(5,(zI y.1)),(11,(zI y.2))]),FK)) (fun y=>WT pu n y.1 y.2) ?_ ?_
   ·rintro⟨z2,z3⟩ hm
    exact Aa1 pu n z2 z3 hm
   ·refine .then (.rK (.ghs (fr 157 [(3,pt 1 0),(5,zI z0),(7,Sl.v 1 s1),(11,(zI (0:Int))),(67,(zI (Int.ofNat (Sl.n s1)))),(68,(zI (0:Int)))]) (hT 2 [(oC [zI z1,Sl.v 1 s2,Sl.v 1 s3])]) (.k0 [false] [.tmp 3 false] [3,5,7,11,67,68]) ?_))
    refine .block (.loopM (v:=v) (fun y:Int×Sl×Int×Int×Int×Int×Sl×Sl=>((fr 157 [(3,pt 1 0),(5,(zI y.1)),(7,(Sl.v 1 y.2.1)),(11,(zI y.2.2.1)),(67,(zI y.2.2.2.1)),(68,(zI y.2.2.2.2.1))]),(hT 2 [(oC [(zI y.2.2.2.2.2.1),(Sl.v 1 y.2.2.2.2.2.2.1),(Sl.v 1 y.2.2.2.2.2.2.2)])]))) (fun w y=>KW pu n w y.1 y.2.1 y.2.2.1 y.2.2.2.1 y.2.2.2.2.1 y.2.2.2.2.2.1 y.2.2.2.2.2.2.1 y.2.2.2.2.2.2.2) n ⟨(z0,s1,(0:Int),(Int.ofNat (Sl.n s1)),(0:Int),z1,s2,s3),hm,(.k0 [false] [.tmp 3 false] [3,5,7,11,67,68])⟩ (fun _=>rfl) ?_)
    rintro w0 ⟨z4,s4,z5,z6,z7,z8,s5,s6⟩ hm
    replace hm:Uf pu n (KW pu n w0) z4 s4 z5 z6 z7 z8 s5 s6=some v:=hm
    unfold Uf at hm
    refine .then (.rK (.ghs (fr 157 [(3,pt 1 0),(5,zI z4),(7,Sl.v 1 s4),(11,zI z5),(67,zI z6),(68,zI z7),(69,(zB (AY z7 z6)))]) (hT 2 [(oC [zI z8,Sl.v 1 s5,Sl.v 1 s6])]) (.k0 [false] [.tmp 3 false] [3,5,7,11,67,68,69]) ?_))
    refine .then ?_
    replace hm:=Ag hm;rcases hm with⟨h11,hm⟩ | ⟨h11,hm⟩
    ·refine Gy (AY z7 z6) h11 ?_
     refine .skip (.ghs (fr 157 [(3,pt 1 0),(5,zI z4),(7,Sl.v 1 s4),(11,zI z5),(67,zI z6),(68,zI z7)]) (hT 2 [(oC [zI z8,Sl.v 1 s5,Sl.v 1 s6])]) (.k0 [false] [.tmp 3 false] [3,5,7,11,67,68]) ?_)
     refine .join (v:=v) (fun y:Int×Sl×Int×Int×Int×Int×Sl×Sl=>((fr 157 [(3,pt 1 0),(5,(zI y.1)),(7,(Sl.v 1 y.2.1)),(11,(zI y.2.2.1)),(67,(zI y.2.2.2.1)),(68,(zI y.2.2.2.2.1))]),(hT 2 [(oC [(zI y.2.2.2.2.2.1),(Sl.v 1 y.2.2.2.2.2.2.1),(Sl.v 1 y.2.2.2.2.2.2.2)])]))) (fun y=>Yo pu n (KW pu n w0) y.1 y.2.1 y.2.2.1 y.2.2.2.1 y.2.2.2.2.1 y.2.2.2.2.2.1 y.2.2.2.2.2.2.1 y.2.2.2.2.2.2.2) ?_ ?_
     ·rintro⟨z9,s7,z10,z11,z12,z13,s8,s9⟩ hm
      unfold Yo at hm
      refine .rK ?_
      exact⟨(z9,s7,z10,z11,(Aj .i64 (Int.add z12 (1:Int))),z13,s8,s9),hm,(.k0 [false] [.tmp 3 false] [3,5,7,11,67,68])⟩
     ·refine .block (.then (.rK (.ghs (fr 157 [(3,pt 1 0),(5,zI z4),(7,Sl.v 1 s4),(11,zI z5),(12,zI z7),(67,zI z6),(68,zI z7)]) (hT 2 [(oC [zI z8,Sl.v 1 s5,Sl.v 1 s6])]) (.k0 [false] [.tmp 3 false] [3,5,7,11,12,67,68]) ?_)))
      refine .then (.join (v:=v) (fun y:Int×Sl×Int×Int×Int×Int×Bool×Int×Sl×Sl=>((fr 157 [(3,pt 1 0),(5,(zI y.1)),(7,(Sl.v 1 y.2.1)),(11,(zI y.2.2.1)),(12,(zI y.2.2.2.1)),(67,(zI y.2.2.2.2.1)),(68,(zI y.2.2.2.2.2.1)),(100,(zB y.2.2.2.2.2.2.1))]),(hT 2 [(oC [(zI y.2.2.2.2.2.2.2.1),(Sl.v 1 y.2.2.2.2.2.2.2.2.1),(Sl.v 1 y.2.2.2.2.2.2.2.2.2)])]))) (fun y=>Wm pu n (KW pu n w0) y.1 y.2.1 y.2.2.1 y.2.2.2.1 y.2.2.2.2.1 y.2.2.2.2.2.1 y.2.2.2.2.2.2.1 y.2.2.2.2.2.2.2.1 y.2.2.2.2.2.2.2.2.1 y.2.2.2.2.2.2.2.2.2) ?_ ?_)
      ·rintro⟨z14,s10,z15,z16,z17,z18,b3,z19,s11,s12⟩ hm
       unfold Wm at hm
       replace hm:=Ag hm;rcases hm with⟨h12,hm⟩ | ⟨h12,hm⟩
       ·refine .ifT b3 (by kernel_rfl) h12 ?_
        refine .then (.rK (.ghs (fr 157 [(2,zB false)]) FK (.k0 [false] [] [2]) ?_))
        refine .ret ?_
        exact Fb (zB false) hm
       ·refine .ifF b3 (by kernel_rfl) h12 ?_
        refine .skip (.ghs (fr 157 [(3,pt 1 0),(5,zI z14),(7,Sl.v 1 s10),(11,zI z15),(12,zI z16),(67,zI z17),(68,zI z18)]) (hT 2 [(oC [zI z19,Sl.v 1 s11,Sl.v 1 s12])]) (.k0 [false] [.tmp 3 false] [3,5,7,11,12,67,68]) ?_)
        refine .then (.rK (.ghs (fr 157 [(3,pt 1 0),(5,zI z14),(7,Sl.v 1 s10),(11,zI z15),(12,zI z16),(67,zI z17),(68,zI z18),(101,zI z16),(102,(zI (0:Int)))]) (hT 2 [(oC [zI z19,Sl.v 1 s11,Sl.v 1 s12])]) (.k0 [false] [.tmp 3 false] [3,5,7,11,12,67,68,101,102]) ?_))
        refine .block (.loopM (v:=v) (fun y:Int×Sl×Int×Int×Int×Int×Int×Int×Int×Sl×Sl=>((fr 157 [(3,pt 1 0),(5,(zI y.1)),(7,(Sl.v 1 y.2.1)),(11,(zI y.2.2.1)),(12,(zI y.2.2.2.1)),(67,(zI y.2.2.2.2.1)),(68,(zI y.2.2.2.2.2.1)),(101,(zI y.2.2.2.2.2.2.1)),(102,(zI y.2.2.2.2.2.2.2.1))]),(hT 2 [(oC [(zI y.2.2.2.2.2.2.2.2.1),(Sl.v 1 y.2.2.2.2.2.2.2.2.2.1),(Sl.v 1 y.2.2.2.2.2.2.2.2.2.2)])]))) (fun w y=>QC pu n (KW pu n w0) w y.1 y.2.1 y.2.2.1 y.2.2.2.1 y.2.2.2.2.1 y.2.2.2.2.2.1 y.2.2.2.2.2.2.1 y.2.2.2.2.2.2.2.1 y.2.2.2.2.2.2.2.2.1 y.2.2.2.2.2.2.2.2.2.1 y.2.2.2.2.2.2.2.2.2.2) n ⟨(z14,s10,z15,z16,z17,z18,z16,(0:Int),z19,s11,s12),hm,(.k0 [false] [.tmp 3 false] [3,5,7,11,12,67,68,101,102])⟩ (fun _=>rfl) ?_)
        rintro w1 ⟨z20,s13,z21,z22,z23,z24,z25,z26,z27,s14,s15⟩ hm
        replace hm:Ue pu n (KW pu n w0) (QC pu n (KW pu n w0) w1) z20 s13 z21 z22 z23 z24 z25 z26 z27 s14 s15=some v:=hm
        unfold Ue at hm
        refine .then (.rK (.ghs (fr 157 [(3,pt 1 0),(5,zI z20),(7,Sl.v 1 s13),(11,zI z21),(12,zI z22),(67,zI z23),(68,zI z24),(101,zI z25),(102,zI z26),(103,(zB (AY z26 z25)))]) (hT 2 [(oC [zI z27,Sl.v 1 s14,Sl.v 1 s15])]) (.k0 [false] [.tmp 3 false] [3,5,7,11,12,67,68,101,102,103]) ?_))
        refine .then ?_
        replace hm:=Ag hm;rcases hm with⟨h13,hm⟩ | ⟨h13,hm⟩
        ·refine Gy (AY z26 z25) h13 ?_
         refine .skip (.ghs (fr 157 [(3,pt 1 0),(5,zI z20),(7,Sl.v 1 s13),(11,zI z21),(12,zI z22),(67,zI z23),(68,zI z24),(101,zI z25),(102,zI z26)]) (hT 2 [(oC [zI z27,Sl.v 1 s14,Sl.v 1 s15])]) (.k0 [false] [.tmp 3 false] [3,5,7,11,12,67,68,101,102]) ?_)
         refine .join (v:=v) (fun y:Int×Sl×Int×Int×Int×Int×Int×Int×Int×Sl×Sl=>((fr 157 [(3,pt 1 0),(5,(zI y.1)),(7,(Sl.v 1 y.2.1)),(11,(zI y.2.2.1)),(12,(zI y.2.2.2.1)),(67,(zI y.2.2.2.2.1)),(68,(zI y.2.2.2.2.2.1)),(101,(zI y.2.2.2.2.2.2.1)),(102,(zI y.2.2.2.2.2.2.2.1))]),(hT 2 [(oC [(zI y.2.2.2.2.2.2.2.2.1),(Sl.v 1 y.2.2.2.2.2.2.2.2.2.1),(Sl.v 1 y.2.2.2.2.2.2.2.2.2.2)])]))) (fun y=>WU pu n (KW pu n w0) (QC pu n (KW pu n w0) w1) y.1 y.2.1 y.2.2.1 y.2.2.2.1 y.2.2.2.2.1 y.2.2.2.2.2.1 y.2.2.2.2.2.2.1 y.2.2.2.2.2.2.2.1 y.2.2.2.2.2.2.2.2.1 y.2.2.2.2.2.2.2.2.2.1 y.2.2.2.2.2.2.2.2.2.2) ?_ ?_
         ·rintro⟨z28,s16,z29,z30,z31,z32,z33,z34,z35,s17,s18⟩ hm
          unfold WU at hm
          refine .rK ?_
          exact⟨(z28,s16,z29,z30,z31,z32,z33,(Aj .i64 (Int.add z34 (1:Int))),z35,s17,s18),hm,(.k0 [false] [.tmp 3 false] [3,5,7,11,12,67,68,101,102])⟩
         ·refine .block (.then (.rK (.ghs (fr 157 [(3,pt 1 0),(5,zI z20),(7,Sl.v 1 s13),(11,zI z21),(12,zI z22),(13,zI z26),(67,zI z23),(68,zI z24),(101,zI z25),(102,zI z26)]) (hT 2 [(oC [zI z27,Sl.v 1 s14,Sl.v 1 s15])]) (.k0 [false] [.tmp 3 false] [3,5,7,11,12,13,67,68,101,102]) ?_)))
          refine .then (.join (v:=v) (fun y:Int×Sl×Int×Int×Int×Int×Int×Int×Int×Bool×Int×Sl×Sl=>((fr 157 [(3,pt 1 0),(5,(zI y.1)),(7,(Sl.v 1 y.2.1)),(11,(zI y.2.2.1)),(12,(zI y.2.2.2.1)),(13,(zI y.2.2.2.2.1)),(67,(zI y.2.2.2.2.2.1)),(68,(zI y.2.2.2.2.2.2.1)),(101,(zI y.2.2.2.2.2.2.2.1)),(102,(zI y.2.2.2.2.2.2.2.2.1)),(137,(zB y.2.2.2.2.2.2.2.2.2.1))]),(hT 2 [(oC [(zI y.2.2.2.2.2.2.2.2.2.2.1),(Sl.v 1 y.2.2.2.2.2.2.2.2.2.2.2.1),(Sl.v 1 y.2.2.2.2.2.2.2.2.2.2.2.2)])]))) (fun y=>Ud pu n (KW pu n w0) (QC pu n (KW pu n w0) w1) y.1 y.2.1 y.2.2.1 y.2.2.2.1 y.2.2.2.2.1 y.2.2.2.2.2.1 y.2.2.2.2.2.2.1 y.2.2.2.2.2.2.2.1 y.2.2.2.2.2.2.2.2.1 y.2.2.2.2.2.2.2.2.2.1 y.2.2.2.2.2.2.2.2.2.2.1 y.2.2.2.2.2.2.2.2.2.2.2.1 y.2.2.2.2.2.2.2.2.2.2.2.2) ?_ ?_)
          ·rintro⟨z36,s19,z37,z38,z39,z40,z41,z42,z43,b4,z44,s20,s21⟩ hm
           unfold Ud at hm
           replace hm:=Ag hm;rcases hm with⟨h14,hm⟩ | ⟨h14,hm⟩
           ·refine .ifT b4 (by kernel_rfl) h14 ?_
            refine .then (.rK (.ghs (fr 157 [(2,zB false)]) FK (.k0 [false] [] [2]) ?_))
            refine .ret ?_
            exact Fb (zB false) hm
           ·refine .ifF b4 (by kernel_rfl) h14 ?_
            refine .skip (.ghs (fr 157 [(3,pt 1 0),(5,zI z36),(7,Sl.v 1 s19),(11,zI z37),(12,zI z38),(13,zI z39),(67,zI z40),(68,zI z41),(101,zI z42),(102,zI z43)]) (hT 2 [(oC [zI z44,Sl.v 1 s20,Sl.v 1 s21])]) (.k0 [false] [.tmp 3 false] [3,5,7,11,12,13,67,68,101,102]) ?_)
            refine .then ?_
            replace hm:=Ab hm;obtain⟨k1,h15,hm⟩:=hm
            obtain rfl:=AR h15
            replace hm:=Ae hm;obtain⟨h16,hm⟩:=hm
            replace hm:=Gq hm;obtain⟨x5,h17,hm⟩:=hm
            replace hm:=Ab hm;obtain⟨k2,h18,hm⟩:=hm
            obtain rfl:=AR h18
            replace hm:=Ae hm;obtain⟨h19,hm⟩:=hm
            replace hm:=Gq hm;obtain⟨x6,h21,hm⟩:=hm
            refine .reg (eC 2 (keep (hT 2 [(oC [zI z44,Sl.v 1 s20,Sl.v 1 s21])]) (bb (an (Nat.blt k1 (Sl.n s19)) true) (some (Cv (k1*1) (Sl.cs s19))) none)) (AX h16) (eD (keep (hT 2 [(oC [zI z44,Sl.v 1 s20,Sl.v 1 s21])]) (AL (Sl.cs s19) (k1*1))) (AZ h17) (eC 2 (keep (hT 2 [(oC [zI z44,Sl.v 1 s20,Sl.v 1 s21])]) (bb (an (Nat.blt k2 (Sl.n s19)) true) (some (Cv (k2*1) (Sl.cs s19))) none)) (AX h19) (eD (keep (hT 2 [(oC [zI z44,Sl.v 1 s20,Sl.v 1 s21])]) (AL (Sl.cs s19) (k2*1))) (AZ h21) (eE))))) ?_
            refine .ghs (fr 157 [(3,pt 1 0),(5,zI z36),(7,Sl.v 1 s19),(11,zI z37),(12,(zI (Int.ofNat k2))),(67,zI z40),(68,zI z41),(101,zI z42),(102,zI z43),(146,(zB (AY x6 x5)))]) (hT 2 [(oC [zI z44,Sl.v 1 s20,Sl.v 1 s21])]) (.k0 [false] [.tmp 3 false] [3,5,7,11,12,67,68,101,102,146]) ?_
            replace hm:=Ag hm;rcases hm with⟨h23,hm⟩ | ⟨h23,hm⟩
            ·refine Gy (AY x6 x5) h23 ?_
             refine .rK ?_
             exact⟨(z36,s19,(Aj .i64 (Int.add z37 (1:Int))),(Int.ofNat k2),z40,z41,z42,z43,z44,s20,s21),hm,(.k0 [false] [.tmp 3 false] [3,5,7,11,12,67,68,101,102])⟩
            ·refine G5 (AY x6 x5) h23 ?_
             refine .skip ?_
             exact⟨(z36,s19,z37,(Int.ofNat k2),z40,z41,z42,z43,z44,s20,s21),hm,(.k0 [false] [.tmp 3 false] [3,5,7,11,12,67,68,101,102])⟩
          ·replace hm:=Ab hm;obtain⟨k3,h24,hm⟩:=hm
           obtain rfl:=AR h24
           replace hm:=Ae hm;obtain⟨h25,hm⟩:=hm
           replace hm:=Gq hm;obtain⟨x7,h26,hm⟩:=hm
           replace hm:=Ab hm;obtain⟨k4,h27,hm⟩:=hm
           obtain rfl:=AR h27
           replace hm:=Ae hm;obtain⟨h28,hm⟩:=hm
           replace hm:=Gq hm;obtain⟨x8,h29,hm⟩:=hm
           replace hm:=Ag hm;rcases hm with⟨h30,hm⟩ | ⟨h30,hm⟩
           ·refine .reg (eC 2 (keep (hT 2 [(oC [zI z27,Sl.v 1 s14,Sl.v 1 s15])]) (bb (an (Nat.blt k3 (Sl.n s13)) true) (some (Cv (k3*1) (Sl.cs s13))) none)) (AX h25) (eD (keep (hT 2 [(oC [zI z27,Sl.v 1 s14,Sl.v 1 s15])]) (AL (Sl.cs s13) (k3*1))) (AZ h26) (eC 2 (keep (hT 2 [(oC [zI z27,Sl.v 1 s14,Sl.v 1 s15])]) (bb (an (Nat.blt k4 (Sl.n s13)) true) (some (Cv (k4*1) (Sl.cs s13))) none)) (AX h28) (eD (keep (hT 2 [(oC [zI z27,Sl.v 1 s14,Sl.v 1 s15])]) (AL (Sl.cs s13) (k4*1))) (AZ h29) (eD (some ((zB (Bd x7 x8)),(hT 2 [(oC [zI z27,Sl.v 1 s14,Sl.v 1 s15])]))) (show _=some ((zB true),_) from (by rw[show (Bd x7 x8)=true from h30])) (eE)))))) ?_
            exact⟨(z20,s13,z21,(Int.ofNat k3),(Int.ofNat k4),z23,z24,z25,(Int.ofNat k4),true,z27,s14,s15),hm,(.k0 [false] [.tmp 3 false] [3,5,7,11,12,13,67,68,101,102,137])⟩
           ·replace hm:=Ae hm;obtain⟨h31,hm⟩:=hm
            replace hm:=Gq hm;obtain⟨x9,h32,hm⟩:=hm
            replace hm:=Ae hm;obtain⟨h33,hm⟩:=hm
            replace hm:=Gq hm;obtain⟨x10,h35,hm⟩:=hm
            replace hm:=Ag hm;rcases hm with⟨h36,hm⟩ | ⟨h36,hm⟩
            ·replace hm:=Ae hm;obtain⟨h37,hm⟩:=hm
             replace hm:=Gq hm;obtain⟨x11,h38,hm⟩:=hm
             replace hm:=Ae hm;obtain⟨h39,hm⟩:=hm
             replace hm:=Gq hm;obtain⟨x12,h40,hm⟩:=hm
             refine .reg (eN 7 (Fr.puts (fr 157 [(3,pt 1 0),(5,zI z20),(7,Sl.v 1 s13),(11,zI z21),(12,(zI (Int.ofNat k3))),(13,(zI (Int.ofNat k4))),(67,zI z23),(68,zI z24),(101,zI z25),(102,(zI (Int.ofNat k4)))]) [(105,Sl.v 1 s13),(106,(zI (Int.ofNat k3))),(107,(Cv (k3*1) (Sl.cs s13))),(108,zI x7),(109,Sl.v 1 s13),(110,(zI (Int.ofNat k4))),(111,(Cv (k4*1) (Sl.cs s13)))]) (hT 2 [(oC [zI z27,Sl.v 1 s14,Sl.v 1 s15])]) (eC 2 (keep (hT 2 [(oC [zI z27,Sl.v 1 s14,Sl.v 1 s15])]) (bb (an (Nat.blt k3 (Sl.n s13)) true) (some (Cv (k3*1) (Sl.cs s13))) none)) (AX h25) (eD (keep (hT 2 [(oC [zI z27,Sl.v 1 s14,Sl.v 1 s15])]) (AL (Sl.cs s13) (k3*1))) (AZ h26) (eC 2 (keep (hT 2 [(oC [zI z27,Sl.v 1 s14,Sl.v 1 s15])]) (bb (an (Nat.blt k4 (Sl.n s13)) true) (some (Cv (k4*1) (Sl.cs s13))) none)) (AX h28) (by kernel_rfl)))) (eN 6 (Fr.puts (fr 157 [(3,pt 1 0),(5,zI z20),(7,Sl.v 1 s13),(11,zI z21),(12,(zI (Int.ofNat k3))),(13,(zI (Int.ofNat k4))),(67,zI z23),(68,zI z24),(101,zI z25),(102,(zI (Int.ofNat k4)))]) [(105,Sl.v 1 s13),(106,(zI (Int.ofNat k3))),(107,(Cv (k3*1) (Sl.cs s13))),(108,zI x7),(109,Sl.v 1 s13),(110,(zI (Int.ofNat k4))),(111,(Cv (k4*1) (Sl.cs s13))),(112,zI x8),(113,zB false),(114,zB false),(115,Sl.v 1 s13),(116,(zI (Int.ofNat k3))),(117,(Cv (k3*1) (Sl.cs s13)))]) (hT 2 [(oC [zI z27,Sl.v 1 s14,Sl.v 1 s15])]) (eD (keep (hT 2 [(oC [zI z27,Sl.v 1 s14,Sl.v 1 s15])]) (AL (Sl.cs s13) (k4*1))) (AZ h29) (eD (some ((zB (Bd x7 x8)),(hT 2 [(oC [zI z27,Sl.v 1 s14,Sl.v 1 s15])]))) (show _=some ((zB false),_) from (by rw[show (Bd x7 x8)=false from h30])) (eC 3 (keep (hT 2 [(oC [zI z27,Sl.v 1 s14,Sl.v 1 s15])]) (bb (an (Nat.blt k3 (Sl.n s13)) true) (some (Cv (k3*1) (Sl.cs s13))) none)) (AX h31) (by kernel_rfl)))) (eN 5 (Fr.puts (fr 157 [(3,pt 1 0),(5,zI z20),(7,Sl.v 1 s13),(11,zI z21),(12,(zI (Int.ofNat k3))),(13,(zI (Int.ofNat k4))),(67,zI z23),(68,zI z24),(101,zI z25),(102,(zI (Int.ofNat k4)))]) [(105,Sl.v 1 s13),(106,(zI (Int.ofNat k3))),(107,(Cv (k3*1) (Sl.cs s13))),(108,zI x7),(109,Sl.v 1 s13),(110,(zI (Int.ofNat k4))),(111,(Cv (k4*1) (Sl.cs s13))),(112,zI x8),(113,zB false),(114,zB false),(115,Sl.v 1 s13),(116,(zI (Int.ofNat k3))),(117,(Cv (k3*1) (Sl.cs s13))),(118,zI x9),(119,Sl.v 1 s13),(120,(zI (Int.ofNat k4))),(121,(Cv (k4*1) (Sl.cs s13))),(122,zI x10)]) (hT 2 [(oC [zI z27,Sl.v 1 s14,Sl.v 1 s15])]) (eD (keep (hT 2 [(oC [zI z27,Sl.v 1 s14,Sl.v 1 s15])]) (AL (Sl.cs s13) (k3*1))) (AZ h32) (eC 2 (keep (hT 2 [(oC [zI z27,Sl.v 1 s14,Sl.v 1 s15])]) (bb (an (Nat.blt k4 (Sl.n s13)) true) (some (Cv (k4*1) (Sl.cs s13))) none)) (AX h33) (eD (keep (hT 2 [(oC [zI z27,Sl.v 1 s14,Sl.v 1 s15])]) (AL (Sl.cs s13) (k4*1))) (AZ h35) (by kernel_rfl)))) (eD (some ((zB (AY x9 x10)),(hT 2 [(oC [zI z27,Sl.v 1 s14,Sl.v 1 s15])]))) (show _=some ((zB true),_) from (by rw[show (AY x9 x10)=true from h36])) (eC 4 (keep (hT 2 [(oC [zI z27,Sl.v 1 s14,Sl.v 1 s15])]) (bb (an (Nat.blt k3 (Sl.n s15)) true) (some (Cv (k3*1) (Sl.cs s15))) none)) (AX h37) (eD (keep (hT 2 [(oC [zI z27,Sl.v 1 s14,Sl.v 1 s15])]) (AL (Sl.cs s15) (k3*1))) (AZ h38) (eC 3 (keep (hT 2 [(oC [zI z27,Sl.v 1 s14,Sl.v 1 s15])]) (bb (an (Nat.blt k4 (Sl.n s15)) true) (some (Cv (k4*1) (Sl.cs s15))) none)) (AX h39) (eD (keep (hT 2 [(oC [zI z27,Sl.v 1 s14,Sl.v 1 s15])]) (AL (Sl.cs s15) (k4*1))) (AZ h40) (eE))))))))) ?_
             exact⟨(z20,s13,z21,(Int.ofNat k3),(Int.ofNat k4),z23,z24,z25,(Int.ofNat k4),(Bd x11 x12),z27,s14,s15),hm,(.k0 [false] [.tmp 3 false] [3,5,7,11,12,13,67,68,101,102,137])⟩
            ·refine .reg (eN 7 (Fr.puts (fr 157 [(3,pt 1 0),(5,zI z20),(7,Sl.v 1 s13),(11,zI z21),(12,(zI (Int.ofNat k3))),(13,(zI (Int.ofNat k4))),(67,zI z23),(68,zI z24),(101,zI z25),(102,(zI (Int.ofNat k4)))]) [(105,Sl.v 1 s13),(106,(zI (Int.ofNat k3))),(107,(Cv (k3*1) (Sl.cs s13))),(108,zI x7),(109,Sl.v 1 s13),(110,(zI (Int.ofNat k4))),(111,(Cv (k4*1) (Sl.cs s13)))]) (hT 2 [(oC [zI z27,Sl.v 1 s14,Sl.v 1 s15])]) (eC 2 (keep (hT 2 [(oC [zI z27,Sl.v 1 s14,Sl.v 1 s15])]) (bb (an (Nat.blt k3 (Sl.n s13)) true) (some (Cv (k3*1) (Sl.cs s13))) none)) (AX h25) (eD (keep (hT 2 [(oC [zI z27,Sl.v 1 s14,Sl.v 1 s15])]) (AL (Sl.cs s13) (k3*1))) (AZ h26) (eC 2 (keep (hT 2 [(oC [zI z27,Sl.v 1 s14,Sl.v 1 s15])]) (bb (an (Nat.blt k4 (Sl.n s13)) true) (some (Cv (k4*1) (Sl.cs s13))) none)) (AX h28) (by kernel_rfl)))) (eN 6 (Fr.puts (fr 157 [(3,pt 1 0),(5,zI z20),(7,Sl.v 1 s13),(11,zI z21),(12,(zI (Int.ofNat k3))),(13,(zI (Int.ofNat k4))),(67,zI z23),(68,zI z24),(101,zI z25),(102,(zI (Int.ofNat k4)))]) [(105,Sl.v 1 s13),(106,(zI (Int.ofNat k3))),(107,(Cv (k3*1) (Sl.cs s13))),(108,zI x7),(109,Sl.v 1 s13),(110,(zI (Int.ofNat k4))),(111,(Cv (k4*1) (Sl.cs s13))),(112,zI x8),(113,zB false),(114,zB false),(115,Sl.v 1 s13),(116,(zI (Int.ofNat k3))),(117,(Cv (k3*1) (Sl.cs s13)))]) (hT 2 [(oC [zI z27,Sl.v 1 s14,Sl.v 1 s15])]) (eD (keep (hT 2 [(oC [zI z27,Sl.v 1 s14,Sl.v 1 s15])]) (AL (Sl.cs s13) (k4*1))) (AZ h29) (eD (some ((zB (Bd x7 x8)),(hT 2 [(oC [zI z27,Sl.v 1 s14,Sl.v 1 s15])]))) (show _=some ((zB false),_) from (by rw[show (Bd x7 x8)=false from h30])) (eC 3 (keep (hT 2 [(oC [zI z27,Sl.v 1 s14,Sl.v 1 s15])]) (bb (an (Nat.blt k3 (Sl.n s13)) true) (some (Cv (k3*1) (Sl.cs s13))) none)) (AX h31) (by kernel_rfl)))) (eD (keep (hT 2 [(oC [zI z27,Sl.v 1 s14,Sl.v 1 s15])]) (AL (Sl.cs s13) (k3*1))) (AZ h32) (eC 2 (keep (hT 2 [(oC [zI z27,Sl.v 1 s14,Sl.v 1 s15])]) (bb (an (Nat.blt k4 (Sl.n s13)) true) (some (Cv (k4*1) (Sl.cs s13))) none)) (AX h33) (eD (keep (hT 2 [(oC [zI z27,Sl.v 1 s14,Sl.v 1 s15])]) (AL (Sl.cs s13) (k4*1))) (AZ h35) (eD (some ((zB (AY x9 x10)),(hT 2 [(oC [zI z27,Sl.v 1 s14,Sl.v 1 s15])]))) (show _=some ((zB false),_) from (by rw[show (AY x9 x10)=false from h36])) (eE))))))) ?_
             exact⟨(z20,s13,z21,(Int.ofNat k3),(Int.ofNat k4),z23,z24,z25,(Int.ofNat k4),false,z27,s14,s15),hm,(.k0 [false] [.tmp 3 false] [3,5,7,11,12,13,67,68,101,102,137])⟩
        ·refine G5 (AY z26 z25) h13 ?_
         refine .exit ?_
         exact⟨(z20,s13,z21,z23,z24,z27,s14,s15),hm,(.k0 [false] [.tmp 3 false] [3,5,7,11,67,68])⟩
      ·replace hm:=Ab hm;obtain⟨k5,h41,hm⟩:=hm
       obtain rfl:=AR h41
       replace hm:=Ae hm;obtain⟨h42,hm⟩:=hm
       replace hm:=Gq hm;obtain⟨x13,h43,hm⟩:=hm
       replace hm:=Ag hm;rcases hm with⟨h44,hm⟩ | ⟨h44,hm⟩
       ·refine .reg (eC 2 (keep (hT 2 [(oC [zI z8,Sl.v 1 s5,Sl.v 1 s6])]) (bb (an (Nat.blt k5 (Sl.n s4)) true) (some (Cv (k5*1) (Sl.cs s4))) none)) (AX h42) (eD (keep (hT 2 [(oC [zI z8,Sl.v 1 s5,Sl.v 1 s6])]) (AL (Sl.cs s4) (k5*1))) (AZ h43) (eD (some ((zB (AY x13 (0:Int))),(hT 2 [(oC [zI z8,Sl.v 1 s5,Sl.v 1 s6])]))) (show _=some ((zB true),_) from (by rw[show (AY x13 (0:Int))=true from h44])) (eE)))) ?_
        exact⟨(z4,s4,z5,(Int.ofNat k5),z6,(Int.ofNat k5),true,z8,s5,s6),hm,(.k0 [false] [.tmp 3 false] [3,5,7,11,12,67,68,100])⟩
       ·replace hm:=Ae hm;obtain⟨h45,hm⟩:=hm
        replace hm:=Gq hm;obtain⟨x14,h46,hm⟩:=hm
        replace hm:=Ag hm;rcases hm with⟨h47,hm⟩ | ⟨h47,hm⟩
        ·refine .reg (eN 5 (Fr.puts (fr 157 [(3,pt 1 0),(5,zI z4),(7,Sl.v 1 s4),(11,zI z5),(12,(zI (Int.ofNat k5))),(67,zI z6),(68,(zI (Int.ofNat k5)))]) [(71,Sl.v 1 s4),(72,(zI (Int.ofNat k5))),(73,(Cv (k5*1) (Sl.cs s4))),(74,zI x13),(75,zB false)]) (hT 2 [(oC [zI z8,Sl.v 1 s5,Sl.v 1 s6])]) (eC 2 (keep (hT 2 [(oC [zI z8,Sl.v 1 s5,Sl.v 1 s6])]) (bb (an (Nat.blt k5 (Sl.n s4)) true) (some (Cv (k5*1) (Sl.cs s4))) none)) (AX h42) (eD (keep (hT 2 [(oC [zI z8,Sl.v 1 s5,Sl.v 1 s6])]) (AL (Sl.cs s4) (k5*1))) (AZ h43) (eD (some ((zB (AY x13 (0:Int))),(hT 2 [(oC [zI z8,Sl.v 1 s5,Sl.v 1 s6])]))) (show _=some ((zB false),_) from (by rw[show (AY x13 (0:Int))=false from h44])) (by kernel_rfl)))) (eC 3 (keep (hT 2 [(oC [zI z8,Sl.v 1 s5,Sl.v 1 s6])]) (bb (an (Nat.blt k5 (Sl.n s4)) true) (some (Cv (k5*1) (Sl.cs s4))) none)) (AX h45) (eD (keep (hT 2 [(oC [zI z8,Sl.v 1 s5,Sl.v 1 s6])]) (AL (Sl.cs s4) (k5*1))) (AZ h46) (eC 2 (some ((zB (nt (AY x14 (Int.ofNat (Sl.n s4))))),(hT 2 [(oC [zI z8,Sl.v 1 s5,Sl.v 1 s6])]))) (show _=some ((zB true),_) from (by rw[show (nt (AY x14 (Int.ofNat (Sl.n s4))))=true from h47])) (eE))))) ?_
         exact⟨(z4,s4,z5,(Int.ofNat k5),z6,(Int.ofNat k5),true,z8,s5,s6),hm,(.k0 [false] [.tmp 3 false] [3,5,7,11,12,67,68,100])⟩
        ·replace hm:=Ae hm;obtain⟨h48,hm⟩:=hm
         replace hm:=Gq hm;obtain⟨x15,h49,hm⟩:=hm
         replace hm:=Ab hm;obtain⟨k6,h50,hm⟩:=hm
         obtain rfl:=AR h50
         replace hm:=Ae hm;obtain⟨h51,hm⟩:=hm
         replace hm:=Gq hm;obtain⟨x16,h52,hm⟩:=hm
         replace hm:=Ae hm;obtain⟨h53,hm⟩:=hm
         replace hm:=Gq hm;obtain⟨x17,h54,hm⟩:=hm
         refine .reg (eN 5 (Fr.puts (fr 157 [(3,pt 1 0),(5,zI z4),(7,Sl.v 1 s4),(11,zI z5),(12,(zI (Int.ofNat k5))),(67,zI z6),(68,(zI (Int.ofNat k5)))]) [(71,Sl.v 1 s4),(72,(zI (Int.ofNat k5))),(73,(Cv (k5*1) (Sl.cs s4))),(74,zI x13),(75,zB false)]) (hT 2 [(oC [zI z8,Sl.v 1 s5,Sl.v 1 s6])]) (eC 2 (keep (hT 2 [(oC [zI z8,Sl.v 1 s5,Sl.v 1 s6])]) (bb (an (Nat.blt k5 (Sl.n s4)) true) (some (Cv (k5*1) (Sl.cs s4))) none)) (AX h42) (eD (keep (hT 2 [(oC [zI z8,Sl.v 1 s5,Sl.v 1 s6])]) (AL (Sl.cs s4) (k5*1))) (AZ h43) (eD (some ((zB (AY x13 (0:Int))),(hT 2 [(oC [zI z8,Sl.v 1 s5,Sl.v 1 s6])]))) (show _=some ((zB false),_) from (by rw[show (AY x13 (0:Int))=false from h44])) (by kernel_rfl)))) (eN 8 (Fr.puts (fr 157 [(3,pt 1 0),(5,zI z4),(7,Sl.v 1 s4),(11,zI z5),(12,(zI (Int.ofNat k5))),(67,zI z6),(68,(zI (Int.ofNat k5)))]) [(71,Sl.v 1 s4),(72,(zI (Int.ofNat k5))),(73,(Cv (k5*1) (Sl.cs s4))),(74,zI x13),(75,zB false),(76,zB false),(77,Sl.v 1 s4),(78,(zI (Int.ofNat k5))),(79,(Cv (k5*1) (Sl.cs s4))),(80,zI x14),(81,Sl.v 1 s4),(82,(zI (Int.ofNat (Sl.n s4)))),(83,zB false)]) (hT 2 [(oC [zI z8,Sl.v 1 s5,Sl.v 1 s6])]) (eC 3 (keep (hT 2 [(oC [zI z8,Sl.v 1 s5,Sl.v 1 s6])]) (bb (an (Nat.blt k5 (Sl.n s4)) true) (some (Cv (k5*1) (Sl.cs s4))) none)) (AX h45) (eD (keep (hT 2 [(oC [zI z8,Sl.v 1 s5,Sl.v 1 s6])]) (AL (Sl.cs s4) (k5*1))) (AZ h46) (eC 2 (some ((zB (nt (AY x14 (Int.ofNat (Sl.n s4))))),(hT 2 [(oC [zI z8,Sl.v 1 s5,Sl.v 1 s6])]))) (show _=some ((zB false),_) from (by rw[show (nt (AY x14 (Int.ofNat (Sl.n s4))))=false from h47])) (by kernel_rfl)))) (eN 9 (Fr.puts (fr 157 [(3,pt 1 0),(5,zI z4),(7,Sl.v 1 s4),(11,zI z5),(12,(zI (Int.ofNat k5))),(67,zI z6),(68,(zI (Int.ofNat k5)))]) [(71,Sl.v 1 s4),(72,(zI (Int.ofNat k5))),(73,(Cv (k5*1) (Sl.cs s4))),(74,zI x13),(75,zB false),(76,zB false),(77,Sl.v 1 s4),(78,(zI (Int.ofNat k5))),(79,(Cv (k5*1) (Sl.cs s4))),(80,zI x14),(81,Sl.v 1 s4),(82,(zI (Int.ofNat (Sl.n s4)))),(83,zB false),(84,zB false),(85,zB false),(86,pt 1 1),(87,Sl.v 1 s5),(88,Sl.v 1 s4),(89,(zI (Int.ofNat k5))),(90,(Cv (k5*1) (Sl.cs s4))),(91,(zI (Int.ofNat k6))),(92,(Cv (k6*1) (Sl.cs s5)))]) (hT 2 [(oC [zI z8,Sl.v 1 s5,Sl.v 1 s6])]) (eC 6 (keep (hT 2 [(oC [zI z8,Sl.v 1 s5,Sl.v 1 s6])]) (bb (an (Nat.blt k5 (Sl.n s4)) true) (some (Cv (k5*1) (Sl.cs s4))) none)) (AX h48) (eD (keep (hT 2 [(oC [zI z8,Sl.v 1 s5,Sl.v 1 s6])]) (AL (Sl.cs s4) (k5*1))) (AZ h49) (eD (keep (hT 2 [(oC [zI z8,Sl.v 1 s5,Sl.v 1 s6])]) (bb (an (Nat.blt k6 (Sl.n s5)) true) (some (Cv (k6*1) (Sl.cs s5))) none)) (AX h51) (by kernel_rfl)))) (eD (keep (hT 2 [(oC [zI z8,Sl.v 1 s5,Sl.v 1 s6])]) (AL (Sl.cs s5) (k6*1))) (AZ h52) (eC 3 (keep (hT 2 [(oC [zI z8,Sl.v 1 s5,Sl.v 1 s6])]) (bb (an (Nat.blt k5 (Sl.n s6)) true) (some (Cv (k5*1) (Sl.cs s6))) none)) (AX h53) (eD (keep (hT 2 [(oC [zI z8,Sl.v 1 s5,Sl.v 1 s6])]) (AL (Sl.cs s6) (k5*1))) (AZ h54) (eE))))))) ?_
         exact⟨(z4,s4,z5,(Int.ofNat k5),z6,(Int.ofNat k5),(nt (Bd x16 x17)),z8,s5,s6),hm,(.k0 [false] [.tmp 3 false] [3,5,7,11,12,67,68,100])⟩
    ·refine G5 (AY z7 z6) h11 ?_
     refine .exit ?_
     exact⟨(z4,z5),hm,(.k0 [false] [] [5,11])⟩
 ·replace hm:=Ag hm;rcases hm with⟨h55,hm⟩ | ⟨h55,hm⟩
  ·refine .reg (eC 1 (some ((zB (nt (Bd x1 (0:Int)))),(hT 3 [(oC [zI x28,Sl.v 1 s30,Sl.v 1 s32]),(.map (Akd.es y0) (Akd.clock y0))]))) (show _=some ((zB true),_) from (by rw[show (nt (Bd x1 (0:Int)))=true from h55])) (eE)) ?_
   exact⟨(x0,s0,true,x28,s30,s32),hm,(.k0 [false] [.tmp 3 false] [3,5,7,65])⟩
  ·replace hm:=Ag hm;rcases hm with⟨h56,hm⟩ | ⟨h56,hm⟩
   ·refine .reg (eC 1 (some ((zB (nt (Bd x1 (0:Int)))),(hT 3 [(oC [zI x28,Sl.v 1 s30,Sl.v 1 s32]),(.map (Akd.es y0) (Akd.clock y0))]))) (show _=some ((zB false),_) from (by rw[show (nt (Bd x1 (0:Int)))=false from h55])) (eC 2 (some ((zB (nt (Bd x2 (0:Int)))),(hT 3 [(oC [zI x28,Sl.v 1 s30,Sl.v 1 s32]),(.map (Akd.es y0) (Akd.clock y0))]))) (show _=some ((zB true),_) from (by rw[show (nt (Bd x2 (0:Int)))=true from h56])) (eE))) ?_
    exact⟨(x0,s0,true,x28,s30,s32),hm,(.k0 [false] [.tmp 3 false] [3,5,7,65])⟩
   ·replace hm:=Ag hm;rcases hm with⟨h57,hm⟩ | ⟨h57,hm⟩
    ·refine .reg (eC 1 (some ((zB (nt (Bd x1 (0:Int)))),(hT 3 [(oC [zI x28,Sl.v 1 s30,Sl.v 1 s32]),(.map (Akd.es y0) (Akd.clock y0))]))) (show _=some ((zB false),_) from (by rw[show (nt (Bd x1 (0:Int)))=false from h55])) (eC 2 (some ((zB (nt (Bd x2 (0:Int)))),(hT 3 [(oC [zI x28,Sl.v 1 s30,Sl.v 1 s32]),(.map (Akd.es y0) (Akd.clock y0))]))) (show _=some ((zB false),_) from (by rw[show (nt (Bd x2 (0:Int)))=false from h56])) (eC 3 (some ((zB (nt (Bd x4 (0:Int)))),(hT 3 [(oC [zI x28,Sl.v 1 s30,Sl.v 1 s32]),(.map (Akd.es y0) (Akd.clock y0))]))) (show _=some ((zB true),_) from (by rw[show (nt (Bd x4 (0:Int)))=true from h57])) (eE)))) ?_
     exact⟨(x0,s0,true,x28,s30,s32),hm,(.k0 [false] [.tmp 3 false] [3,5,7,65])⟩
    ·replace hm:=Gq hm;obtain⟨x18,h58,hm⟩:=hm
     replace hm:=Ab hm;obtain⟨r0,h59,hm⟩:=hm
     replace hm:=Ab hm;obtain⟨x19,h60,hm⟩:=hm
     replace hm:=Ag hm;rcases hm with⟨h61,hm⟩ | ⟨h61,hm⟩
     ·refine .reg (eN 9 (Fr.puts (fr 157 [(3,pt 1 0),(4,(.map (some 2))),(5,zI x0),(6,zI x1),(7,Sl.v 1 s0),(8,zI x2),(9,zI x3),(10,zI x4)]) [(34,zI x1),(35,zB false),(36,zB false),(37,zI x2),(38,zB false),(39,zB false),(40,zB false),(41,zI x4),(42,zB false)]) (hT 3 [(oC [zI x28,Sl.v 1 s30,Sl.v 1 s32]),(.map (Akd.es y0) (Akd.clock y0))]) (eC 1 (some ((zB (nt (Bd x1 (0:Int)))),(hT 3 [(oC [zI x28,Sl.v 1 s30,Sl.v 1 s32]),(.map (Akd.es y0) (Akd.clock y0))]))) (show _=some ((zB false),_) from (by rw[show (nt (Bd x1 (0:Int)))=false from h55])) (eC 2 (some ((zB (nt (Bd x2 (0:Int)))),(hT 3 [(oC [zI x28,Sl.v 1 s30,Sl.v 1 s32]),(.map (Akd.es y0) (Akd.clock y0))]))) (show _=some ((zB false),_) from (by rw[show (nt (Bd x2 (0:Int)))=false from h56])) (eC 3 (some ((zB (nt (Bd x4 (0:Int)))),(hT 3 [(oC [zI x28,Sl.v 1 s30,Sl.v 1 s32]),(.map (Akd.es y0) (Akd.clock y0))]))) (show _=some ((zB false),_) from (by rw[show (nt (Bd x4 (0:Int)))=false from h57])) (by kernel_rfl)))) (eC 6 ((oo (pu 23 [Sl.v 1 s30]) none fun v=>some (v,(hT 3 [(oC [zI x28,Sl.v 1 s30,Sl.v 1 s32]),(.map (Akd.es y0) (Akd.clock y0))])))) (AB h58) (eD (keep (hT 3 [(oC [zI x28,Sl.v 1 s30,Sl.v 1 s32]),(.map (Akd.es y0) (Akd.clock y0))]) (oo (GD (zI x18) (Akd.es y0) 0) none fun r=>oo r (okV false (zI (0:Int)) false) fun p=>pp p fun _ v=>okV false v true)) (MM h59 (Eh h60)) (eD (some ((zB (nt (Bd x0 x19))),(hT 3 [(oC [zI x28,Sl.v 1 s30,Sl.v 1 s32]),(.map (Akd.es y0) (Akd.clock y0))]))) (show _=some ((zB true),_) from (by rw[show (nt (Bd x0 x19))=true from h61])) (eE))))) ?_
      exact⟨(x0,s0,true,x28,s30,s32),hm,(.k0 [false] [.tmp 3 false] [3,5,7,65])⟩
     ·replace hm:=Ag hm;rcases hm with⟨h62,hm⟩ | ⟨h62,hm⟩
      ·refine .reg (eN 9 (Fr.puts (fr 157 [(3,pt 1 0),(4,(.map (some 2))),(5,zI x0),(6,zI x1),(7,Sl.v 1 s0),(8,zI x2),(9,zI x3),(10,zI x4)]) [(34,zI x1),(35,zB false),(36,zB false),(37,zI x2),(38,zB false),(39,zB false),(40,zB false),(41,zI x4),(42,zB false)]) (hT 3 [(oC [zI x28,Sl.v 1 s30,Sl.v 1 s32]),(.map (Akd.es y0) (Akd.clock y0))]) (eC 1 (some ((zB (nt (Bd x1 (0:Int)))),(hT 3 [(oC [zI x28,Sl.v 1 s30,Sl.v 1 s32]),(.map (Akd.es y0) (Akd.clock y0))]))) (show _=some ((zB false),_) from (by rw[show (nt (Bd x1 (0:Int)))=false from h55])) (eC 2 (some ((zB (nt (Bd x2 (0:Int)))),(hT 3 [(oC [zI x28,Sl.v 1 s30,Sl.v 1 s32]),(.map (Akd.es y0) (Akd.clock y0))]))) (show _=some ((zB false),_) from (by rw[show (nt (Bd x2 (0:Int)))=false from h56])) (eC 3 (some ((zB (nt (Bd x4 (0:Int)))),(hT 3 [(oC [zI x28,Sl.v 1 s30,Sl.v 1 s32]),(.map (Akd.es y0) (Akd.clock y0))]))) (show _=some ((zB false),_) from (by rw[show (nt (Bd x4 (0:Int)))=false from h57])) (by kernel_rfl)))) (eC 6 ((oo (pu 23 [Sl.v 1 s30]) none fun v=>some (v,(hT 3 [(oC [zI x28,Sl.v 1 s30,Sl.v 1 s32]),(.map (Akd.es y0) (Akd.clock y0))])))) (AB h58) (eD (keep (hT 3 [(oC [zI x28,Sl.v 1 s30,Sl.v 1 s32]),(.map (Akd.es y0) (Akd.clock y0))]) (oo (GD (zI x18) (Akd.es y0) 0) none fun r=>oo r (okV false (zI (0:Int)) false) fun p=>pp p fun _ v=>okV false v true)) (MM h59 (Eh h60)) (eD (some ((zB (nt (Bd x0 x19))),(hT 3 [(oC [zI x28,Sl.v 1 s30,Sl.v 1 s32]),(.map (Akd.es y0) (Akd.clock y0))]))) (show _=some ((zB false),_) from (by rw[show (nt (Bd x0 x19))=false from h61])) (eC 4 (some ((zB (AY x0 x3)),(hT 3 [(oC [zI x28,Sl.v 1 s30,Sl.v 1 s32]),(.map (Akd.es y0) (Akd.clock y0))]))) (show _=some ((zB true),_) from (by rw[show (AY x0 x3)=true from h62])) (eE)))))) ?_
       exact⟨(x0,s0,true,x28,s30,s32),hm,(.k0 [false] [.tmp 3 false] [3,5,7,65])⟩
      ·refine .reg (eN 9 (Fr.puts (fr 157 [(3,pt 1 0),(4,(.map (some 2))),(5,zI x0),(6,zI x1),(7,Sl.v 1 s0),(8,zI x2),(9,zI x3),(10,zI x4)]) [(34,zI x1),(35,zB false),(36,zB false),(37,zI x2),(38,zB false),(39,zB false),(40,zB false),(41,zI x4),(42,zB false)]) (hT 3 [(oC [zI x28,Sl.v 1 s30,Sl.v 1 s32]),(.map (Akd.es y0) (Akd.clock y0))]) (eC 1 (some ((zB (nt (Bd x1 (0:Int)))),(hT 3 [(oC [zI x28,Sl.v 1 s30,Sl.v 1 s32]),(.map (Akd.es y0) (Akd.clock y0))]))) (show _=some ((zB false),_) from (by rw[show (nt (Bd x1 (0:Int)))=false from h55])) (eC 2 (some ((zB (nt (Bd x2 (0:Int)))),(hT 3 [(oC [zI x28,Sl.v 1 s30,Sl.v 1 s32]),(.map (Akd.es y0) (Akd.clock y0))]))) (show _=some ((zB false),_) from (by rw[show (nt (Bd x2 (0:Int)))=false from h56])) (eC 3 (some ((zB (nt (Bd x4 (0:Int)))),(hT 3 [(oC [zI x28,Sl.v 1 s30,Sl.v 1 s32]),(.map (Akd.es y0) (Akd.clock y0))]))) (show _=some ((zB false),_) from (by rw[show (nt (Bd x4 (0:Int)))=false from h57])) (by kernel_rfl)))) (eC 6 ((oo (pu 23 [Sl.v 1 s30]) none fun v=>some (v,(hT 3 [(oC [zI x28,Sl.v 1 s30,Sl.v 1 s32]),(.map (Akd.es y0) (Akd.clock y0))])))) (AB h58) (eD (keep (hT 3 [(oC [zI x28,Sl.v 1 s30,Sl.v 1 s32]),(.map (Akd.es y0) (Akd.clock y0))]) (oo (GD (zI x18) (Akd.es y0) 0) none fun r=>oo r (okV false (zI (0:Int)) false) fun p=>pp p fun _ v=>okV false v true)) (MM h59 (Eh h60)) (eD (some ((zB (nt (Bd x0 x19))),(hT 3 [(oC [zI x28,Sl.v 1 s30,Sl.v 1 s32]),(.map (Akd.es y0) (Akd.clock y0))]))) (show _=some ((zB false),_) from (by rw[show (nt (Bd x0 x19))=false from h61])) (eC 4 (some ((zB (AY x0 x3)),(hT 3 [(oC [zI x28,Sl.v 1 s30,Sl.v 1 s32]),(.map (Akd.es y0) (Akd.clock y0))]))) (show _=some ((zB false),_) from (by rw[show (AY x0 x3)=false from h62])) (eE)))))) ?_
       exact⟨(x0,s0,(nt (Bd (Int.ofNat (Sl.n s0)) (Int.ofNat (Sl.n s30)))),x28,s30,s32),hm,(.k0 [false] [.tmp 3 false] [3,5,7,65])⟩
end
end Go.MnNM
