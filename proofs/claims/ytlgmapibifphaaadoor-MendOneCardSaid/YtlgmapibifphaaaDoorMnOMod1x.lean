/- Made from wip. -/
import Derived.Test.YtlgmapibifphaaaDoorSpItx
import Derived.Test.YtlgmapibifphaaaDoorMnOCodex
import Derived.KernelRfl

set_option maxRecDepth 100000
namespace Go.Sp
theorem PG.cap (id off sz ln m:Nat):PG (.slice (some ⟨id,off,some sz⟩) ln (2*m+1)) (.slice (some ⟨id,off,some sz⟩) ln (2*m)):=fun R u h=>by
 have e1:(2*m+1) / 2=m:=by omega
 have e2:2*m / 2=m:=by omega
 cases h with
 | sl h h1 h2 h3 h4 =>
  rw[e1] at h1 h2
  exact .sl h (by rw[e2];exact h1) (by rw[e2];exact h2) (fun h=>by omega) h4
 | slE h=>exact .slE (by omega)
 | slN h=>exact .slN (by omega)
end Go.Sp
namespace Go.MnOM
open Go.Sp Go.MnO
noncomputable section
def VM (sz by':Nat) (args:List Value) (H:Aa):Option (Value×Aa):=
 ll args none fun x r => ll r (oo (Bj sz x) none fun s => Aa.rec (motive := fun _ => Option (Value × Aa)) (fun k T z => bb z (bb (EQ (0 + s.n) by')
  (some (.slice (some ⟨Nat.succ k,0,some sz⟩) s.n (2*s.n+bb false 1 0),((⟨k,T,true⟩:Aa).push (.cells [] false false [])).push (.cells (Aq (s.n*sz) s.cs) false false []))) none) none) H) fun _ _=>none
def o63:List Fs:=[
 ⟨(some 5),.buildSlice 22 0 #[],22,none,[]⟩,
 ⟨(some 6),.move (.tmp 0),22,none,[]⟩,
 ⟨(some 7),.call ⟨.builtin .append,#[(.tmp 5),(.tmp 6)],#[22,22]⟩,22,none,[]⟩,
 ⟨(some 2),.assign (.tmp 7),22,none,[]⟩]
def H1 (k:Nat) (T:Tr AJ):Aa:=(⟨k,T,true⟩:Aa).push (.cells [] false false [])
def F1 (a:Value):Fr:=Fr.puts (Fr.made 8 [a]) [(2,.slice none 0 0),(3,a),(4,.bool false)]
def F2 (a:Value) (k:Nat):Fr:=Fr.puts (F1 a) [(5,.slice (some ⟨k,0,some 1⟩) 0 1)]
def Ay (a:Value) (k:Nat):Fr:=Fr.puts (F2 a k) [(6,a)]
def AO (a:Value) (k:Nat) (v:Value):Fr:=Fr.puts (Ay a k) [(7,v)]
def A7 (a:Value) (k:Nat) (v:Value):Fr:=Fr.puts (AO a k v) [(2,v)]
theorem rU (k:Nat) (T:Tr AJ):Bv ((H1 k T).get k)=some ⟨[],false,false,[]⟩:=by
 unfold H1
 rw[Aa.get_push,if_pos rfl];rfl
theorem ZQ (k:Nat) (T:Tr AJ):(H1 k T).next=k+1:=by
 unfold H1;rw[Aa.next_push]
theorem Ye (k:Nat) (T:Tr AJ):Cr tt OD 2 63 [FP 1 0 2 []] ⟨k,T,true⟩=some (.slice none 0 0,⟨k,T,true⟩):=by kernel_rfl
theorem ops (call:A8) (k:Nat) (T:Tr AJ) (a v:Value) (H2:Aa) (s:Sl) (ha:a=s.v 1) (hD:Ql (H1 k T) 1 8 (.slice (some ⟨k,0,some 1⟩) 0 1) s=some (v,H2)) :
 BD tt call o63 (F1 a) ⟨k,T,true⟩=some (A7 a k v,H2):=by
 subst ha
 refine Ob (some (.slice (some ⟨k,0,some 1⟩) 0 1,H1 k T)) (by kernel_rfl) rfl (by kernel_rfl) ?_
 refine Ob (some (s.v 1,H1 k T)) (by kernel_rfl) rfl (by kernel_rfl) ?_
 refine Ob (Ql (H1 k T) 1 8 (.slice (some ⟨k,0,some 1⟩) 0 1) s) (by kernel_rfl) hD (by kernel_rfl) ?_
 refine Ob (some (v,H2)) (by kernel_rfl) rfl (by kernel_rfl) ?_
 rfl
theorem ev (k:Nat) (T:Tr AJ) (a v:Value) (H2:Aa) (h1:MZ tt (Cr tt OD 1) 1 c63 (Fr.made 8 [a]) ⟨k,T,true⟩=MZ tt (Cr tt OD 1) 1 (.seq (.reg [] o63) .ret) (F1 a) ⟨k,T,true⟩)
 (h:BD tt (Cr tt OD 1) o63 (F1 a) ⟨k,T,true⟩=some (A7 a k v,H2)):Cr tt OD 2 63 [a] ⟨k,T,true⟩=some (v,H2):=by
 show Xr tt [.tmp 2] (MZ tt (Cr tt OD 1) 1 c63 (Fr.made 8 [a]) ⟨k,T,true⟩)=_
 rw[h1]
 show Xr tt [.tmp 2] (IK (Ab2 (BD tt (Cr tt OD 1) o63 (F1 a) ⟨k,T,true⟩)) _)=_
 rw[h]
 kernel_rfl
theorem rV (k:Nat) (T:Tr AJ):Cr tt OD 2 63 [FP 1 0 3 []] ⟨k,T,true⟩=some (.slice (some ⟨k,0,some 1⟩) 0 1,H1 k T):=
 ev k T _ _ _ (by kernel_rfl) (ops _ k T _ _ _ ⟨0,3,[]⟩ rfl (Ze rfl))
theorem rW (k:Nat) (T:Tr AJ) (n:Nat) (cs:List Value) (hr:EQ (0+(n+1)) 8=true) :
 Cr tt OD 2 63 [FP 1 (n+1) 0 cs] ⟨k,T,true⟩=some (sliceAt (k+1) 0 1 (0+(n+1)) (0+(n+1)) false,(H1 k T).push (.cells (Aq ((n+1)*1) cs) false false [])):=
 ev k T _ _ _ (by kernel_rfl) (ops _ k T _ _ _ ⟨n+1,0,cs⟩ rfl (by rw[Zf rfl hr (rU k T),ZQ]))

theorem VU {P:Program} (hT:Jm P tt) (hf:∀ f r,OD f=some r→Ar P [0] f r) (hm:P.follows .mixedOrders=true) {args:List Value} {H H':Aa} {v:Value} (h:VM 1 8 args H=some (v,H')) :
 (∀ (as:Array Value) (w:World),(callFunc 63 as).run P w = .ok (.enter 63 as) w) ∧
 ∀ R w args',Ck H R w→JH [0] R→Cf R args args'→Calls P 63 ⟨args'⟩ w fun e w'=>∃ u R',e = .returned u∧VR R' v u∧Ba H R w H' R' w':=by
 refine⟨((Rx hT hf hm 2) 63 _ _ _ _ (Ye 0 .nil)).1,fun R w args' hs hgl ha=>?_⟩
 obtain⟨x,r,rfl,h⟩:=Ad h
 obtain⟨rfl,h⟩:=AC h
 obtain⟨s,hsl,h⟩:=Ab h
 obtain rfl:=Qh hsl
 obtain⟨k,T,z⟩:=H
 obtain⟨hz,h⟩:=Ae (show bb z _ none=some _ from h)
 subst hz
 obtain⟨hr,h⟩:=Ae h
 injection h with h;injection h with e1 e2;subst e1;subst e2
 obtain⟨u,us,rfl,hu,hnil⟩:=ha.uncons
 obtain rfl:=hnil.unnil
 obtain⟨n,fl,cs⟩:=s
 have run:∀ (a v1:Value) (H2:Aa),Cr tt OD 2 63 [a] ⟨k,T,true⟩=some (v1,H2)→VR R a u→Calls P 63 ⟨[u]⟩ w fun e w'=>∃ u' R',e = .returned u'∧VR R' v1 u'∧Ba ⟨k,T,true⟩ R w H2 R' w':=fun a v1 H2 he hau=>
  ((Rx hT hf hm 2) 63 _ _ _ _ he).2 R w [u] hs hgl (.one hau)
 have empty : ∀ (a : Value), VR R a u → (a = FP 1 0 2 [] ∨ a = FP 1 0 3 []) → ∀ o, o = AJ.cells (Aq (0 * 1) cs) false false [] → Calls P 63 ⟨[u]⟩ w fun e w' => ∃ u' R', e = .returned u' ∧ VR R' (.slice (some ⟨Nat.succ k, 0, some 1⟩) 0 (2 * 0 + bb false 1 0)) u' ∧
  Ba ⟨k,T,true⟩ R w ((H1 k T).push o) R' w':=fun a hau hcase o ho=>by
  rcases hcase with rfl | rfl
  ·refine(run _ _ _ (Ye k T) hau).mono fun e w' ⟨u',R',h1,h2,h3⟩=>⟨u',R',h1,?_,(h3.absPush (obj:=.cells [] false false []) rfl).absPush (by rw[ho];rfl)⟩
   rw[h2.slNil_l];exact .slN rfl
  ·refine(run _ _ _ (rV k T) hau).mono fun e w' ⟨u',R',h1,h2,h3⟩=>⟨u',R',h1,?_,h3.absPush (by rw[ho];rfl)⟩
   cases h2 with
   | sl _ _ _ h3 _=>have:=h3 rfl;subst this;exact .slE rfl
   | slE=>exact .slE rfl
   | slN=>exact .slN rfl
 rcases hu.fs_l (f:=⟨1,n,fl,cs⟩) rfl with⟨h1,h2,rfl⟩ | ⟨_,h1,h2,c,o,sp,rfl⟩ | ⟨c,o,cap,C,hro,rfl,hn,k1,k2,k3,hfit,hcr,hcl⟩
 ·have h1:n=0:=h1
  subst h1
  exact empty _ (.fsN 1 2 (by decide)) (.inl rfl) _ rfl
 ·have h1:n=0:=h1
  subst h1
  exact empty _ (.fsE (by decide)) (.inr rfl) _ rfl
 ·cases n with
  | zero =>
   have hc0:cs=[]:=by simpa using hn
   subst hc0
   exact empty (FP 1 0 3 []) (.mkFs hro rfl (Nat.zero_le _) (fun h=>by cases h) (by decide) hfit hcr hcl) (.inr rfl) _ rfl
  | succ n =>
   refine(run _ _ _ (rW k T n cs hr) (.mkFs hro hn k1 (fun h=>by cases h) (by decide) hfit hcr hcl)).mono fun e w' ⟨u',R',g1,g2,g3⟩=>⟨u',R',g1,?_,g3⟩
   rwa [Nat.zero_add] at g2
end
end Go.MnOM
set_option maxRecDepth 100000
set_option maxHeartbeats 20000000
set_option linter.unusedVariables false
namespace Go.MnOM
open Go.Sp Go.MnO
noncomputable section
def Sk:List Value:=[.int .u8 0,.int .u8 1,.int .u8 28,.int .u8 2,.int .u8 29,.int .u8 14,.int .u8 24,.int .u8 3,.int .u8 30,.int .u8 22,.int .u8 20,.int .u8 15,.int .u8 25,.int .u8 17,.int .u8 4,.int .u8 8,.int .u8 31,.int .u8 27,.int .u8 13,.int .u8 23,.int .u8 21,.int .u8 19,.int .u8 16,.int .u8 7,.int .u8 26,.int .u8 12,.int .u8 18,.int .u8 6,.int .u8 11,.int .u8 5,.int .u8 10,.int .u8 9]
def tabs:List (List Value):=[Sk]
theorem Fp {tt:TT} {n0:Nat} {rs:List ResultVar} {v:Value} {F:Fr} {H:Aa} (r:Value) (hm:some r=some v) (h:DV tt F H rs=some r:=by kernel_rfl) (hc:Fe r=true:=by kernel_rfl):Fin tt n0 rs v .ret F H:=kI r h hc hm
theorem Hy {α:Type} {k:IntKind} {o:Option Value} {s:Int→Option α} {w:α} (h:oo o none (fun v=>oo (Bi k v) none s)=some w):∃ x,o=some (.int k x)∧s x=some w:=by
 obtain⟨v,h1,h2⟩:=Ab h
 obtain⟨x,hx,h3⟩:=Ab h2
 obtain rfl:=Eh hx
 exact⟨x,h1,h3⟩
theorem fC {α:Type} {k:Nat} {o:Option Value} {s:Sl→Option α} {w:α} (h:oo o none (fun v=>oo (Bj k v) none s)=some w):∃ x,o=some (Sl.v k x)∧s x=some w:=by
 obtain⟨v,h1,h2⟩:=Ab h
 obtain⟨x,hx,h3⟩:=Ab h2
 obtain rfl:=Qh hx
 exact⟨x,h1,h3⟩
theorem fD {α:Type} {o:Option Value} {s:Bool→Option α} {w:α} (h:oo o none (fun v=>oo (Bf v) none s)=some w):∃ x,o=some (.bool x)∧s x=some w:=by
 obtain⟨v,h1,h2⟩:=Ab h
 obtain⟨x,hx,h3⟩:=Ab h2
 obtain rfl:=BV hx
 exact⟨x,h1,h3⟩
theorem FX {tt:TT} {call:A8} {n0:Nat} {c:Operand} {a b:RC} {F:Fr} {H:Aa} {Q:Ex→Fr→Aa→Prop} (e:Bool) (hb:e=true) (h:BN tt call n0 a F H Q) (he:Bf (F.eval c)=some e:=by kernel_rfl):BN tt call n0 (.cond c a b) F H Q:=.ifT e he hb h
theorem FY {tt:TT} {call:A8} {n0:Nat} {c:Operand} {a b:RC} {F:Fr} {H:Aa} {Q:Ex→Fr→Aa→Prop} (e:Bool) (hb:e=false) (h:BN tt call n0 b F H Q) (he:Bf (F.eval c)=some e:=by kernel_rfl):BN tt call n0 (.cond c a b) F H Q:=.ifF e he hb h
abbrev DT:Aa:=hp 1 [oT Sk]
abbrev hT (n:Nat) (l:List AJ):Aa:=hp n (oT Sk::l)
theorem Dy {a b:Bool} (h:b=true) (e:a=b:=by kernel_rfl):a=true:=e.trans h
abbrev OV:=Option Value
abbrev LV:=List Value
def Ua:List Nat:=[5,12,13,16,21,23,24,25,26,29,43,44,47,48,51,52,53,57,62,64,67,71,72]
def HV:FuncId→Bool:=fun g=>ED g Ua
def inl (pu:Af):A8:=fun g args H=>bb (Nat.beq g 63) (VM 1 8 args H) (bb (Nat.beq g 22) (EK tabs [[some 1],[none]] 2 [] [false] (pu 10220) args H) (bb (Nat.beq g 15) (EK tabs [[some 2],[some 2]] 2 [] [] (pu 10150) args H) (bb (Nat.beq g 65) (EK tabs [[none,some 1,some 1]] 1 [] [true,false] (pu 10650) args H) (bb (Nat.beq g 66) (EK tabs [[none],[none]] 2 [.tmp 0 true,.cell 1 3 false] [true,false] (pu 10660) args H) (bb (Nat.beq g 68) (EK tabs [[none],[some 1],[none],[none]] 4 [.tmp 0 true,.cell 1 3 false] [true,false] (pu 10680) args H) (none))))))
def ZR:List UInt8:=[0,1,1,2,1,2,2,3,1,2,2,3,2,3,3,4,1,2,2,3,2,3,3,4,2,3,3,4,3,4,4,5,1,2,2,3,2,3,3,4,2,3,3,4,3,4,4,5,2,3,3,4,3,4,4,5,3,4,4,5,4,5,5,6,1,2,2,3,2,3,3,4,2,3,3,4,3,4,4,5,2,3,3,4,3,4,4,5,3,4,4,5,4,5,5,6,2,3,3,4,3,4,4,5,3,4,4,5,4,5,5,6,3,4,4,5,4,5,5,6,4,5,5,6,5,6,6,7,1,2,2,3,2,3,3,4,2,3,3,4,3,4,4,5,2,3,3,4,3,4,4,5,3,4,4,5,4,5,5,6,2,3,3,4,3,4,4,5,3,4,4,5,4,5,5,6,3,4,4,5,4,5,5,6,4,5,5,6,5,6,6,7,2,3,3,4,3,4,4,5,3,4,4,5,4,5,5,6,3,4,4,5,4,5,5,6,4,5,5,6,5,6,6,7,3,4,4,5,4,5,5,6,4,5,5,6,5,6,6,7,4,5,5,6,5,6,6,7,5,6,6,7,6,7,7,8]
end
end Go.MnOM
set_option maxRecDepth 100000
set_option maxHeartbeats 20000000
set_option linter.unusedVariables false
namespace Go.MnOM
open Go.Sp Go.MnO
noncomputable section
def Yf (pu:Af) (n:Nat):OV:=
 (oo (pu 12 []) none fun v0=>(oo (Bf v0) none fun b0=>(some (.bool b0))))
def Yg (pu:Af) (n:Nat) (ih0:Sl→Sl→Int→Int→OV) (s0 s1:Sl) (z0 z1:Int):OV:=
 (ih0 s0 s1 z0 (Aj .i64 (Int.add z1 (1:Int))))
def Yh (pu:Af) (n:Nat) (ih0:Sl→Sl→Int→Int→OV) (ih1:Sl→Sl→Sl→Int→Int→Sl→Int→Int→OV) (s0 s1 s2:Sl) (z0 z1:Int) (s3:Sl) (z2 z3:Int):OV:=
 (ih1 s0 s1 s2 z0 z1 s3 z2 (Aj .i64 (Int.add z3 (1:Int))))
def Yi (pu:Af) (n:Nat) (ih0:Sl→Sl→Int→Int→OV) (ih1:Sl→Sl→Sl→Int→Int→Sl→Int→Int→OV) (ih2:Sl→Sl→Int→Sl→Int→Int→Sl→Int→Int→Sl→Int→Int→OV) (s0 s1:Sl) (z0:Int) (s2:Sl) (z1 z2:Int) (s3:Sl) (z3 z4:Int) (s4:Sl) (z5 z6:Int):OV:=
 (ih2 s0 s1 z0 s2 z1 z2 s3 z3 z4 s4 z5 (Aj .i64 (Int.add z6 (1:Int))))
def ZT (pu:Af) (n:Nat) (ih0:Sl→Sl→Int→Int→OV) (ih1:Sl→Sl→Sl→Int→Int→Sl→Int→Int→OV) (ih2:Sl→Sl→Int→Sl→Int→Int→Sl→Int→Int→Sl→Int→Int→OV) (s0 s1:Sl) (z0:Int) (b0:Bool) (s2:Sl) (z1 z2:Int) (s3:Sl) (z3 z4:Int) (s4:Sl) (z5 z6:Int):OV:=
 (bb (nt b0) (some (.bool false)) (Yi pu n ih0 ih1 ih2 s0 s1 z0 s2 z1 z2 s3 z3 z4 s4 z5 z6))
def Pe (pu:Af) (n:Nat) (ih0:Sl→Sl→Int→Int→OV) (ih1:Sl→Sl→Sl→Int→Int→Sl→Int→Int→OV) (ih2:Sl→Sl→Int→Sl→Int→Int→Sl→Int→Int→Sl→Int→Int→OV) (ih3:Sl→Sl→Int→Int→Bool→Sl→Int→Int→Sl→Int→Int→Sl→Int→Int→Sl→Int→Int→OV) (s0 s1:Sl) (z0 z1:Int) (b0:Bool) (s2:Sl) (z2 z3:Int) (s3:Sl) (z4 z5:Int) (s4:Sl) (z6 z7:Int) (s5:Sl) (z8 z9:Int):OV:=
 (bb (AY z9 z8) (oo (EA z9) none fun k1=>(bb (an (Nat.blt k1 (Sl.n s5)) true) (bb (Nat.ble ((k1*2)+2) (len (Sl.cs s5))) (oo (AL (Sl.cs s5) (k1*2)) none fun v0=>(oo (Bi .i64 v0) none fun x0=>(oo (AL (Sl.cs s5) ((k1*2)+1)) none fun v1=>(oo (Bi .i64 v1) none fun x1=>(bb b0 (ih3 s0 s1 z0 z1 true s2 z2 z3 s3 z4 z5 s4 z6 z7 s5 z8 (Aj .i64 (Int.add (Int.ofNat k1) (1:Int)))) (ih3 s0 s1 z0 z1 (bq true (an (Bd x0 (bb (AY z1 z0) z1 z0)) (an (Bd x1 (bb (AY z0 z1) z1 z0)) true))) s2 z2 z3 s3 z4 z5 s4 z6 z7 s5 z8 (Aj .i64 (Int.add (Int.ofNat k1) (1:Int))))))))) none) none)) (ZT pu n ih0 ih1 ih2 s0 s1 z0 b0 s2 z2 z3 s3 z4 z5 s4 z6 z7))
def Qz (pu:Af) (n:Nat) (ih0:Sl→Sl→Int→Int→OV) (ih1:Sl→Sl→Sl→Int→Int→Sl→Int→Int→OV) (ih2:Sl→Sl→Int→Sl→Int→Int→Sl→Int→Int→Sl→Int→Int→OV) (w:Nat):Sl→Sl→Int→Int→Bool→Sl→Int→Int→Sl→Int→Int→Sl→Int→Int→Sl→Int→Int→OV:=
 Nat.rec (motive:=fun _=>Sl→Sl→Int→Int→Bool→Sl→Int→Int→Sl→Int→Int→Sl→Int→Int→Sl→Int→Int→OV) (fun _ _ _ _ _ _ _ _ _ _ _ _ _ _ _ _ _=>none) (fun _ ih3=>Pe pu n ih0 ih1 ih2 ih3) w
def VV (pu:Af) (n:Nat) (ih0:Sl→Sl→Int→Int→OV) (ih1:Sl→Sl→Sl→Int→Int→Sl→Int→Int→OV) (ih2:Sl→Sl→Int→Sl→Int→Int→Sl→Int→Int→Sl→Int→Int→OV) (s0 s1:Sl) (z0:Int) (s2:Sl) (z1 z2:Int) (s3:Sl) (z3 z4:Int) (s4:Sl) (z5 z6:Int):OV:=
 (bb (AY z6 z5) (oo (EA z6) none fun k1=>(bb (an (Nat.blt k1 (Sl.n s4)) true) (oo (AL (Sl.cs s4) (k1*1)) none fun v0=>(oo (Bi .i64 v0) none fun x0=>(Qz pu n ih0 ih1 ih2 n s0 s1 z0 x0 false s2 z1 z2 s3 z3 z4 s4 z5 (Int.ofNat k1) s0 (Int.ofNat (Sl.n s0)) (0:Int)))) none)) (Yh pu n ih0 ih1 s0 s1 s2 z1 z2 s3 z3 z4))
def O0 (pu:Af) (n:Nat) (ih0:Sl→Sl→Int→Int→OV) (ih1:Sl→Sl→Sl→Int→Int→Sl→Int→Int→OV) (w:Nat):Sl→Sl→Int→Sl→Int→Int→Sl→Int→Int→Sl→Int→Int→OV:=
 Nat.rec (motive:=fun _=>Sl→Sl→Int→Sl→Int→Int→Sl→Int→Int→Sl→Int→Int→OV) (fun _ _ _ _ _ _ _ _ _ _ _ _=>none) (fun _ ih2=>VV pu n ih0 ih1 ih2) w
def VW (pu:Af) (n:Nat) (ih0:Sl→Sl→Int→Int→OV) (ih1:Sl→Sl→Sl→Int→Int→Sl→Int→Int→OV) (s0 s1 s2:Sl) (z0 z1:Int) (s3:Sl) (z2 z3:Int):OV:=
 (bb (AY z3 z2) (oo (EA z3) none fun k1=>(bb (an (Nat.blt k1 (Sl.n s3)) true) (oo (AL (Sl.cs s3) (k1*1)) none fun v0=>(oo (Bi .i64 v0) none fun x0=>(bb (nt (Nat.beq (Sl.fl s1) 2)) (bb (Nat.ble k1 (Sl.n s1)) (O0 pu n ih0 ih1 n s0 s1 x0 s2 z0 z1 s3 z2 (Int.ofNat k1) (Sl.mk (k1 - 0) (bb (an (Nat.beq k1 (Sl.n s1)) (Dp false (Nat.beq (Sl.fl s1) 1))) 1 0) (Aq ((k1 - 0)*1) (Am (0*1) (Sl.cs s1)))) (Int.ofNat (Sl.n (Sl.mk (k1 - 0) (bb (an (Nat.beq k1 (Sl.n s1)) (Dp false (Nat.beq (Sl.fl s1) 1))) 1 0) (Aq ((k1 - 0)*1) (Am (0*1) (Sl.cs s1)))))) (0:Int)) none) none))) none)) (Yg pu n ih0 s0 s2 z0 z1))
def Jw (pu:Af) (n:Nat) (ih0:Sl→Sl→Int→Int→OV) (w:Nat):Sl→Sl→Sl→Int→Int→Sl→Int→Int→OV:=
 Nat.rec (motive:=fun _=>Sl→Sl→Sl→Int→Int→Sl→Int→Int→OV) (fun _ _ _ _ _ _ _ _=>none) (fun _ ih1=>VW pu n ih0 ih1) w
def VY (pu:Af) (n:Nat) (ih0:Sl→Sl→Int→Int→OV) (s0 s1:Sl) (z0 z1:Int):OV:=
 (bb (AY z1 z0) (oo (EA z1) none fun k1=>(bb (an (Nat.blt k1 (Sl.n s1)) true) (oo (AL (Sl.cs s1) (k1*1)) none fun v0=>(oo (Bj 1 v0) none fun s2=>(Jw pu n ih0 n s0 s2 s1 z0 (Int.ofNat k1) s2 (Int.ofNat (Sl.n s2)) (0:Int)))) none)) (Yf pu n))
def Gq (pu:Af) (n w:Nat):Sl→Sl→Int→Int→OV:=
 Nat.rec (motive:=fun _=>Sl→Sl→Int→Int→OV) (fun _ _ _ _=>none) (fun _ ih0=>VY pu n ih0) w
def VZ (pu:Af) (n:Nat) (s0 s1:Sl) (b0:Bool):OV:=
 (bb b0 (some (.bool false)) (Gq pu n n s0 s1 (Int.ofNat (Sl.n s1)) (0:Int)))
def Xc (pu:Af) (n:Nat) (z0:Int) (n0 c0:Nat) (z1:Int) (s0 s1:Sl) (q0:LV):OV:=
 (oo (pu 13 [(.agg ⟨[.int .i64 z1,Sl.v 1 s0,Sl.v 1 s1]⟩)]) none fun v0=>(oo (CQ v0) none fun l0=>(ll l0 none fun v1 l0=>(ll l0 none fun v2 l0=>(ll l0 (oo (Bj 2 v1) none fun s2=>(oo (Bi .i64 v2) none fun x0=>(bb (Au Ah q0) (oo (pu 16 [(.agg ⟨[.int .i64 z1,Sl.v 1 s0,Sl.v 1 s1]⟩)]) none fun v3=>(oo (CQ v3) none fun l1=>(ll l1 none fun v4 l1=>(ll l1 none fun v5 l1=>(ll l1 (oo (Bj 1 v4) none fun s3=>(oo (Bi .i64 v5) none fun x1=>(bb (nt (Bd x0 (0:Int))) (VZ pu n s2 s3 true) (bb (nt (Bd x1 (0:Int))) (VZ pu n s2 s3 true) (bb (an (Nat.ble (0+n0*2) (len q0)) (Au Ah (Aq (n0*2) (Am 0 q0)))) (oo (pu 10150 [(Sl.v 2 s2),(Sl.v 2 (Sl.mk n0 0 (Aq (n0*2) (Am 0 q0))))]) none fun v6=>(oo (CQ v6) none fun l2=>(ll l2 none fun v7 l2=>(ll l2 (oo (Bf v7) none fun b0=>(bb (nt b0) (VZ pu n s2 s3 true) (VZ pu n s2 s3 (bq false (bq (Bd (Int.ofNat (Sl.n s2)) (0:Int)) (Bd z0 (0:Int))))))) fun _ _=>none)))) none))))) fun _ _=>none))))) none))) fun _ _=>none)))))
def Wz (pu:Af) (n:Nat) (ih0:Int→Nat→Nat→Int→Int→Int→Sl→Sl→List EO→Nat→LV→OV) (z0:Int) (n0 c0:Nat) (z1 z2 z3:Int) (s0 s1:Sl) (e0:List EO) (k1:Nat) (q0:LV):OV:=
 (bb (Au F4 e0) (bb (Au Ah q0) (ih0 z0 n0 c0 z1 (Aj .i64 (Int.add z2 (1:Int))) z3 s0 s1 e0 k1 q0) none) none)
def Pf (pu:Af) (n:Nat) (ih0:Int→Nat→Nat→Int→Int→Int→Sl→Sl→List EO→Nat→LV→OV) (ih1:Int→Nat→Nat→Int→Int→Int→Int→Int→Sl→Sl→List EO→Nat→LV→OV) (z0:Int) (n0 c0:Nat) (z1 z2 z3 z4:Int) (b0:Bool) (z5:Int) (s0 s1:Sl) (e0:List EO) (k1:Nat) (q0:LV):OV:=
 (bb b0 (some (.bool false)) (bb (Au F4 e0) (bb (Au Ah q0) (ih1 z0 n0 c0 z1 (Aj .i64 (Int.add z2 (1:Int))) z3 z4 z5 s0 s1 e0 k1 q0) none) none))
def QA (pu:Af) (n:Nat) (ih0:Int→Nat→Nat→Int→Int→Int→Sl→Sl→List EO→Nat→LV→OV) (ih1:Int→Nat→Nat→Int→Int→Int→Int→Int→Sl→Sl→List EO→Nat→LV→OV) (z0:Int) (n0 c0:Nat) (z1 z2:Int) (s0:Sl) (z3 z4 z5:Int) (s1 s2:Sl) (e0:List EO) (k1:Nat) (q0:LV):OV:=
 (oo (pu 25 [(.agg ⟨[.int .i64 z5,Sl.v 1 s1,Sl.v 1 s2]⟩),.int .i64 z1,.int .i64 z2]) none fun v0=>(oo (CQ v0) none fun l0=>(ll l0 none fun v1 l0=>(ll l0 none fun v2 l0=>(ll l0 (oo (Bt v1) none fun l1=>(ll l1 none fun v3 l1=>(ll l1 none fun v4 l1=>(ll l1 none fun v5 l1=>(ll l1 (oo (Bi .i64 v3) none fun x0=>(oo (Bj 1 v4) none fun s3=>(oo (Bj 1 v5) none fun s4=>(oo (Bi .i64 v2) none fun x1=>(bb (Au F4 e0) (bb (Au Ah q0) (bb (nt (Bd x1 (0:Int))) (Pf pu n ih0 ih1 z0 n0 c0 z1 z2 z3 z4 true z5 s1 s2 e0 k1 q0) (oo (pu 26 [Sl.v 1 s3,Sl.v 1 s0]) none fun v6=>(oo (Bf v6) none fun b0=>(bb (nt b0) (Pf pu n ih0 ih1 z0 n0 c0 z1 z2 z3 z4 true z5 s1 s2 e0 k1 q0) (oo (pu 26 [Sl.v 1 s4,Sl.v 1 s2]) none fun v7=>(oo (Bf v7) none fun b3=>(bb (nt b3) (Pf pu n ih0 ih1 z0 n0 c0 z1 z2 z3 z4 true z5 s1 s2 e0 k1 q0) (Pf pu n ih0 ih1 z0 n0 c0 z1 z2 z3 z4 (nt (Bd x0 z5)) z5 s1 s2 e0 k1 q0)))))))) none) none))))) fun _ _=>none))))) fun _ _=>none)))))
def Ub (pu:Af) (n:Nat) (ih0:Int→Nat→Nat→Int→Int→Int→Sl→Sl→List EO→Nat→LV→OV) (ih1:Int→Nat→Nat→Int→Int→Int→Int→Int→Sl→Sl→List EO→Nat→LV→OV) (z0:Int) (n0 c0:Nat) (z1 z2:Int) (s0:Sl) (z3 z4 z5:Int) (b0:Bool) (z6:Int) (s1 s2:Sl) (e0:List EO) (k1:Nat) (q0:LV):OV:=
 (bb b0 (some (.bool false)) (bb (Au F4 e0) (bb (Au Ah q0) (bb (AY z3 z0) (bb (GV 2 16 n0 c0 1 q0) (bb (Au Ah (Br (Am 0 q0) [.int .i64 z1,.int .i64 z2])) (QA pu n ih0 ih1 z0 (n0+1) (2*(n0+1)+bb false 1 0) z1 z2 s0 z4 z5 z6 s1 s2 e0 k1 (Br (Am 0 q0) [.int .i64 z1,.int .i64 z2])) none) none) (QA pu n ih0 ih1 z0 n0 c0 z1 z2 s0 z4 z5 z6 s1 s2 e0 k1 q0)) none) none))
def Ud (pu:Af) (n:Nat) (ih0:Int→Nat→Nat→Int→Int→Int→Sl→Sl→List EO→Nat→LV→OV) (ih1:Int→Nat→Nat→Int→Int→Int→Int→Int→Sl→Sl→List EO→Nat→LV→OV) (z0:Int) (n0 c0:Nat) (z1 z2 z3 z4 z5:Int) (s0 s1:Sl) (e0:List EO) (k1:Nat) (q0:LV):OV:=
 (bb (Au F4 e0) (bb (Au Ah q0) (bb (AY z2 (Int.ofNat (Sl.n s0))) (oo (pu 24 [Sl.v 1 s0,.int .i64 z1,.int .i64 z2]) none fun v0=>(oo (Bj 1 v0) none fun s2=>(oo (pu 23 [Sl.v 1 s2]) none fun v1=>(oo (Bi .i64 v1) none fun x0=>(oo (GD (.int .i64 x0) e0 0) none fun r0=>(oo (Bi .i64 (Wd r0 (.int .i64 (0:Int)))) none fun x1=>(bb (AY x1 (Aj .i64 (Int.sub z0 (1:Int)))) (Ub pu n ih0 ih1 z0 n0 c0 z1 z2 s2 x1 z3 z4 true z5 s0 s1 e0 k1 q0) (Ub pu n ih0 ih1 z0 n0 c0 z1 z2 s2 x1 z3 z4 (AY (Aj .i64 (Int.add z0 (1:Int))) x1) z5 s0 s1 e0 k1 q0)))))))) (Wz pu n ih0 z0 n0 c0 z3 z4 z5 s0 s1 e0 k1 q0)) none) none)
def L6 (pu:Af) (n:Nat) (ih0:Int→Nat→Nat→Int→Int→Int→Sl→Sl→List EO→Nat→LV→OV) (w:Nat):Int→Nat→Nat→Int→Int→Int→Int→Int→Sl→Sl→List EO→Nat→LV→OV:=
 Nat.rec (motive:=fun _=>Int→Nat→Nat→Int→Int→Int→Int→Int→Sl→Sl→List EO→Nat→LV→OV) (fun _ _ _ _ _ _ _ _ _ _ _ _ _=>none) (fun _ ih1=>Ud pu n ih0 ih1) w
def Ue (pu:Af) (n:Nat) (ih0:Int→Nat→Nat→Int→Int→Int→Sl→Sl→List EO→Nat→LV→OV) (z0:Int) (n0 c0:Nat) (z1 z2 z3:Int) (s0 s1:Sl) (e0:List EO) (k1:Nat) (q0:LV):OV:=
 (bb (Au F4 e0) (bb (Au Ah q0) (bb (AY z2 z1) (L6 pu n ih0 n z0 n0 c0 z2 (Aj .i64 (Int.add z2 (1:Int))) z1 z2 z3 s0 s1 e0 k1 q0) (Xc pu n z0 n0 c0 z3 s0 s1 q0)) none) none)
def I9 (pu:Af) (n w:Nat):Int→Nat→Nat→Int→Int→Int→Sl→Sl→List EO→Nat→LV→OV:=
 Nat.rec (motive:=fun _=>Int→Nat→Nat→Int→Int→Int→Sl→Sl→List EO→Nat→LV→OV) (fun _ _ _ _ _ _ _ _ _ _ _=>none) (fun _ ih0=>Ue pu n ih0) w
def m5_ (pu:Af) (n:Nat) (q1:LV):OV:=
 (bb (Au Ah q1) (bb (Nat.ble (0+22) (len q1)) (oo (pu 21 [(.agg ⟨(Aq 22 (Am 0 q1))⟩),(.int .i64 (6:Int)),(.int .i64 (4:Int))]) none fun v21=>(oo (Bt v21) none fun ZJ=>(ll ZJ none fun v25 ZJ=>(ll ZJ none fun v26 ZJ=>(ll ZJ none fun v27 ZJ=>(ll ZJ (oo (Bi .i64 v25) none fun x28=>(oo (Bj 1 v26) none fun s30=>(oo (Bj 1 v27) none fun s32=>(bb (Au closed2 [(.agg ⟨(Aq 22 (Am 0 q1))⟩),(.int .i64 (6:Int)),(.int .i64 (4:Int))]) (oo (pu 10220 [Sl.v 1 s32,(.bool false)]) none fun v0=>(oo (CQ v0) none fun l0=>(ll l0 none fun v1 l0=>(ll l0 none fun v2 l0=>(ll l0 (bb (FC v1 1) (oo (Fj v2) none fun y0=>(bb (Au F4 (Akd.es y0)) (bb (Au F4 (Akd.es y0)) (oo (pu 23 [Sl.v 1 s30]) none fun v3=>(oo (Bi .i64 v3) none fun x0=>(oo (GD (.int .i64 x0) (Akd.es y0) 0) none fun r0=>(oo (Bi .i64 (Wd r0 (.int .i64 (0:Int)))) none fun x1=>(I9 pu n n x1 0 0 (Int.ofNat (Sl.n s30)) (0:Int) x28 s30 s32 (Akd.es y0) (Akd.clock y0) ([]:LV)))))) none) none)) none) fun _ _=>none))))) none)))) fun _ _=>none)))))) none) none)
def m5 (pu:Af) (n:Nat) (args:LV):OV:=
 (ll args none fun a0 args=>(ll args (oo (Bt a0) none fun q1=>(bb (an (Nat.beq (len q1) 22) (Au Ah q1)) (m5_ pu n q1) none)) fun _ _=>none))
theorem AdK (pu:Af) (n:Nat) {v:Value} (hm:Yf pu n=some v):BN tt (Bb tabs HV pu (inl pu)) 1 XO (fr 187 []) DT (Fin tt 1 [.tmp 2] v):=by
 unfold Yf at hm
 refine .then ?_
 replace hm:=fD hm;obtain⟨b0,h0,hm⟩:=hm
 refine .reg (eD ((oo (pu 12 []) none fun v=>some (v,DT))) (AB h0) (eE)) ?_
 refine .ghs (fr 187 [(2,zB b0)]) DT (.k0 [false] [] [2]) ?_
 refine .ret ?_
 exact Fp (zB b0) hm
theorem AdL (pu:Af) (n:Nat) (z0:Int) (n0 c0:Nat) (z1:Int) (s0 s1:Sl) (q0:LV) {v:Value} (hm:Xc pu n z0 n0 c0 z1 s0 s1 q0=some v):BN tt (Bb tabs HV pu (inl pu)) 1 XP (fr 187 [(3,pt 1 0),(5,zI z0),(6,sc 2 0 2 n0 c0)]) (hT 3 [(oC [zI z1,Sl.v 1 s0,Sl.v 1 s1]),oC q0]) (Fin tt 1 [.tmp 2] v):=by
 unfold Xc at hm
 refine .then ?_
 replace hm:=Ab hm;obtain⟨v0,h0,hm⟩:=hm
 replace hm:=Ch hm;obtain⟨l0,rfl,hm⟩:=hm
 replace hm:=Ad hm;obtain⟨v1,l15957_0,rfl,hm⟩:=hm
 replace hm:=Ad hm;obtain⟨v2,l15957_1,rfl,hm⟩:=hm
 replace hm:=AC hm;obtain⟨rfl,hm⟩:=hm
 replace hm:=Al hm;obtain⟨s2,rfl,hm⟩:=hm
 replace hm:=Ai hm;obtain⟨x0,rfl,hm⟩:=hm
 refine .reg (eC 1 ((oo (pu 13 [(.agg ⟨[zI z1,Sl.v 1 s0,Sl.v 1 s1]⟩)]) none fun v=>some (v,(hT 3 [(oC [zI z1,Sl.v 1 s0,Sl.v 1 s1]),oC q0])))) (AB h0) (eE)) ?_
 replace hm:=Ae hm;obtain⟨h1,hm⟩:=hm
 refine .ghs (fr 187 [(3,pt 1 0),(5,zI z0),(6,sc 2 0 2 n0 c0),(13,(Sl.v 2 s2)),(14,zI x0)]) (hT 3 [(oC [zI z1,Sl.v 1 s0,Sl.v 1 s1]),oC q0]) (.k [2] [false] [.tmp 3 false,.tmp 6 false] [3,5,6,13,14] ⟨Dy h1,trivial⟩) ?_
 refine .then ?_
 replace hm:=Ab hm;obtain⟨v3,h2,hm⟩:=hm
 replace hm:=Ch hm;obtain⟨l1,rfl,hm⟩:=hm
 replace hm:=Ad hm;obtain⟨v4,l15978_0,rfl,hm⟩:=hm
 replace hm:=Ad hm;obtain⟨v5,l15978_1,rfl,hm⟩:=hm
 replace hm:=AC hm;obtain⟨rfl,hm⟩:=hm
 replace hm:=Al hm;obtain⟨s3,rfl,hm⟩:=hm
 replace hm:=Ai hm;obtain⟨x1,rfl,hm⟩:=hm
 refine .reg (eC 1 ((oo (pu 16 [(.agg ⟨[zI z1,Sl.v 1 s0,Sl.v 1 s1]⟩)]) none fun v=>some (v,(hT 3 [(oC [zI z1,Sl.v 1 s0,Sl.v 1 s1]),oC q0])))) (AB h2) (eE)) ?_
 refine .ghs (fr 187 [(5,zI z0),(6,sc 1 0 2 n0 c0),(13,(Sl.v 2 s2)),(14,zI x0),(15,Sl.v 1 s3),(16,zI x1)]) (hT 2 [oC q0]) (.k [2] [false] [.tmp 6 false] [5,6,13,14,15,16] ⟨Dy h1,trivial⟩) ?_
 refine .then (.join (v:=v) (fun y:Sl×Sl×Bool=>((fr 187 [(13,(Sl.v 2 y.1)),(15,(Sl.v 1 y.2.1)),(140,(zB y.2.2))]),DT)) (fun y=>VZ pu n y.1 y.2.1 y.2.2) ?_ ?_)
 ·rintro⟨s4,s5,b0⟩ hm
  unfold VZ at hm
  replace hm:=Ag hm;rcases hm with⟨h3,hm⟩ | ⟨h3,hm⟩
  ·refine .ifT b0 (by kernel_rfl) h3 ?_
   refine .then (.rK (.ghs (fr 187 [(2,zB false)]) DT (.k0 [false] [] [2]) ?_))
   refine .ret ?_
   exact Fp (zB false) hm
  ·refine .ifF b0 (by kernel_rfl) h3 ?_
   refine .skip (.ghs (fr 187 [(13,(Sl.v 2 s4)),(15,Sl.v 1 s5)]) DT (.k0 [false] [] [13,15]) ?_)
   refine .join (v:=v) (fun y:Unit=>((fr 187 []),DT)) (fun y=>Yf pu n) ?_ ?_
   ·rintro _ hm
    exact AdK pu n hm
   ·refine .then (.rK (.ghs (fr 187 [(13,(Sl.v 2 s4)),(141,Sl.v 1 s5),(142,(zI (Int.ofNat (Sl.n s5)))),(143,(zI (0:Int)))]) DT (.k0 [false] [] [13,141,142,143]) ?_))
    refine .block (.loopM (v:=v) (fun y:Sl×Sl×Int×Int=>((fr 187 [(13,(Sl.v 2 y.1)),(141,(Sl.v 1 y.2.1)),(142,(zI y.2.2.1)),(143,(zI y.2.2.2))]),DT)) (fun w y=>Gq pu n w y.1 y.2.1 y.2.2.1 y.2.2.2) n ⟨(s4,s5,(Int.ofNat (Sl.n s5)),(0:Int)),hm,(.k0 [false] [] [13,141,142,143])⟩ (fun _=>rfl) ?_)
    rintro w0 ⟨s6,s7,z2,z3⟩ hm
    replace hm:VY pu n (Gq pu n w0) s6 s7 z2 z3=some v:=hm
    unfold VY at hm
    refine .then (.rK (.ghs (fr 187 [(13,(Sl.v 2 s6)),(141,Sl.v 1 s7),(142,zI z2),(143,zI z3),(144,(zB (AY z3 z2)))]) DT (.k0 [false] [] [13,141,142,143,144]) ?_))
    refine .then ?_
    replace hm:=Ag hm;rcases hm with⟨h4,hm⟩ | ⟨h4,hm⟩
    ·refine FX (AY z3 z2) h4 ?_
     refine .skip (.ghs (fr 187 [(13,(Sl.v 2 s6)),(141,Sl.v 1 s7),(142,zI z2),(143,zI z3)]) DT (.k0 [false] [] [13,141,142,143]) ?_)
     refine .join (v:=v) (fun y:Sl×Sl×Int×Int=>((fr 187 [(13,(Sl.v 2 y.1)),(141,(Sl.v 1 y.2.1)),(142,(zI y.2.2.1)),(143,(zI y.2.2.2))]),DT)) (fun y=>Yg pu n (Gq pu n w0) y.1 y.2.1 y.2.2.1 y.2.2.2) ?_ ?_
     ·rintro⟨s8,s9,z4,z5⟩ hm
      unfold Yg at hm
      refine .rK ?_
      exact⟨(s8,s9,z4,(Aj .i64 (Int.add z5 (1:Int)))),hm,(.k0 [false] [] [13,141,142,143])⟩
     ·refine .block (.then ?_)
      replace hm:=Ab hm;obtain⟨k1,h5,hm⟩:=hm
      obtain rfl:=AR h5
      replace hm:=Ae hm;obtain⟨h6,hm⟩:=hm
      replace hm:=fC hm;obtain⟨s10,h7,hm⟩:=hm
      refine .reg (eD (keep DT (bb (an (Nat.blt k1 (Sl.n s7)) true) (some (Cv (k1*1) (Sl.cs s7))) none)) (AX h6) (eD (keep DT (AL (Sl.cs s7) (k1*1))) (AZ h7) (eE))) ?_
      refine .ghs (fr 187 [(13,(Sl.v 2 s6)),(18,Sl.v 1 s10),(141,Sl.v 1 s7),(142,zI z2),(143,(zI (Int.ofNat k1)))]) DT (.k0 [false] [] [13,18,141,142,143]) ?_
      refine .then (.rK (.ghs (fr 187 [(13,(Sl.v 2 s6)),(18,Sl.v 1 s10),(141,Sl.v 1 s7),(142,zI z2),(143,(zI (Int.ofNat k1))),(147,Sl.v 1 s10),(148,(zI (Int.ofNat (Sl.n s10)))),(149,(zI (0:Int)))]) DT (.k0 [false] [] [13,18,141,142,143,147,148,149]) ?_))
      refine .block (.loopM (v:=v) (fun y:Sl×Sl×Sl×Int×Int×Sl×Int×Int=>((fr 187 [(13,(Sl.v 2 y.1)),(18,(Sl.v 1 y.2.1)),(141,(Sl.v 1 y.2.2.1)),(142,(zI y.2.2.2.1)),(143,(zI y.2.2.2.2.1)),(147,(Sl.v 1 y.2.2.2.2.2.1)),(148,(zI y.2.2.2.2.2.2.1)),(149,(zI y.2.2.2.2.2.2.2))]),DT)) (fun w y=>Jw pu n (Gq pu n w0) w y.1 y.2.1 y.2.2.1 y.2.2.2.1 y.2.2.2.2.1 y.2.2.2.2.2.1 y.2.2.2.2.2.2.1 y.2.2.2.2.2.2.2) n ⟨(s6,s10,s7,z2,(Int.ofNat k1),s10,(Int.ofNat (Sl.n s10)),(0:Int)),hm,(.k0 [false] [] [13,18,141,142,143,147,148,149])⟩ (fun _=>rfl) ?_)
      rintro w1 ⟨s11,s12,s13,z6,z7,s14,z8,z9⟩ hm
      replace hm:VW pu n (Gq pu n w0) (Jw pu n (Gq pu n w0) w1) s11 s12 s13 z6 z7 s14 z8 z9=some v:=hm
      unfold VW at hm
      refine .then (.rK (.ghs (fr 187 [(13,(Sl.v 2 s11)),(18,Sl.v 1 s12),(141,Sl.v 1 s13),(142,zI z6),(143,zI z7),(147,Sl.v 1 s14),(148,zI z8),(149,zI z9),(150,(zB (AY z9 z8)))]) DT (.k0 [false] [] [13,18,141,142,143,147,148,149,150]) ?_))
      refine .then ?_
      replace hm:=Ag hm;rcases hm with⟨h8,hm⟩ | ⟨h8,hm⟩
      ·refine FX (AY z9 z8) h8 ?_
       refine .skip (.ghs (fr 187 [(13,(Sl.v 2 s11)),(18,Sl.v 1 s12),(141,Sl.v 1 s13),(142,zI z6),(143,zI z7),(147,Sl.v 1 s14),(148,zI z8),(149,zI z9)]) DT (.k0 [false] [] [13,18,141,142,143,147,148,149]) ?_)
       refine .join (v:=v) (fun y:Sl×Sl×Sl×Int×Int×Sl×Int×Int=>((fr 187 [(13,(Sl.v 2 y.1)),(18,(Sl.v 1 y.2.1)),(141,(Sl.v 1 y.2.2.1)),(142,(zI y.2.2.2.1)),(143,(zI y.2.2.2.2.1)),(147,(Sl.v 1 y.2.2.2.2.2.1)),(148,(zI y.2.2.2.2.2.2.1)),(149,(zI y.2.2.2.2.2.2.2))]),DT)) (fun y=>Yh pu n (Gq pu n w0) (Jw pu n (Gq pu n w0) w1) y.1 y.2.1 y.2.2.1 y.2.2.2.1 y.2.2.2.2.1 y.2.2.2.2.2.1 y.2.2.2.2.2.2.1 y.2.2.2.2.2.2.2) ?_ ?_
       ·rintro⟨s15,s16,s17,z10,z11,s18,z12,z13⟩ hm
        unfold Yh at hm
        refine .rK ?_
        exact⟨(s15,s16,s17,z10,z11,s18,z12,(Aj .i64 (Int.add z13 (1:Int)))),hm,(.k0 [false] [] [13,18,141,142,143,147,148,149])⟩
       ·refine .block (.then ?_)
        replace hm:=Ab hm;obtain⟨k2,h9,hm⟩:=hm
        obtain rfl:=AR h9
        replace hm:=Ae hm;obtain⟨h10,hm⟩:=hm
        replace hm:=Hy hm;obtain⟨x2,h11,hm⟩:=hm
        refine .reg (eC 1 (keep DT (bb (an (Nat.blt k2 (Sl.n s14)) true) (some (Cv (k2*1) (Sl.cs s14))) none)) (AX h10) (eD (keep DT (AL (Sl.cs s14) (k2*1))) (AZ h11) (eE))) ?_
        refine .ghs (fr 187 [(13,(Sl.v 2 s11)),(18,Sl.v 1 s12),(19,(zI (Int.ofNat k2))),(20,zI x2),(141,Sl.v 1 s13),(142,zI z6),(143,zI z7),(147,Sl.v 1 s14),(148,zI z8),(149,(zI (Int.ofNat k2)))]) DT (.k0 [false] [] [13,18,19,20,141,142,143,147,148,149]) ?_
        refine .then ?_
        replace hm:=Ae hm;obtain⟨h12,hm⟩:=hm
        replace hm:=Ae hm;obtain⟨h13,hm⟩:=hm
        refine .reg (eC 2 (keep DT (Ns ti3 ⟨1,(Sl.n s12),(Sl.fl s12),(Sl.cs s12)⟩ none (some (zI (Int.ofNat k2))) none)) (ME (c1:=(Nat.ble k2 (Sl.n s12))) (c2:=true) (l:=0) (h:=k2) h12 (by kernel_rfl) (by kernel_rfl) h13 (by kernel_rfl) rfl) (eE)) ?_
        refine .ghs (fr 187 [(13,(Sl.v 2 s11)),(18,Sl.v 1 s12),(20,zI x2),(141,Sl.v 1 s13),(142,zI z6),(143,zI z7),(147,Sl.v 1 s14),(148,zI z8),(149,(zI (Int.ofNat k2))),(156,(Sl.v 1 (Sl.mk (k2 - 0) (bb (an (Nat.beq k2 (Sl.n s12)) (Dp false (Nat.beq (Sl.fl s12) 1))) 1 0) (Aq ((k2 - 0)*1) (Am (0*1) (Sl.cs s12)))))),(157,(zI (Int.ofNat (Sl.n (Sl.mk (k2 - 0) (bb (an (Nat.beq k2 (Sl.n s12)) (Dp false (Nat.beq (Sl.fl s12) 1))) 1 0) (Aq ((k2 - 0)*1) (Am (0*1) (Sl.cs s12)))))))),(158,(zI (0:Int)))]) DT (.k0 [false] [] [13,18,20,141,142,143,147,148,149,156,157,158]) ?_
        refine .block (.loopM (v:=v) (fun y:Sl×Sl×Int×Sl×Int×Int×Sl×Int×Int×Sl×Int×Int=>((fr 187 [(13,(Sl.v 2 y.1)),(18,(Sl.v 1 y.2.1)),(20,(zI y.2.2.1)),(141,(Sl.v 1 y.2.2.2.1)),(142,(zI y.2.2.2.2.1)),(143,(zI y.2.2.2.2.2.1)),(147,(Sl.v 1 y.2.2.2.2.2.2.1)),(148,(zI y.2.2.2.2.2.2.2.1)),(149,(zI y.2.2.2.2.2.2.2.2.1)),(156,(Sl.v 1 y.2.2.2.2.2.2.2.2.2.1)),(157,(zI y.2.2.2.2.2.2.2.2.2.2.1)),(158,(zI y.2.2.2.2.2.2.2.2.2.2.2))]),DT)) (fun w y=>O0 pu n (Gq pu n w0) (Jw pu n (Gq pu n w0) w1) w y.1 y.2.1 y.2.2.1 y.2.2.2.1 y.2.2.2.2.1 y.2.2.2.2.2.1 y.2.2.2.2.2.2.1 y.2.2.2.2.2.2.2.1 y.2.2.2.2.2.2.2.2.1 y.2.2.2.2.2.2.2.2.2.1 y.2.2.2.2.2.2.2.2.2.2.1 y.2.2.2.2.2.2.2.2.2.2.2) n ⟨(s11,s12,x2,s13,z6,z7,s14,z8,(Int.ofNat k2),(Sl.mk (k2 - 0) (bb (an (Nat.beq k2 (Sl.n s12)) (Dp false (Nat.beq (Sl.fl s12) 1))) 1 0) (Aq ((k2 - 0)*1) (Am (0*1) (Sl.cs s12)))),(Int.ofNat (Sl.n (Sl.mk (k2 - 0) (bb (an (Nat.beq k2 (Sl.n s12)) (Dp false (Nat.beq (Sl.fl s12) 1))) 1 0) (Aq ((k2 - 0)*1) (Am (0*1) (Sl.cs s12)))))),(0:Int)),hm,(.k0 [false] [] [13,18,20,141,142,143,147,148,149,156,157,158])⟩ (fun _=>rfl) ?_)
        rintro w2 ⟨s19,s20,z14,s21,z15,z16,s22,z17,z18,s23,z19,z20⟩ hm
        replace hm:VV pu n (Gq pu n w0) (Jw pu n (Gq pu n w0) w1) (O0 pu n (Gq pu n w0) (Jw pu n (Gq pu n w0) w1) w2) s19 s20 z14 s21 z15 z16 s22 z17 z18 s23 z19 z20=some v:=hm
        unfold VV at hm
        refine .then (.rK (.ghs (fr 187 [(13,(Sl.v 2 s19)),(18,Sl.v 1 s20),(20,zI z14),(141,Sl.v 1 s21),(142,zI z15),(143,zI z16),(147,Sl.v 1 s22),(148,zI z17),(149,zI z18),(156,Sl.v 1 s23),(157,zI z19),(158,zI z20),(159,(zB (AY z20 z19)))]) DT (.k0 [false] [] [13,18,20,141,142,143,147,148,149,156,157,158,159]) ?_))
        refine .then ?_
        replace hm:=Ag hm;rcases hm with⟨h14,hm⟩ | ⟨h14,hm⟩
        ·refine FX (AY z20 z19) h14 ?_
         refine .skip (.ghs (fr 187 [(13,(Sl.v 2 s19)),(18,Sl.v 1 s20),(20,zI z14),(141,Sl.v 1 s21),(142,zI z15),(143,zI z16),(147,Sl.v 1 s22),(148,zI z17),(149,zI z18),(156,Sl.v 1 s23),(157,zI z19),(158,zI z20)]) DT (.k0 [false] [] [13,18,20,141,142,143,147,148,149,156,157,158]) ?_)
         refine .join (v:=v) (fun y:Sl×Sl×Int×Sl×Int×Int×Sl×Int×Int×Sl×Int×Int=>((fr 187 [(13,(Sl.v 2 y.1)),(18,(Sl.v 1 y.2.1)),(20,(zI y.2.2.1)),(141,(Sl.v 1 y.2.2.2.1)),(142,(zI y.2.2.2.2.1)),(143,(zI y.2.2.2.2.2.1)),(147,(Sl.v 1 y.2.2.2.2.2.2.1)),(148,(zI y.2.2.2.2.2.2.2.1)),(149,(zI y.2.2.2.2.2.2.2.2.1)),(156,(Sl.v 1 y.2.2.2.2.2.2.2.2.2.1)),(157,(zI y.2.2.2.2.2.2.2.2.2.2.1)),(158,(zI y.2.2.2.2.2.2.2.2.2.2.2))]),DT)) (fun y=>Yi pu n (Gq pu n w0) (Jw pu n (Gq pu n w0) w1) (O0 pu n (Gq pu n w0) (Jw pu n (Gq pu n w0) w1) w2) y.1 y.2.1 y.2.2.1 y.2.2.2.1 y.2.2.2.2.1 y.2.2.2.2.2.1 y.2.2.2.2.2.2.1 y.2.2.2.2.2.2.2.1 y.2.2.2.2.2.2.2.2.1 y.2.2.2.2.2.2.2.2.2.1 y.2.2.2.2.2.2.2.2.2.2.1 y.2.2.2.2.2.2.2.2.2.2.2) ?_ ?_
         ·rintro⟨s24,s25,z21,s26,z22,z23,s27,z24,z25,s28,z26,z27⟩ hm
          unfold Yi at hm
          refine .rK ?_
          exact⟨(s24,s25,z21,s26,z22,z23,s27,z24,z25,s28,z26,(Aj .i64 (Int.add z27 (1:Int)))),hm,(.k0 [false] [] [13,18,20,141,142,143,147,148,149,156,157,158])⟩
         ·refine .block (.then ?_)
          replace hm:=Ab hm;obtain⟨k3,h15,hm⟩:=hm
          obtain rfl:=AR h15
          replace hm:=Ae hm;obtain⟨h16,hm⟩:=hm
          replace hm:=Hy hm;obtain⟨x3,h17,hm⟩:=hm
          refine .reg (eD (keep DT (bb (an (Nat.blt k3 (Sl.n s23)) true) (some (Cv (k3*1) (Sl.cs s23))) none)) (AX h16) (eD (keep DT (AL (Sl.cs s23) (k3*1))) (AZ h17) (eE))) ?_
          refine .ghs (fr 187 [(13,(Sl.v 2 s19)),(18,Sl.v 1 s20),(20,zI z14),(22,zI x3),(141,Sl.v 1 s21),(142,zI z15),(143,zI z16),(147,Sl.v 1 s22),(148,zI z17),(149,zI z18),(156,Sl.v 1 s23),(157,zI z19),(158,(zI (Int.ofNat k3)))]) DT (.k0 [false] [] [13,18,20,22,141,142,143,147,148,149,156,157,158]) ?_
          refine .then (.rK (.ghs (fr 187 [(13,(Sl.v 2 s19)),(18,Sl.v 1 s20),(20,zI z14),(22,zI x3),(23,zB false),(141,Sl.v 1 s21),(142,zI z15),(143,zI z16),(147,Sl.v 1 s22),(148,zI z17),(149,zI z18),(156,Sl.v 1 s23),(157,zI z19),(158,(zI (Int.ofNat k3)))]) DT (.k0 [false] [] [13,18,20,22,23,141,142,143,147,148,149,156,157,158]) ?_))
          refine .join (v:=v) (fun y:Sl×Sl×Int×Bool×Sl×Int×Int×Sl×Int×Int×Sl×Int×Int=>((fr 187 [(13,(Sl.v 2 y.1)),(18,(Sl.v 1 y.2.1)),(20,(zI y.2.2.1)),(23,(zB y.2.2.2.1)),(141,(Sl.v 1 y.2.2.2.2.1)),(142,(zI y.2.2.2.2.2.1)),(143,(zI y.2.2.2.2.2.2.1)),(147,(Sl.v 1 y.2.2.2.2.2.2.2.1)),(148,(zI y.2.2.2.2.2.2.2.2.1)),(149,(zI y.2.2.2.2.2.2.2.2.2.1)),(156,(Sl.v 1 y.2.2.2.2.2.2.2.2.2.2.1)),(157,(zI y.2.2.2.2.2.2.2.2.2.2.2.1)),(158,(zI y.2.2.2.2.2.2.2.2.2.2.2.2))]),DT)) (fun y=>ZT pu n (Gq pu n w0) (Jw pu n (Gq pu n w0) w1) (O0 pu n (Gq pu n w0) (Jw pu n (Gq pu n w0) w1) w2) y.1 y.2.1 y.2.2.1 y.2.2.2.1 y.2.2.2.2.1 y.2.2.2.2.2.1 y.2.2.2.2.2.2.1 y.2.2.2.2.2.2.2.1 y.2.2.2.2.2.2.2.2.1 y.2.2.2.2.2.2.2.2.2.1 y.2.2.2.2.2.2.2.2.2.2.1 y.2.2.2.2.2.2.2.2.2.2.2.1 y.2.2.2.2.2.2.2.2.2.2.2.2) ?_ ?_
          ·rintro⟨s29,s30,z28,b3,s31,z29,z30,s32,z31,z32,s33,z33,z34⟩ hm
           unfold ZT at hm
           refine .then (.rK (.ghs (fr 187 [(13,(Sl.v 2 s29)),(18,Sl.v 1 s30),(20,zI z28),(141,Sl.v 1 s31),(142,zI z29),(143,zI z30),(147,Sl.v 1 s32),(148,zI z31),(149,zI z32),(156,Sl.v 1 s33),(157,zI z33),(158,zI z34),(182,(zB (nt b3)))]) DT (.k0 [false] [] [13,18,20,141,142,143,147,148,149,156,157,158,182]) ?_))
           replace hm:=Ag hm;rcases hm with⟨h18,hm⟩ | ⟨h18,hm⟩
           ·refine FX (nt b3) h18 ?_
            refine .then (.rK (.ghs (fr 187 [(2,zB false)]) DT (.k0 [false] [] [2]) ?_))
            refine .ret ?_
            exact Fp (zB false) hm
           ·refine FY (nt b3) h18 ?_
            refine .skip ?_
            exact⟨(s29,s30,z28,s31,z29,z30,s32,z31,z32,s33,z33,z34),hm,(.k0 [false] [] [13,18,20,141,142,143,147,148,149,156,157,158])⟩
          ·refine .then (.rK (.ghs (fr 187 [(13,(Sl.v 2 s19)),(18,Sl.v 1 s20),(20,zI z14),(22,zI x3),(23,zB false),(141,Sl.v 1 s21),(142,zI z15),(143,zI z16),(147,Sl.v 1 s22),(148,zI z17),(149,zI z18),(156,Sl.v 1 s23),(157,zI z19),(158,(zI (Int.ofNat k3))),(162,(Sl.v 2 s19)),(163,(zI (Int.ofNat (Sl.n s19)))),(164,(zI (0:Int)))]) DT (.k0 [false] [] [13,18,20,22,23,141,142,143,147,148,149,156,157,158,162,163,164]) ?_))
           refine .block (.loopM (v:=v) (fun y:Sl×Sl×Int×Int×Bool×Sl×Int×Int×Sl×Int×Int×Sl×Int×Int×Sl×Int×Int=>((fr 187 [(13,(Sl.v 2 y.1)),(18,(Sl.v 1 y.2.1)),(20,(zI y.2.2.1)),(22,(zI y.2.2.2.1)),(23,(zB y.2.2.2.2.1)),(141,(Sl.v 1 y.2.2.2.2.2.1)),(142,(zI y.2.2.2.2.2.2.1)),(143,(zI y.2.2.2.2.2.2.2.1)),(147,(Sl.v 1 y.2.2.2.2.2.2.2.2.1)),(148,(zI y.2.2.2.2.2.2.2.2.2.1)),(149,(zI y.2.2.2.2.2.2.2.2.2.2.1)),(156,(Sl.v 1 y.2.2.2.2.2.2.2.2.2.2.2.1)),(157,(zI y.2.2.2.2.2.2.2.2.2.2.2.2.1)),(158,(zI y.2.2.2.2.2.2.2.2.2.2.2.2.2.1)),(162,(Sl.v 2 y.2.2.2.2.2.2.2.2.2.2.2.2.2.2.1)),(163,(zI y.2.2.2.2.2.2.2.2.2.2.2.2.2.2.2.1)),(164,(zI y.2.2.2.2.2.2.2.2.2.2.2.2.2.2.2.2))]),DT)) (fun w y=>Qz pu n (Gq pu n w0) (Jw pu n (Gq pu n w0) w1) (O0 pu n (Gq pu n w0) (Jw pu n (Gq pu n w0) w1) w2) w y.1 y.2.1 y.2.2.1 y.2.2.2.1 y.2.2.2.2.1 y.2.2.2.2.2.1 y.2.2.2.2.2.2.1 y.2.2.2.2.2.2.2.1 y.2.2.2.2.2.2.2.2.1 y.2.2.2.2.2.2.2.2.2.1 y.2.2.2.2.2.2.2.2.2.2.1 y.2.2.2.2.2.2.2.2.2.2.2.1 y.2.2.2.2.2.2.2.2.2.2.2.2.1 y.2.2.2.2.2.2.2.2.2.2.2.2.2.1 y.2.2.2.2.2.2.2.2.2.2.2.2.2.2.1 y.2.2.2.2.2.2.2.2.2.2.2.2.2.2.2.1 y.2.2.2.2.2.2.2.2.2.2.2.2.2.2.2.2) n ⟨(s19,s20,z14,x3,false,s21,z15,z16,s22,z17,z18,s23,z19,(Int.ofNat k3),s19,(Int.ofNat (Sl.n s19)),(0:Int)),hm,(.k0 [false] [] [13,18,20,22,23,141,142,143,147,148,149,156,157,158,162,163,164])⟩ (fun _=>rfl) ?_)
           rintro w3 ⟨s34,s35,z35,z36,b4,s36,z37,z38,s37,z39,z40,s38,z41,z42,s39,z43,z44⟩ hm
           replace hm:Pe pu n (Gq pu n w0) (Jw pu n (Gq pu n w0) w1) (O0 pu n (Gq pu n w0) (Jw pu n (Gq pu n w0) w1) w2) (Qz pu n (Gq pu n w0) (Jw pu n (Gq pu n w0) w1) (O0 pu n (Gq pu n w0) (Jw pu n (Gq pu n w0) w1) w2) w3) s34 s35 z35 z36 b4 s36 z37 z38 s37 z39 z40 s38 z41 z42 s39 z43 z44=some v:=hm
           unfold Pe at hm
           refine .then (.rK (.ghs (fr 187 [(13,(Sl.v 2 s34)),(18,Sl.v 1 s35),(20,zI z35),(22,zI z36),(23,zB b4),(141,Sl.v 1 s36),(142,zI z37),(143,zI z38),(147,Sl.v 1 s37),(148,zI z39),(149,zI z40),(156,Sl.v 1 s38),(157,zI z41),(158,zI z42),(162,(Sl.v 2 s39)),(163,zI z43),(164,zI z44),(165,(zB (AY z44 z43)))]) DT (.k0 [false] [] [13,18,20,22,23,141,142,143,147,148,149,156,157,158,162,163,164,165]) ?_))
           refine .then ?_
           replace hm:=Ag hm;rcases hm with⟨h19,hm⟩ | ⟨h19,hm⟩
           ·refine FX (AY z44 z43) h19 ?_
            refine .skip (.ghs (fr 187 [(13,(Sl.v 2 s34)),(18,Sl.v 1 s35),(20,zI z35),(22,zI z36),(23,zB b4),(141,Sl.v 1 s36),(142,zI z37),(143,zI z38),(147,Sl.v 1 s37),(148,zI z39),(149,zI z40),(156,Sl.v 1 s38),(157,zI z41),(158,zI z42),(162,(Sl.v 2 s39)),(163,zI z43),(164,zI z44)]) DT (.k0 [false] [] [13,18,20,22,23,141,142,143,147,148,149,156,157,158,162,163,164]) ?_)
            refine .then (.block (.then ?_))
            replace hm:=Ab hm;obtain⟨k4,h20,hm⟩:=hm
            obtain rfl:=AR h20
            replace hm:=Ae hm;obtain⟨h21,hm⟩:=hm
            replace hm:=Ae hm;obtain⟨h22,hm⟩:=hm
            replace hm:=Hy hm;obtain⟨x4,h23,hm⟩:=hm
            replace hm:=Hy hm;obtain⟨x5,h24,hm⟩:=hm
            refine .reg (eD (keep DT (bb (an (Nat.blt k4 (Sl.n s39)) true) (some (Cv (k4*2) (Sl.cs s39))) none)) (AX h21) (eD (keep DT (bb (Nat.ble ((k4*2)+2) (len (Sl.cs s39))) (some (.agg ⟨Aq 2 (Am (k4*2) (Sl.cs s39))⟩)) none)) (Pd h22 (Ca h23 (Ca h24 rfl))) (eE))) ?_
            refine .ghs (fr 187 [(13,(Sl.v 2 s34)),(18,Sl.v 1 s35),(20,zI z35),(22,zI z36),(23,zB b4),(25,pt 1 0),(141,Sl.v 1 s36),(142,zI z37),(143,zI z38),(147,Sl.v 1 s37),(148,zI z39),(149,zI z40),(156,Sl.v 1 s38),(157,zI z41),(158,zI z42),(162,(Sl.v 2 s39)),(163,zI z43),(164,(zI (Int.ofNat k4)))]) (hT 2 [(oC [zI x4,zI x5])]) (.k0 [false] [.tmp 25 false] [13,18,20,22,23,25,141,142,143,147,148,149,156,157,158,162,163,164]) ?_
            replace hm:=Ag hm;rcases hm with⟨h25,hm⟩ | ⟨h25,hm⟩
            ·refine .reg (eD (some ((zB b4),(hT 2 [(oC [zI x4,zI x5])]))) (show _=some ((zB true),_) from (by rw[show b4=true from h25])) (eE)) ?_
             refine .ghs (fr 187 [(13,(Sl.v 2 s34)),(18,Sl.v 1 s35),(20,zI z35),(22,zI z36),(23,zB true),(141,Sl.v 1 s36),(142,zI z37),(143,zI z38),(147,Sl.v 1 s37),(148,zI z39),(149,zI z40),(156,Sl.v 1 s38),(157,zI z41),(158,zI z42),(162,(Sl.v 2 s39)),(163,zI z43),(164,(zI (Int.ofNat k4)))]) DT (.k0 [false] [] [13,18,20,22,23,141,142,143,147,148,149,156,157,158,162,163,164]) ?_
             refine .rK ?_
             exact⟨(s34,s35,z35,z36,true,s36,z37,z38,s37,z39,z40,s38,z41,z42,s39,z43,(Aj .i64 (Int.add (Int.ofNat k4) (1:Int)))),hm,(.k0 [false] [] [13,18,20,22,23,141,142,143,147,148,149,156,157,158,162,163,164])⟩
            ·refine .reg (eD (some ((zB b4),(hT 2 [(oC [zI x4,zI x5])]))) (show _=some ((zB false),_) from (by rw[show b4=false from h25])) (eE)) ?_
             refine .ghs (fr 187 [(13,(Sl.v 2 s34)),(18,Sl.v 1 s35),(20,zI z35),(22,zI z36),(23,(zB (bq true (an (Bd x4 (bb (AY z36 z35) z36 z35)) (an (Bd x5 (bb (AY z35 z36) z36 z35)) true))))),(141,Sl.v 1 s36),(142,zI z37),(143,zI z38),(147,Sl.v 1 s37),(148,zI z39),(149,zI z40),(156,Sl.v 1 s38),(157,zI z41),(158,zI z42),(162,(Sl.v 2 s39)),(163,zI z43),(164,(zI (Int.ofNat k4)))]) DT (.k0 [false] [] [13,18,20,22,23,141,142,143,147,148,149,156,157,158,162,163,164]) ?_
             refine .rK ?_
             exact⟨(s34,s35,z35,z36,(bq true (an (Bd x4 (bb (AY z36 z35) z36 z35)) (an (Bd x5 (bb (AY z35 z36) z36 z35)) true))),s36,z37,z38,s37,z39,z40,s38,z41,z42,s39,z43,(Aj .i64 (Int.add (Int.ofNat k4) (1:Int)))),hm,(.k0 [false] [] [13,18,20,22,23,141,142,143,147,148,149,156,157,158,162,163,164])⟩
           ·refine FY (AY z44 z43) h19 ?_
            refine .exit ?_
            exact⟨(s34,s35,z35,b4,s36,z37,z38,s37,z39,z40,s38,z41,z42),hm,(.k0 [false] [] [13,18,20,23,141,142,143,147,148,149,156,157,158])⟩
        ·refine FY (AY z20 z19) h14 ?_
         refine .exit ?_
         exact⟨(s19,s20,s21,z15,z16,s22,z17,z18),hm,(.k0 [false] [] [13,18,141,142,143,147,148,149])⟩
      ·refine FY (AY z9 z8) h8 ?_
       refine .exit ?_
       exact⟨(s11,s13,z6,z7),hm,(.k0 [false] [] [13,141,142,143])⟩
    ·refine FY (AY z3 z2) h4 ?_
     refine .exit ?_
     exact⟨(),hm,(.k0 [false] [] [])⟩
 ·replace hm:=Ag hm;rcases hm with⟨h26,hm⟩ | ⟨h26,hm⟩
  ·refine .reg (eC 1 (some ((zB (nt (Bd x0 (0:Int)))),(hT 2 [oC q0]))) (show _=some ((zB true),_) from (by rw[show (nt (Bd x0 (0:Int)))=true from h26])) (eE)) ?_
   exact⟨(s2,s3,true),hm,(.k0 [false] [] [13,15,140])⟩
  ·replace hm:=Ag hm;rcases hm with⟨h27,hm⟩ | ⟨h27,hm⟩
   ·refine .reg (eC 1 (some ((zB (nt (Bd x0 (0:Int)))),(hT 2 [oC q0]))) (show _=some ((zB false),_) from (by rw[show (nt (Bd x0 (0:Int)))=false from h26])) (eC 2 (some ((zB (nt (Bd x1 (0:Int)))),(hT 2 [oC q0]))) (show _=some ((zB true),_) from (by rw[show (nt (Bd x1 (0:Int)))=true from h27])) (eE))) ?_
    exact⟨(s2,s3,true),hm,(.k0 [false] [] [13,15,140])⟩
   ·replace hm:=Ae hm;obtain⟨h28,hm⟩:=hm
    replace hm:=Ab hm;obtain⟨v6,h29,hm⟩:=hm
    replace hm:=Ch hm;obtain⟨l2,rfl,hm⟩:=hm
    replace hm:=Ad hm;obtain⟨v7,l30497_0,rfl,hm⟩:=hm
    replace hm:=AC hm;obtain⟨rfl,hm⟩:=hm
    replace hm:=Be hm;obtain⟨b6,rfl,hm⟩:=hm
    replace hm:=Ag hm;rcases hm with⟨h30,hm⟩ | ⟨h30,hm⟩
    ·refine .reg (eC 1 (some ((zB (nt (Bd x0 (0:Int)))),(hT 2 [oC q0]))) (show _=some ((zB false),_) from (by rw[show (nt (Bd x0 (0:Int)))=false from h26])) (eC 2 (some ((zB (nt (Bd x1 (0:Int)))),(hT 2 [oC q0]))) (show _=some ((zB false),_) from (by rw[show (nt (Bd x1 (0:Int)))=false from h27])) (eC 4 (EK tabs [[some 2],[some 2]] 2 [] [] (pu 10150) [(Sl.v 2 s2),sc 1 0 2 n0 c0] (hT 2 [oC q0])) (EL (as:=[(Sl.v 2 s2),(Sl.v 2 (Sl.mk n0 0 (Aq (n0*2) (Am 0 q0))))]) (H1:=(hT 2 [.dead])) (BS (Dm (KQ (CV (z:=2) (v:=(Sl.v 2 s2)) (H:=(hT 2 [oC q0])) (by kernel_rfl) (by kernel_rfl) (by kernel_rfl)))) (BS (Dm (KQ (show ER 2 (sc 1 0 2 n0 c0) (hT 2 [oC q0])=some ((Sl.v 2 (Sl.mk n0 0 (Aq (n0*2) (Am 0 q0)))),(hT 2 [.dead])) from KH 1 0 2 n0 c0 q0 [] (by kernel_rfl) (by kernel_rfl) h28))) Gj)) (EI (H2:=(hT 2 [.dead])) (v:=(zB b6)) (v':=(zB b6)) [some 0] [] [] [(Sl.v 2 s2),(Sl.v 2 (Sl.mk n0 0 (Aq (n0*2) (Am 0 q0))))] [] [] [some 0,none] [] [] (by kernel_rfl) BX (Eq.trans (by kernel_rfl) h29) BX BX)) (eD (some ((zB (nt b6)),(hT 2 [.dead]))) (show _=some ((zB true),_) from (by rw[show (nt b6)=true from h30])) (eE))))) ?_
     exact⟨(s2,s3,true),hm,(.k0 [false] [] [13,15,140])⟩
    ·refine .reg (eC 1 (some ((zB (nt (Bd x0 (0:Int)))),(hT 2 [oC q0]))) (show _=some ((zB false),_) from (by rw[show (nt (Bd x0 (0:Int)))=false from h26])) (eC 2 (some ((zB (nt (Bd x1 (0:Int)))),(hT 2 [oC q0]))) (show _=some ((zB false),_) from (by rw[show (nt (Bd x1 (0:Int)))=false from h27])) (eC 4 (EK tabs [[some 2],[some 2]] 2 [] [] (pu 10150) [(Sl.v 2 s2),sc 1 0 2 n0 c0] (hT 2 [oC q0])) (EL (as:=[(Sl.v 2 s2),(Sl.v 2 (Sl.mk n0 0 (Aq (n0*2) (Am 0 q0))))]) (H1:=(hT 2 [.dead])) (BS (Dm (KQ (CV (z:=2) (v:=(Sl.v 2 s2)) (H:=(hT 2 [oC q0])) (by kernel_rfl) (by kernel_rfl) (by kernel_rfl)))) (BS (Dm (KQ (show ER 2 (sc 1 0 2 n0 c0) (hT 2 [oC q0])=some ((Sl.v 2 (Sl.mk n0 0 (Aq (n0*2) (Am 0 q0)))),(hT 2 [.dead])) from KH 1 0 2 n0 c0 q0 [] (by kernel_rfl) (by kernel_rfl) h28))) Gj)) (EI (H2:=(hT 2 [.dead])) (v:=(zB b6)) (v':=(zB b6)) [some 0] [] [] [(Sl.v 2 s2),(Sl.v 2 (Sl.mk n0 0 (Aq (n0*2) (Am 0 q0))))] [] [] [some 0,none] [] [] (by kernel_rfl) BX (Eq.trans (by kernel_rfl) h29) BX BX)) (eD (some ((zB (nt b6)),(hT 2 [.dead]))) (show _=some ((zB false),_) from (by rw[show (nt b6)=false from h30])) (eE))))) ?_
     exact⟨(s2,s3,(bq false (bq (Bd (Int.ofNat (Sl.n s2)) (0:Int)) (Bd z0 (0:Int))))),hm,(.k0 [false] [] [13,15,140])⟩
theorem r5 {call:A8} (pu:Af) (n:Nat) (hcall:call=Bb tabs HV pu (inl pu)) {args:LV} {v:Value} (hm:m5 pu n args=some v) (_:∀ x∈args,closed2 x=true):args.length≤187∧BN tt call 1 R3 (Fr.made 187 args) (Ao tabs) (Fin tt 1 [.tmp 2] v):=by
 subst hcall
 unfold m5 at hm
 replace hm:=Ad hm;obtain⟨a0,args_0,rfl,hm⟩:=hm
 replace hm:=AC hm;obtain⟨rfl,hm⟩:=hm
 replace hm:=BG hm;obtain⟨q1,rfl,hm⟩:=hm
 replace hm:=Ae hm;obtain⟨h3,hm⟩:=hm
 unfold m5_ at hm
 refine⟨by simp,?_⟩
 refine .same (F':=(fr 187 [(0,(.agg ⟨q1⟩))])) (H':=DT) (by kernel_rfl) (by kernel_rfl) ?_
 refine .then (.rK ?_)
 replace hm:=Ae hm;obtain⟨h4,hm⟩:=hm
 refine .ghs (fr 187 [(1,pt 1 0)]) (hT 2 [oC q1]) (.k [1] [false] [.tmp 1 false] [1] ⟨Dy h4,trivial⟩) ?_
 refine .then ?_
 replace hm:=Ae hm;obtain⟨h20,hm⟩:=hm
 replace hm:=Ab hm;obtain⟨v21,h22,hm⟩:=hm
 replace hm:=BG hm;obtain⟨ZJ,rfl,hm⟩:=hm
 replace hm:=Ad hm;obtain⟨v25,l23_0,rfl,hm⟩:=hm
 replace hm:=Ad hm;obtain⟨v26,Pj,rfl,hm⟩:=hm
 replace hm:=Ad hm;obtain⟨v27,l23_2,rfl,hm⟩:=hm
 replace hm:=AC hm;obtain⟨rfl,hm⟩:=hm
 replace hm:=Ai hm;obtain⟨x28,rfl,hm⟩:=hm
 replace hm:=Al hm;obtain⟨s30,rfl,hm⟩:=hm
 replace hm:=Al hm;obtain⟨s32,rfl,hm⟩:=hm
 replace hm:=Ae hm;obtain⟨h34,hm⟩:=hm
 refine .reg (eD (keep (hT 2 [oC q1]) (bb (Nat.ble (0+22) (len q1)) (some (.agg ⟨(Aq 22 (Am 0 q1))⟩)) none)) (AX h20) (eD (bb (Au closed2 [(.agg ⟨(Aq 22 (Am 0 q1))⟩),(zI (6:Int)),(zI (4:Int))]) (oo (pu 21 [(.agg ⟨(Aq 22 (Am 0 q1))⟩),(zI (6:Int)),(zI (4:Int))]) none fun v=>some (v,(hT 2 [oC q1]))) (oo (CG (RG (hT 2 [oC q1])) [(.agg ⟨(Aq 22 (Am 0 q1))⟩),(zI (6:Int)),(zI (4:Int))]) none fun l1=>oo (pu 21 l1) none fun v=>bb (RH v) (some (v,(hT 2 [oC q1]))) none)) (SL h34 h22) (eE))) ?_
 refine .ghs (fr 187 [(3,pt 1 0)]) (hT 2 [(oC [zI x28,Sl.v 1 s30,Sl.v 1 s32])]) (.k0 [false] [.tmp 3 false] [3]) ?_
 refine .then ?_
 replace hm:=Ab hm;obtain⟨v0,h0,hm⟩:=hm
 replace hm:=Ch hm;obtain⟨l0,rfl,hm⟩:=hm
 replace hm:=Ad hm;obtain⟨v1,l14581_0,rfl,hm⟩:=hm
 replace hm:=Ad hm;obtain⟨v2,l14581_1,rfl,hm⟩:=hm
 replace hm:=AC hm;obtain⟨rfl,hm⟩:=hm
 replace hm:=Ae hm;obtain⟨h1,hm⟩:=hm
 obtain rfl:=Ey h1
 replace hm:=Ab hm;obtain⟨y0,h2,hm⟩:=hm
 replace hm:=Ae hm;obtain⟨h5,hm⟩:=hm
 refine .reg (eC 2 (EK tabs [[some 1],[none]] 2 [] [false] (pu 10220) [Sl.v 1 s32,zB false] (hT 2 [(oC [zI x28,Sl.v 1 s30,Sl.v 1 s32])])) (EL (as:=[Sl.v 1 s32,zB false]) (H1:=(hT 2 [(oC [zI x28,Sl.v 1 s30,Sl.v 1 s32])])) (BS (Dm (KQ (CV (z:=1) (v:=(Sl.v 1 s32)) (H:=(hT 2 [(oC [zI x28,Sl.v 1 s30,Sl.v 1 s32])])) (by kernel_rfl) (by kernel_rfl) (by kernel_rfl)))) (BS (Dm Dk) Gj)) (EI (H2:=(hT 3 [(oC [zI x28,Sl.v 1 s30,Sl.v 1 s32]),(.map (Akd.es y0) (Akd.clock y0))])) (v:=(.map (some 1))) (v':=(.map (some 2))) [some 0] [] [] [Sl.v 1 s32,zB false] [v2] [(.map (Akd.es y0) (Akd.clock y0))] [some 0,none,some 1] [(false,(.map (Akd.es y0) (Akd.clock y0)))] [(.map (Akd.es y0) (Akd.clock y0))] (by kernel_rfl) BX (Eq.trans (by kernel_rfl) h0) (En (CK h2) BX) (En (GZ h5) BX))) (eE)) ?_
 replace hm:=Ae hm;obtain⟨h6,hm⟩:=hm
 refine .ghs (fr 187 [(3,pt 1 0),(4,(.map (some 2)))]) (hT 3 [(oC [zI x28,Sl.v 1 s30,Sl.v 1 s32]),(.map (Akd.es y0) (Akd.clock y0))]) (.k [2] [false] [.tmp 3 false,.tmp 4 false] [3,4] ⟨Dy h6,trivial⟩) ?_
 refine .then ?_
 replace hm:=Hy hm;obtain⟨x0,h7,hm⟩:=hm
 replace hm:=Ab hm;obtain⟨r0,h8,hm⟩:=hm
 replace hm:=Ab hm;obtain⟨x1,h9,hm⟩:=hm
 refine .reg (eC 3 ((oo (pu 23 [Sl.v 1 s30]) none fun v=>some (v,(hT 3 [(oC [zI x28,Sl.v 1 s30,Sl.v 1 s32]),(.map (Akd.es y0) (Akd.clock y0))])))) (AB h7) (eD (keep (hT 3 [(oC [zI x28,Sl.v 1 s30,Sl.v 1 s32]),(.map (Akd.es y0) (Akd.clock y0))]) (oo (GD (zI x0) (Akd.es y0) 0) none fun r=>oo r (okV false (zI (0:Int)) false) fun p=>pp p fun _ v=>okV false v true)) (MM h8 (Eh h9)) (eE))) ?_
 refine .ghs (fr 187 [(3,pt 1 0),(4,(.map (some 2))),(5,zI x1)]) (hT 3 [(oC [zI x28,Sl.v 1 s30,Sl.v 1 s32]),(.map (Akd.es y0) (Akd.clock y0))]) (.k [2] [false] [.tmp 3 false,.tmp 4 false] [3,4,5] ⟨Dy h6,trivial⟩) ?_
 refine .then (.rK (.ghs (fr 187 [(3,pt 1 0),(4,(.map (some 2))),(5,zI x1),(6,(.slice none 0 0))]) (hT 3 [(oC [zI x28,Sl.v 1 s30,Sl.v 1 s32]),(.map (Akd.es y0) (Akd.clock y0))]) (.k [2] [false] [.tmp 3 false,.tmp 4 false] [3,4,5,6] ⟨Dy h6,trivial⟩) ?_))
 refine .join (v:=v) (fun y:Int×Nat×Nat×Int×Sl×Sl×LV=>((fr 187 [(3,pt 1 0),(5,(zI y.1)),(6,(sc 2 0 2 y.2.1 y.2.2.1))]),(hT 3 [(oC [(zI y.2.2.2.1),(Sl.v 1 y.2.2.2.2.1),(Sl.v 1 y.2.2.2.2.2.1)]),(oC y.2.2.2.2.2.2)]))) (fun y=>Xc pu n y.1 y.2.1 y.2.2.1 y.2.2.2.1 y.2.2.2.2.1 y.2.2.2.2.2.1 y.2.2.2.2.2.2) ?_ ?_
 ·rintro⟨z0,n0,c0,z1,s0,s1,q0⟩ hm
  exact AdL pu n z0 n0 c0 z1 s0 s1 q0 hm
 ·refine .then (.rK (.ghs (fr 187 [(3,pt 1 0),(4,(.map (some 2))),(5,zI x1),(6,(.slice none 0 0)),(38,(zI (Int.ofNat (Sl.n s30)))),(39,(zI (0:Int)))]) (hT 3 [(oC [zI x28,Sl.v 1 s30,Sl.v 1 s32]),(.map (Akd.es y0) (Akd.clock y0))]) (.k [2] [false] [.tmp 3 false,.tmp 4 false] [3,4,5,6,38,39] ⟨Dy h6,trivial⟩) ?_))
  refine .block (.loopM (v:=v) (fun y:Int×Nat×Nat×Int×Int×Int×Sl×Sl×List EO×Nat×LV=>((fr 187 [(3,pt 1 0),(4,(.map (some 2))),(5,(zI y.1)),(6,(sc 3 0 2 y.2.1 y.2.2.1)),(38,(zI y.2.2.2.1)),(39,(zI y.2.2.2.2.1))]),(hT 4 [(oC [(zI y.2.2.2.2.2.1),(Sl.v 1 y.2.2.2.2.2.2.1),(Sl.v 1 y.2.2.2.2.2.2.2.1)]),(.map y.2.2.2.2.2.2.2.2.1 y.2.2.2.2.2.2.2.2.2.1),(oC y.2.2.2.2.2.2.2.2.2.2)]))) (fun w y=>I9 pu n w y.1 y.2.1 y.2.2.1 y.2.2.2.1 y.2.2.2.2.1 y.2.2.2.2.2.1 y.2.2.2.2.2.2.1 y.2.2.2.2.2.2.2.1 y.2.2.2.2.2.2.2.2.1 y.2.2.2.2.2.2.2.2.2.1 y.2.2.2.2.2.2.2.2.2.2) n ⟨(x1,0,0,(Int.ofNat (Sl.n s30)),(0:Int),x28,s30,s32,(Akd.es y0),(Akd.clock y0),([]:LV)),hm,(.thaw 6 2 (by kernel_rfl) (.k [2] [false] [.tmp 3 false,.tmp 4 false,.tmp 6 false] [3,4,5,6,38,39] ⟨Dy h6,trivial⟩))⟩ (fun _=>rfl) ?_)
  rintro w0 ⟨z2,n1,c1,z3,z4,z5,s2,s3,e0,k1,q2⟩ hm
  replace hm:Ue pu n (I9 pu n w0) z2 n1 c1 z3 z4 z5 s2 s3 e0 k1 q2=some v:=hm
  unfold Ue at hm
  refine .then (.rK ?_)
  replace hm:=Ae hm;obtain⟨h10,hm⟩:=hm
  replace hm:=Ae hm;obtain⟨h11,hm⟩:=hm
  refine .ghs (fr 187 [(3,pt 1 0),(4,(.map (some 2))),(5,zI z2),(6,sc 3 0 2 n1 c1),(38,zI z3),(39,zI z4),(40,(zB (AY z4 z3)))]) (hT 4 [(oC [zI z5,Sl.v 1 s2,Sl.v 1 s3]),(.map e0 k1),oC q2]) (.k [2,3] [false] [.tmp 3 false,.tmp 4 false,.tmp 6 false] [3,4,5,6,38,39,40] ⟨Dy h10,Dy h11,trivial⟩) ?_
  refine .then ?_
  replace hm:=Ag hm;rcases hm with⟨h12,hm⟩ | ⟨h12,hm⟩
  ·refine FX (AY z4 z3) h12 ?_
   refine .skip (.ghs (fr 187 [(3,pt 1 0),(4,(.map (some 2))),(5,zI z2),(6,sc 3 0 2 n1 c1),(38,zI z3),(39,zI z4)]) (hT 4 [(oC [zI z5,Sl.v 1 s2,Sl.v 1 s3]),(.map e0 k1),oC q2]) (.k [2,3] [false] [.tmp 3 false,.tmp 4 false,.tmp 6 false] [3,4,5,6,38,39] ⟨Dy h10,Dy h11,trivial⟩) ?_)
   refine .join (v:=v) (fun y:Int×Nat×Nat×Int×Int×Int×Sl×Sl×List EO×Nat×LV=>((fr 187 [(3,pt 1 0),(4,(.map (some 2))),(5,(zI y.1)),(6,(sc 3 0 2 y.2.1 y.2.2.1)),(38,(zI y.2.2.2.1)),(39,(zI y.2.2.2.2.1))]),(hT 4 [(oC [(zI y.2.2.2.2.2.1),(Sl.v 1 y.2.2.2.2.2.2.1),(Sl.v 1 y.2.2.2.2.2.2.2.1)]),(.map y.2.2.2.2.2.2.2.2.1 y.2.2.2.2.2.2.2.2.2.1),(oC y.2.2.2.2.2.2.2.2.2.2)]))) (fun y=>Wz pu n (I9 pu n w0) y.1 y.2.1 y.2.2.1 y.2.2.2.1 y.2.2.2.2.1 y.2.2.2.2.2.1 y.2.2.2.2.2.2.1 y.2.2.2.2.2.2.2.1 y.2.2.2.2.2.2.2.2.1 y.2.2.2.2.2.2.2.2.2.1 y.2.2.2.2.2.2.2.2.2.2) ?_ ?_
   ·rintro⟨z6,n2,c2,z7,z8,z9,s4,s5,e1,k2,q3⟩ hm
    unfold Wz at hm
    refine .rK ?_
    replace hm:=Ae hm;obtain⟨h13,hm⟩:=hm
    replace hm:=Ae hm;obtain⟨h14,hm⟩:=hm
    exact⟨(z6,n2,c2,z7,(Aj .i64 (Int.add z8 (1:Int))),z9,s4,s5,e1,k2,q3),hm,(.k [2,3] [false] [.tmp 3 false,.tmp 4 false,.tmp 6 false] [3,4,5,6,38,39] ⟨Dy h13,Dy h14,trivial⟩)⟩
   ·refine .block (.then (.rK (.ghs (fr 187 [(3,pt 1 0),(4,(.map (some 2))),(5,zI z2),(6,sc 3 0 2 n1 c1),(7,zI z4),(38,zI z3),(39,zI z4)]) (hT 4 [(oC [zI z5,Sl.v 1 s2,Sl.v 1 s3]),(.map e0 k1),oC q2]) (.k [2,3] [false] [.tmp 3 false,.tmp 4 false,.tmp 6 false] [3,4,5,6,7,38,39] ⟨Dy h10,Dy h11,trivial⟩) ?_)))
    refine .then (.rK (.ghs (fr 187 [(3,pt 1 0),(4,(.map (some 2))),(5,zI z2),(6,sc 3 0 2 n1 c1),(7,zI z4),(8,(zI (Aj .i64 (Int.add z4 (1:Int))))),(38,zI z3),(39,zI z4)]) (hT 4 [(oC [zI z5,Sl.v 1 s2,Sl.v 1 s3]),(.map e0 k1),oC q2]) (.k [2,3] [false] [.tmp 3 false,.tmp 4 false,.tmp 6 false] [3,4,5,6,7,8,38,39] ⟨Dy h10,Dy h11,trivial⟩) ?_))
    refine .block (.loopM (v:=v) (fun y:Int×Nat×Nat×Int×Int×Int×Int×Int×Sl×Sl×List EO×Nat×LV=>((fr 187 [(3,pt 1 0),(4,(.map (some 2))),(5,(zI y.1)),(6,(sc 3 0 2 y.2.1 y.2.2.1)),(7,(zI y.2.2.2.1)),(8,(zI y.2.2.2.2.1)),(38,(zI y.2.2.2.2.2.1)),(39,(zI y.2.2.2.2.2.2.1))]),(hT 4 [(oC [(zI y.2.2.2.2.2.2.2.1),(Sl.v 1 y.2.2.2.2.2.2.2.2.1),(Sl.v 1 y.2.2.2.2.2.2.2.2.2.1)]),(.map y.2.2.2.2.2.2.2.2.2.2.1 y.2.2.2.2.2.2.2.2.2.2.2.1),(oC y.2.2.2.2.2.2.2.2.2.2.2.2)]))) (fun w y=>L6 pu n (I9 pu n w0) w y.1 y.2.1 y.2.2.1 y.2.2.2.1 y.2.2.2.2.1 y.2.2.2.2.2.1 y.2.2.2.2.2.2.1 y.2.2.2.2.2.2.2.1 y.2.2.2.2.2.2.2.2.1 y.2.2.2.2.2.2.2.2.2.1 y.2.2.2.2.2.2.2.2.2.2.1 y.2.2.2.2.2.2.2.2.2.2.2.1 y.2.2.2.2.2.2.2.2.2.2.2.2) n ⟨(z2,n1,c1,z4,(Aj .i64 (Int.add z4 (1:Int))),z3,z4,z5,s2,s3,e0,k1,q2),hm,(.k [2,3] [false] [.tmp 3 false,.tmp 4 false,.tmp 6 false] [3,4,5,6,7,8,38,39] ⟨Dy h10,Dy h11,trivial⟩)⟩ (fun _=>rfl) ?_)
    rintro w1 ⟨z10,n3,c3,z11,z12,z13,z14,z15,s6,s7,e2,k3,q4⟩ hm
    replace hm:Ud pu n (I9 pu n w0) (L6 pu n (I9 pu n w0) w1) z10 n3 c3 z11 z12 z13 z14 z15 s6 s7 e2 k3 q4=some v:=hm
    unfold Ud at hm
    refine .then (.then (.rK ?_))
    replace hm:=Ae hm;obtain⟨h15,hm⟩:=hm
    replace hm:=Ae hm;obtain⟨h16,hm⟩:=hm
    refine .ghs (fr 187 [(3,pt 1 0),(4,(.map (some 2))),(5,zI z10),(6,sc 3 0 2 n3 c3),(7,zI z11),(8,zI z12),(38,zI z13),(39,zI z14),(48,(zB (AY z12 (Int.ofNat (Sl.n s6)))))]) (hT 4 [(oC [zI z15,Sl.v 1 s6,Sl.v 1 s7]),(.map e2 k3),oC q4]) (.k [2,3] [false] [.tmp 3 false,.tmp 4 false,.tmp 6 false] [3,4,5,6,7,8,38,39,48] ⟨Dy h15,Dy h16,trivial⟩) ?_
    replace hm:=Ag hm;rcases hm with⟨h17,hm⟩ | ⟨h17,hm⟩
    ·refine FX (AY z12 (Int.ofNat (Sl.n s6))) h17 ?_
     refine .skip (.ghs (fr 187 [(3,pt 1 0),(4,(.map (some 2))),(5,zI z10),(6,sc 3 0 2 n3 c3),(7,zI z11),(8,zI z12),(38,zI z13),(39,zI z14)]) (hT 4 [(oC [zI z15,Sl.v 1 s6,Sl.v 1 s7]),(.map e2 k3),oC q4]) (.k [2,3] [false] [.tmp 3 false,.tmp 4 false,.tmp 6 false] [3,4,5,6,7,8,38,39] ⟨Dy h15,Dy h16,trivial⟩) ?_)
     refine .then (.block (.then ?_))
     replace hm:=fC hm;obtain⟨s8,h18,hm⟩:=hm
     refine .reg (eC 4 ((oo (pu 24 [Sl.v 1 s6,zI z11,zI z12]) none fun v=>some (v,(hT 4 [(oC [zI z15,Sl.v 1 s6,Sl.v 1 s7]),(.map e2 k3),oC q4])))) (AB h18) (eE)) ?_
     refine .ghs (fr 187 [(3,pt 1 0),(4,(.map (some 2))),(5,zI z10),(6,sc 3 0 2 n3 c3),(7,zI z11),(8,zI z12),(9,Sl.v 1 s8),(38,zI z13),(39,zI z14)]) (hT 4 [(oC [zI z15,Sl.v 1 s6,Sl.v 1 s7]),(.map e2 k3),oC q4]) (.k [2,3] [false] [.tmp 3 false,.tmp 4 false,.tmp 6 false] [3,4,5,6,7,8,9,38,39] ⟨Dy h15,Dy h16,trivial⟩) ?_
     refine .then ?_
     replace hm:=Hy hm;obtain⟨x2,h19,hm⟩:=hm
     replace hm:=Ab hm;obtain⟨r1,h21,hm⟩:=hm
     replace hm:=Ab hm;obtain⟨x3,h23,hm⟩:=hm
     refine .reg (eC 2 ((oo (pu 23 [Sl.v 1 s8]) none fun v=>some (v,(hT 4 [(oC [zI z15,Sl.v 1 s6,Sl.v 1 s7]),(.map e2 k3),oC q4])))) (AB h19) (eD (keep (hT 4 [(oC [zI z15,Sl.v 1 s6,Sl.v 1 s7]),(.map e2 k3),oC q4]) (oo (GD (zI x2) e2 0) none fun r=>oo r (okV false (zI (0:Int)) false) fun p=>pp p fun _ v=>okV false v true)) (MM h21 (Eh h23)) (eE))) ?_
     refine .ghs (fr 187 [(3,pt 1 0),(4,(.map (some 2))),(5,zI z10),(6,sc 3 0 2 n3 c3),(7,zI z11),(8,zI z12),(9,Sl.v 1 s8),(10,zI x3),(38,zI z13),(39,zI z14)]) (hT 4 [(oC [zI z15,Sl.v 1 s6,Sl.v 1 s7]),(.map e2 k3),oC q4]) (.k [2,3] [false] [.tmp 3 false,.tmp 4 false,.tmp 6 false] [3,4,5,6,7,8,9,10,38,39] ⟨Dy h15,Dy h16,trivial⟩) ?_
     refine .then (.join (v:=v) (fun y:Int×Nat×Nat×Int×Int×Sl×Int×Int×Int×Bool×Int×Sl×Sl×List EO×Nat×LV=>((fr 187 [(3,pt 1 0),(4,(.map (some 2))),(5,(zI y.1)),(6,(sc 3 0 2 y.2.1 y.2.2.1)),(7,(zI y.2.2.2.1)),(8,(zI y.2.2.2.2.1)),(9,(Sl.v 1 y.2.2.2.2.2.1)),(10,(zI y.2.2.2.2.2.2.1)),(38,(zI y.2.2.2.2.2.2.2.1)),(39,(zI y.2.2.2.2.2.2.2.2.1)),(69,(zB y.2.2.2.2.2.2.2.2.2.1))]),(hT 4 [(oC [(zI y.2.2.2.2.2.2.2.2.2.2.1),(Sl.v 1 y.2.2.2.2.2.2.2.2.2.2.2.1),(Sl.v 1 y.2.2.2.2.2.2.2.2.2.2.2.2.1)]),(.map y.2.2.2.2.2.2.2.2.2.2.2.2.2.1 y.2.2.2.2.2.2.2.2.2.2.2.2.2.2.1),(oC y.2.2.2.2.2.2.2.2.2.2.2.2.2.2.2)]))) (fun y=>Ub pu n (I9 pu n w0) (L6 pu n (I9 pu n w0) w1) y.1 y.2.1 y.2.2.1 y.2.2.2.1 y.2.2.2.2.1 y.2.2.2.2.2.1 y.2.2.2.2.2.2.1 y.2.2.2.2.2.2.2.1 y.2.2.2.2.2.2.2.2.1 y.2.2.2.2.2.2.2.2.2.1 y.2.2.2.2.2.2.2.2.2.2.1 y.2.2.2.2.2.2.2.2.2.2.2.1 y.2.2.2.2.2.2.2.2.2.2.2.2.1 y.2.2.2.2.2.2.2.2.2.2.2.2.2.1 y.2.2.2.2.2.2.2.2.2.2.2.2.2.2.1 y.2.2.2.2.2.2.2.2.2.2.2.2.2.2.2) ?_ ?_)
     ·rintro⟨z16,n4,c4,z17,z18,s9,z19,z20,z21,b0,z22,s10,s11,e3,k4,q6⟩ hm
      unfold Ub at hm
      replace hm:=Ag hm;rcases hm with⟨h24,hm⟩ | ⟨h24,hm⟩
      ·refine .ifT b0 (by kernel_rfl) h24 ?_
       refine .then (.rK (.ghs (fr 187 [(2,zB false)]) DT (.k0 [false] [] [2]) ?_))
       refine .ret ?_
       exact Fp (zB false) hm
      ·refine .ifF b0 (by kernel_rfl) h24 ?_
       refine .skip ?_
       replace hm:=Ae hm;obtain⟨h25,hm⟩:=hm
       replace hm:=Ae hm;obtain⟨h26,hm⟩:=hm
       refine .ghs (fr 187 [(3,pt 1 0),(4,(.map (some 2))),(5,zI z16),(6,sc 3 0 2 n4 c4),(7,zI z17),(8,zI z18),(9,Sl.v 1 s9),(10,zI z19),(38,zI z20),(39,zI z21)]) (hT 4 [(oC [zI z22,Sl.v 1 s10,Sl.v 1 s11]),(.map e3 k4),oC q6]) (.k [2,3] [false] [.tmp 3 false,.tmp 4 false,.tmp 6 false] [3,4,5,6,7,8,9,10,38,39] ⟨Dy h25,Dy h26,trivial⟩) ?_
       refine .join (v:=v) (fun y:Int×Nat×Nat×Int×Int×Sl×Int×Int×Int×Sl×Sl×List EO×Nat×LV=>((fr 187 [(3,pt 1 0),(4,(.map (some 2))),(5,(zI y.1)),(6,(sc 3 0 2 y.2.1 y.2.2.1)),(7,(zI y.2.2.2.1)),(8,(zI y.2.2.2.2.1)),(9,(Sl.v 1 y.2.2.2.2.2.1)),(38,(zI y.2.2.2.2.2.2.1)),(39,(zI y.2.2.2.2.2.2.2.1))]),(hT 4 [(oC [(zI y.2.2.2.2.2.2.2.2.1),(Sl.v 1 y.2.2.2.2.2.2.2.2.2.1),(Sl.v 1 y.2.2.2.2.2.2.2.2.2.2.1)]),(.map y.2.2.2.2.2.2.2.2.2.2.2.1 y.2.2.2.2.2.2.2.2.2.2.2.2.1),(oC y.2.2.2.2.2.2.2.2.2.2.2.2.2)]))) (fun y=>QA pu n (I9 pu n w0) (L6 pu n (I9 pu n w0) w1) y.1 y.2.1 y.2.2.1 y.2.2.2.1 y.2.2.2.2.1 y.2.2.2.2.2.1 y.2.2.2.2.2.2.1 y.2.2.2.2.2.2.2.1 y.2.2.2.2.2.2.2.2.1 y.2.2.2.2.2.2.2.2.2.1 y.2.2.2.2.2.2.2.2.2.2.1 y.2.2.2.2.2.2.2.2.2.2.2.1 y.2.2.2.2.2.2.2.2.2.2.2.2.1 y.2.2.2.2.2.2.2.2.2.2.2.2.2) ?_ ?_
       ·rintro⟨z23,n5,c6,z24,z25,s12,z26,z27,z28,s13,s14,e4,k5,q7⟩ hm
        unfold QA at hm
        refine .then ?_
        replace hm:=Ab hm;obtain⟨v3,h27,hm⟩:=hm
        replace hm:=Ch hm;obtain⟨l2,rfl,hm⟩:=hm
        replace hm:=Ad hm;obtain⟨v4,l31061_0,rfl,hm⟩:=hm
        replace hm:=Ad hm;obtain⟨v5,l31061_1,rfl,hm⟩:=hm
        replace hm:=AC hm;obtain⟨rfl,hm⟩:=hm
        replace hm:=BG hm;obtain⟨l3,rfl,hm⟩:=hm
        replace hm:=Ad hm;obtain⟨v6,l31065_0,rfl,hm⟩:=hm
        replace hm:=Ad hm;obtain⟨v7,l31065_1,rfl,hm⟩:=hm
        replace hm:=Ad hm;obtain⟨v8,l31065_2,rfl,hm⟩:=hm
        replace hm:=AC hm;obtain⟨rfl,hm⟩:=hm
        replace hm:=Ai hm;obtain⟨x4,rfl,hm⟩:=hm
        replace hm:=Al hm;obtain⟨s15,rfl,hm⟩:=hm
        replace hm:=Al hm;obtain⟨s16,rfl,hm⟩:=hm
        replace hm:=Ai hm;obtain⟨x5,rfl,hm⟩:=hm
        refine .reg (eC 3 ((oo (pu 25 [(.agg ⟨[zI z28,Sl.v 1 s13,Sl.v 1 s14]⟩),zI z24,zI z25]) none fun v=>some (v,(hT 4 [(oC [zI z28,Sl.v 1 s13,Sl.v 1 s14]),(.map e4 k5),oC q7])))) (AB h27) (eE)) ?_
        replace hm:=Ae hm;obtain⟨h28,hm⟩:=hm
        replace hm:=Ae hm;obtain⟨h29,hm⟩:=hm
        refine .ghs (fr 187 [(3,pt 1 0),(4,(.map (some 2))),(5,zI z23),(6,sc 3 0 2 n5 c6),(7,zI z24),(8,zI z25),(9,Sl.v 1 s12),(11,(pt 4 0)),(12,zI x5),(38,zI z26),(39,zI z27)]) (hT 5 [(oC [zI z28,Sl.v 1 s13,Sl.v 1 s14]),(.map e4 k5),oC q7,(oC [zI x4,Sl.v 1 s15,Sl.v 1 s16])]) (.k [2,3] [false] [.tmp 3 false,.tmp 4 false,.tmp 6 false,.tmp 11 false] [3,4,5,6,7,8,9,11,12,38,39] ⟨Dy h28,Dy h29,trivial⟩) ?_
        refine .join (v:=v) (fun y:Int×Nat×Nat×Int×Int×Int×Int×Bool×Int×Sl×Sl×List EO×Nat×LV=>((fr 187 [(3,pt 1 0),(4,(.map (some 2))),(5,(zI y.1)),(6,(sc 3 0 2 y.2.1 y.2.2.1)),(7,(zI y.2.2.2.1)),(8,(zI y.2.2.2.2.1)),(38,(zI y.2.2.2.2.2.1)),(39,(zI y.2.2.2.2.2.2.1)),(109,(zB y.2.2.2.2.2.2.2.1))]),(hT 4 [(oC [(zI y.2.2.2.2.2.2.2.2.1),(Sl.v 1 y.2.2.2.2.2.2.2.2.2.1),(Sl.v 1 y.2.2.2.2.2.2.2.2.2.2.1)]),(.map y.2.2.2.2.2.2.2.2.2.2.2.1 y.2.2.2.2.2.2.2.2.2.2.2.2.1),(oC y.2.2.2.2.2.2.2.2.2.2.2.2.2)]))) (fun y=>Pf pu n (I9 pu n w0) (L6 pu n (I9 pu n w0) w1) y.1 y.2.1 y.2.2.1 y.2.2.2.1 y.2.2.2.2.1 y.2.2.2.2.2.1 y.2.2.2.2.2.2.1 y.2.2.2.2.2.2.2.1 y.2.2.2.2.2.2.2.2.1 y.2.2.2.2.2.2.2.2.2.1 y.2.2.2.2.2.2.2.2.2.2.1 y.2.2.2.2.2.2.2.2.2.2.2.1 y.2.2.2.2.2.2.2.2.2.2.2.2.1 y.2.2.2.2.2.2.2.2.2.2.2.2.2) ?_ ?_
        ·rintro⟨z29,n6,c7,z30,z31,z32,z33,b3,z34,s17,s18,e5,k6,q8⟩ hm
         unfold Pf at hm
         replace hm:=Ag hm;rcases hm with⟨h30,hm⟩ | ⟨h30,hm⟩
         ·refine .ifT b3 (by kernel_rfl) h30 ?_
          refine .then (.rK (.ghs (fr 187 [(2,zB false)]) DT (.k0 [false] [] [2]) ?_))
          refine .ret ?_
          exact Fp (zB false) hm
         ·refine .ifF b3 (by kernel_rfl) h30 ?_
          refine .skip ?_
          replace hm:=Ae hm;obtain⟨h31,hm⟩:=hm
          replace hm:=Ae hm;obtain⟨h32,hm⟩:=hm
          refine .ghs (fr 187 [(3,pt 1 0),(4,(.map (some 2))),(5,zI z29),(6,sc 3 0 2 n6 c7),(7,zI z30),(8,zI z31),(38,zI z32),(39,zI z33)]) (hT 4 [(oC [zI z34,Sl.v 1 s17,Sl.v 1 s18]),(.map e5 k6),oC q8]) (.k [2,3] [false] [.tmp 3 false,.tmp 4 false,.tmp 6 false] [3,4,5,6,7,8,38,39] ⟨Dy h31,Dy h32,trivial⟩) ?_
          refine .rK ?_
          exact⟨(z29,n6,c7,z30,(Aj .i64 (Int.add z31 (1:Int))),z32,z33,z34,s17,s18,e5,k6,q8),hm,(.k [2,3] [false] [.tmp 3 false,.tmp 4 false,.tmp 6 false] [3,4,5,6,7,8,38,39] ⟨Dy h31,Dy h32,trivial⟩)⟩
        ·replace hm:=Ag hm;rcases hm with⟨h33,hm⟩ | ⟨h33,hm⟩
         ·refine .reg (eC 1 (some ((zB (nt (Bd x5 (0:Int)))),(hT 5 [(oC [zI z28,Sl.v 1 s13,Sl.v 1 s14]),(.map e4 k5),oC q7,(oC [zI x4,Sl.v 1 s15,Sl.v 1 s16])]))) (show _=some ((zB true),_) from (by rw[show (nt (Bd x5 (0:Int)))=true from h33])) (eE)) ?_
          exact⟨(z23,n5,c6,z24,z25,z26,z27,true,z28,s13,s14,e4,k5,q7),hm,(.k [2,3] [false] [.tmp 3 false,.tmp 4 false,.tmp 6 false] [3,4,5,6,7,8,38,39,109] ⟨Dy h28,Dy h29,trivial⟩)⟩
         ·replace hm:=fD hm;obtain⟨b4,h35,hm⟩:=hm
          replace hm:=Ag hm;rcases hm with⟨h36,hm⟩ | ⟨h36,hm⟩
          ·refine .reg (eC 1 (some ((zB (nt (Bd x5 (0:Int)))),(hT 5 [(oC [zI z28,Sl.v 1 s13,Sl.v 1 s14]),(.map e4 k5),oC q7,(oC [zI x4,Sl.v 1 s15,Sl.v 1 s16])]))) (show _=some ((zB false),_) from (by rw[show (nt (Bd x5 (0:Int)))=false from h33])) (eC 4 ((oo (pu 26 [Sl.v 1 s15,Sl.v 1 s12]) none fun v=>some (v,(hT 5 [(oC [zI z28,Sl.v 1 s13,Sl.v 1 s14]),(.map e4 k5),oC q7,(oC [zI x4,Sl.v 1 s15,Sl.v 1 s16])])))) (AB h35) (eD (some ((zB (nt b4)),(hT 5 [(oC [zI z28,Sl.v 1 s13,Sl.v 1 s14]),(.map e4 k5),oC q7,(oC [zI x4,Sl.v 1 s15,Sl.v 1 s16])]))) (show _=some ((zB true),_) from (by rw[show (nt b4)=true from h36])) (eE)))) ?_
           exact⟨(z23,n5,c6,z24,z25,z26,z27,true,z28,s13,s14,e4,k5,q7),hm,(.k [2,3] [false] [.tmp 3 false,.tmp 4 false,.tmp 6 false] [3,4,5,6,7,8,38,39,109] ⟨Dy h28,Dy h29,trivial⟩)⟩
          ·replace hm:=fD hm;obtain⟨b6,h37,hm⟩:=hm
           replace hm:=Ag hm;rcases hm with⟨h38,hm⟩ | ⟨h38,hm⟩
           ·refine .reg (eC 1 (some ((zB (nt (Bd x5 (0:Int)))),(hT 5 [(oC [zI z28,Sl.v 1 s13,Sl.v 1 s14]),(.map e4 k5),oC q7,(oC [zI x4,Sl.v 1 s15,Sl.v 1 s16])]))) (show _=some ((zB false),_) from (by rw[show (nt (Bd x5 (0:Int)))=false from h33])) (eC 4 ((oo (pu 26 [Sl.v 1 s15,Sl.v 1 s12]) none fun v=>some (v,(hT 5 [(oC [zI z28,Sl.v 1 s13,Sl.v 1 s14]),(.map e4 k5),oC q7,(oC [zI x4,Sl.v 1 s15,Sl.v 1 s16])])))) (AB h35) (eD (some ((zB (nt b4)),(hT 5 [(oC [zI z28,Sl.v 1 s13,Sl.v 1 s14]),(.map e4 k5),oC q7,(oC [zI x4,Sl.v 1 s15,Sl.v 1 s16])]))) (show _=some ((zB false),_) from (by rw[show (nt b4)=false from h36])) (eC 6 ((oo (pu 26 [Sl.v 1 s16,Sl.v 1 s14]) none fun v=>some (v,(hT 5 [(oC [zI z28,Sl.v 1 s13,Sl.v 1 s14]),(.map e4 k5),oC q7,(oC [zI x4,Sl.v 1 s15,Sl.v 1 s16])])))) (AB h37) (eD (some ((zB (nt b6)),(hT 5 [(oC [zI z28,Sl.v 1 s13,Sl.v 1 s14]),(.map e4 k5),oC q7,(oC [zI x4,Sl.v 1 s15,Sl.v 1 s16])]))) (show _=some ((zB true),_) from (by rw[show (nt b6)=true from h38])) (eE)))))) ?_
            exact⟨(z23,n5,c6,z24,z25,z26,z27,true,z28,s13,s14,e4,k5,q7),hm,(.k [2,3] [false] [.tmp 3 false,.tmp 4 false,.tmp 6 false] [3,4,5,6,7,8,38,39,109] ⟨Dy h28,Dy h29,trivial⟩)⟩
           ·refine .reg (eC 1 (some ((zB (nt (Bd x5 (0:Int)))),(hT 5 [(oC [zI z28,Sl.v 1 s13,Sl.v 1 s14]),(.map e4 k5),oC q7,(oC [zI x4,Sl.v 1 s15,Sl.v 1 s16])]))) (show _=some ((zB false),_) from (by rw[show (nt (Bd x5 (0:Int)))=false from h33])) (eC 4 ((oo (pu 26 [Sl.v 1 s15,Sl.v 1 s12]) none fun v=>some (v,(hT 5 [(oC [zI z28,Sl.v 1 s13,Sl.v 1 s14]),(.map e4 k5),oC q7,(oC [zI x4,Sl.v 1 s15,Sl.v 1 s16])])))) (AB h35) (eD (some ((zB (nt b4)),(hT 5 [(oC [zI z28,Sl.v 1 s13,Sl.v 1 s14]),(.map e4 k5),oC q7,(oC [zI x4,Sl.v 1 s15,Sl.v 1 s16])]))) (show _=some ((zB false),_) from (by rw[show (nt b4)=false from h36])) (eC 6 ((oo (pu 26 [Sl.v 1 s16,Sl.v 1 s14]) none fun v=>some (v,(hT 5 [(oC [zI z28,Sl.v 1 s13,Sl.v 1 s14]),(.map e4 k5),oC q7,(oC [zI x4,Sl.v 1 s15,Sl.v 1 s16])])))) (AB h37) (eD (some ((zB (nt b6)),(hT 5 [(oC [zI z28,Sl.v 1 s13,Sl.v 1 s14]),(.map e4 k5),oC q7,(oC [zI x4,Sl.v 1 s15,Sl.v 1 s16])]))) (show _=some ((zB false),_) from (by rw[show (nt b6)=false from h38])) (eE)))))) ?_
            exact⟨(z23,n5,c6,z24,z25,z26,z27,(nt (Bd x4 z28)),z28,s13,s14,e4,k5,q7),hm,(.k [2,3] [false] [.tmp 3 false,.tmp 4 false,.tmp 6 false] [3,4,5,6,7,8,38,39,109] ⟨Dy h28,Dy h29,trivial⟩)⟩
       ·refine .then (.rK (.ghs (fr 187 [(3,pt 1 0),(4,(.map (some 2))),(5,zI z16),(6,sc 3 0 2 n4 c4),(7,zI z17),(8,zI z18),(9,Sl.v 1 s9),(38,zI z20),(39,zI z21),(72,(zB (AY z19 z16)))]) (hT 4 [(oC [zI z22,Sl.v 1 s10,Sl.v 1 s11]),(.map e3 k4),oC q6]) (.k [2,3] [false] [.tmp 3 false,.tmp 4 false,.tmp 6 false] [3,4,5,6,7,8,9,38,39,72] ⟨Dy h25,Dy h26,trivial⟩) ?_))
        replace hm:=Ag hm;rcases hm with⟨h39,hm⟩ | ⟨h39,hm⟩
        ·refine FX (AY z19 z16) h39 ?_
         replace hm:=Ae hm;obtain⟨h40,hm⟩:=hm
         refine .reg (eC 5 (Oc 2 16 n4 c4 1 3 q6 [zI z17,zI z18] [] (hT 5 [(oC [zI z22,Sl.v 1 s10,Sl.v 1 s11]),(.map e3 k4),oC q6,(oC [zI z17,zI z18])])) (I1 h40) (eE)) ?_
         replace hm:=Ae hm;obtain⟨h41,hm⟩:=hm
         exact⟨(z16,(n4+1),(d2 (n4+1)),z17,z18,s9,z20,z21,z22,s10,s11,e3,k4,(Br (Am 0 q6) [zI z17,zI z18])),hm,(.k [2,5] [false] [.tmp 3 false,.tmp 4 false,.tmp 6 false] [3,4,5,6,7,8,9,38,39] ⟨Dy h25,Dy h41,trivial⟩)⟩
        ·refine FY (AY z19 z16) h39 ?_
         refine .skip ?_
         exact⟨(z16,n4,c4,z17,z18,s9,z20,z21,z22,s10,s11,e3,k4,q6),hm,(.k [2,3] [false] [.tmp 3 false,.tmp 4 false,.tmp 6 false] [3,4,5,6,7,8,9,38,39] ⟨Dy h25,Dy h26,trivial⟩)⟩
     ·replace hm:=Ag hm;rcases hm with⟨h42,hm⟩ | ⟨h42,hm⟩
      ·refine .reg (eC 3 (some ((zB (AY x3 (Aj .i64 (Int.sub z10 (1:Int))))),(hT 4 [(oC [zI z15,Sl.v 1 s6,Sl.v 1 s7]),(.map e2 k3),oC q4]))) (show _=some ((zB true),_) from (by rw[show (AY x3 (Aj .i64 (Int.sub z10 (1:Int))))=true from h42])) (eE)) ?_
       exact⟨(z10,n3,c3,z11,z12,s8,x3,z13,z14,true,z15,s6,s7,e2,k3,q4),hm,(.k [2,3] [false] [.tmp 3 false,.tmp 4 false,.tmp 6 false] [3,4,5,6,7,8,9,10,38,39,69] ⟨Dy h15,Dy h16,trivial⟩)⟩
      ·refine .reg (eC 3 (some ((zB (AY x3 (Aj .i64 (Int.sub z10 (1:Int))))),(hT 4 [(oC [zI z15,Sl.v 1 s6,Sl.v 1 s7]),(.map e2 k3),oC q4]))) (show _=some ((zB false),_) from (by rw[show (AY x3 (Aj .i64 (Int.sub z10 (1:Int))))=false from h42])) (eE)) ?_
       exact⟨(z10,n3,c3,z11,z12,s8,x3,z13,z14,(AY (Aj .i64 (Int.add z10 (1:Int))) x3),z15,s6,s7,e2,k3,q4),hm,(.k [2,3] [false] [.tmp 3 false,.tmp 4 false,.tmp 6 false] [3,4,5,6,7,8,9,10,38,39,69] ⟨Dy h15,Dy h16,trivial⟩)⟩
    ·refine FY (AY z12 (Int.ofNat (Sl.n s6))) h17 ?_
     refine .exit ?_
     exact⟨(z10,n3,c3,z13,z14,z15,s6,s7,e2,k3,q4),hm,(.k [2,3] [false] [.tmp 3 false,.tmp 4 false,.tmp 6 false] [3,4,5,6,38,39] ⟨Dy h15,Dy h16,trivial⟩)⟩
  ·refine FY (AY z4 z3) h12 ?_
   refine .exit ?_
   exact⟨(z2,n1,c1,z5,s2,s3,q2),hm,(.k [3] [false] [.tmp 3 false,.tmp 6 false] [3,5,6] ⟨Dy h11,trivial⟩)⟩
end
end Go.MnOM
