/- Made from wip. -/
import Derived.Test.YtglnihplphhhoaaDoorSpObjSx
import Derived.Test.YtglnihplphhhoaaDoorTbRCode
import Derived.KernelRfl

set_option maxRecDepth 100000
namespace Go.TbRM
open Go.Sp Go.TbR
noncomputable section
def Ph (sz by':Nat) (args:List Value) (H:Aa):Option (Value×Aa):=
 ll args none fun x r => ll r (oo (Bj sz x) none fun s => Aa.rec (motive := fun _ => Option (Value × Aa)) (fun k T z => bb z (bb (EQ (0 + s.n) by')
  (some (.slice (some ⟨Nat.succ k,0,some sz⟩) s.n (2*s.n+bb false 1 0),((⟨k,T,true⟩:Aa).push (.cells [] false false [])).push (.cells (Aq (s.n*sz) s.cs) false false []))) none) none) H) fun _ _=>none
def tQ:List Fs:=[
 ⟨(some 5),.buildSlice 29 0 #[],29,none,[]⟩,
 ⟨(some 6),.move (.tmp 0),29,none,[]⟩,
 ⟨(some 7),.call ⟨.builtin .append,#[(.tmp 5),(.tmp 6)],#[29,29]⟩,29,none,[]⟩,
 ⟨(some 2),.assign (.tmp 7),29,none,[]⟩]
def H1 (k:Nat) (T:Tr AJ):Aa:=(⟨k,T,true⟩:Aa).push (.cells [] false false [])
def F1 (a:Value):Fr:=Fr.puts (Fr.made 8 [a]) [(2,.slice none 0 0),(3,a),(4,.bool false)]
def F2 (a:Value) (k:Nat):Fr:=Fr.puts (F1 a) [(5,.slice (some ⟨k,0,some 1⟩) 0 1)]
def Ay (a:Value) (k:Nat):Fr:=Fr.puts (F2 a k) [(6,a)]
def AO (a:Value) (k:Nat) (v:Value):Fr:=Fr.puts (Ay a k) [(7,v)]
def Bn (a:Value) (k:Nat) (v:Value):Fr:=Fr.puts (AO a k v) [(2,v)]
theorem Yn (k:Nat) (T:Tr AJ):Bv ((H1 k T).get k)=some ⟨[],false,false,[]⟩:=by
 unfold H1
 rw[Aa.get_push,if_pos rfl];rfl
theorem UG (k:Nat) (T:Tr AJ):(H1 k T).next=k+1:=by
 unfold H1;rw[Aa.next_push]
theorem Sa (k:Nat) (T:Tr AJ):Cr tt JO 2 18 [FP 1 0 2 []] ⟨k,T,true⟩=some (.slice none 0 0,⟨k,T,true⟩):=by kernel_rfl
theorem ops (call:A8) (k:Nat) (T:Tr AJ) (a v:Value) (H2:Aa) (s:Sl) (ha:a=s.v 1) (hD:Ql (H1 k T) 1 8 (.slice (some ⟨k,0,some 1⟩) 0 1) s=some (v,H2)) :
 BD tt call tQ (F1 a) ⟨k,T,true⟩=some (Bn a k v,H2):=by
 subst ha
 refine Ob (some (.slice (some ⟨k,0,some 1⟩) 0 1,H1 k T)) (by kernel_rfl) rfl (by kernel_rfl) ?_
 refine Ob (some (s.v 1,H1 k T)) (by kernel_rfl) rfl (by kernel_rfl) ?_
 refine Ob (Ql (H1 k T) 1 8 (.slice (some ⟨k,0,some 1⟩) 0 1) s) (by kernel_rfl) hD (by kernel_rfl) ?_
 refine Ob (some (v,H2)) (by kernel_rfl) rfl (by kernel_rfl) ?_
 rfl
theorem ev (k:Nat) (T:Tr AJ) (a v:Value) (H2:Aa) (h1:MZ tt (Cr tt JO 1) 1 tO (Fr.made 8 [a]) ⟨k,T,true⟩=MZ tt (Cr tt JO 1) 1 (.seq (.reg [] tQ) .ret) (F1 a) ⟨k,T,true⟩)
 (h:BD tt (Cr tt JO 1) tQ (F1 a) ⟨k,T,true⟩=some (Bn a k v,H2)):Cr tt JO 2 18 [a] ⟨k,T,true⟩=some (v,H2):=by
 show Xr tt [.tmp 2] (MZ tt (Cr tt JO 1) 1 tO (Fr.made 8 [a]) ⟨k,T,true⟩)=_
 rw[h1]
 show Xr tt [.tmp 2] (IK (Ab2 (BD tt (Cr tt JO 1) tQ (F1 a) ⟨k,T,true⟩)) _)=_
 rw[h]
 kernel_rfl
theorem Yo (k:Nat) (T:Tr AJ):Cr tt JO 2 18 [FP 1 0 3 []] ⟨k,T,true⟩=some (.slice (some ⟨k,0,some 1⟩) 0 1,H1 k T):=
 ev k T _ _ _ (by kernel_rfl) (ops _ k T _ _ _ ⟨0,3,[]⟩ rfl (Ze rfl))
theorem Yp (k:Nat) (T:Tr AJ) (n:Nat) (cs:List Value) (hr:EQ (0+(n+1)) 8=true) :
 Cr tt JO 2 18 [FP 1 (n+1) 0 cs] ⟨k,T,true⟩=some (sliceAt (k+1) 0 1 (0+(n+1)) (0+(n+1)) false,(H1 k T).push (.cells (Aq ((n+1)*1) cs) false false [])):=
 ev k T _ _ _ (by kernel_rfl) (ops _ k T _ _ _ ⟨n+1,0,cs⟩ rfl (by rw[Zf rfl hr (Yn k T),UG]))

theorem Pi {P:Program} (hT:Jm P tt) (hf:∀ f r,JO f=some r→Ar P [0] f r) (hm:P.follows .mixedOrders=true) {args:List Value} {H H':Aa} {v:Value} (h:Ph 1 8 args H=some (v,H')) :
 (∀ (as:Array Value) (w:World),(callFunc 18 as).run P w = .ok (.enter 18 as) w) ∧
 ∀ R w args',Ck H R w→JH [0] R→Cf R args args'→Calls P 18 ⟨args'⟩ w fun e w'=>∃ u R',e = .returned u∧VR R' v u∧Ba H R w H' R' w':=by
 refine⟨((Rx hT hf hm 2) 18 _ _ _ _ (Sa 0 .nil)).1,fun R w args' hs hgl ha=>?_⟩
 obtain⟨x,r,rfl,h⟩:=Ad h
 obtain⟨rfl,h⟩:=AC h
 obtain⟨s,hsl,h⟩:=Ab h
 obtain rfl:=Qh hsl
 obtain⟨k,T,z⟩:=H
 obtain⟨hz,h⟩:=Ae (show bb z _ none=some _ from h)
 subst hz
 obtain⟨hr,h⟩:=Ae h
 injection h with h;injection h with e1 e2;subst e1;subst e2
 obtain⟨u,us,rfl,hu,hnil⟩:=ha.uncons
 obtain rfl:=hnil.unnil
 obtain⟨n,fl,cs⟩:=s
 have run:∀ (a v1:Value) (H2:Aa),Cr tt JO 2 18 [a] ⟨k,T,true⟩=some (v1,H2)→VR R a u→Calls P 18 ⟨[u]⟩ w fun e w'=>∃ u' R',e = .returned u'∧VR R' v1 u'∧Ba ⟨k,T,true⟩ R w H2 R' w':=fun a v1 H2 he hau=>
  ((Rx hT hf hm 2) 18 _ _ _ _ he).2 R w [u] hs hgl (.one hau)
 have empty : ∀ (a : Value), VR R a u → (a = FP 1 0 2 [] ∨ a = FP 1 0 3 []) → ∀ o, o = AJ.cells (Aq (0 * 1) cs) false false [] → Calls P 18 ⟨[u]⟩ w fun e w' => ∃ u' R', e = .returned u' ∧ VR R' (.slice (some ⟨Nat.succ k, 0, some 1⟩) 0 (2 * 0 + bb false 1 0)) u' ∧
  Ba ⟨k,T,true⟩ R w ((H1 k T).push o) R' w':=fun a hau hcase o ho=>by
  rcases hcase with rfl | rfl
  ·refine(run _ _ _ (Sa k T) hau).mono fun e w' ⟨u',R',h1,h2,h3⟩=>⟨u',R',h1,?_,(h3.absPush (obj:=.cells [] false false []) rfl).absPush (by rw[ho];rfl)⟩
   rw[h2.slNil_l];exact .slN rfl
  ·refine(run _ _ _ (Yo k T) hau).mono fun e w' ⟨u',R',h1,h2,h3⟩=>⟨u',R',h1,?_,h3.absPush (by rw[ho];rfl)⟩
   cases h2 with
   | sl _ _ _ h3 _=>have:=h3 rfl;subst this;exact .slE rfl
   | slE=>exact .slE rfl
   | slN=>exact .slN rfl
 rcases hu.fs_l (f:=⟨1,n,fl,cs⟩) rfl with⟨h1,h2,rfl⟩ | ⟨_,h1,h2,c,o,sp,rfl⟩ | ⟨c,o,cap,C,hro,rfl,hn,k1,k2,k3,hfit,hcr,hcl⟩
 ·have h1:n=0:=h1
  subst h1
  exact empty _ (.fsN 1 2 (by decide)) (.inl rfl) _ rfl
 ·have h1:n=0:=h1
  subst h1
  exact empty _ (.fsE (by decide)) (.inr rfl) _ rfl
 ·cases n with
  | zero =>
   have hc0:cs=[]:=by simpa using hn
   subst hc0
   exact empty (FP 1 0 3 []) (.mkFs hro rfl (Nat.zero_le _) (fun h=>by cases h) (by decide) hfit hcr hcl) (.inr rfl) _ rfl
  | succ n =>
   refine(run _ _ _ (Yp k T n cs hr) (.mkFs hro hn k1 (fun h=>by cases h) (by decide) hfit hcr hcl)).mono fun e w' ⟨u',R',g1,g2,g3⟩=>⟨u',R',g1,?_,g3⟩
   rwa [Nat.zero_add] at g2
end
end Go.TbRM
set_option maxRecDepth 100000
set_option maxHeartbeats 20000000
set_option linter.unusedVariables false
namespace Go.TbRM
open Go.Sp Go.TbR
noncomputable section
def L6:List Value:=[.int .u8 0,.int .u8 1,.int .u8 56,.int .u8 2,.int .u8 57,.int .u8 49,.int .u8 28,.int .u8 3,.int .u8 61,.int .u8 58,.int .u8 42,.int .u8 50,.int .u8 38,.int .u8 29,.int .u8 17,.int .u8 4,.int .u8 62,.int .u8 47,.int .u8 59,.int .u8 36,.int .u8 45,.int .u8 43,.int .u8 51,.int .u8 22,.int .u8 53,.int .u8 39,.int .u8 33,.int .u8 30,.int .u8 24,.int .u8 18,.int .u8 12,.int .u8 5,.int .u8 63,.int .u8 55,.int .u8 48,.int .u8 27,.int .u8 60,.int .u8 41,.int .u8 37,.int .u8 16,.int .u8 46,.int .u8 35,.int .u8 44,.int .u8 21,.int .u8 52,.int .u8 32,.int .u8 23,.int .u8 11,.int .u8 54,.int .u8 26,.int .u8 40,.int .u8 15,.int .u8 34,.int .u8 20,.int .u8 31,.int .u8 10,.int .u8 25,.int .u8 14,.int .u8 19,.int .u8 9,.int .u8 13,.int .u8 8,.int .u8 7,.int .u8 6]
def tabs:List (List Value):=[L6]
theorem BO {tt:TT} {n0:Nat} {rs:List ResultVar} {v:Value} {F:Fr} {H:Aa} (r:Value) (hm:some r=some v) (h:DV tt F H rs=some r:=by kernel_rfl) (hc:Fe r=true:=by kernel_rfl):Fin tt n0 rs v .ret F H:=kI r h hc hm
theorem IV {α:Type} {k:IntKind} {o:Option Value} {s:Int→Option α} {w:α} (h:oo o none (fun v=>oo (Bi k v) none s)=some w):∃ x,o=some (.int k x)∧s x=some w:=by
 obtain⟨v,h1,h2⟩:=Ab h
 obtain⟨x,hx,h3⟩:=Ab h2
 obtain rfl:=Eh hx
 exact⟨x,h1,h3⟩
theorem oQS {α:Type} {k:Nat} {o:Option Value} {s:Sl→Option α} {w:α} (h:oo o none (fun v=>oo (Bj k v) none s)=some w):∃ x,o=some (Sl.v k x)∧s x=some w:=by
 obtain⟨v,h1,h2⟩:=Ab h
 obtain⟨x,hx,h3⟩:=Ab h2
 obtain rfl:=Qh hx
 exact⟨x,h1,h3⟩
theorem Yq {α:Type} {o:Option Value} {s:Bool→Option α} {w:α} (h:oo o none (fun v=>oo (Bf v) none s)=some w):∃ x,o=some (.bool x)∧s x=some w:=by
 obtain⟨v,h1,h2⟩:=Ab h
 obtain⟨x,hx,h3⟩:=Ab h2
 obtain rfl:=BV hx
 exact⟨x,h1,h3⟩
theorem DL {tt:TT} {call:A8} {n0:Nat} {c:Operand} {a b:RC} {F:Fr} {H:Aa} {Q:Ex→Fr→Aa→Prop} (e:Bool) (hb:e=true) (h:BN tt call n0 a F H Q) (he:Bf (F.eval c)=some e:=by kernel_rfl):BN tt call n0 (.cond c a b) F H Q:=.ifT e he hb h
theorem DT {tt:TT} {call:A8} {n0:Nat} {c:Operand} {a b:RC} {F:Fr} {H:Aa} {Q:Ex→Fr→Aa→Prop} (e:Bool) (hb:e=false) (h:BN tt call n0 b F H Q) (he:Bf (F.eval c)=some e:=by kernel_rfl):BN tt call n0 (.cond c a b) F H Q:=.ifF e he hb h
abbrev BB:Aa:=hp 1 [oT L6]
abbrev hT (n:Nat) (l:List AJ):Aa:=hp n (oT L6::l)
theorem Bp {a b:Bool} (h:b=true) (e:a=b:=by kernel_rfl):a=true:=e.trans h
abbrev OV:=Option Value
abbrev LV:=List Value
def OL:List Nat:=[3,5,8,9,10,11,13,16,17,19,20,21,22,39,40,42,43,44,45,46,47,51,53]
def Fb:FuncId→Bool:=fun g=>ED g OL
def inl (pu:Af):A8:=fun g args H=>bb (Nat.beq g 18) (Ph 1 8 args H) (bb (Nat.beq g 6) (EK tabs [[none],[none]] 2 [.cap 1 0 false,.cap 1 1 true,.cap 1 2 true,.cell 2 0 false,.cell 3 0 false] [false,true,true,false,false] (pu 10060) args H) (bb (Nat.beq g 15) (EK tabs [[some 1],[none],[none],[none]] 4 [.tmp 1 false,.tmp 2 true,.tmp 3 true,.ccap 2 0 0 false,.ccap 2 0 1 true,.ccap 2 0 2 true,.cell 5 0 false,.cell 6 0 false] [false,true,true,false,true,true,false,false] (pu 10150) args H) (bb (Nat.beq g 7) (EK tabs [[some 1],[none],[none],[none]] 4 [.tmp 1 false,.tmp 2 true,.tmp 3 true,.cell 2 0 false,.cell 3 0 false] [false,true,true,false,false] (pu 10070) args H) (none))))
def Bq:LV:=[(.int .u64 (0:Int)),(.int .u64 (0:Int)),(.int .u64 (0:Int)),(.int .u64 (0:Int)),(.int .u64 (0:Int)),(.int .u64 (0:Int)),(.int .u64 (0:Int)),(.int .u64 (0:Int)),(.int .u64 (0:Int)),(.int .u64 (0:Int)),(.int .u64 (0:Int)),(.int .u64 (0:Int)),(.int .u64 (0:Int)),(.int .u64 (0:Int))]
def OM:List UInt8:=[0,1,1,2,1,2,2,3,1,2,2,3,2,3,3,4,1,2,2,3,2,3,3,4,2,3,3,4,3,4,4,5,1,2,2,3,2,3,3,4,2,3,3,4,3,4,4,5,2,3,3,4,3,4,4,5,3,4,4,5,4,5,5,6,1,2,2,3,2,3,3,4,2,3,3,4,3,4,4,5,2,3,3,4,3,4,4,5,3,4,4,5,4,5,5,6,2,3,3,4,3,4,4,5,3,4,4,5,4,5,5,6,3,4,4,5,4,5,5,6,4,5,5,6,5,6,6,7,1,2,2,3,2,3,3,4,2,3,3,4,3,4,4,5,2,3,3,4,3,4,4,5,3,4,4,5,4,5,5,6,2,3,3,4,3,4,4,5,3,4,4,5,4,5,5,6,3,4,4,5,4,5,5,6,4,5,5,6,5,6,6,7,2,3,3,4,3,4,4,5,3,4,4,5,4,5,5,6,3,4,4,5,4,5,5,6,4,5,5,6,5,6,6,7,3,4,4,5,4,5,5,6,4,5,5,6,5,6,6,7,4,5,5,6,5,6,6,7,5,6,6,7,6,7,7,8]
end
end Go.TbRM
set_option maxRecDepth 100000
set_option maxHeartbeats 20000000
set_option linter.unusedVariables false
namespace Go.TbRM
open Go.Sp Go.TbR
noncomputable section
def Pj (pu:Af) (n:Nat) (b0:Bool):OV:=
 (some (.bool b0))
def RO (pu:Af) (n:Nat) (b0:Bool) (z0:Int) (s0:Sl):OV:=
 (oo (pu 10 [(.agg ⟨[.int .i64 z0,(Sl.v 2 s0)]⟩)]) none fun v0=>(oo (CQ v0) none fun l0=>(ll l0 none fun v1 l0=>(ll l0 none fun v2 l0=>(ll l0 (oo (Bf v1) none fun b1=>(oo (Bi .i64 v2) none fun x0=>(bb (Bd x0 (0:Int)) (bb (bq true (bq b1 b0)) (oo (pu 11 []) none fun v3=>(oo (Bf v3) none fun b2=>(Pj pu n b2))) (Pj pu n false)) (Pj pu n false)))) fun _ _=>none)))))
def RP (pu:Af) (n:Nat) (ih0:Bool→Int→Int→Int→Sl→Nat→Nat→Nat→Nat→LV→LV→OV) (b0:Bool) (z0 z1 z2 z3 z4:Int) (b1:Bool) (z5:Int) (s0:Sl) (n0 c0 n1 c1:Nat) (q0:LV) (q1:LV):OV:=
 (bb b1 (some (.bool false)) (bb (Au Ah q0) (bb (Au Ah q1) (bb b0 (bb (Bd z1 z0) (ih0 (Bd z2 z0) z3 (Aj .i64 (Int.add z4 (1:Int))) z5 s0 n0 c0 n1 c1 q0 q1) (ih0 false z3 (Aj .i64 (Int.add z4 (1:Int))) z5 s0 n0 c0 n1 c1 q0 q1)) (ih0 false z3 (Aj .i64 (Int.add z4 (1:Int))) z5 s0 n0 c0 n1 c1 q0 q1)) none) none))
def Pk (pu:Af) (n:Nat) (ih0:Bool→Int→Int→Int→Sl→Nat→Nat→Nat→Nat→LV→LV→OV) (b0:Bool) (z0 z1 z2:Int) (s0:Sl) (n0 c0 n1 c1:Nat) (q0:LV) (q1:LV):OV:=
 (bb (Au Ah q0) (bb (Au Ah q1) (bb (AY z1 z0) (oo (pu 9 [(.agg ⟨[.int .i64 z2,(Sl.v 2 s0)]⟩),.int .i64 z1]) none fun v0=>(oo (CQ v0) none fun l0=>(ll l0 none fun v1 l0=>(ll l0 none fun v2 l0=>(ll l0 none fun v3 l0=>(ll l0 (oo (Bi .i64 v1) none fun x0=>(oo (Bi .i64 v2) none fun x1=>(oo (Bi .i64 v3) none fun x2=>(bb (nt (Bd x2 (0:Int))) (RP pu n ih0 b0 z1 x0 x1 z0 z1 true z2 s0 n0 c0 n1 c1 q0 q1) (oo (EA z1) none fun k1=>(bb (an (Nat.blt k1 n0) true) (oo (AL q0 (0+k1*1)) none fun v4=>(oo (Bi .i64 v4) none fun x3=>(bb (nt (Bd x0 x3)) (RP pu n ih0 b0 (Int.ofNat k1) x0 x1 z0 (Int.ofNat k1) true z2 s0 n0 c0 n1 c1 q0 q1) (bb (an (Nat.blt k1 n1) true) (oo (AL q1 (0+k1*1)) none fun v5=>(oo (Bi .i64 v5) none fun x4=>(RP pu n ih0 b0 (Int.ofNat k1) x0 x1 z0 (Int.ofNat k1) (nt (Bd x1 x4)) z2 s0 n0 c0 n1 c1 q0 q1))) none)))) none)))))) fun _ _=>none)))))) (RO pu n b0 z2 s0)) none) none)
def OO (pu:Af) (n w:Nat):Bool→Int→Int→Int→Sl→Nat→Nat→Nat→Nat→LV→LV→OV:=
 Nat.rec (motive:=fun _=>Bool→Int→Int→Int→Sl→Nat→Nat→Nat→Nat→LV→LV→OV) (fun _ _ _ _ _ _ _ _ _ _ _=>none) (fun _ ih0=>Pk pu n ih0) w
def K3 (pu:Af) (n:Nat) (z85:Int) (s86:Sl) (n87 c88 n89 c90:Nat) (q91:LV) (q92:LV):OV:=
 (bb (Dp (Nat.ble 2 c88) (MQ q91)) (bb (Dp (Nat.ble 2 c90) (MQ q92)) (bb (Au Ah q91) (bb (Au Ah q92) (oo (pu 10060 [.int .i64 z85,(.func (.func 7) ⟨[]⟩ ⟨[(.pointer (some ⟨1,0,none⟩)),(.pointer (some ⟨2,0,none⟩)),(.pointer (some ⟨3,0,none⟩))]⟩),(.agg ⟨[.int .i64 z85,(Sl.v 2 s86)]⟩),(.agg ⟨[(.slice (some ⟨4,0,some 1⟩) n87 c88)]⟩),(.agg ⟨[(.slice (some ⟨5,0,some 1⟩) n89 c90)]⟩),(.agg ⟨q91⟩),(.agg ⟨q92⟩)]) none fun v0=>(oo (CQ v0) none fun l0=>(ll l0 none fun v1 l0=>(ll l0 none fun v2 l0=>(ll l0 none fun v3 l0=>(ll l0 none fun v4 l0=>(ll l0 none fun v5 l0=>(ll l0 none fun v6 l0=>(ll l0 (bb (MC v1) (oo (Bt v2) none fun l1=>(ll l1 none fun v7 l1=>(ll l1 none fun v8 l1=>(ll l1 (oo (Bi .i64 v7) none fun x0=>(oo (Bj 2 v8) none fun s0=>(oo (Bt v3) none fun l2=>(ll l2 none fun v9 l2=>(ll l2 (oo (KP 4 0 1 v9) none fun y0=>(oo (Bt v4) none fun l3=>(ll l3 none fun v10 l3=>(ll l3 (oo (KP 5 0 1 v10) none fun y1=>(oo (Bt v5) none fun q0=>(oo (Bt v6) none fun q1=>(bb (Au Ah q0) (bb (Au Ah q1) (bb (Au Ah q0) (bb (Au Ah q1) (OO pu n n true x0 (0:Int) x0 s0 (NC.n y0) (NC.c y0) (NC.n y1) (NC.c y1) q0 q1) none) none) none) none)))) fun _ _=>none)))) fun _ _=>none))))) fun _ _=>none)))) none) fun _ _=>none))))))))) none) none) none) none)
def Yr (pu:Af) (n:Nat) (ih0:Int→Int→Int→Sl→Nat→Nat→Nat→Nat→LV→LV→OV) (z0 z1 z2:Int) (s0:Sl) (n0 c0 n1 c1:Nat) (q0:LV) (q1:LV):OV:=
 (bb (Au Ah q0) (bb (Au Ah q1) (bb (AY z1 z0) (oo (EA z1) none fun k1=>(bb (an (Nat.blt k1 n0) true) (bb (an (Nat.ble ((0+k1*1)+1) (len q0)) true) (bb (Au Ah (BM ([.int .i64 z2]:LV) (0+k1*1) q0)) (ih0 z0 (Aj .i64 (Int.add (Int.ofNat k1) (1:Int))) z2 s0 n0 c0 n1 c1 (BM ([.int .i64 z2]:LV) (0+k1*1) q0) q1) none) none) none)) (K3 pu n z2 s0 n0 c0 n1 c1 q0 q1)) none) none)
def Ov (pu:Af) (n w:Nat):Int→Int→Int→Sl→Nat→Nat→Nat→Nat→LV→LV→OV:=
 Nat.rec (motive:=fun _=>Int→Int→Int→Sl→Nat→Nat→Nat→Nat→LV→LV→OV) (fun _ _ _ _ _ _ _ _ _ _=>none) (fun _ ih0=>Yr pu n ih0) w
def tT (pu:Af) (n:Nat) (x6:Int) (s8:Sl) (b10:Bool):OV:=
 (oo (pu 5 [(.agg ⟨[.int .u8 x6,(Sl.v 2 s8),(.bool b10)]⟩),(.int .i64 (10:Int))]) none fun v22=>(oo (Bt v22) none fun l24=>(ll l24 none fun v26 l24=>(ll l24 none fun v27 l24=>(ll l24 (oo (Bi .i64 v26) none fun x28=>(oo (Bj 2 v27) none fun s30=>(oo (EA x28) none fun k36=>(bb (an (Nat.ble k36 k36) (an (Nat.ble (k36*8) 1099511627776) (an (Nat.ble k36 1099511627776) true))) (bb (an (Nat.ble k36 k36) (an (Nat.ble (k36*8) 1099511627776) (an (Nat.ble k36 1099511627776) true))) (bb (Au Ah (AF ([(.int .i64 (0:Int))]:LV) k36)) (Ov pu n n (Int.ofNat k36) (0:Int) (Int.ofNat k36) s30 k36 (2*k36+bb true 1 0) k36 (2*k36+bb true 1 0) (AF ([(.int .i64 (0:Int))]:LV) k36) (AF ([(.int .i64 (0:Int))]:LV) k36)) none) none) none)))) fun _ _=>none)))))
def m3 (pu:Af) (n:Nat) (args:LV):OV:=
 (ll args none fun a0 args=>(ll args (oo (Bt a0) none fun l1=>(ll l1 none fun v3 l1=>(ll l1 none fun v4 l1=>(ll l1 none fun v5 l1=>(ll l1 (oo (Bi .u8 v3) none fun x6=>(oo (Bj 2 v4) none fun s8=>(oo (Bf v5) none fun b10=>(tT pu n x6 s8 b10)))) fun _ _=>none))))) fun _ _=>none))
theorem xB (pu:Af) (n:Nat) (b0:Bool) {v:Value} (hm:Pj pu n b0=some v):BN tt (Bb tabs Fb pu (inl pu)) 1 .ret (fr 94 [(2,zB b0)]) BB (Fin tt 1 [.tmp 2] v):=by
 unfold Pj at hm
 refine .ret ?_
 exact BO (zB b0) hm
theorem xC (pu:Af) (n:Nat) (b0:Bool) (z0:Int) (s0:Sl) {v:Value} (hm:RO pu n b0 z0 s0=some v):BN tt (Bb tabs Fb pu (inl pu)) 1 V9 (fr 94 [(3,pt 1 0),(7,zB b0)]) (hT 2 [(oC [zI z0,(Sl.v 2 s0)])]) (Fin tt 1 [.tmp 2] v):=by
 unfold RO at hm
 refine .then ?_
 replace hm:=Ab hm;obtain⟨v0,h0,hm⟩:=hm
 replace hm:=Ch hm;obtain⟨l0,rfl,hm⟩:=hm
 replace hm:=Ad hm;obtain⟨v1,l1556_0,rfl,hm⟩:=hm
 replace hm:=Ad hm;obtain⟨v2,l1556_1,rfl,hm⟩:=hm
 replace hm:=AC hm;obtain⟨rfl,hm⟩:=hm
 replace hm:=Be hm;obtain⟨b1,rfl,hm⟩:=hm
 replace hm:=Ai hm;obtain⟨x0,rfl,hm⟩:=hm
 refine .reg (eC 1 ((oo (pu 10 [(.agg ⟨[zI z0,(Sl.v 2 s0)]⟩)]) none fun v=>some (v,(hT 2 [(oC [zI z0,(Sl.v 2 s0)])])))) (AB h0) (eE)) ?_
 refine .ghs (fr 94 [(7,zB b0),(12,zB b1),(13,zI x0)]) BB (.k0 [false] [] [7,12,13]) ?_
 refine .join (v:=v) (fun y:Bool=>((fr 94 [(2,zB y)]),BB)) (fun y=>Pj pu n y) ?_ ?_
 ·rintro b2 hm
  exact xB pu n b2 hm
 ·replace hm:=Ag hm;rcases hm with⟨h1,hm⟩ | ⟨h1,hm⟩
  ·replace hm:=Ag hm;rcases hm with⟨h2,hm⟩ | ⟨h2,hm⟩
   ·replace hm:=Yq hm;obtain⟨b4,h3,hm⟩:=hm
    refine .reg (eC 1 (some ((zB (Bd x0 (0:Int))),BB)) (show _=some ((zB true),_) from (by rw[show (Bd x0 (0:Int))=true from h1])) (eC 3 (some ((zB (bq true (bq b1 b0))),BB)) (show _=some ((zB true),_) from (by rw[show (bq true (bq b1 b0))=true from h2])) (eC 2 ((oo (pu 11 []) none fun v=>some (v,BB))) (AB h3) (eE)))) ?_
    exact⟨b4,hm,(.k0 [false] [] [2])⟩
   ·refine .reg (eC 1 (some ((zB (Bd x0 (0:Int))),BB)) (show _=some ((zB true),_) from (by rw[show (Bd x0 (0:Int))=true from h1])) (eC 3 (some ((zB (bq true (bq b1 b0))),BB)) (show _=some ((zB false),_) from (by rw[show (bq true (bq b1 b0))=false from h2])) (eE))) ?_
    exact⟨false,hm,(.k0 [false] [] [2])⟩
  ·refine .reg (eC 1 (some ((zB (Bd x0 (0:Int))),BB)) (show _=some ((zB false),_) from (by rw[show (Bd x0 (0:Int))=false from h1])) (eE)) ?_
   exact⟨false,hm,(.k0 [false] [] [2])⟩
theorem xD (pu:Af) (n:Nat) (z85:Int) (s86:Sl) (n87 c88 n89 c90:Nat) (q91:LV) (q92:LV) {v:Value} (hm:K3 pu n z85 s86 n87 c88 n89 c90 q91 q92=some v):BN tt (Bb tabs Fb pu (inl pu)) 1 Wj (fr 94 [(3,pt 1 0),(4,(pt 2 0)),(5,(pt 3 0))]) (hT 6 [(oC [zI z85,(Sl.v 2 s86)]),(oC [sc 4 0 1 n87 c88]),(oC [sc 5 0 1 n89 c90]),oC q91,oC q92]) (Fin tt 1 [.tmp 2] v):=by
 unfold K3 at hm
 refine .then ?_
 replace hm:=Ae hm;obtain⟨h0,hm⟩:=hm
 replace hm:=Ae hm;obtain⟨h1,hm⟩:=hm
 replace hm:=Ae hm;obtain⟨h2,hm⟩:=hm
 replace hm:=Ae hm;obtain⟨h3,hm⟩:=hm
 replace hm:=Ab hm;obtain⟨v0,h4,hm⟩:=hm
 replace hm:=Ch hm;obtain⟨l0,rfl,hm⟩:=hm
 replace hm:=Ad hm;obtain⟨v1,l1214_0,rfl,hm⟩:=hm
 replace hm:=Ad hm;obtain⟨v2,l1214_1,rfl,hm⟩:=hm
 replace hm:=Ad hm;obtain⟨v3,l1214_2,rfl,hm⟩:=hm
 replace hm:=Ad hm;obtain⟨v4,l1214_3,rfl,hm⟩:=hm
 replace hm:=Ad hm;obtain⟨v5,l1214_4,rfl,hm⟩:=hm
 replace hm:=Ad hm;obtain⟨v6,l1214_5,rfl,hm⟩:=hm
 replace hm:=AC hm;obtain⟨rfl,hm⟩:=hm
 replace hm:=Ae hm;obtain⟨h5,hm⟩:=hm
 obtain rfl:=Oo h5
 replace hm:=BG hm;obtain⟨l1,rfl,hm⟩:=hm
 replace hm:=Ad hm;obtain⟨v7,l1223_0,rfl,hm⟩:=hm
 replace hm:=Ad hm;obtain⟨v8,l1223_1,rfl,hm⟩:=hm
 replace hm:=AC hm;obtain⟨rfl,hm⟩:=hm
 replace hm:=Ai hm;obtain⟨x0,rfl,hm⟩:=hm
 replace hm:=Al hm;obtain⟨s0,rfl,hm⟩:=hm
 replace hm:=BG hm;obtain⟨l2,rfl,hm⟩:=hm
 replace hm:=Ad hm;obtain⟨v9,l1231_0,rfl,hm⟩:=hm
 replace hm:=AC hm;obtain⟨rfl,hm⟩:=hm
 replace hm:=Ab hm;obtain⟨y0,h6,hm⟩:=hm
 obtain rfl:=F5 h6
 replace hm:=BG hm;obtain⟨l3,rfl,hm⟩:=hm
 replace hm:=Ad hm;obtain⟨v10,l1236_0,rfl,hm⟩:=hm
 replace hm:=AC hm;obtain⟨rfl,hm⟩:=hm
 replace hm:=Ab hm;obtain⟨y1,h7,hm⟩:=hm
 obtain rfl:=F5 h7
 replace hm:=BG hm;obtain⟨q0,rfl,hm⟩:=hm
 replace hm:=BG hm;obtain⟨q1,rfl,hm⟩:=hm
 replace hm:=Ae hm;obtain⟨h8,hm⟩:=hm
 replace hm:=Ae hm;obtain⟨h9,hm⟩:=hm
 refine .reg (eC 3 (EK tabs [[none],[none]] 2 [.cap 1 0 false,.cap 1 1 true,.cap 1 2 true,.cell 2 0 false,.cell 3 0 false] [false,true,true,false,false] (pu 10060) [zI z85,(.func (.func 7) ⟨[]⟩ ⟨[pt 1 0,(pt 2 0),(pt 3 0)]⟩)] (hT 6 [(oC [zI z85,(Sl.v 2 s86)]),(oC [sc 4 0 1 n87 c88]),(oC [sc 5 0 1 n89 c90]),oC q91,oC q92])) (EL (as:=[zI z85,(.func (.func 7) ⟨[]⟩ ⟨[pt 1 0,(pt 2 0),(pt 3 0)]⟩)]) (H1:=(hT 6 [(oC [zI z85,(Sl.v 2 s86)]),(oC [sc 4 0 1 n87 c88]),(oC [sc 5 0 1 n89 c90]),oC q91,oC q92])) (BS (Dm Dk) (BS (Dm Dk) Gj)) (EI (H2:=(hT 6 [(oC [zI x0,(Sl.v 2 s0)]),(oC [(sc 4 0 1 (NC.n y0) (NC.c y0))]),(oC [(sc 5 0 1 (NC.n y1) (NC.c y1))]),oC q0,oC q1])) (v:=(.tuple ⟨[]⟩)) (v':=(.tuple ⟨[]⟩)) [some 0,some 1,some 2,some 3,some 4,some 5] [(false,some 1),(true,some 2),(true,some 3),(false,some 4),(false,some 5)] [(oC [zI z85,(Sl.v 2 s86)]),(oC [sc 4 0 1 n87 c88]),(oC [sc 5 0 1 n89 c90]),oC q91,oC q92] [zI z85,(.func (.func 7) ⟨[]⟩ ⟨[pt 1 0,(pt 2 0),(pt 3 0)]⟩)] [(.agg ⟨[zI x0,(Sl.v 2 s0)]⟩),(.agg ⟨[(sc 4 0 1 (NC.n y0) (NC.c y0))]⟩),(.agg ⟨[(sc 5 0 1 (NC.n y1) (NC.c y1))]⟩),(.agg ⟨q0⟩),(.agg ⟨q1⟩)] [(oC [zI x0,(Sl.v 2 s0)]),(oC [(sc 4 0 1 (NC.n y0) (NC.c y0))]),(oC [(sc 5 0 1 (NC.n y1) (NC.c y1))]),oC q0,oC q1] [some 0,some 1,some 2,some 3,some 4,some 5] [(false,(oC [zI x0,(Sl.v 2 s0)])),(true,(oC [(sc 4 0 1 (NC.n y0) (NC.c y0))])),(true,(oC [(sc 5 0 1 (NC.n y1) (NC.c y1))])),(false,oC q0),(false,oC q1)] [(oC [zI x0,(Sl.v 2 s0)]),(oC [(sc 4 0 1 (NC.n y0) (NC.c y0))]),(oC [(sc 5 0 1 (NC.n y1) (NC.c y1))]),oC q0,oC q1] (sF (by kernel_rfl) (XX h0 (XX h1 rfl))) (En (by kernel_rfl) (En (by kernel_rfl) (En (by kernel_rfl) (En (Nb (anc:=[]) h2) (En (Nb (anc:=[]) h3) BX))))) (Eq.trans (by kernel_rfl) h4) (En rfl (En rfl (En rfl (En rfl (En rfl BX))))) (En (by kernel_rfl) (En (by kernel_rfl) (En (by kernel_rfl) (En (KO h8) (En (KO h9) BX))))))) (eE)) ?_
 replace hm:=Ae hm;obtain⟨h10,hm⟩:=hm
 replace hm:=Ae hm;obtain⟨h11,hm⟩:=hm
 refine .ghs (fr 94 [(3,pt 1 0),(4,(pt 2 0)),(5,(pt 3 0))]) (hT 6 [(oC [zI x0,(Sl.v 2 s0)]),(oC [(sc 4 0 1 (NC.n y0) (NC.c y0))]),(oC [(sc 5 0 1 (NC.n y1) (NC.c y1))]),oC q0,oC q1]) (.k [4,5] [false] [.tmp 3 false,.tmp 4 true,.tmp 5 true,.cell 2 0 false,.cell 3 0 false] [3,4,5] ⟨Bp h10,Bp h11,trivial⟩) ?_
 refine .then (.rK (.ghs (fr 94 [(3,pt 1 0),(4,(pt 2 0)),(5,(pt 3 0)),(7,zB true)]) (hT 6 [(oC [zI x0,(Sl.v 2 s0)]),(oC [(sc 4 0 1 (NC.n y0) (NC.c y0))]),(oC [(sc 5 0 1 (NC.n y1) (NC.c y1))]),oC q0,oC q1]) (.k [4,5] [false] [.tmp 3 false,.tmp 4 true,.tmp 5 true,.cell 2 0 false,.cell 3 0 false] [3,4,5,7] ⟨Bp h10,Bp h11,trivial⟩) ?_))
 refine .join (v:=v) (fun y:Bool×Int×Sl=>((fr 94 [(3,pt 1 0),(7,(zB y.1))]),(hT 2 [(oC [(zI y.2.1),(Sl.v 2 y.2.2)])]))) (fun y=>RO pu n y.1 y.2.1 y.2.2) ?_ ?_
 ·rintro⟨b0,z0,s1⟩ hm
  exact xC pu n b0 z0 s1 hm
 ·refine .then (.rK (.ghs (fr 94 [(3,pt 1 0),(4,(pt 2 0)),(5,(pt 3 0)),(7,zB true),(38,zI x0),(39,(zI (0:Int)))]) (hT 6 [(oC [zI x0,(Sl.v 2 s0)]),(oC [(sc 4 0 1 (NC.n y0) (NC.c y0))]),(oC [(sc 5 0 1 (NC.n y1) (NC.c y1))]),oC q0,oC q1]) (.k [4,5] [false] [.tmp 3 false,.tmp 4 true,.tmp 5 true,.cell 2 0 false,.cell 3 0 false] [3,4,5,7,38,39] ⟨Bp h10,Bp h11,trivial⟩) ?_))
  refine .block (.loopM (v:=v) (fun y:Bool×Int×Int×Int×Sl×Nat×Nat×Nat×Nat×LV×LV=>((fr 94 [(3,pt 1 0),(4,(pt 2 0)),(5,(pt 3 0)),(7,(zB y.1)),(38,(zI y.2.1)),(39,(zI y.2.2.1))]),(hT 6 [(oC [(zI y.2.2.2.1),(Sl.v 2 y.2.2.2.2.1)]),(oC [(sc 4 0 1 y.2.2.2.2.2.1 y.2.2.2.2.2.2.1)]),(oC [(sc 5 0 1 y.2.2.2.2.2.2.2.1 y.2.2.2.2.2.2.2.2.1)]),(oC y.2.2.2.2.2.2.2.2.2.1),(oC y.2.2.2.2.2.2.2.2.2.2)]))) (fun w y=>OO pu n w y.1 y.2.1 y.2.2.1 y.2.2.2.1 y.2.2.2.2.1 y.2.2.2.2.2.1 y.2.2.2.2.2.2.1 y.2.2.2.2.2.2.2.1 y.2.2.2.2.2.2.2.2.1 y.2.2.2.2.2.2.2.2.2.1 y.2.2.2.2.2.2.2.2.2.2) n ⟨(true,x0,(0:Int),x0,s0,(NC.n y0),(NC.c y0),(NC.n y1),(NC.c y1),q0,q1),hm,(.k [4,5] [false] [.tmp 3 false,.tmp 4 true,.tmp 5 true,.cell 2 0 false,.cell 3 0 false] [3,4,5,7,38,39] ⟨Bp h10,Bp h11,trivial⟩)⟩ (fun _=>rfl) ?_)
  rintro w0 ⟨b1,z1,z2,z3,s2,n0,c0,n1,c1,q2,q3⟩ hm
  replace hm:Pk pu n (OO pu n w0) b1 z1 z2 z3 s2 n0 c0 n1 c1 q2 q3=some v:=hm
  unfold Pk at hm
  refine .then (.rK ?_)
  replace hm:=Ae hm;obtain⟨h12,hm⟩:=hm
  replace hm:=Ae hm;obtain⟨h13,hm⟩:=hm
  refine .ghs (fr 94 [(3,pt 1 0),(4,(pt 2 0)),(5,(pt 3 0)),(7,zB b1),(38,zI z1),(39,zI z2),(40,(zB (AY z2 z1)))]) (hT 6 [(oC [zI z3,(Sl.v 2 s2)]),(oC [sc 4 0 1 n0 c0]),(oC [sc 5 0 1 n1 c1]),oC q2,oC q3]) (.k [4,5] [false] [.tmp 3 false,.tmp 4 true,.tmp 5 true,.cell 2 0 false,.cell 3 0 false] [3,4,5,7,38,39,40] ⟨Bp h12,Bp h13,trivial⟩) ?_
  refine .then ?_
  replace hm:=Ag hm;rcases hm with⟨h14,hm⟩ | ⟨h14,hm⟩
  ·refine DL (AY z2 z1) h14 ?_
   refine .skip (.ghs (fr 94 [(3,pt 1 0),(4,(pt 2 0)),(5,(pt 3 0)),(7,zB b1),(38,zI z1),(39,zI z2)]) (hT 6 [(oC [zI z3,(Sl.v 2 s2)]),(oC [sc 4 0 1 n0 c0]),(oC [sc 5 0 1 n1 c1]),oC q2,oC q3]) (.k [4,5] [false] [.tmp 3 false,.tmp 4 true,.tmp 5 true,.cell 2 0 false,.cell 3 0 false] [3,4,5,7,38,39] ⟨Bp h12,Bp h13,trivial⟩) ?_)
   refine .then (.block (.then (.rK (.ghs (fr 94 [(3,pt 1 0),(4,(pt 2 0)),(5,(pt 3 0)),(7,zB b1),(8,zI z2),(38,zI z1),(39,zI z2)]) (hT 6 [(oC [zI z3,(Sl.v 2 s2)]),(oC [sc 4 0 1 n0 c0]),(oC [sc 5 0 1 n1 c1]),oC q2,oC q3]) (.k [4,5] [false] [.tmp 3 false,.tmp 4 true,.tmp 5 true,.cell 2 0 false,.cell 3 0 false] [3,4,5,7,8,38,39] ⟨Bp h12,Bp h13,trivial⟩) ?_))))
   refine .then ?_
   replace hm:=Ab hm;obtain⟨v11,h15,hm⟩:=hm
   replace hm:=Ch hm;obtain⟨l4,rfl,hm⟩:=hm
   replace hm:=Ad hm;obtain⟨v12,l1630_0,rfl,hm⟩:=hm
   replace hm:=Ad hm;obtain⟨v13,l1630_1,rfl,hm⟩:=hm
   replace hm:=Ad hm;obtain⟨v14,l1630_2,rfl,hm⟩:=hm
   replace hm:=AC hm;obtain⟨rfl,hm⟩:=hm
   replace hm:=Ai hm;obtain⟨x1,rfl,hm⟩:=hm
   replace hm:=Ai hm;obtain⟨x2,rfl,hm⟩:=hm
   replace hm:=Ai hm;obtain⟨x3,rfl,hm⟩:=hm
   refine .reg (eC 2 ((oo (pu 9 [(.agg ⟨[zI z3,(Sl.v 2 s2)]⟩),zI z2]) none fun v=>some (v,(hT 6 [(oC [zI z3,(Sl.v 2 s2)]),(oC [sc 4 0 1 n0 c0]),(oC [sc 5 0 1 n1 c1]),oC q2,oC q3])))) (AB h15) (eE)) ?_
   refine .ghs (fr 94 [(3,pt 1 0),(4,(pt 2 0)),(5,(pt 3 0)),(7,zB b1),(8,zI z2),(9,zI x1),(10,zI x2),(11,zI x3),(38,zI z1),(39,zI z2)]) (hT 6 [(oC [zI z3,(Sl.v 2 s2)]),(oC [sc 4 0 1 n0 c0]),(oC [sc 5 0 1 n1 c1]),oC q2,oC q3]) (.k [4,5] [false] [.tmp 3 false,.tmp 4 true,.tmp 5 true,.cell 2 0 false,.cell 3 0 false] [3,4,5,7,8,9,10,11,38,39] ⟨Bp h12,Bp h13,trivial⟩) ?_
   refine .then (.join (v:=v) (fun y:Bool×Int×Int×Int×Int×Int×Bool×Int×Sl×Nat×Nat×Nat×Nat×LV×LV=>((fr 94 [(3,pt 1 0),(4,(pt 2 0)),(5,(pt 3 0)),(7,(zB y.1)),(8,(zI y.2.1)),(9,(zI y.2.2.1)),(10,(zI y.2.2.2.1)),(38,(zI y.2.2.2.2.1)),(39,(zI y.2.2.2.2.2.1)),(66,(zB y.2.2.2.2.2.2.1))]),(hT 6 [(oC [(zI y.2.2.2.2.2.2.2.1),(Sl.v 2 y.2.2.2.2.2.2.2.2.1)]),(oC [(sc 4 0 1 y.2.2.2.2.2.2.2.2.2.1 y.2.2.2.2.2.2.2.2.2.2.1)]),(oC [(sc 5 0 1 y.2.2.2.2.2.2.2.2.2.2.2.1 y.2.2.2.2.2.2.2.2.2.2.2.2.1)]),(oC y.2.2.2.2.2.2.2.2.2.2.2.2.2.1),(oC y.2.2.2.2.2.2.2.2.2.2.2.2.2.2)]))) (fun y=>RP pu n (OO pu n w0) y.1 y.2.1 y.2.2.1 y.2.2.2.1 y.2.2.2.2.1 y.2.2.2.2.2.1 y.2.2.2.2.2.2.1 y.2.2.2.2.2.2.2.1 y.2.2.2.2.2.2.2.2.1 y.2.2.2.2.2.2.2.2.2.1 y.2.2.2.2.2.2.2.2.2.2.1 y.2.2.2.2.2.2.2.2.2.2.2.1 y.2.2.2.2.2.2.2.2.2.2.2.2.1 y.2.2.2.2.2.2.2.2.2.2.2.2.2.1 y.2.2.2.2.2.2.2.2.2.2.2.2.2.2) ?_ ?_)
   ·rintro⟨b2,z4,z5,z6,z7,z8,b4,z9,s3,n2,c2,n3,c4,q4,q5⟩ hm
    unfold RP at hm
    replace hm:=Ag hm;rcases hm with⟨h16,hm⟩ | ⟨h16,hm⟩
    ·refine .ifT b4 (by kernel_rfl) h16 ?_
     refine .then (.rK (.ghs (fr 94 [(2,zB false)]) BB (.k0 [false] [] [2]) ?_))
     refine .ret ?_
     exact BO (zB false) hm
    ·refine .ifF b4 (by kernel_rfl) h16 ?_
     refine .skip ?_
     replace hm:=Ae hm;obtain⟨h17,hm⟩:=hm
     replace hm:=Ae hm;obtain⟨h18,hm⟩:=hm
     refine .ghs (fr 94 [(3,pt 1 0),(4,(pt 2 0)),(5,(pt 3 0)),(7,zB b2),(8,zI z4),(9,zI z5),(10,zI z6),(38,zI z7),(39,zI z8)]) (hT 6 [(oC [zI z9,(Sl.v 2 s3)]),(oC [sc 4 0 1 n2 c2]),(oC [sc 5 0 1 n3 c4]),oC q4,oC q5]) (.k [4,5] [false] [.tmp 3 false,.tmp 4 true,.tmp 5 true,.cell 2 0 false,.cell 3 0 false] [3,4,5,7,8,9,10,38,39] ⟨Bp h17,Bp h18,trivial⟩) ?_
     replace hm:=Ag hm;rcases hm with⟨h19,hm⟩ | ⟨h19,hm⟩
     ·replace hm:=Ag hm;rcases hm with⟨h20,hm⟩ | ⟨h20,hm⟩
      ·refine .reg (eD (some ((zB b2),(hT 6 [(oC [zI z9,(Sl.v 2 s3)]),(oC [sc 4 0 1 n2 c2]),(oC [sc 5 0 1 n3 c4]),oC q4,oC q5]))) (show _=some ((zB true),_) from (by rw[show b2=true from h19])) (eC 3 (some ((zB (Bd z5 z4)),(hT 6 [(oC [zI z9,(Sl.v 2 s3)]),(oC [sc 4 0 1 n2 c2]),(oC [sc 5 0 1 n3 c4]),oC q4,oC q5]))) (show _=some ((zB true),_) from (by rw[show (Bd z5 z4)=true from h20])) (eE))) ?_
       refine .ghs (fr 94 [(3,pt 1 0),(4,(pt 2 0)),(5,(pt 3 0)),(7,(zB (Bd z6 z4))),(38,zI z7),(39,zI z8)]) (hT 6 [(oC [zI z9,(Sl.v 2 s3)]),(oC [sc 4 0 1 n2 c2]),(oC [sc 5 0 1 n3 c4]),oC q4,oC q5]) (.k [4,5] [false] [.tmp 3 false,.tmp 4 true,.tmp 5 true,.cell 2 0 false,.cell 3 0 false] [3,4,5,7,38,39] ⟨Bp h17,Bp h18,trivial⟩) ?_
       refine .rK ?_
       exact⟨((Bd z6 z4),z7,(Aj .i64 (Int.add z8 (1:Int))),z9,s3,n2,c2,n3,c4,q4,q5),hm,(.k [4,5] [false] [.tmp 3 false,.tmp 4 true,.tmp 5 true,.cell 2 0 false,.cell 3 0 false] [3,4,5,7,38,39] ⟨Bp h17,Bp h18,trivial⟩)⟩
      ·refine .reg (eD (some ((zB b2),(hT 6 [(oC [zI z9,(Sl.v 2 s3)]),(oC [sc 4 0 1 n2 c2]),(oC [sc 5 0 1 n3 c4]),oC q4,oC q5]))) (show _=some ((zB true),_) from (by rw[show b2=true from h19])) (eC 3 (some ((zB (Bd z5 z4)),(hT 6 [(oC [zI z9,(Sl.v 2 s3)]),(oC [sc 4 0 1 n2 c2]),(oC [sc 5 0 1 n3 c4]),oC q4,oC q5]))) (show _=some ((zB false),_) from (by rw[show (Bd z5 z4)=false from h20])) (eE))) ?_
       refine .ghs (fr 94 [(3,pt 1 0),(4,(pt 2 0)),(5,(pt 3 0)),(7,zB false),(38,zI z7),(39,zI z8)]) (hT 6 [(oC [zI z9,(Sl.v 2 s3)]),(oC [sc 4 0 1 n2 c2]),(oC [sc 5 0 1 n3 c4]),oC q4,oC q5]) (.k [4,5] [false] [.tmp 3 false,.tmp 4 true,.tmp 5 true,.cell 2 0 false,.cell 3 0 false] [3,4,5,7,38,39] ⟨Bp h17,Bp h18,trivial⟩) ?_
       refine .rK ?_
       exact⟨(false,z7,(Aj .i64 (Int.add z8 (1:Int))),z9,s3,n2,c2,n3,c4,q4,q5),hm,(.k [4,5] [false] [.tmp 3 false,.tmp 4 true,.tmp 5 true,.cell 2 0 false,.cell 3 0 false] [3,4,5,7,38,39] ⟨Bp h17,Bp h18,trivial⟩)⟩
     ·refine .reg (eD (some ((zB b2),(hT 6 [(oC [zI z9,(Sl.v 2 s3)]),(oC [sc 4 0 1 n2 c2]),(oC [sc 5 0 1 n3 c4]),oC q4,oC q5]))) (show _=some ((zB false),_) from (by rw[show b2=false from h19])) (eE)) ?_
      refine .ghs (fr 94 [(3,pt 1 0),(4,(pt 2 0)),(5,(pt 3 0)),(7,zB false),(38,zI z7),(39,zI z8)]) (hT 6 [(oC [zI z9,(Sl.v 2 s3)]),(oC [sc 4 0 1 n2 c2]),(oC [sc 5 0 1 n3 c4]),oC q4,oC q5]) (.k [4,5] [false] [.tmp 3 false,.tmp 4 true,.tmp 5 true,.cell 2 0 false,.cell 3 0 false] [3,4,5,7,38,39] ⟨Bp h17,Bp h18,trivial⟩) ?_
      refine .rK ?_
      exact⟨(false,z7,(Aj .i64 (Int.add z8 (1:Int))),z9,s3,n2,c2,n3,c4,q4,q5),hm,(.k [4,5] [false] [.tmp 3 false,.tmp 4 true,.tmp 5 true,.cell 2 0 false,.cell 3 0 false] [3,4,5,7,38,39] ⟨Bp h17,Bp h18,trivial⟩)⟩
   ·replace hm:=Ag hm;rcases hm with⟨h21,hm⟩ | ⟨h21,hm⟩
    ·refine .reg (eC 1 (some ((zB (nt (Bd x3 (0:Int)))),(hT 6 [(oC [zI z3,(Sl.v 2 s2)]),(oC [sc 4 0 1 n0 c0]),(oC [sc 5 0 1 n1 c1]),oC q2,oC q3]))) (show _=some ((zB true),_) from (by rw[show (nt (Bd x3 (0:Int)))=true from h21])) (eE)) ?_
     exact⟨(b1,z2,x1,x2,z1,z2,true,z3,s2,n0,c0,n1,c1,q2,q3),hm,(.k [4,5] [false] [.tmp 3 false,.tmp 4 true,.tmp 5 true,.cell 2 0 false,.cell 3 0 false] [3,4,5,7,8,9,10,38,39,66] ⟨Bp h12,Bp h13,trivial⟩)⟩
    ·replace hm:=Ab hm;obtain⟨k1,h22,hm⟩:=hm
     obtain rfl:=AR h22
     replace hm:=Ae hm;obtain⟨h23,hm⟩:=hm
     replace hm:=IV hm;obtain⟨x4,h24,hm⟩:=hm
     replace hm:=Ag hm;rcases hm with⟨h25,hm⟩ | ⟨h25,hm⟩
     ·refine .reg (eC 1 (some ((zB (nt (Bd x3 (0:Int)))),(hT 6 [(oC [zI z3,(Sl.v 2 s2)]),(oC [sc 4 0 1 n0 c0]),(oC [sc 5 0 1 n1 c1]),oC q2,oC q3]))) (show _=some ((zB false),_) from (by rw[show (nt (Bd x3 (0:Int)))=false from h21])) (eC 4 (keep (hT 6 [(oC [zI z3,(Sl.v 2 s2)]),(oC [sc 4 0 1 n0 c0]),(oC [sc 5 0 1 n1 c1]),oC q2,oC q3]) (bb (an (Nat.blt k1 n0) true) (some (.pointer (some ⟨4,(0+k1*1),none⟩))) none)) (AX h23) (eD (keep (hT 6 [(oC [zI z3,(Sl.v 2 s2)]),(oC [sc 4 0 1 n0 c0]),(oC [sc 5 0 1 n1 c1]),oC q2,oC q3]) (AL q2 (0+k1*1))) (AZ h24) (eD (some ((zB (nt (Bd x1 x4))),(hT 6 [(oC [zI z3,(Sl.v 2 s2)]),(oC [sc 4 0 1 n0 c0]),(oC [sc 5 0 1 n1 c1]),oC q2,oC q3]))) (show _=some ((zB true),_) from (by rw[show (nt (Bd x1 x4))=true from h25])) (eE))))) ?_
      exact⟨(b1,(Int.ofNat k1),x1,x2,z1,(Int.ofNat k1),true,z3,s2,n0,c0,n1,c1,q2,q3),hm,(.k [4,5] [false] [.tmp 3 false,.tmp 4 true,.tmp 5 true,.cell 2 0 false,.cell 3 0 false] [3,4,5,7,8,9,10,38,39,66] ⟨Bp h12,Bp h13,trivial⟩)⟩
     ·replace hm:=Ae hm;obtain⟨h26,hm⟩:=hm
      replace hm:=IV hm;obtain⟨x5,h27,hm⟩:=hm
      refine .reg (eN 8 (Fr.puts (fr 94 [(3,pt 1 0),(4,(pt 2 0)),(5,(pt 3 0)),(7,zB b1),(8,(zI (Int.ofNat k1))),(9,zI x1),(10,zI x2),(11,zI x3),(38,zI z1),(39,(zI (Int.ofNat k1)))]) [(49,zI x3),(50,zB false),(51,zB false),(52,zI x1),(53,sc 4 0 1 n0 c0),(54,(zI (Int.ofNat k1))),(55,(.pointer (some ⟨4,(0+k1*1),none⟩))),(56,zI x4)]) (hT 6 [(oC [zI z3,(Sl.v 2 s2)]),(oC [sc 4 0 1 n0 c0]),(oC [sc 5 0 1 n1 c1]),oC q2,oC q3]) (eC 1 (some ((zB (nt (Bd x3 (0:Int)))),(hT 6 [(oC [zI z3,(Sl.v 2 s2)]),(oC [sc 4 0 1 n0 c0]),(oC [sc 5 0 1 n1 c1]),oC q2,oC q3]))) (show _=some ((zB false),_) from (by rw[show (nt (Bd x3 (0:Int)))=false from h21])) (eC 4 (keep (hT 6 [(oC [zI z3,(Sl.v 2 s2)]),(oC [sc 4 0 1 n0 c0]),(oC [sc 5 0 1 n1 c1]),oC q2,oC q3]) (bb (an (Nat.blt k1 n0) true) (some (.pointer (some ⟨4,(0+k1*1),none⟩))) none)) (AX h23) (eD (keep (hT 6 [(oC [zI z3,(Sl.v 2 s2)]),(oC [sc 4 0 1 n0 c0]),(oC [sc 5 0 1 n1 c1]),oC q2,oC q3]) (AL q2 (0+k1*1))) (AZ h24) (by kernel_rfl)))) (eD (some ((zB (nt (Bd x1 x4))),(hT 6 [(oC [zI z3,(Sl.v 2 s2)]),(oC [sc 4 0 1 n0 c0]),(oC [sc 5 0 1 n1 c1]),oC q2,oC q3]))) (show _=some ((zB false),_) from (by rw[show (nt (Bd x1 x4))=false from h25])) (eC 5 (keep (hT 6 [(oC [zI z3,(Sl.v 2 s2)]),(oC [sc 4 0 1 n0 c0]),(oC [sc 5 0 1 n1 c1]),oC q2,oC q3]) (bb (an (Nat.blt k1 n1) true) (some (.pointer (some ⟨5,(0+k1*1),none⟩))) none)) (AX h26) (eD (keep (hT 6 [(oC [zI z3,(Sl.v 2 s2)]),(oC [sc 4 0 1 n0 c0]),(oC [sc 5 0 1 n1 c1]),oC q2,oC q3]) (AL q3 (0+k1*1))) (AZ h27) (eE))))) ?_
      exact⟨(b1,(Int.ofNat k1),x1,x2,z1,(Int.ofNat k1),(nt (Bd x2 x5)),z3,s2,n0,c0,n1,c1,q2,q3),hm,(.k [4,5] [false] [.tmp 3 false,.tmp 4 true,.tmp 5 true,.cell 2 0 false,.cell 3 0 false] [3,4,5,7,8,9,10,38,39,66] ⟨Bp h12,Bp h13,trivial⟩)⟩
  ·refine DT (AY z2 z1) h14 ?_
   refine .exit ?_
   exact⟨(b1,z3,s2),hm,(.k0 [false] [.tmp 3 false] [3,7])⟩
theorem r3 {call:A8} (pu:Af) (n:Nat) (hcall:call=Bb tabs Fb pu (inl pu)) {args:LV} {v:Value} (hm:m3 pu n args=some v) (_:∀ x∈args,closed2 x=true):args.length≤94∧BN tt call 1 PM (Fr.made 94 args) (Ao tabs) (Fin tt 1 [.tmp 2] v):=by
 subst hcall
 unfold m3 at hm
 replace hm:=Ad hm;obtain⟨a0,args_0,rfl,hm⟩:=hm
 replace hm:=AC hm;obtain⟨rfl,hm⟩:=hm
 replace hm:=BG hm;obtain⟨l1,rfl,hm⟩:=hm
 replace hm:=Ad hm;obtain⟨v3,l1_0,rfl,hm⟩:=hm
 replace hm:=Ad hm;obtain⟨v4,l1_1,rfl,hm⟩:=hm
 replace hm:=Ad hm;obtain⟨v5,l1_2,rfl,hm⟩:=hm
 replace hm:=AC hm;obtain⟨rfl,hm⟩:=hm
 replace hm:=Ai hm;obtain⟨x6,rfl,hm⟩:=hm
 replace hm:=Al hm;obtain⟨s8,rfl,hm⟩:=hm
 replace hm:=Be hm;obtain⟨b10,rfl,hm⟩:=hm
 unfold tT at hm
 refine⟨by simp,?_⟩
 refine .same (F':=(fr 94 [(0,(.agg ⟨[(zY x6),(Sl.v 2 s8),zB b10]⟩))])) (H':=BB) (by kernel_rfl) (by kernel_rfl) ?_
 refine .then (.rK (.ghs (fr 94 [(1,pt 1 0)]) (hT 2 [(oC [(zY x6),(Sl.v 2 s8),zB b10])]) (.k0 [false] [.tmp 1 false] [1]) ?_))
 refine .then ?_
 replace hm:=Ab hm;obtain⟨v22,h23,hm⟩:=hm
 replace hm:=BG hm;obtain⟨l24,rfl,hm⟩:=hm
 replace hm:=Ad hm;obtain⟨v26,l24_0,rfl,hm⟩:=hm
 replace hm:=Ad hm;obtain⟨v27,l24_1,rfl,hm⟩:=hm
 replace hm:=AC hm;obtain⟨rfl,hm⟩:=hm
 replace hm:=Ai hm;obtain⟨x28,rfl,hm⟩:=hm
 replace hm:=Al hm;obtain⟨s30,rfl,hm⟩:=hm
 refine .reg (eC 1 ((oo (pu 5 [(.agg ⟨[(zY x6),(Sl.v 2 s8),zB b10]⟩),(zI (10:Int))]) none fun v=>some (v,(hT 2 [(oC [(zY x6),(Sl.v 2 s8),zB b10])])))) (AB h23) (eE)) ?_
 refine .ghs (fr 94 [(3,pt 1 0)]) (hT 2 [(oC [zI x28,(Sl.v 2 s30)])]) (.k0 [false] [.tmp 3 false] [3]) ?_
 refine .then ?_
 replace hm:=Ab hm;obtain⟨k36,h37,hm⟩:=hm
 obtain rfl:=AR h37
 replace hm:=Ae hm;obtain⟨h38,hm⟩:=hm
 replace hm:=Ae hm;obtain⟨h39,hm⟩:=hm
 refine .reg (eC 2 (bb (an (Nat.ble k36 k36) (an (Nat.ble (k36*8) 1099511627776) (an (Nat.ble k36 1099511627776) true))) (some ((sc 2 0 1 k36 (2*k36+bb true 1 0)),(hT 3 [(oC [(zI (Int.ofNat k36)),(Sl.v 2 s30)]),(oC (AF ([(zI (0:Int))]:LV) k36))]))) none) (kH h38) (eC 2 (bb (an (Nat.ble k36 k36) (an (Nat.ble (k36*8) 1099511627776) (an (Nat.ble k36 1099511627776) true))) (some ((sc 3 0 1 k36 (2*k36+bb true 1 0)),(hT 4 [(oC [(zI (Int.ofNat k36)),(Sl.v 2 s30)]),(oC (AF ([(zI (0:Int))]:LV) k36)),(oC (AF ([(zI (0:Int))]:LV) k36))]))) none) (kH h39) (eC 2 (some ((.tuple ⟨[]⟩),(hT 6 [(oC [(zI (Int.ofNat k36)),(Sl.v 2 s30)]),(oC (AF ([(zI (0:Int))]:LV) k36)),(oC (AF ([(zI (0:Int))]:LV) k36)),(oC [(sc 2 0 1 k36 (2*k36+bb true 1 0))]),(oC [(.slice none 0 0)])]))) rfl (eE)))) ?_
 replace hm:=Ae hm;obtain⟨h40,hm⟩:=hm
 refine .ghs (fr 94 [(3,pt 1 0),(4,(pt 2 0)),(5,(pt 3 0))]) (hT 6 [(oC [(zI (Int.ofNat k36)),(Sl.v 2 s30)]),(oC [(sc 4 0 1 k36 (2*k36+bb true 1 0))]),(oC [(sc 5 0 1 k36 (2*k36+bb true 1 0))]),(oC (AF ([(zI (0:Int))]:LV) k36)),(oC (AF ([(zI (0:Int))]:LV) k36))]) (.k [2,3] [false] [.tmp 3 false,.tmp 4 true,.tmp 5 true,.cell 2 0 false,.cell 3 0 false] [3,4,5] ⟨Bp h40,Bp h40,trivial⟩) ?_
 refine .join (v:=v) (fun y:Int×Sl×Nat×Nat×Nat×Nat×LV×LV=>((fr 94 [(3,pt 1 0),(4,(pt 2 0)),(5,(pt 3 0))]),(hT 6 [(oC [(zI y.1),(Sl.v 2 y.2.1)]),(oC [(sc 4 0 1 y.2.2.1 y.2.2.2.1)]),(oC [(sc 5 0 1 y.2.2.2.2.1 y.2.2.2.2.2.1)]),(oC y.2.2.2.2.2.2.1),(oC y.2.2.2.2.2.2.2)]))) (fun y=>K3 pu n y.1 y.2.1 y.2.2.1 y.2.2.2.1 y.2.2.2.2.1 y.2.2.2.2.2.1 y.2.2.2.2.2.2.1 y.2.2.2.2.2.2.2) ?_ ?_
 ·rintro⟨z85,s86,n87,c88,n89,c90,q91,q92⟩ hm
  exact xD pu n z85 s86 n87 c88 n89 c90 q91 q92 hm
 ·refine .then (.rK (.ghs (fr 94 [(3,pt 1 0),(4,(pt 2 0)),(5,(pt 3 0)),(23,(zI (Int.ofNat k36))),(24,(zI (0:Int)))]) (hT 6 [(oC [(zI (Int.ofNat k36)),(Sl.v 2 s30)]),(oC [(sc 4 0 1 k36 (2*k36+bb true 1 0))]),(oC [(sc 5 0 1 k36 (2*k36+bb true 1 0))]),(oC (AF ([(zI (0:Int))]:LV) k36)),(oC (AF ([(zI (0:Int))]:LV) k36))]) (.k [4,5] [false] [.tmp 3 false,.tmp 4 true,.tmp 5 true,.cell 2 0 false,.cell 3 0 false] [3,4,5,23,24] ⟨Bp h40,Bp h40,trivial⟩) ?_))
  refine .block (.loopM (v:=v) (fun y:Int×Int×Int×Sl×Nat×Nat×Nat×Nat×LV×LV=>((fr 94 [(3,pt 1 0),(4,(pt 2 0)),(5,(pt 3 0)),(23,(zI y.1)),(24,(zI y.2.1))]),(hT 6 [(oC [(zI y.2.2.1),(Sl.v 2 y.2.2.2.1)]),(oC [(sc 4 0 1 y.2.2.2.2.1 y.2.2.2.2.2.1)]),(oC [(sc 5 0 1 y.2.2.2.2.2.2.1 y.2.2.2.2.2.2.2.1)]),(oC y.2.2.2.2.2.2.2.2.1),(oC y.2.2.2.2.2.2.2.2.2)]))) (fun w y=>Ov pu n w y.1 y.2.1 y.2.2.1 y.2.2.2.1 y.2.2.2.2.1 y.2.2.2.2.2.1 y.2.2.2.2.2.2.1 y.2.2.2.2.2.2.2.1 y.2.2.2.2.2.2.2.2.1 y.2.2.2.2.2.2.2.2.2) n ⟨((Int.ofNat k36),(0:Int),(Int.ofNat k36),s30,k36,(2*k36+bb true 1 0),k36,(2*k36+bb true 1 0),(AF ([(zI (0:Int))]:LV) k36),(AF ([(zI (0:Int))]:LV) k36)),hm,(.k [4,5] [false] [.tmp 3 false,.tmp 4 true,.tmp 5 true,.cell 2 0 false,.cell 3 0 false] [3,4,5,23,24] ⟨Bp h40,Bp h40,trivial⟩)⟩ (fun _=>rfl) ?_)
  rintro w0 ⟨z0,z1,z2,s0,n0,c0,n1,c1,q0,q1⟩ hm
  replace hm:Yr pu n (Ov pu n w0) z0 z1 z2 s0 n0 c0 n1 c1 q0 q1=some v:=hm
  unfold Yr at hm
  refine .then (.rK ?_)
  replace hm:=Ae hm;obtain⟨h0,hm⟩:=hm
  replace hm:=Ae hm;obtain⟨h1,hm⟩:=hm
  refine .ghs (fr 94 [(3,pt 1 0),(4,(pt 2 0)),(5,(pt 3 0)),(23,zI z0),(24,zI z1),(25,(zB (AY z1 z0)))]) (hT 6 [(oC [zI z2,(Sl.v 2 s0)]),(oC [sc 4 0 1 n0 c0]),(oC [sc 5 0 1 n1 c1]),oC q0,oC q1]) (.k [4,5] [false] [.tmp 3 false,.tmp 4 true,.tmp 5 true,.cell 2 0 false,.cell 3 0 false] [3,4,5,23,24,25] ⟨Bp h0,Bp h1,trivial⟩) ?_
  refine .then ?_
  replace hm:=Ag hm;rcases hm with⟨h2,hm⟩ | ⟨h2,hm⟩
  ·refine DL (AY z1 z0) h2 ?_
   refine .skip (.ghs (fr 94 [(3,pt 1 0),(4,(pt 2 0)),(5,(pt 3 0)),(23,zI z0),(24,zI z1)]) (hT 6 [(oC [zI z2,(Sl.v 2 s0)]),(oC [sc 4 0 1 n0 c0]),(oC [sc 5 0 1 n1 c1]),oC q0,oC q1]) (.k [4,5] [false] [.tmp 3 false,.tmp 4 true,.tmp 5 true,.cell 2 0 false,.cell 3 0 false] [3,4,5,23,24] ⟨Bp h0,Bp h1,trivial⟩) ?_)
   refine .then (.block (.then (.rK (.ghs (fr 94 [(3,pt 1 0),(4,(pt 2 0)),(5,(pt 3 0)),(6,zI z1),(23,zI z0),(24,zI z1)]) (hT 6 [(oC [zI z2,(Sl.v 2 s0)]),(oC [sc 4 0 1 n0 c0]),(oC [sc 5 0 1 n1 c1]),oC q0,oC q1]) (.k [4,5] [false] [.tmp 3 false,.tmp 4 true,.tmp 5 true,.cell 2 0 false,.cell 3 0 false] [3,4,5,6,23,24] ⟨Bp h0,Bp h1,trivial⟩) ?_))))
   replace hm:=Ab hm;obtain⟨k1,h3,hm⟩:=hm
   obtain rfl:=AR h3
   replace hm:=Ae hm;obtain⟨h4,hm⟩:=hm
   replace hm:=Ae hm;obtain⟨h5,hm⟩:=hm
   refine .reg (eC 4 (keep (hT 6 [(oC [zI z2,(Sl.v 2 s0)]),(oC [sc 4 0 1 n0 c0]),(oC [sc 5 0 1 n1 c1]),oC q0,oC q1]) (bb (an (Nat.blt k1 n0) true) (some (.pointer (some ⟨4,(0+k1*1),none⟩))) none)) (AX h4) (eD (done (bb (an (Nat.ble ((0+k1*1)+1) (len q0)) true) (some (hT 6 [(oC [zI z2,(Sl.v 2 s0)]),(oC [sc 4 0 1 n0 c0]),(oC [sc 5 0 1 n1 c1]),(oC (BM ([zI z2]:LV) (0+k1*1) q0)),oC q1])) none) undef) (Js h5) (eE))) ?_
   replace hm:=Ae hm;obtain⟨h6,hm⟩:=hm
   refine .ghs (fr 94 [(3,pt 1 0),(4,(pt 2 0)),(5,(pt 3 0)),(23,zI z0),(24,(zI (Int.ofNat k1)))]) (hT 6 [(oC [zI z2,(Sl.v 2 s0)]),(oC [sc 4 0 1 n0 c0]),(oC [sc 5 0 1 n1 c1]),(oC (BM ([zI z2]:LV) (0+k1*1) q0)),oC q1]) (.k [4,5] [false] [.tmp 3 false,.tmp 4 true,.tmp 5 true,.cell 2 0 false,.cell 3 0 false] [3,4,5,23,24] ⟨Bp h6,Bp h1,trivial⟩) ?_
   refine .rK ?_
   exact⟨(z0,(Aj .i64 (Int.add (Int.ofNat k1) (1:Int))),z2,s0,n0,c0,n1,c1,(BM ([zI z2]:LV) (0+k1*1) q0),q1),hm,(.k [4,5] [false] [.tmp 3 false,.tmp 4 true,.tmp 5 true,.cell 2 0 false,.cell 3 0 false] [3,4,5,23,24] ⟨Bp h6,Bp h1,trivial⟩)⟩
  ·refine DT (AY z1 z0) h2 ?_
   refine .exit ?_
   exact⟨(z2,s0,n0,c0,n1,c1,q0,q1),hm,(.k [4,5] [false] [.tmp 3 false,.tmp 4 true,.tmp 5 true,.cell 2 0 false,.cell 3 0 false] [3,4,5] ⟨Bp h0,Bp h1,trivial⟩)⟩
def Pm (pu:Af) (n:Nat) (z0 z1:Int) (n0 c0:Nat) (q0:LV):OV:=
 (bb (Au Ah q0) (bb (an (Nat.ble (0+n0*2) (len q0)) (Au Ah (Aq (n0*2) (Am 0 q0)))) (some (.agg ⟨[.int .i64 z1,(Sl.v 2 (Sl.mk n0 0 (Aq (n0*2) (Am 0 q0))))]⟩)) none) none)
def Pn (pu:Af) (n:Nat) (ih0:Int→Sl→Int→Int→Int→Int→Nat→Nat→LV→OV) (z0:Int) (s0:Sl) (z1 z2:Int) (b0:Bool) (z3 z4:Int) (n0 c0:Nat) (z5 z6:Int) (q0:LV):OV:=
 (bb b0 (bb (Au Ah q0) (Pm pu n z3 z4 n0 c0 q0) none) (bb (Au Ah q0) (bb (nt (Bd (Aj .i64 (Int.sub z4 (1:Int))) (0:Int))) (bb (nt (Bd (Aj .i64 (Int.sub (Aj .i64 (Int.sub z4 (1:Int))) (Int.tmod (Aj .i64 z5) (Aj .i64 (Int.sub z4 (1:Int)))))) (0:Int))) (bb (GV 2 16 n0 c0 1 q0) (bb (Au Ah (Br (Am 0 q0) [(.int .i64 (Int.tmod (Aj .i64 z5) (Aj .i64 (Int.sub z4 (1:Int))))),(.int .i64 (Aj .i64 (Int.add (Aj .i64 (Int.add (Int.tmod (Aj .i64 z5) (Aj .i64 (Int.sub z4 (1:Int)))) (1:Int))) (Int.tmod (Aj .i64 z6) (Aj .i64 (Int.sub (Aj .i64 (Int.sub z4 (1:Int))) (Int.tmod (Aj .i64 z5) (Aj .i64 (Int.sub z4 (1:Int))))))))))])) (ih0 z0 s0 z1 (Aj .i64 (Int.add z2 (1:Int))) z3 z4 (n0+1) (2*(n0+1)+bb false 1 0) (Br (Am 0 q0) [(.int .i64 (Int.tmod (Aj .i64 z5) (Aj .i64 (Int.sub z4 (1:Int))))),(.int .i64 (Aj .i64 (Int.add (Aj .i64 (Int.add (Int.tmod (Aj .i64 z5) (Aj .i64 (Int.sub z4 (1:Int)))) (1:Int))) (Int.tmod (Aj .i64 z6) (Aj .i64 (Int.sub (Aj .i64 (Int.sub z4 (1:Int))) (Int.tmod (Aj .i64 z5) (Aj .i64 (Int.sub z4 (1:Int))))))))))])) none) none) none) none) none))
def Sb (pu:Af) (n:Nat) (ih0:Int→Sl→Int→Int→Int→Int→Nat→Nat→LV→OV) (z0:Int) (s0:Sl) (z1 z2 z3 z4:Int) (n0 c0:Nat) (q0:LV):OV:=
 (bb (Au Ah q0) (bb (AY z2 z1) (oo (EA z2) none fun k1=>(bb (an (Nat.blt k1 (Sl.n s0)) true) (bb (Nat.ble ((k1*2)+2) (len (Sl.cs s0))) (oo (AL (Sl.cs s0) (k1*2)) none fun v0=>(oo (Bi .u8 v0) none fun x0=>(oo (AL (Sl.cs s0) ((k1*2)+1)) none fun v1=>(oo (Bi .u8 v1) none fun x1=>(bb (nt (AY (Int.ofNat k1) z0)) (Pn pu n ih0 z0 s0 z1 (Int.ofNat k1) true z3 z4 n0 c0 x0 x1 q0) (Pn pu n ih0 z0 s0 z1 (Int.ofNat k1) (AY z4 (2:Int)) z3 z4 n0 c0 x0 x1 q0)))))) none) none)) (Pm pu n z3 z4 n0 c0 q0)) none)
def Po (pu:Af) (n w:Nat):Int→Sl→Int→Int→Int→Int→Nat→Nat→LV→OV:=
 Nat.rec (motive:=fun _=>Int→Sl→Int→Int→Int→Int→Nat→Nat→LV→OV) (fun _ _ _ _ _ _ _ _ _=>none) (fun _ ih0=>Sb pu n ih0) w
def OP (pu:Af) (n:Nat) (z0 z1:Int) (s0:Sl) (b0:Bool) (z2 z3:Int) (n0 c0:Nat) (q0:LV):OV:=
 (bb (Au Ah q0) (Po pu n n z0 s0 (Int.ofNat (Sl.n s0)) (0:Int) z2 z3 n0 c0 q0) none)
def Yt (pu:Af) (n:Nat) (ih0:Int→Int→Int→Sl→Bool→Int→Int→Nat→Nat→LV→OV) (z0 z1 z2:Int) (s0:Sl) (b0:Bool) (z3 z4:Int) (n0 c0:Nat) (q0:LV):OV:=
 (bb (Au Ah q0) (ih0 z0 (Aj .i64 (Int.sub z1 (1:Int))) z2 s0 b0 z3 z4 n0 c0 q0) none)
def Yu (pu:Af) (n:Nat) (ih0:Int→Int→Int→Sl→Bool→Int→Int→Nat→Nat→LV→OV) (ih1:Int→Int→Int→Int→Sl→Bool→Int→Int→Nat→Nat→LV→OV) (z0 z1 z2 z3:Int) (s0:Sl) (b0:Bool) (z4 z5:Int) (n0 c0:Nat) (q0:LV):OV:=
 (bb (Au Ah q0) (bb (AY (Aj .i64 (Int.add z2 (1:Int))) z1) (bb (GV 2 16 n0 c0 1 q0) (bb (Au Ah (Br (Am 0 q0) [.int .i64 z2,(.int .i64 (Aj .i64 (Int.add z2 (1:Int))))])) (ih1 z0 z1 (Aj .i64 (Int.add z2 (1:Int))) z3 s0 b0 z4 z5 (n0+1) (2*(n0+1)+bb false 1 0) (Br (Am 0 q0) [.int .i64 z2,(.int .i64 (Aj .i64 (Int.add z2 (1:Int))))])) none) none) (Yt pu n ih0 z0 z1 z3 s0 b0 z4 z5 n0 c0 q0)) none)
def Yv (pu:Af) (n:Nat) (ih0:Int→Int→Int→Sl→Bool→Int→Int→Nat→Nat→LV→OV) (w:Nat):Int→Int→Int→Int→Sl→Bool→Int→Int→Nat→Nat→LV→OV:=
 Nat.rec (motive:=fun _=>Int→Int→Int→Int→Sl→Bool→Int→Int→Nat→Nat→LV→OV) (fun _ _ _ _ _ _ _ _ _ _ _=>none) (fun _ ih1=>Yu pu n ih0 ih1) w
def Yw (pu:Af) (n:Nat) (ih0:Int→Int→Int→Sl→Bool→Int→Int→Nat→Nat→LV→OV) (z0 z1 z2:Int) (s0:Sl) (b0:Bool) (z3 z4:Int) (n0 c0:Nat) (q0:LV):OV:=
 (bb (Au Ah q0) (bb (AY (1:Int) z1) (Yv pu n ih0 n z0 z1 (0:Int) z2 s0 b0 z3 z4 n0 c0 q0) (OP pu n z0 z2 s0 b0 z3 z4 n0 c0 q0)) none)
def OQ (pu:Af) (n w:Nat):Int→Int→Int→Sl→Bool→Int→Int→Nat→Nat→LV→OV:=
 Nat.rec (motive:=fun _=>Int→Int→Int→Sl→Bool→Int→Int→Nat→Nat→LV→OV) (fun _ _ _ _ _ _ _ _ _ _=>none) (fun _ ih0=>Yw pu n ih0) w
def tV (pu:Af) (n:Nat) (x0:Int) (s0:Sl) (b0:Bool) (x1:Int):OV:=
 (bb b0 (OQ pu n n x1 (Aj .i64 (Int.add (1:Int) (Int.tmod (Aj .i64 x0) (5:Int)))) x0 s0 b0 (0:Int) (Aj .i64 (Int.add (1:Int) (Int.tmod (Aj .i64 x0) (5:Int)))) 0 0 ([]:LV)) (OP pu n x1 x0 s0 b0 (0:Int) (Aj .i64 (Int.add (1:Int) (Int.tmod (Aj .i64 x0) (5:Int)))) 0 0 ([]:LV)))
def m5 (pu:Af) (n:Nat) (args:LV):OV:=
 (ll args none fun a0 args=>(ll args none fun a1 args=>(ll args (oo (Bt a0) none fun l0=>(ll l0 none fun v0 l0=>(ll l0 none fun v1 l0=>(ll l0 none fun v2 l0=>(ll l0 (oo (Bi .u8 v0) none fun x0=>(oo (Bj 2 v1) none fun s0=>(oo (Bf v2) none fun b0=>(oo (Bi .i64 a1) none fun x1=>(tV pu n x0 s0 b0 x1))))) fun _ _=>none))))) fun _ _=>none)))
theorem xE (pu:Af) (n:Nat) (z0 z1:Int) (n0 c0:Nat) (q0:LV) {v:Value} (hm:Pm pu n z0 z1 n0 c0 q0=some v):BN tt (Bb tabs Fb pu (inl pu)) 1 Wl (fr 84 [(4,pt 1 0),(5,(pt 2 0))]) (hT 4 [(oC [zI z0,(.slice none 0 0)]),(oC [zI z1,sc 3 0 2 n0 c0]),oC q0]) (Fin tt 1 [.cell 4 27] v):=by
 unfold Pm at hm
 refine .then (.rK ?_)
 replace hm:=Ae hm;obtain⟨h0,hm⟩:=hm
 refine .ghs (fr 84 [(4,pt 1 0)]) (hT 3 [(oC [zI z1,sc 2 0 2 n0 c0]),oC q0]) (.k [3] [false] [.tmp 4 true,.cell 1 1 false] [4] ⟨Bp h0,trivial⟩) ?_
 refine .ret ?_
 replace hm:=Ae hm;obtain⟨h1,hm⟩:=hm
 exact Uc (.agg ⟨[zI z1,sc 2 0 2 n0 c0]⟩) (.agg ⟨[zI z1,(Sl.v 2 (Sl.mk n0 0 (Aq (n0*2) (Am 0 q0))))]⟩) (by kernel_rfl) (FU.agg (.cons (FU.refl _ _ _) (.cons (FU.frz (v':=(Sl.v 2 (Sl.mk n0 0 (Aq (n0*2) (Am 0 q0))))) (H1:=(hT 3 [(oC [zI z1,sc 2 0 2 n0 c0]),.dead])) 1 false (an (Nat.ble (0+n0*2) (len q0)) (Au Ah (Aq (n0*2) (Am 0 q0)))) (by kernel_rfl) (by kernel_rfl) h1) (Mr.nil _)))) (by kernel_rfl) hm
theorem xG (pu:Af) (n:Nat) (z0 z1:Int) (s0:Sl) (b0:Bool) (z2 z3:Int) (n0 c0:Nat) (q0:LV) {v:Value} (hm:OP pu n z0 z1 s0 b0 z2 z3 n0 c0 q0=some v):BN tt (Bb tabs Fb pu (inl pu)) 1 Wm (fr 84 [(1,zI z0),(2,pt 1 0),(4,(pt 2 0)),(5,(pt 3 0))]) (hT 5 [(oC [(zY z1),(Sl.v 2 s0),zB b0]),(oC [zI z2,(.slice none 0 0)]),(oC [zI z3,sc 4 0 2 n0 c0]),oC q0]) (Fin tt 1 [.cell 4 27] v):=by
 unfold OP at hm
 refine .join (v:=v) (fun y:Int×Int×Nat×Nat×LV=>((fr 84 [(4,pt 1 0),(5,(pt 2 0))]),(hT 4 [(oC [(zI y.1),(.slice none 0 0)]),(oC [(zI y.2.1),(sc 3 0 2 y.2.2.1 y.2.2.2.1)]),(oC y.2.2.2.2)]))) (fun y=>Pm pu n y.1 y.2.1 y.2.2.1 y.2.2.2.1 y.2.2.2.2) ?_ ?_
 ·rintro⟨z4,z5,n1,c1,q1⟩ hm
  exact xE pu n z4 z5 n1 c1 q1 hm
 ·refine .then (.rK ?_)
  replace hm:=Ae hm;obtain⟨h0,hm⟩:=hm
  refine .ghs (fr 84 [(1,zI z0),(4,pt 1 0),(5,(pt 2 0)),(41,(Sl.v 2 s0)),(42,(zI (Int.ofNat (Sl.n s0)))),(43,(zI (0:Int)))]) (hT 4 [(oC [zI z2,(.slice none 0 0)]),(oC [zI z3,sc 3 0 2 n0 c0]),oC q0]) (.k [4] [false] [.tmp 4 false,.tmp 5 true,.cell 2 1 false] [1,4,5,41,42,43] ⟨Bp h0,trivial⟩) ?_
  refine .block (.loopM (v:=v) (fun y:Int×Sl×Int×Int×Int×Int×Nat×Nat×LV=>((fr 84 [(1,(zI y.1)),(4,pt 1 0),(5,(pt 2 0)),(41,(Sl.v 2 y.2.1)),(42,(zI y.2.2.1)),(43,(zI y.2.2.2.1))]),(hT 4 [(oC [(zI y.2.2.2.2.1),(.slice none 0 0)]),(oC [(zI y.2.2.2.2.2.1),(sc 3 0 2 y.2.2.2.2.2.2.1 y.2.2.2.2.2.2.2.1)]),(oC y.2.2.2.2.2.2.2.2)]))) (fun w y=>Po pu n w y.1 y.2.1 y.2.2.1 y.2.2.2.1 y.2.2.2.2.1 y.2.2.2.2.2.1 y.2.2.2.2.2.2.1 y.2.2.2.2.2.2.2.1 y.2.2.2.2.2.2.2.2) n ⟨(z0,s0,(Int.ofNat (Sl.n s0)),(0:Int),z2,z3,n0,c0,q0),hm,(.k [3] [false] [.tmp 4 false,.tmp 5 true,.cell 2 1 false] [1,4,5,41,42,43] ⟨Bp h0,trivial⟩)⟩ (fun _=>rfl) ?_)
  rintro w0 ⟨z6,s1,z7,z8,z9,z10,n2,c2,q2⟩ hm
  replace hm:Sb pu n (Po pu n w0) z6 s1 z7 z8 z9 z10 n2 c2 q2=some v:=hm
  unfold Sb at hm
  refine .then (.rK ?_)
  replace hm:=Ae hm;obtain⟨h1,hm⟩:=hm
  refine .ghs (fr 84 [(1,zI z6),(4,pt 1 0),(5,(pt 2 0)),(41,(Sl.v 2 s1)),(42,zI z7),(43,zI z8),(44,(zB (AY z8 z7)))]) (hT 4 [(oC [zI z9,(.slice none 0 0)]),(oC [zI z10,sc 3 0 2 n2 c2]),oC q2]) (.k [3] [false] [.tmp 4 false,.tmp 5 true,.cell 2 1 false] [1,4,5,41,42,43,44] ⟨Bp h1,trivial⟩) ?_
  refine .then ?_
  replace hm:=Ag hm;rcases hm with⟨h2,hm⟩ | ⟨h2,hm⟩
  ·refine DL (AY z8 z7) h2 ?_
   refine .skip (.ghs (fr 84 [(1,zI z6),(4,pt 1 0),(5,(pt 2 0)),(41,(Sl.v 2 s1)),(42,zI z7),(43,zI z8)]) (hT 4 [(oC [zI z9,(.slice none 0 0)]),(oC [zI z10,sc 3 0 2 n2 c2]),oC q2]) (.k [3] [false] [.tmp 4 false,.tmp 5 true,.cell 2 1 false] [1,4,5,41,42,43] ⟨Bp h1,trivial⟩) ?_)
   refine .then (.block (.then ?_))
   replace hm:=Ab hm;obtain⟨k1,h3,hm⟩:=hm
   obtain rfl:=AR h3
   replace hm:=Ae hm;obtain⟨h4,hm⟩:=hm
   replace hm:=Ae hm;obtain⟨h5,hm⟩:=hm
   replace hm:=IV hm;obtain⟨x0,h6,hm⟩:=hm
   replace hm:=IV hm;obtain⟨x1,h7,hm⟩:=hm
   refine .reg (eC 1 (keep (hT 4 [(oC [zI z9,(.slice none 0 0)]),(oC [zI z10,sc 3 0 2 n2 c2]),oC q2]) (bb (an (Nat.blt k1 (Sl.n s1)) true) (some (Cv (k1*2) (Sl.cs s1))) none)) (AX h4) (eD (keep (hT 4 [(oC [zI z9,(.slice none 0 0)]),(oC [zI z10,sc 3 0 2 n2 c2]),oC q2]) (bb (Nat.ble ((k1*2)+2) (len (Sl.cs s1))) (some (.agg ⟨Aq 2 (Am (k1*2) (Sl.cs s1))⟩)) none)) (Pd h5 (Ca h6 (Ca h7 rfl))) (eE))) ?_
   refine .ghs (fr 84 [(1,zI z6),(4,pt 1 0),(5,(pt 2 0)),(8,(zI (Int.ofNat k1))),(9,(pt 3 0)),(41,(Sl.v 2 s1)),(42,zI z7),(43,(zI (Int.ofNat k1)))]) (hT 5 [(oC [zI z9,(.slice none 0 0)]),(oC [zI z10,sc 4 0 2 n2 c2]),(oC [(zY x0),(zY x1)]),oC q2]) (.k [3] [false] [.tmp 4 false,.tmp 5 true,.tmp 9 false,.cell 2 1 false] [1,4,5,8,9,41,42,43] ⟨Bp h1,trivial⟩) ?_
   refine .then (.join (v:=v) (fun y:Int×Sl×Int×Int×Bool×Int×Int×Nat×Nat×Int×Int×LV=>((fr 84 [(1,(zI y.1)),(4,pt 1 0),(5,(pt 2 0)),(9,(pt 3 0)),(41,(Sl.v 2 y.2.1)),(42,(zI y.2.2.1)),(43,(zI y.2.2.2.1)),(55,(zB y.2.2.2.2.1))]),(hT 5 [(oC [(zI y.2.2.2.2.2.1),(.slice none 0 0)]),(oC [(zI y.2.2.2.2.2.2.1),(sc 4 0 2 y.2.2.2.2.2.2.2.1 y.2.2.2.2.2.2.2.2.1)]),(oC [(zY y.2.2.2.2.2.2.2.2.2.1),(zY y.2.2.2.2.2.2.2.2.2.2.1)]),(oC y.2.2.2.2.2.2.2.2.2.2.2)]))) (fun y=>Pn pu n (Po pu n w0) y.1 y.2.1 y.2.2.1 y.2.2.2.1 y.2.2.2.2.1 y.2.2.2.2.2.1 y.2.2.2.2.2.2.1 y.2.2.2.2.2.2.2.1 y.2.2.2.2.2.2.2.2.1 y.2.2.2.2.2.2.2.2.2.1 y.2.2.2.2.2.2.2.2.2.2.1 y.2.2.2.2.2.2.2.2.2.2.2) ?_ ?_)
   ·rintro⟨z11,s2,z12,z13,b1,z14,z15,n3,c4,z16,z17,q3⟩ hm
    unfold Pn at hm
    replace hm:=Ag hm;rcases hm with⟨h8,hm⟩ | ⟨h8,hm⟩
    ·refine .ifT b1 (by kernel_rfl) h8 ?_
     refine .exit ?_
     replace hm:=Ae hm;obtain⟨h9,hm⟩:=hm
     exact⟨(z14,z15,n3,c4,q3),hm,(.k [4] [false] [.tmp 4 false,.tmp 5 true,.cell 2 1 false] [4,5] ⟨Bp h9,trivial⟩)⟩
    ·refine .ifF b1 (by kernel_rfl) h8 ?_
     refine .skip ?_
     replace hm:=Ae hm;obtain⟨h10,hm⟩:=hm
     refine .ghs (fr 84 [(1,zI z11),(4,pt 1 0),(5,(pt 2 0)),(9,(pt 3 0)),(41,(Sl.v 2 s2)),(42,zI z12),(43,zI z13)]) (hT 5 [(oC [zI z14,(.slice none 0 0)]),(oC [zI z15,sc 4 0 2 n3 c4]),(oC [(zY z16),(zY z17)]),oC q3]) (.k [4] [false] [.tmp 4 false,.tmp 5 true,.tmp 9 false,.cell 2 1 false] [1,4,5,9,41,42,43] ⟨Bp h10,trivial⟩) ?_
     refine .then ?_
     replace hm:=Ae hm;obtain⟨h11,hm⟩:=hm
     refine .reg (eC 6 (keep (hT 5 [(oC [zI z14,(.slice none 0 0)]),(oC [zI z15,sc 4 0 2 n3 c4]),(oC [(zY z16),(zY z17)]),oC q3]) (bb (Bd (Aj .i64 (Int.sub z15 (1:Int))) (0:Int)) none (some (zI (Int.tmod (Aj .i64 z16) (Aj .i64 (Int.sub z15 (1:Int)))))))) (XH h11) (eE)) ?_
     refine .ghs (fr 84 [(1,zI z11),(4,pt 1 0),(5,(pt 2 0)),(9,(pt 3 0)),(10,(zI (Int.tmod (Aj .i64 z16) (Aj .i64 (Int.sub z15 (1:Int)))))),(41,(Sl.v 2 s2)),(42,zI z12),(43,zI z13)]) (hT 5 [(oC [zI z14,(.slice none 0 0)]),(oC [zI z15,sc 4 0 2 n3 c4]),(oC [(zY z16),(zY z17)]),oC q3]) (.k [4] [false] [.tmp 4 false,.tmp 5 true,.tmp 9 false,.cell 2 1 false] [1,4,5,9,10,41,42,43] ⟨Bp h10,trivial⟩) ?_
     replace hm:=Ae hm;obtain⟨h12,hm⟩:=hm
     replace hm:=Ae hm;obtain⟨h13,hm⟩:=hm
     refine .reg (eC 13 (keep (hT 5 [(oC [zI z14,(.slice none 0 0)]),(oC [zI z15,sc 4 0 2 n3 c4]),(oC [(zY z16),(zY z17)]),oC q3]) (bb (Bd (Aj .i64 (Int.sub (Aj .i64 (Int.sub z15 (1:Int))) (Int.tmod (Aj .i64 z16) (Aj .i64 (Int.sub z15 (1:Int)))))) (0:Int)) none (some (zI (Int.tmod (Aj .i64 z17) (Aj .i64 (Int.sub (Aj .i64 (Int.sub z15 (1:Int))) (Int.tmod (Aj .i64 z16) (Aj .i64 (Int.sub z15 (1:Int))))))))))) (XH h12) (eC 3 (Oc 2 16 n3 c4 1 4 q3 [(zI (Int.tmod (Aj .i64 z16) (Aj .i64 (Int.sub z15 (1:Int))))),(zI (Aj .i64 (Int.add (Aj .i64 (Int.add (Int.tmod (Aj .i64 z16) (Aj .i64 (Int.sub z15 (1:Int)))) (1:Int))) (Int.tmod (Aj .i64 z17) (Aj .i64 (Int.sub (Aj .i64 (Int.sub z15 (1:Int))) (Int.tmod (Aj .i64 z16) (Aj .i64 (Int.sub z15 (1:Int))))))))))] [] (hT 6 [(oC [zI z14,(.slice none 0 0)]),(oC [zI z15,sc 4 0 2 n3 c4]),(oC [(zY z16),(zY z17)]),oC q3,(oC [(zI (Int.tmod (Aj .i64 z16) (Aj .i64 (Int.sub z15 (1:Int))))),(zI (Aj .i64 (Int.add (Aj .i64 (Int.add (Int.tmod (Aj .i64 z16) (Aj .i64 (Int.sub z15 (1:Int)))) (1:Int))) (Int.tmod (Aj .i64 z17) (Aj .i64 (Int.sub (Aj .i64 (Int.sub z15 (1:Int))) (Int.tmod (Aj .i64 z16) (Aj .i64 (Int.sub z15 (1:Int))))))))))])])) (I1 h13) (eE))) ?_
     replace hm:=Ae hm;obtain⟨h14,hm⟩:=hm
     refine .ghs (fr 84 [(1,zI z11),(4,pt 1 0),(5,(pt 2 0)),(41,(Sl.v 2 s2)),(42,zI z12),(43,zI z13)]) (hT 4 [(oC [zI z14,(.slice none 0 0)]),(oC [zI z15,(sc 3 0 2 (n3+1) (d2 (n3+1)))]),(oC (Br (Am 0 q3) [(zI (Int.tmod (Aj .i64 z16) (Aj .i64 (Int.sub z15 (1:Int))))),(zI (Aj .i64 (Int.add (Aj .i64 (Int.add (Int.tmod (Aj .i64 z16) (Aj .i64 (Int.sub z15 (1:Int)))) (1:Int))) (Int.tmod (Aj .i64 z17) (Aj .i64 (Int.sub (Aj .i64 (Int.sub z15 (1:Int))) (Int.tmod (Aj .i64 z16) (Aj .i64 (Int.sub z15 (1:Int))))))))))]))]) (.k [6] [false] [.tmp 4 false,.tmp 5 true,.cell 2 1 false] [1,4,5,41,42,43] ⟨Bp h14,trivial⟩) ?_
     refine .rK ?_
     exact⟨(z11,s2,z12,(Aj .i64 (Int.add z13 (1:Int))),z14,z15,(n3+1),(d2 (n3+1)),(Br (Am 0 q3) [(zI (Int.tmod (Aj .i64 z16) (Aj .i64 (Int.sub z15 (1:Int))))),(zI (Aj .i64 (Int.add (Aj .i64 (Int.add (Int.tmod (Aj .i64 z16) (Aj .i64 (Int.sub z15 (1:Int)))) (1:Int))) (Int.tmod (Aj .i64 z17) (Aj .i64 (Int.sub (Aj .i64 (Int.sub z15 (1:Int))) (Int.tmod (Aj .i64 z16) (Aj .i64 (Int.sub z15 (1:Int))))))))))])),hm,(.k [3] [false] [.tmp 4 false,.tmp 5 true,.cell 2 1 false] [1,4,5,41,42,43] ⟨Bp h14,trivial⟩)⟩
   ·replace hm:=Ag hm;rcases hm with⟨h15,hm⟩ | ⟨h15,hm⟩
    ·refine .reg (eC 2 (some ((zB (nt (AY (Int.ofNat k1) z6))),(hT 5 [(oC [zI z9,(.slice none 0 0)]),(oC [zI z10,sc 4 0 2 n2 c2]),(oC [(zY x0),(zY x1)]),oC q2]))) (show _=some ((zB true),_) from (by rw[show (nt (AY (Int.ofNat k1) z6))=true from h15])) (eE)) ?_
     exact⟨(z6,s1,z7,(Int.ofNat k1),true,z9,z10,n2,c2,x0,x1,q2),hm,(.k [4] [false] [.tmp 4 false,.tmp 5 true,.tmp 9 false,.cell 2 1 false] [1,4,5,9,41,42,43,55] ⟨Bp h1,trivial⟩)⟩
    ·refine .reg (eC 2 (some ((zB (nt (AY (Int.ofNat k1) z6))),(hT 5 [(oC [zI z9,(.slice none 0 0)]),(oC [zI z10,sc 4 0 2 n2 c2]),(oC [(zY x0),(zY x1)]),oC q2]))) (show _=some ((zB false),_) from (by rw[show (nt (AY (Int.ofNat k1) z6))=false from h15])) (eE)) ?_
     exact⟨(z6,s1,z7,(Int.ofNat k1),(AY z10 (2:Int)),z9,z10,n2,c2,x0,x1,q2),hm,(.k [4] [false] [.tmp 4 false,.tmp 5 true,.tmp 9 false,.cell 2 1 false] [1,4,5,9,41,42,43,55] ⟨Bp h1,trivial⟩)⟩
  ·refine DT (AY z8 z7) h2 ?_
   refine .exit ?_
   exact⟨(z9,z10,n2,c2,q2),hm,(.k [3] [false] [.tmp 4 false,.tmp 5 true,.cell 2 1 false] [4,5] ⟨Bp h1,trivial⟩)⟩
theorem r5 {call:A8} (pu:Af) (n:Nat) (hcall:call=Bb tabs Fb pu (inl pu)) {args:LV} {v:Value} (hm:m5 pu n args=some v) (_:∀ x∈args,closed2 x=true):args.length≤84∧BN tt call 1 PN (Fr.made 84 args) (Ao tabs) (Fin tt 1 [.cell 4 27] v):=by
 subst hcall
 unfold m5 at hm
 replace hm:=Ad hm;obtain⟨a0,args_0,rfl,hm⟩:=hm
 replace hm:=Ad hm;obtain⟨a1,args_1,rfl,hm⟩:=hm
 replace hm:=AC hm;obtain⟨rfl,hm⟩:=hm
 replace hm:=BG hm;obtain⟨l0,rfl,hm⟩:=hm
 replace hm:=Ad hm;obtain⟨v0,l1769_0,rfl,hm⟩:=hm
 replace hm:=Ad hm;obtain⟨v1,l1769_1,rfl,hm⟩:=hm
 replace hm:=Ad hm;obtain⟨v2,l1769_2,rfl,hm⟩:=hm
 replace hm:=AC hm;obtain⟨rfl,hm⟩:=hm
 replace hm:=Ai hm;obtain⟨x0,rfl,hm⟩:=hm
 replace hm:=Al hm;obtain⟨s0,rfl,hm⟩:=hm
 replace hm:=Be hm;obtain⟨b0,rfl,hm⟩:=hm
 replace hm:=Ai hm;obtain⟨x1,rfl,hm⟩:=hm
 unfold tV at hm
 refine⟨by simp,?_⟩
 refine .same (F':=(fr 84 [(0,(.agg ⟨[(zY x0),(Sl.v 2 s0),zB b0]⟩)),(1,zI x1)])) (H':=BB) (by kernel_rfl) (by kernel_rfl) ?_
 refine .then (.rK (.ghs (fr 84 [(1,zI x1),(2,pt 1 0),(4,(pt 2 0))]) (hT 3 [(oC [(zY x0),(Sl.v 2 s0),zB b0]),(oC [(zI (0:Int)),(.slice none 0 0)])]) (.k0 [false] [.tmp 2 false,.tmp 4 false] [1,2,4]) ?_))
 refine .then (.rK (.ghs (fr 84 [(1,zI x1),(2,pt 1 0),(4,(pt 2 0)),(5,(pt 3 0))]) (hT 4 [(oC [(zY x0),(Sl.v 2 s0),zB b0]),(oC [(zI (0:Int)),(.slice none 0 0)]),(oC [(zI (Aj .i64 (Int.add (1:Int) (Int.tmod (Aj .i64 x0) (5:Int))))),(.slice none 0 0)])]) (.k0 [false] [.tmp 2 false,.tmp 4 false,.tmp 5 false] [1,2,4,5]) ?_))
 refine .join (v:=v) (fun y:Int×Int×Sl×Bool×Int×Int×Nat×Nat×LV=>((fr 84 [(1,(zI y.1)),(2,pt 1 0),(4,(pt 2 0)),(5,(pt 3 0))]),(hT 5 [(oC [(zY y.2.1),(Sl.v 2 y.2.2.1),(zB y.2.2.2.1)]),(oC [(zI y.2.2.2.2.1),(.slice none 0 0)]),(oC [(zI y.2.2.2.2.2.1),(sc 4 0 2 y.2.2.2.2.2.2.1 y.2.2.2.2.2.2.2.1)]),(oC y.2.2.2.2.2.2.2.2)]))) (fun y=>OP pu n y.1 y.2.1 y.2.2.1 y.2.2.2.1 y.2.2.2.2.1 y.2.2.2.2.2.1 y.2.2.2.2.2.2.1 y.2.2.2.2.2.2.2.1 y.2.2.2.2.2.2.2.2) ?_ ?_
 ·rintro⟨z0,z1,s1,b1,z2,z3,n0,c0,q0⟩ hm
  exact xG pu n z0 z1 s1 b1 z2 z3 n0 c0 q0 hm
 ·refine .then (.rK (.ghs (fr 84 [(1,zI x1),(2,pt 1 0),(4,(pt 2 0)),(5,(pt 3 0)),(18,zB b0)]) (hT 4 [(oC [(zY x0),(Sl.v 2 s0),zB b0]),(oC [(zI (0:Int)),(.slice none 0 0)]),(oC [(zI (Aj .i64 (Int.add (1:Int) (Int.tmod (Aj .i64 x0) (5:Int))))),(.slice none 0 0)])]) (.k0 [false] [.tmp 2 false,.tmp 4 false,.tmp 5 false] [1,2,4,5,18]) ?_))
  replace hm:=Ag hm;rcases hm with⟨h0,hm⟩ | ⟨h0,hm⟩
  ·refine .ifT b0 (by kernel_rfl) h0 ?_
   refine .then (.rK (.ghs (fr 84 [(1,zI x1),(2,pt 1 0),(4,(pt 2 0)),(5,(pt 3 0)),(6,(zI (Aj .i64 (Int.add (1:Int) (Int.tmod (Aj .i64 x0) (5:Int))))))]) (hT 4 [(oC [(zY x0),(Sl.v 2 s0),zB b0]),(oC [(zI (0:Int)),(.slice none 0 0)]),(oC [(zI (Aj .i64 (Int.add (1:Int) (Int.tmod (Aj .i64 x0) (5:Int))))),(.slice none 0 0)])]) (.k0 [false] [.tmp 2 false,.tmp 4 false,.tmp 5 false] [1,2,4,5,6]) ?_))
   refine .block (.loopM (v:=v) (fun y:Int×Int×Int×Sl×Bool×Int×Int×Nat×Nat×LV=>((fr 84 [(1,(zI y.1)),(2,pt 1 0),(4,(pt 2 0)),(5,(pt 3 0)),(6,(zI y.2.1))]),(hT 5 [(oC [(zY y.2.2.1),(Sl.v 2 y.2.2.2.1),(zB y.2.2.2.2.1)]),(oC [(zI y.2.2.2.2.2.1),(.slice none 0 0)]),(oC [(zI y.2.2.2.2.2.2.1),(sc 4 0 2 y.2.2.2.2.2.2.2.1 y.2.2.2.2.2.2.2.2.1)]),(oC y.2.2.2.2.2.2.2.2.2)]))) (fun w y=>OQ pu n w y.1 y.2.1 y.2.2.1 y.2.2.2.1 y.2.2.2.2.1 y.2.2.2.2.2.1 y.2.2.2.2.2.2.1 y.2.2.2.2.2.2.2.1 y.2.2.2.2.2.2.2.2.1 y.2.2.2.2.2.2.2.2.2) n ⟨(x1,(Aj .i64 (Int.add (1:Int) (Int.tmod (Aj .i64 x0) (5:Int)))),x0,s0,b0,(0:Int),(Aj .i64 (Int.add (1:Int) (Int.tmod (Aj .i64 x0) (5:Int)))),0,0,([]:LV)),hm,(.thawC 3 1 2 [(zI (Aj .i64 (Int.add (1:Int) (Int.tmod (Aj .i64 x0) (5:Int))))),(.slice none 0 0)] (imm:=false) (spent:=false) (anc:=[]) (by kernel_rfl) (by kernel_rfl) (by kernel_rfl) (by kernel_rfl) (.k0 [false] [.tmp 2 false,.tmp 4 false,.tmp 5 true,.cell 3 1 false] [1,2,4,5,6]))⟩ (fun _=>rfl) ?_)
   rintro w0 ⟨z4,z5,z6,s2,b2,z7,z8,n1,c1,q1⟩ hm
   replace hm:Yw pu n (OQ pu n w0) z4 z5 z6 s2 b2 z7 z8 n1 c1 q1=some v:=hm
   unfold Yw at hm
   refine .then (.then (.rK ?_))
   replace hm:=Ae hm;obtain⟨h1,hm⟩:=hm
   refine .ghs (fr 84 [(1,zI z4),(2,pt 1 0),(4,(pt 2 0)),(5,(pt 3 0)),(6,zI z5),(22,(zB (AY (1:Int) z5)))]) (hT 5 [(oC [(zY z6),(Sl.v 2 s2),zB b2]),(oC [zI z7,(.slice none 0 0)]),(oC [zI z8,sc 4 0 2 n1 c1]),oC q1]) (.k [4] [false] [.tmp 2 false,.tmp 4 false,.tmp 5 true,.cell 3 1 false] [1,2,4,5,6,22] ⟨Bp h1,trivial⟩) ?_
   replace hm:=Ag hm;rcases hm with⟨h2,hm⟩ | ⟨h2,hm⟩
   ·refine DL (AY (1:Int) z5) h2 ?_
    refine .skip (.ghs (fr 84 [(1,zI z4),(2,pt 1 0),(4,(pt 2 0)),(5,(pt 3 0)),(6,zI z5)]) (hT 5 [(oC [(zY z6),(Sl.v 2 s2),zB b2]),(oC [zI z7,(.slice none 0 0)]),(oC [zI z8,sc 4 0 2 n1 c1]),oC q1]) (.k [4] [false] [.tmp 2 false,.tmp 4 false,.tmp 5 true,.cell 3 1 false] [1,2,4,5,6] ⟨Bp h1,trivial⟩) ?_)
    refine .join (v:=v) (fun y:Int×Int×Int×Sl×Bool×Int×Int×Nat×Nat×LV=>((fr 84 [(1,(zI y.1)),(2,pt 1 0),(4,(pt 2 0)),(5,(pt 3 0)),(6,(zI y.2.1))]),(hT 5 [(oC [(zY y.2.2.1),(Sl.v 2 y.2.2.2.1),(zB y.2.2.2.2.1)]),(oC [(zI y.2.2.2.2.2.1),(.slice none 0 0)]),(oC [(zI y.2.2.2.2.2.2.1),(sc 4 0 2 y.2.2.2.2.2.2.2.1 y.2.2.2.2.2.2.2.2.1)]),(oC y.2.2.2.2.2.2.2.2.2)]))) (fun y=>Yt pu n (OQ pu n w0) y.1 y.2.1 y.2.2.1 y.2.2.2.1 y.2.2.2.2.1 y.2.2.2.2.2.1 y.2.2.2.2.2.2.1 y.2.2.2.2.2.2.2.1 y.2.2.2.2.2.2.2.2.1 y.2.2.2.2.2.2.2.2.2) ?_ ?_
    ·rintro⟨z9,z10,z11,s3,b4,z12,z13,n2,c2,q2⟩ hm
     unfold Yt at hm
     refine .rK ?_
     replace hm:=Ae hm;obtain⟨h3,hm⟩:=hm
     exact⟨(z9,(Aj .i64 (Int.sub z10 (1:Int))),z11,s3,b4,z12,z13,n2,c2,q2),hm,(.k [4] [false] [.tmp 2 false,.tmp 4 false,.tmp 5 true,.cell 3 1 false] [1,2,4,5,6] ⟨Bp h3,trivial⟩)⟩
    ·refine .block (.then (.rK (.ghs (fr 84 [(1,zI z4),(2,pt 1 0),(4,(pt 2 0)),(5,(pt 3 0)),(6,zI z5),(7,(zI (0:Int)))]) (hT 5 [(oC [(zY z6),(Sl.v 2 s2),zB b2]),(oC [zI z7,(.slice none 0 0)]),(oC [zI z8,sc 4 0 2 n1 c1]),oC q1]) (.k [4] [false] [.tmp 2 false,.tmp 4 false,.tmp 5 true,.cell 3 1 false] [1,2,4,5,6,7] ⟨Bp h1,trivial⟩) ?_)))
     refine .block (.loopM (v:=v) (fun y:Int×Int×Int×Int×Sl×Bool×Int×Int×Nat×Nat×LV=>((fr 84 [(1,(zI y.1)),(2,pt 1 0),(4,(pt 2 0)),(5,(pt 3 0)),(6,(zI y.2.1)),(7,(zI y.2.2.1))]),(hT 5 [(oC [(zY y.2.2.2.1),(Sl.v 2 y.2.2.2.2.1),(zB y.2.2.2.2.2.1)]),(oC [(zI y.2.2.2.2.2.2.1),(.slice none 0 0)]),(oC [(zI y.2.2.2.2.2.2.2.1),(sc 4 0 2 y.2.2.2.2.2.2.2.2.1 y.2.2.2.2.2.2.2.2.2.1)]),(oC y.2.2.2.2.2.2.2.2.2.2)]))) (fun w y=>Yv pu n (OQ pu n w0) w y.1 y.2.1 y.2.2.1 y.2.2.2.1 y.2.2.2.2.1 y.2.2.2.2.2.1 y.2.2.2.2.2.2.1 y.2.2.2.2.2.2.2.1 y.2.2.2.2.2.2.2.2.1 y.2.2.2.2.2.2.2.2.2.1 y.2.2.2.2.2.2.2.2.2.2) n ⟨(z4,z5,(0:Int),z6,s2,b2,z7,z8,n1,c1,q1),hm,(.k [4] [false] [.tmp 2 false,.tmp 4 false,.tmp 5 true,.cell 3 1 false] [1,2,4,5,6,7] ⟨Bp h1,trivial⟩)⟩ (fun _=>rfl) ?_)
     rintro w1 ⟨z14,z15,z16,z17,s4,b12,z18,z19,n3,c4,q3⟩ hm
     replace hm:Yu pu n (OQ pu n w0) (Yv pu n (OQ pu n w0) w1) z14 z15 z16 z17 s4 b12 z18 z19 n3 c4 q3=some v:=hm
     unfold Yu at hm
     refine .then (.then (.rK ?_))
     replace hm:=Ae hm;obtain⟨h4,hm⟩:=hm
     refine .ghs (fr 84 [(1,zI z14),(2,pt 1 0),(4,(pt 2 0)),(5,(pt 3 0)),(6,zI z15),(7,zI z16),(28,(zB (AY (Aj .i64 (Int.add z16 (1:Int))) z15)))]) (hT 5 [(oC [(zY z17),(Sl.v 2 s4),zB b12]),(oC [zI z18,(.slice none 0 0)]),(oC [zI z19,sc 4 0 2 n3 c4]),oC q3]) (.k [4] [false] [.tmp 2 false,.tmp 4 false,.tmp 5 true,.cell 3 1 false] [1,2,4,5,6,7,28] ⟨Bp h4,trivial⟩) ?_
     replace hm:=Ag hm;rcases hm with⟨h5,hm⟩ | ⟨h5,hm⟩
     ·refine DL (AY (Aj .i64 (Int.add z16 (1:Int))) z15) h5 ?_
      refine .skip (.ghs (fr 84 [(1,zI z14),(2,pt 1 0),(4,(pt 2 0)),(5,(pt 3 0)),(6,zI z15),(7,zI z16)]) (hT 5 [(oC [(zY z17),(Sl.v 2 s4),zB b12]),(oC [zI z18,(.slice none 0 0)]),(oC [zI z19,sc 4 0 2 n3 c4]),oC q3]) (.k [4] [false] [.tmp 2 false,.tmp 4 false,.tmp 5 true,.cell 3 1 false] [1,2,4,5,6,7] ⟨Bp h4,trivial⟩) ?_)
      refine .then (.block ?_)
      replace hm:=Ae hm;obtain⟨h6,hm⟩:=hm
      refine .reg (eC 7 (Oc 2 16 n3 c4 1 4 q3 [zI z16,(zI (Aj .i64 (Int.add z16 (1:Int))))] [] (hT 6 [(oC [(zY z17),(Sl.v 2 s4),zB b12]),(oC [zI z18,(.slice none 0 0)]),(oC [zI z19,sc 4 0 2 n3 c4]),oC q3,(oC [zI z16,(zI (Aj .i64 (Int.add z16 (1:Int))))])])) (I1 h6) (eE)) ?_
      replace hm:=Ae hm;obtain⟨h7,hm⟩:=hm
      refine .ghs (fr 84 [(1,zI z14),(2,pt 1 0),(4,(pt 2 0)),(5,(pt 3 0)),(6,zI z15),(7,zI z16)]) (hT 5 [(oC [(zY z17),(Sl.v 2 s4),zB b12]),(oC [zI z18,(.slice none 0 0)]),(oC [zI z19,(sc 4 0 2 (n3+1) (d2 (n3+1)))]),(oC (Br (Am 0 q3) [zI z16,(zI (Aj .i64 (Int.add z16 (1:Int))))]))]) (.k [6] [false] [.tmp 2 false,.tmp 4 false,.tmp 5 true,.cell 3 1 false] [1,2,4,5,6,7] ⟨Bp h7,trivial⟩) ?_
      refine .rK ?_
      exact⟨(z14,z15,(Aj .i64 (Int.add z16 (1:Int))),z17,s4,b12,z18,z19,(n3+1),(d2 (n3+1)),(Br (Am 0 q3) [zI z16,(zI (Aj .i64 (Int.add z16 (1:Int))))])),hm,(.k [4] [false] [.tmp 2 false,.tmp 4 false,.tmp 5 true,.cell 3 1 false] [1,2,4,5,6,7] ⟨Bp h7,trivial⟩)⟩
     ·refine DT (AY (Aj .i64 (Int.add z16 (1:Int))) z15) h5 ?_
      refine .exit ?_
      exact⟨(z14,z15,z17,s4,b12,z18,z19,n3,c4,q3),hm,(.k [4] [false] [.tmp 2 false,.tmp 4 false,.tmp 5 true,.cell 3 1 false] [1,2,4,5,6] ⟨Bp h4,trivial⟩)⟩
   ·refine DT (AY (1:Int) z5) h2 ?_
    refine .exit ?_
    exact⟨(z4,z6,s2,b2,z7,z8,n1,c1,q1),hm,(.k [4] [false] [.tmp 2 false,.tmp 4 false,.tmp 5 true,.cell 3 1 false] [1,2,4,5] ⟨Bp h1,trivial⟩)⟩
  ·refine .ifF b0 (by kernel_rfl) h0 ?_
   refine .skip ?_
   exact⟨(x1,x0,s0,b0,(0:Int),(Aj .i64 (Int.add (1:Int) (Int.tmod (Aj .i64 x0) (5:Int)))),0,0,([]:LV)),hm,(.thawC 3 1 2 [(zI (Aj .i64 (Int.add (1:Int) (Int.tmod (Aj .i64 x0) (5:Int))))),(.slice none 0 0)] (imm:=false) (spent:=false) (anc:=[]) (by kernel_rfl) (by kernel_rfl) (by kernel_rfl) (by kernel_rfl) (.k0 [false] [.tmp 2 false,.tmp 4 false,.tmp 5 true,.cell 3 1 false] [1,2,4,5]))⟩
end
end Go.TbRM
