/- Made from wip. -/
import Derived.Test.YtglnihplphhhoaaDoorSpObjSx
import Derived.Test.YtglnihplphhhoaaDoorTbGCode
import Derived.KernelRfl

set_option maxRecDepth 100000
namespace Go.TbGM
open Go.Sp Go.TbG
noncomputable section
def MH (sz by':Nat) (args:List Value) (H:Aa):Option (Value×Aa):=
 ll args none fun x r => ll r (oo (Bj sz x) none fun s => Aa.rec (motive := fun _ => Option (Value × Aa)) (fun k T z => bb z (bb (EQ (0 + s.n) by')
  (some (.slice (some ⟨Nat.succ k,0,some sz⟩) s.n (2*s.n+bb false 1 0),((⟨k,T,true⟩:Aa).push (.cells [] false false [])).push (.cells (Aq (s.n*sz) s.cs) false false []))) none) none) H) fun _ _=>none
def iA:List Fs:=[
 ⟨(some 5),.buildSlice 29 0 #[],29,none,[]⟩,
 ⟨(some 6),.move (.tmp 0),29,none,[]⟩,
 ⟨(some 7),.call ⟨.builtin .append,#[(.tmp 5),(.tmp 6)],#[29,29]⟩,29,none,[]⟩,
 ⟨(some 2),.assign (.tmp 7),29,none,[]⟩]
def H1 (k:Nat) (T:Tr AJ):Aa:=(⟨k,T,true⟩:Aa).push (.cells [] false false [])
def F1 (a:Value):Fr:=Fr.puts (Fr.made 8 [a]) [(2,.slice none 0 0),(3,a),(4,.bool false)]
def F2 (a:Value) (k:Nat):Fr:=Fr.puts (F1 a) [(5,.slice (some ⟨k,0,some 1⟩) 0 1)]
def Ay (a:Value) (k:Nat):Fr:=Fr.puts (F2 a k) [(6,a)]
def AO (a:Value) (k:Nat) (v:Value):Fr:=Fr.puts (Ay a k) [(7,v)]
def A7 (a:Value) (k:Nat) (v:Value):Fr:=Fr.puts (AO a k v) [(2,v)]
theorem UK (k:Nat) (T:Tr AJ):Bv ((H1 k T).get k)=some ⟨[],false,false,[]⟩:=by
 unfold H1
 rw[Aa.get_push,if_pos rfl];rfl
theorem Qq (k:Nat) (T:Tr AJ):(H1 k T).next=k+1:=by
 unfold H1;rw[Aa.next_push]
theorem O1 (k:Nat) (T:Tr AJ):Cr tt Gv 2 18 [FP 1 0 2 []] ⟨k,T,true⟩=some (.slice none 0 0,⟨k,T,true⟩):=by kernel_rfl
theorem ops (call:A8) (k:Nat) (T:Tr AJ) (a v:Value) (H2:Aa) (s:Sl) (ha:a=s.v 1) (hD:Ql (H1 k T) 1 8 (.slice (some ⟨k,0,some 1⟩) 0 1) s=some (v,H2)) :
 BD tt call iA (F1 a) ⟨k,T,true⟩=some (A7 a k v,H2):=by
 subst ha
 refine Ob (some (.slice (some ⟨k,0,some 1⟩) 0 1,H1 k T)) (by kernel_rfl) rfl (by kernel_rfl) ?_
 refine Ob (some (s.v 1,H1 k T)) (by kernel_rfl) rfl (by kernel_rfl) ?_
 refine Ob (Ql (H1 k T) 1 8 (.slice (some ⟨k,0,some 1⟩) 0 1) s) (by kernel_rfl) hD (by kernel_rfl) ?_
 refine Ob (some (v,H2)) (by kernel_rfl) rfl (by kernel_rfl) ?_
 rfl
theorem ev (k:Nat) (T:Tr AJ) (a v:Value) (H2:Aa) (h1:MZ tt (Cr tt Gv 1) 1 gZ (Fr.made 8 [a]) ⟨k,T,true⟩=MZ tt (Cr tt Gv 1) 1 (.seq (.reg [] iA) .ret) (F1 a) ⟨k,T,true⟩)
 (h:BD tt (Cr tt Gv 1) iA (F1 a) ⟨k,T,true⟩=some (A7 a k v,H2)):Cr tt Gv 2 18 [a] ⟨k,T,true⟩=some (v,H2):=by
 show Xr tt [.tmp 2] (MZ tt (Cr tt Gv 1) 1 gZ (Fr.made 8 [a]) ⟨k,T,true⟩)=_
 rw[h1]
 show Xr tt [.tmp 2] (IK (Ab2 (BD tt (Cr tt Gv 1) iA (F1 a) ⟨k,T,true⟩)) _)=_
 rw[h]
 kernel_rfl
theorem UL (k:Nat) (T:Tr AJ):Cr tt Gv 2 18 [FP 1 0 3 []] ⟨k,T,true⟩=some (.slice (some ⟨k,0,some 1⟩) 0 1,H1 k T):=
 ev k T _ _ _ (by kernel_rfl) (ops _ k T _ _ _ ⟨0,3,[]⟩ rfl (Ze rfl))
theorem UM (k:Nat) (T:Tr AJ) (n:Nat) (cs:List Value) (hr:EQ (0+(n+1)) 8=true) :
 Cr tt Gv 2 18 [FP 1 (n+1) 0 cs] ⟨k,T,true⟩=some (sliceAt (k+1) 0 1 (0+(n+1)) (0+(n+1)) false,(H1 k T).push (.cells (Aq ((n+1)*1) cs) false false [])):=
 ev k T _ _ _ (by kernel_rfl) (ops _ k T _ _ _ ⟨n+1,0,cs⟩ rfl (by rw[Zf rfl hr (UK k T),Qq]))

theorem MI {P:Program} (hT:Jm P tt) (hf:∀ f r,Gv f=some r→Ar P [0] f r) (hm:P.follows .mixedOrders=true) {args:List Value} {H H':Aa} {v:Value} (h:MH 1 8 args H=some (v,H')) :
 (∀ (as:Array Value) (w:World),(callFunc 18 as).run P w = .ok (.enter 18 as) w) ∧
 ∀ R w args',Ck H R w→JH [0] R→Cf R args args'→Calls P 18 ⟨args'⟩ w fun e w'=>∃ u R',e = .returned u∧VR R' v u∧Ba H R w H' R' w':=by
 refine⟨((Rx hT hf hm 2) 18 _ _ _ _ (O1 0 .nil)).1,fun R w args' hs hgl ha=>?_⟩
 obtain⟨x,r,rfl,h⟩:=Ad h
 obtain⟨rfl,h⟩:=AC h
 obtain⟨s,hsl,h⟩:=Ab h
 obtain rfl:=Qh hsl
 obtain⟨k,T,z⟩:=H
 obtain⟨hz,h⟩:=Ae (show bb z _ none=some _ from h)
 subst hz
 obtain⟨hr,h⟩:=Ae h
 injection h with h;injection h with e1 e2;subst e1;subst e2
 obtain⟨u,us,rfl,hu,hnil⟩:=ha.uncons
 obtain rfl:=hnil.unnil
 obtain⟨n,fl,cs⟩:=s
 have run:∀ (a v1:Value) (H2:Aa),Cr tt Gv 2 18 [a] ⟨k,T,true⟩=some (v1,H2)→VR R a u→Calls P 18 ⟨[u]⟩ w fun e w'=>∃ u' R',e = .returned u'∧VR R' v1 u'∧Ba ⟨k,T,true⟩ R w H2 R' w':=fun a v1 H2 he hau=>
  ((Rx hT hf hm 2) 18 _ _ _ _ he).2 R w [u] hs hgl (.one hau)
 have empty : ∀ (a : Value), VR R a u → (a = FP 1 0 2 [] ∨ a = FP 1 0 3 []) → ∀ o, o = AJ.cells (Aq (0 * 1) cs) false false [] → Calls P 18 ⟨[u]⟩ w fun e w' => ∃ u' R', e = .returned u' ∧ VR R' (.slice (some ⟨Nat.succ k, 0, some 1⟩) 0 (2 * 0 + bb false 1 0)) u' ∧
  Ba ⟨k,T,true⟩ R w ((H1 k T).push o) R' w':=fun a hau hcase o ho=>by
  rcases hcase with rfl | rfl
  ·refine(run _ _ _ (O1 k T) hau).mono fun e w' ⟨u',R',h1,h2,h3⟩=>⟨u',R',h1,?_,(h3.absPush (obj:=.cells [] false false []) rfl).absPush (by rw[ho];rfl)⟩
   rw[h2.slNil_l];exact .slN rfl
  ·refine(run _ _ _ (UL k T) hau).mono fun e w' ⟨u',R',h1,h2,h3⟩=>⟨u',R',h1,?_,h3.absPush (by rw[ho];rfl)⟩
   cases h2 with
   | sl _ _ _ h3 _=>have:=h3 rfl;subst this;exact .slE rfl
   | slE=>exact .slE rfl
   | slN=>exact .slN rfl
 rcases hu.fs_l (f:=⟨1,n,fl,cs⟩) rfl with⟨h1,h2,rfl⟩ | ⟨_,h1,h2,c,o,sp,rfl⟩ | ⟨c,o,cap,C,hro,rfl,hn,k1,k2,k3,hfit,hcr,hcl⟩
 ·have h1:n=0:=h1
  subst h1
  exact empty _ (.fsN 1 2 (by decide)) (.inl rfl) _ rfl
 ·have h1:n=0:=h1
  subst h1
  exact empty _ (.fsE (by decide)) (.inr rfl) _ rfl
 ·cases n with
  | zero =>
   have hc0:cs=[]:=by simpa using hn
   subst hc0
   exact empty (FP 1 0 3 []) (.mkFs hro rfl (Nat.zero_le _) (fun h=>by cases h) (by decide) hfit hcr hcl) (.inr rfl) _ rfl
  | succ n =>
   refine(run _ _ _ (UM k T n cs hr) (.mkFs hro hn k1 (fun h=>by cases h) (by decide) hfit hcr hcl)).mono fun e w' ⟨u',R',g1,g2,g3⟩=>⟨u',R',g1,?_,g3⟩
   rwa [Nat.zero_add] at g2
end
end Go.TbGM
set_option maxRecDepth 100000
set_option maxHeartbeats 20000000
set_option linter.unusedVariables false
namespace Go.TbGM
open Go.Sp Go.TbG
noncomputable section
def ML:List Value:=[.int .u8 0,.int .u8 1,.int .u8 56,.int .u8 2,.int .u8 57,.int .u8 49,.int .u8 28,.int .u8 3,.int .u8 61,.int .u8 58,.int .u8 42,.int .u8 50,.int .u8 38,.int .u8 29,.int .u8 17,.int .u8 4,.int .u8 62,.int .u8 47,.int .u8 59,.int .u8 36,.int .u8 45,.int .u8 43,.int .u8 51,.int .u8 22,.int .u8 53,.int .u8 39,.int .u8 33,.int .u8 30,.int .u8 24,.int .u8 18,.int .u8 12,.int .u8 5,.int .u8 63,.int .u8 55,.int .u8 48,.int .u8 27,.int .u8 60,.int .u8 41,.int .u8 37,.int .u8 16,.int .u8 46,.int .u8 35,.int .u8 44,.int .u8 21,.int .u8 52,.int .u8 32,.int .u8 23,.int .u8 11,.int .u8 54,.int .u8 26,.int .u8 40,.int .u8 15,.int .u8 34,.int .u8 20,.int .u8 31,.int .u8 10,.int .u8 25,.int .u8 14,.int .u8 19,.int .u8 9,.int .u8 13,.int .u8 8,.int .u8 7,.int .u8 6]
def tabs:List (List Value):=[ML]
theorem Bp {tt:TT} {n0:Nat} {rs:List ResultVar} {v:Value} {F:Fr} {H:Aa} (r:Value) (hm:some r=some v) (h:DV tt F H rs=some r:=by kernel_rfl) (hc:Fe r=true:=by kernel_rfl):Fin tt n0 rs v .ret F H:=kI r h hc hm
theorem Jg {α:Type} {k:IntKind} {o:Option Value} {s:Int→Option α} {w:α} (h:oo o none (fun v=>oo (Bi k v) none s)=some w):∃ x,o=some (.int k x)∧s x=some w:=by
 obtain⟨v,h1,h2⟩:=Ab h
 obtain⟨x,hx,h3⟩:=Ab h2
 obtain rfl:=Eh hx
 exact⟨x,h1,h3⟩
theorem pX {α:Type} {k:Nat} {o:Option Value} {s:Sl→Option α} {w:α} (h:oo o none (fun v=>oo (Bj k v) none s)=some w):∃ x,o=some (Sl.v k x)∧s x=some w:=by
 obtain⟨v,h1,h2⟩:=Ab h
 obtain⟨x,hx,h3⟩:=Ab h2
 obtain rfl:=Qh hx
 exact⟨x,h1,h3⟩
theorem O3 {α:Type} {o:Option Value} {s:Bool→Option α} {w:α} (h:oo o none (fun v=>oo (Bf v) none s)=some w):∃ x,o=some (.bool x)∧s x=some w:=by
 obtain⟨v,h1,h2⟩:=Ab h
 obtain⟨x,hx,h3⟩:=Ab h2
 obtain rfl:=BV hx
 exact⟨x,h1,h3⟩
theorem C8 {tt:TT} {call:A8} {n0:Nat} {c:Operand} {a b:RC} {F:Fr} {H:Aa} {Q:Ex→Fr→Aa→Prop} (e:Bool) (hb:e=true) (h:BN tt call n0 a F H Q) (he:Bf (F.eval c)=some e:=by kernel_rfl):BN tt call n0 (.cond c a b) F H Q:=.ifT e he hb h
theorem Dn {tt:TT} {call:A8} {n0:Nat} {c:Operand} {a b:RC} {F:Fr} {H:Aa} {Q:Ex→Fr→Aa→Prop} (e:Bool) (hb:e=false) (h:BN tt call n0 b F H Q) (he:Bf (F.eval c)=some e:=by kernel_rfl):BN tt call n0 (.cond c a b) F H Q:=.ifF e he hb h
abbrev Bq:Aa:=hp 1 [oT ML]
abbrev hT (n:Nat) (l:List AJ):Aa:=hp n (oT ML::l)
theorem BI {a b:Bool} (h:b=true) (e:a=b:=by kernel_rfl):a=true:=e.trans h
abbrev OV:=Option Value
abbrev LV:=List Value
def K3:List Nat:=[4,5,8,11,13,14,16,17,20,23,39,40,41,42,53]
def Eo:FuncId→Bool:=fun g=>ED g K3
def inl (pu:Af):A8:=fun g args H=>bb (Nat.beq g 18) (MH 1 8 args H) (bb (Nat.beq g 6) (EK tabs [[none],[none]] 2 [.cap 1 0 false,.cap 1 1 false,.cap 1 2 false] [false,false,false] (pu 10060) args H) (bb (Nat.beq g 15) (EK tabs [[some 1],[none],[none],[none]] 4 [.tmp 1 false,.tmp 2 true,.tmp 3 true,.ccap 2 0 0 false,.ccap 2 0 1 false,.ccap 2 0 2 false] [false,true,true,false,false,false] (pu 10150) args H) (bb (Nat.beq g 12) (EK tabs [[some 1],[none],[none],[none]] 4 [.tmp 1 false,.tmp 2 false,.tmp 3 false] [false,false,false] (pu 10120) args H) (none))))
end
end Go.TbGM
set_option maxRecDepth 100000
set_option maxHeartbeats 20000000
set_option linter.unusedVariables false
namespace Go.TbGM
open Go.Sp Go.TbG
noncomputable section
def MM (pu:Af) (n:Nat) (b0:Bool):OV:=
 (some (.bool b0))
def iB (pu:Af) (n:Nat) (x6:Int) (s8:Sl) (b10:Bool) (x12:Int):OV:=
 (oo (pu 5 [(.agg ⟨[.int .u8 x6,(Sl.v 2 s8),(.bool b10)]⟩),(.int .i64 (10:Int))]) none fun v24=>(oo (Bt v24) none fun l26=>(ll l26 none fun v28 l26=>(ll l26 none fun v29 l26=>(ll l26 (oo (Bi .i64 v28) none fun x30=>(oo (Bj 2 v29) none fun s32=>(bb (nt (Bd (Aj .i64 (Int.add x30 (1:Int))) (0:Int))) (oo (pu 10060 [.int .i64 x30,(.func (.func 12) ⟨[]⟩ ⟨[(.pointer (some ⟨1,0,none⟩)),(.pointer (some ⟨2,0,none⟩)),(.pointer (some ⟨3,0,none⟩))]⟩),(.agg ⟨[(.int .i64 (Int.tmod (Aj .i64 x12) (Aj .i64 (Int.add x30 (1:Int)))))]⟩),(.agg ⟨[.int .i64 x30,(Sl.v 2 s32)]⟩),(.agg ⟨[(.bool true)]⟩)]) none fun v0=>(oo (CQ v0) none fun l0=>(ll l0 none fun v1 l0=>(ll l0 none fun v2 l0=>(ll l0 none fun v3 l0=>(ll l0 none fun v4 l0=>(ll l0 (bb (MC v1) (oo (Bt v2) none fun l1=>(ll l1 none fun v5 l1=>(ll l1 (oo (Bi .i64 v5) none fun x0=>(oo (Bt v3) none fun l2=>(ll l2 none fun v6 l2=>(ll l2 none fun v7 l2=>(ll l2 (oo (Bi .i64 v6) none fun x1=>(oo (Bj 2 v7) none fun s0=>(oo (Bt v4) none fun l3=>(ll l3 none fun v8 l3=>(ll l3 (oo (Bf v8) none fun b0=>(oo (pu 14 [(.agg ⟨[.int .i64 x1,(Sl.v 2 s0)]⟩),.int .i64 x0]) none fun v9=>(oo (CQ v9) none fun l4=>(ll l4 none fun v10 l4=>(ll l4 none fun v11 l4=>(ll l4 (oo (Bf v10) none fun b1=>(oo (Bi .i64 v11) none fun x2=>(bb (Bd x2 (0:Int)) (bb (bq true (bq b1 b0)) (oo (pu 11 []) none fun v12=>(oo (Bf v12) none fun b2=>(MM pu n b2))) (MM pu n false)) (MM pu n false)))) fun _ _=>none)))))) fun _ _=>none))))) fun _ _=>none))))) fun _ _=>none))) none) fun _ _=>none))))))) none))) fun _ _=>none)))))
def m4 (pu:Af) (n:Nat) (args:LV):OV:=
 (ll args none fun a0 args=>(ll args none fun a1 args=>(ll args (oo (Bt a0) none fun l1=>(ll l1 none fun v3 l1=>(ll l1 none fun v4 l1=>(ll l1 none fun v5 l1=>(ll l1 (oo (Bi .u8 v3) none fun x6=>(oo (Bj 2 v4) none fun s8=>(oo (Bf v5) none fun b10=>(oo (Bi .u8 a1) none fun x12=>(iB pu n x6 s8 b10 x12))))) fun _ _=>none))))) fun _ _=>none)))
theorem lT (pu:Af) (n:Nat) (b0:Bool) {v:Value} (hm:MM pu n b0=some v):BN tt (Bb tabs Eo pu (inl pu)) 1 .ret (fr 38 [(4,zB b0)]) Bq (Fin tt 1 [.tmp 4] v):=by
 unfold MM at hm
 refine .ret ?_
 exact Bp (zB b0) hm
theorem r4 {call:A8} (pu:Af) (n:Nat) (hcall:call=Bb tabs Eo pu (inl pu)) {args:LV} {v:Value} (hm:m4 pu n args=some v) (_:∀ x∈args,closed2 x=true):args.length≤38∧BN tt call 1 Ng (Fr.made 38 args) (Ao tabs) (Fin tt 1 [.tmp 4] v):=by
 subst hcall
 unfold m4 at hm
 replace hm:=Ad hm;obtain⟨a0,args_0,rfl,hm⟩:=hm
 replace hm:=Ad hm;obtain⟨a1,args_1,rfl,hm⟩:=hm
 replace hm:=AC hm;obtain⟨rfl,hm⟩:=hm
 replace hm:=BG hm;obtain⟨l1,rfl,hm⟩:=hm
 replace hm:=Ad hm;obtain⟨v3,l1_0,rfl,hm⟩:=hm
 replace hm:=Ad hm;obtain⟨v4,l1_1,rfl,hm⟩:=hm
 replace hm:=Ad hm;obtain⟨v5,l1_2,rfl,hm⟩:=hm
 replace hm:=AC hm;obtain⟨rfl,hm⟩:=hm
 replace hm:=Ai hm;obtain⟨x6,rfl,hm⟩:=hm
 replace hm:=Al hm;obtain⟨s8,rfl,hm⟩:=hm
 replace hm:=Be hm;obtain⟨b10,rfl,hm⟩:=hm
 replace hm:=Ai hm;obtain⟨x12,rfl,hm⟩:=hm
 unfold iB at hm
 refine⟨by simp,?_⟩
 refine .same (F':=(fr 38 [(0,(.agg ⟨[(zY x6),(Sl.v 2 s8),zB b10]⟩)),(1,(zY x12))])) (H':=Bq) (by kernel_rfl) (by kernel_rfl) ?_
 refine .then (.rK (.ghs (fr 38 [(1,(zY x12)),(2,pt 1 0)]) (hT 2 [(oC [(zY x6),(Sl.v 2 s8),zB b10])]) (.k0 [false] [.tmp 2 false] [1,2]) ?_))
 refine .then ?_
 replace hm:=Ab hm;obtain⟨v24,h25,hm⟩:=hm
 replace hm:=BG hm;obtain⟨l26,rfl,hm⟩:=hm
 replace hm:=Ad hm;obtain⟨v28,l26_0,rfl,hm⟩:=hm
 replace hm:=Ad hm;obtain⟨v29,l26_1,rfl,hm⟩:=hm
 replace hm:=AC hm;obtain⟨rfl,hm⟩:=hm
 replace hm:=Ai hm;obtain⟨x30,rfl,hm⟩:=hm
 replace hm:=Al hm;obtain⟨s32,rfl,hm⟩:=hm
 refine .reg (eC 1 ((oo (pu 5 [(.agg ⟨[(zY x6),(Sl.v 2 s8),zB b10]⟩),(zI (10:Int))]) none fun v=>some (v,(hT 2 [(oC [(zY x6),(Sl.v 2 s8),zB b10])])))) (AB h25) (eE)) ?_
 refine .ghs (fr 38 [(1,(zY x12)),(5,pt 1 0)]) (hT 2 [(oC [zI x30,(Sl.v 2 s32)])]) (.k0 [false] [.tmp 5 false] [1,5]) ?_
 refine .then ?_
 replace hm:=Ae hm;obtain⟨h35,hm⟩:=hm
 refine .reg (eC 5 (keep (hT 2 [(oC [zI x30,(Sl.v 2 s32)])]) (bb (Bd (Aj .i64 (Int.add x30 (1:Int))) (0:Int)) none (some (zI (Int.tmod (Aj .i64 x12) (Aj .i64 (Int.add x30 (1:Int)))))))) (XH h35) (eE)) ?_
 refine .ghs (fr 38 [(5,pt 1 0),(6,(pt 2 0))]) (hT 3 [(oC [zI x30,(Sl.v 2 s32)]),(oC [(zI (Int.tmod (Aj .i64 x12) (Aj .i64 (Int.add x30 (1:Int)))))])]) (.k0 [false] [.tmp 5 false,.tmp 6 false] [5,6]) ?_
 refine .then (.rK (.ghs (fr 38 [(5,pt 1 0),(6,(pt 2 0)),(7,(pt 3 0))]) (hT 4 [(oC [zI x30,(Sl.v 2 s32)]),(oC [(zI (Int.tmod (Aj .i64 x12) (Aj .i64 (Int.add x30 (1:Int)))))]),(oC [zB true])]) (.k0 [false] [.tmp 5 false,.tmp 6 false,.tmp 7 false] [5,6,7]) ?_))
 refine .then ?_
 replace hm:=Ab hm;obtain⟨v0,h0,hm⟩:=hm
 replace hm:=Ch hm;obtain⟨l0,rfl,hm⟩:=hm
 replace hm:=Ad hm;obtain⟨v1,l976_0,rfl,hm⟩:=hm
 replace hm:=Ad hm;obtain⟨v2,l976_1,rfl,hm⟩:=hm
 replace hm:=Ad hm;obtain⟨v6,l976_2,rfl,hm⟩:=hm
 replace hm:=Ad hm;obtain⟨v7,l976_3,rfl,hm⟩:=hm
 replace hm:=AC hm;obtain⟨rfl,hm⟩:=hm
 replace hm:=Ae hm;obtain⟨h1,hm⟩:=hm
 obtain rfl:=Oo h1
 replace hm:=BG hm;obtain⟨l2,rfl,hm⟩:=hm
 replace hm:=Ad hm;obtain⟨v8,l983_0,rfl,hm⟩:=hm
 replace hm:=AC hm;obtain⟨rfl,hm⟩:=hm
 replace hm:=Ai hm;obtain⟨x0,rfl,hm⟩:=hm
 replace hm:=BG hm;obtain⟨l3,rfl,hm⟩:=hm
 replace hm:=Ad hm;obtain⟨v9,l988_0,rfl,hm⟩:=hm
 replace hm:=Ad hm;obtain⟨v10,l988_1,rfl,hm⟩:=hm
 replace hm:=AC hm;obtain⟨rfl,hm⟩:=hm
 replace hm:=Ai hm;obtain⟨x1,rfl,hm⟩:=hm
 replace hm:=Al hm;obtain⟨s0,rfl,hm⟩:=hm
 replace hm:=BG hm;obtain⟨l4,rfl,hm⟩:=hm
 replace hm:=Ad hm;obtain⟨v11,l996_0,rfl,hm⟩:=hm
 replace hm:=AC hm;obtain⟨rfl,hm⟩:=hm
 replace hm:=Be hm;obtain⟨b0,rfl,hm⟩:=hm
 refine .reg (eC 3 (EK tabs [[none],[none]] 2 [.cap 1 0 false,.cap 1 1 false,.cap 1 2 false] [false,false,false] (pu 10060) [zI x30,(.func (.func 12) ⟨[]⟩ ⟨[(pt 2 0),pt 1 0,(pt 3 0)]⟩)] (hT 4 [(oC [zI x30,(Sl.v 2 s32)]),(oC [(zI (Int.tmod (Aj .i64 x12) (Aj .i64 (Int.add x30 (1:Int)))))]),(oC [zB true])])) (EL (as:=[zI x30,(.func (.func 12) ⟨[]⟩ ⟨[(pt 2 0),pt 1 0,(pt 3 0)]⟩)]) (H1:=(hT 4 [(oC [zI x30,(Sl.v 2 s32)]),(oC [(zI (Int.tmod (Aj .i64 x12) (Aj .i64 (Int.add x30 (1:Int)))))]),(oC [zB true])])) (BS (Dm Dk) (BS (Dm Dk) Gj)) (EI (H2:=(hT 4 [(oC [zI x1,(Sl.v 2 s0)]),(oC [zI x0]),(oC [zB b0])])) (v:=(.tuple ⟨[]⟩)) (v':=(.tuple ⟨[]⟩)) [some 0,some 2,some 1,some 3] [(false,some 2),(false,some 1),(false,some 3)] [(oC [(zI (Int.tmod (Aj .i64 x12) (Aj .i64 (Int.add x30 (1:Int)))))]),(oC [zI x30,(Sl.v 2 s32)]),(oC [zB true])] [zI x30,(.func (.func 12) ⟨[]⟩ ⟨[pt 1 0,(pt 2 0),(pt 3 0)]⟩)] [(.agg ⟨[zI x0]⟩),(.agg ⟨[zI x1,(Sl.v 2 s0)]⟩),(.agg ⟨[zB b0]⟩)] [(oC [zI x0]),(oC [zI x1,(Sl.v 2 s0)]),(oC [zB b0])] [some 0,some 2,some 1,some 3] [(false,(oC [zI x0])),(false,(oC [zI x1,(Sl.v 2 s0)])),(false,(oC [zB b0]))] [(oC [zI x0]),(oC [zI x1,(Sl.v 2 s0)]),(oC [zB b0])] (by kernel_rfl) (En (by kernel_rfl) (En (by kernel_rfl) (En (by kernel_rfl) BX))) (Eq.trans (by kernel_rfl) h0) (En rfl (En rfl (En rfl BX))) (En (by kernel_rfl) (En (by kernel_rfl) (En (by kernel_rfl) BX))))) (eE)) ?_
 refine .ghs (fr 38 [(5,pt 1 0),(6,(pt 2 0)),(7,(pt 3 0))]) (hT 4 [(oC [zI x1,(Sl.v 2 s0)]),(oC [zI x0]),(oC [zB b0])]) (.k0 [false] [.tmp 5 false,.tmp 6 false,.tmp 7 false] [5,6,7]) ?_
 refine .then ?_
 replace hm:=Ab hm;obtain⟨v12,h2,hm⟩:=hm
 replace hm:=Ch hm;obtain⟨l5,rfl,hm⟩:=hm
 replace hm:=Ad hm;obtain⟨v13,l1013_0,rfl,hm⟩:=hm
 replace hm:=Ad hm;obtain⟨v14,l1013_1,rfl,hm⟩:=hm
 replace hm:=AC hm;obtain⟨rfl,hm⟩:=hm
 replace hm:=Be hm;obtain⟨b1,rfl,hm⟩:=hm
 replace hm:=Ai hm;obtain⟨x2,rfl,hm⟩:=hm
 refine .reg (eC 2 ((oo (pu 14 [(.agg ⟨[zI x1,(Sl.v 2 s0)]⟩),zI x0]) none fun v=>some (v,(hT 4 [(oC [zI x1,(Sl.v 2 s0)]),(oC [zI x0]),(oC [zB b0])])))) (AB h2) (eE)) ?_
 refine .ghs (fr 38 [(7,pt 1 0),(8,zB b1),(9,zI x2)]) (hT 2 [(oC [zB b0])]) (.k0 [false] [.tmp 7 false] [7,8,9]) ?_
 refine .join (v:=v) (fun y:Bool=>((fr 38 [(4,zB y)]),Bq)) (fun y=>MM pu n y) ?_ ?_
 ·rintro b2 hm
  exact lT pu n b2 hm
 ·replace hm:=Ag hm;rcases hm with⟨h3,hm⟩ | ⟨h3,hm⟩
  ·replace hm:=Ag hm;rcases hm with⟨h4,hm⟩ | ⟨h4,hm⟩
   ·replace hm:=O3 hm;obtain⟨b3,h5,hm⟩:=hm
    refine .reg (eC 1 (some ((zB (Bd x2 (0:Int))),(hT 2 [(oC [zB b0])]))) (show _=some ((zB true),_) from (by rw[show (Bd x2 (0:Int))=true from h3])) (eC 3 (some ((zB (bq true (bq b1 b0))),(hT 2 [(oC [zB b0])]))) (show _=some ((zB true),_) from (by rw[show (bq true (bq b1 b0))=true from h4])) (eC 2 ((oo (pu 11 []) none fun v=>some (v,(hT 2 [(oC [zB b0])])))) (AB h5) (eE)))) ?_
    exact⟨b3,hm,(.k0 [false] [] [4])⟩
   ·refine .reg (eC 1 (some ((zB (Bd x2 (0:Int))),(hT 2 [(oC [zB b0])]))) (show _=some ((zB true),_) from (by rw[show (Bd x2 (0:Int))=true from h3])) (eC 3 (some ((zB (bq true (bq b1 b0))),(hT 2 [(oC [zB b0])]))) (show _=some ((zB false),_) from (by rw[show (bq true (bq b1 b0))=false from h4])) (eE))) ?_
    exact⟨false,hm,(.k0 [false] [] [4])⟩
  ·refine .reg (eC 1 (some ((zB (Bd x2 (0:Int))),(hT 2 [(oC [zB b0])]))) (show _=some ((zB false),_) from (by rw[show (Bd x2 (0:Int))=false from h3])) (eE)) ?_
   exact⟨false,hm,(.k0 [false] [] [4])⟩
def MR (pu:Af) (n:Nat) (z0 z1:Int) (n0 c0:Nat) (q0:LV):OV:=
 (bb (Au Ah q0) (bb (an (Nat.ble (0+n0*2) (len q0)) (Au Ah (Aq (n0*2) (Am 0 q0)))) (some (.agg ⟨[.int .i64 z1,(Sl.v 2 (Sl.mk n0 0 (Aq (n0*2) (Am 0 q0))))]⟩)) none) none)
def MU (pu:Af) (n:Nat) (ih0:Int→Sl→Int→Int→Int→Int→Nat→Nat→LV→OV) (z0:Int) (s0:Sl) (z1 z2:Int) (b0:Bool) (z3 z4:Int) (n0 c0:Nat) (z5 z6:Int) (q0:LV):OV:=
 (bb b0 (bb (Au Ah q0) (MR pu n z3 z4 n0 c0 q0) none) (bb (Au Ah q0) (bb (nt (Bd (Aj .i64 (Int.sub z4 (1:Int))) (0:Int))) (bb (nt (Bd (Aj .i64 (Int.sub (Aj .i64 (Int.sub z4 (1:Int))) (Int.tmod (Aj .i64 z5) (Aj .i64 (Int.sub z4 (1:Int)))))) (0:Int))) (bb (GV 2 16 n0 c0 1 q0) (bb (Au Ah (Br (Am 0 q0) [(.int .i64 (Int.tmod (Aj .i64 z5) (Aj .i64 (Int.sub z4 (1:Int))))),(.int .i64 (Aj .i64 (Int.add (Aj .i64 (Int.add (Int.tmod (Aj .i64 z5) (Aj .i64 (Int.sub z4 (1:Int)))) (1:Int))) (Int.tmod (Aj .i64 z6) (Aj .i64 (Int.sub (Aj .i64 (Int.sub z4 (1:Int))) (Int.tmod (Aj .i64 z5) (Aj .i64 (Int.sub z4 (1:Int))))))))))])) (ih0 z0 s0 z1 (Aj .i64 (Int.add z2 (1:Int))) z3 z4 (n0+1) (2*(n0+1)+bb false 1 0) (Br (Am 0 q0) [(.int .i64 (Int.tmod (Aj .i64 z5) (Aj .i64 (Int.sub z4 (1:Int))))),(.int .i64 (Aj .i64 (Int.add (Aj .i64 (Int.add (Int.tmod (Aj .i64 z5) (Aj .i64 (Int.sub z4 (1:Int)))) (1:Int))) (Int.tmod (Aj .i64 z6) (Aj .i64 (Int.sub (Aj .i64 (Int.sub z4 (1:Int))) (Int.tmod (Aj .i64 z5) (Aj .i64 (Int.sub z4 (1:Int))))))))))])) none) none) none) none) none))
def O4 (pu:Af) (n:Nat) (ih0:Int→Sl→Int→Int→Int→Int→Nat→Nat→LV→OV) (z0:Int) (s0:Sl) (z1 z2 z3 z4:Int) (n0 c0:Nat) (q0:LV):OV:=
 (bb (Au Ah q0) (bb (AY z2 z1) (oo (EA z2) none fun k1=>(bb (an (Nat.blt k1 (Sl.n s0)) true) (bb (Nat.ble ((k1*2)+2) (len (Sl.cs s0))) (oo (AL (Sl.cs s0) (k1*2)) none fun v0=>(oo (Bi .u8 v0) none fun x0=>(oo (AL (Sl.cs s0) ((k1*2)+1)) none fun v1=>(oo (Bi .u8 v1) none fun x1=>(bb (nt (AY (Int.ofNat k1) z0)) (MU pu n ih0 z0 s0 z1 (Int.ofNat k1) true z3 z4 n0 c0 x0 x1 q0) (MU pu n ih0 z0 s0 z1 (Int.ofNat k1) (AY z4 (2:Int)) z3 z4 n0 c0 x0 x1 q0)))))) none) none)) (MR pu n z3 z4 n0 c0 q0)) none)
def M8 (pu:Af) (n w:Nat):Int→Sl→Int→Int→Int→Int→Nat→Nat→LV→OV:=
 Nat.rec (motive:=fun _=>Int→Sl→Int→Int→Int→Int→Nat→Nat→LV→OV) (fun _ _ _ _ _ _ _ _ _=>none) (fun _ ih0=>O4 pu n ih0) w
def K4 (pu:Af) (n:Nat) (z0 z1:Int) (s0:Sl) (b0:Bool) (z2 z3:Int) (n0 c0:Nat) (q0:LV):OV:=
 (bb (Au Ah q0) (M8 pu n n z0 s0 (Int.ofNat (Sl.n s0)) (0:Int) z2 z3 n0 c0 q0) none)
def UN (pu:Af) (n:Nat) (ih0:Int→Int→Int→Sl→Bool→Int→Int→Nat→Nat→LV→OV) (z0 z1 z2:Int) (s0:Sl) (b0:Bool) (z3 z4:Int) (n0 c0:Nat) (q0:LV):OV:=
 (bb (Au Ah q0) (ih0 z0 (Aj .i64 (Int.sub z1 (1:Int))) z2 s0 b0 z3 z4 n0 c0 q0) none)
def UO (pu:Af) (n:Nat) (ih0:Int→Int→Int→Sl→Bool→Int→Int→Nat→Nat→LV→OV) (ih1:Int→Int→Int→Int→Sl→Bool→Int→Int→Nat→Nat→LV→OV) (z0 z1 z2 z3:Int) (s0:Sl) (b0:Bool) (z4 z5:Int) (n0 c0:Nat) (q0:LV):OV:=
 (bb (Au Ah q0) (bb (AY (Aj .i64 (Int.add z2 (1:Int))) z1) (bb (GV 2 16 n0 c0 1 q0) (bb (Au Ah (Br (Am 0 q0) [.int .i64 z2,(.int .i64 (Aj .i64 (Int.add z2 (1:Int))))])) (ih1 z0 z1 (Aj .i64 (Int.add z2 (1:Int))) z3 s0 b0 z4 z5 (n0+1) (2*(n0+1)+bb false 1 0) (Br (Am 0 q0) [.int .i64 z2,(.int .i64 (Aj .i64 (Int.add z2 (1:Int))))])) none) none) (UN pu n ih0 z0 z1 z3 s0 b0 z4 z5 n0 c0 q0)) none)
def UQ (pu:Af) (n:Nat) (ih0:Int→Int→Int→Sl→Bool→Int→Int→Nat→Nat→LV→OV) (w:Nat):Int→Int→Int→Int→Sl→Bool→Int→Int→Nat→Nat→LV→OV:=
 Nat.rec (motive:=fun _=>Int→Int→Int→Int→Sl→Bool→Int→Int→Nat→Nat→LV→OV) (fun _ _ _ _ _ _ _ _ _ _ _=>none) (fun _ ih1=>UO pu n ih0 ih1) w
def UR (pu:Af) (n:Nat) (ih0:Int→Int→Int→Sl→Bool→Int→Int→Nat→Nat→LV→OV) (z0 z1 z2:Int) (s0:Sl) (b0:Bool) (z3 z4:Int) (n0 c0:Nat) (q0:LV):OV:=
 (bb (Au Ah q0) (bb (AY (1:Int) z1) (UQ pu n ih0 n z0 z1 (0:Int) z2 s0 b0 z3 z4 n0 c0 q0) (K4 pu n z0 z2 s0 b0 z3 z4 n0 c0 q0)) none)
def K5 (pu:Af) (n w:Nat):Int→Int→Int→Sl→Bool→Int→Int→Nat→Nat→LV→OV:=
 Nat.rec (motive:=fun _=>Int→Int→Int→Sl→Bool→Int→Int→Nat→Nat→LV→OV) (fun _ _ _ _ _ _ _ _ _ _=>none) (fun _ ih0=>UR pu n ih0) w
def iC (pu:Af) (n:Nat) (x0:Int) (s0:Sl) (b0:Bool) (x1:Int):OV:=
 (bb b0 (K5 pu n n x1 (Aj .i64 (Int.add (1:Int) (Int.tmod (Aj .i64 x0) (5:Int)))) x0 s0 b0 (0:Int) (Aj .i64 (Int.add (1:Int) (Int.tmod (Aj .i64 x0) (5:Int)))) 0 0 ([]:LV)) (K4 pu n x1 x0 s0 b0 (0:Int) (Aj .i64 (Int.add (1:Int) (Int.tmod (Aj .i64 x0) (5:Int)))) 0 0 ([]:LV)))
def m5 (pu:Af) (n:Nat) (args:LV):OV:=
 (ll args none fun a0 args=>(ll args none fun a1 args=>(ll args (oo (Bt a0) none fun l0=>(ll l0 none fun v0 l0=>(ll l0 none fun v1 l0=>(ll l0 none fun v2 l0=>(ll l0 (oo (Bi .u8 v0) none fun x0=>(oo (Bj 2 v1) none fun s0=>(oo (Bf v2) none fun b0=>(oo (Bi .i64 a1) none fun x1=>(iC pu n x0 s0 b0 x1))))) fun _ _=>none))))) fun _ _=>none)))
theorem lU (pu:Af) (n:Nat) (z0 z1:Int) (n0 c0:Nat) (q0:LV) {v:Value} (hm:MR pu n z0 z1 n0 c0 q0=some v):BN tt (Bb tabs Eo pu (inl pu)) 1 QS (fr 84 [(4,pt 1 0),(5,(pt 2 0))]) (hT 4 [(oC [zI z0,(.slice none 0 0)]),(oC [zI z1,sc 3 0 2 n0 c0]),oC q0]) (Fin tt 1 [.cell 4 27] v):=by
 unfold MR at hm
 refine .then (.rK ?_)
 replace hm:=Ae hm;obtain⟨h0,hm⟩:=hm
 refine .ghs (fr 84 [(4,pt 1 0)]) (hT 3 [(oC [zI z1,sc 2 0 2 n0 c0]),oC q0]) (.k [3] [false] [.tmp 4 true,.cell 1 1 false] [4] ⟨BI h0,trivial⟩) ?_
 refine .ret ?_
 replace hm:=Ae hm;obtain⟨h1,hm⟩:=hm
 exact Uc (.agg ⟨[zI z1,sc 2 0 2 n0 c0]⟩) (.agg ⟨[zI z1,(Sl.v 2 (Sl.mk n0 0 (Aq (n0*2) (Am 0 q0))))]⟩) (by kernel_rfl) (FU.agg (.cons (FU.refl _ _ _) (.cons (FU.frz (v':=(Sl.v 2 (Sl.mk n0 0 (Aq (n0*2) (Am 0 q0))))) (H1:=(hT 3 [(oC [zI z1,sc 2 0 2 n0 c0]),.dead])) 1 false (an (Nat.ble (0+n0*2) (len q0)) (Au Ah (Aq (n0*2) (Am 0 q0)))) (by kernel_rfl) (by kernel_rfl) h1) (Mr.nil _)))) (by kernel_rfl) hm
theorem lV (pu:Af) (n:Nat) (z0 z1:Int) (s0:Sl) (b0:Bool) (z2 z3:Int) (n0 c0:Nat) (q0:LV) {v:Value} (hm:K4 pu n z0 z1 s0 b0 z2 z3 n0 c0 q0=some v):BN tt (Bb tabs Eo pu (inl pu)) 1 RO (fr 84 [(1,zI z0),(2,pt 1 0),(4,(pt 2 0)),(5,(pt 3 0))]) (hT 5 [(oC [(zY z1),(Sl.v 2 s0),zB b0]),(oC [zI z2,(.slice none 0 0)]),(oC [zI z3,sc 4 0 2 n0 c0]),oC q0]) (Fin tt 1 [.cell 4 27] v):=by
 unfold K4 at hm
 refine .join (v:=v) (fun y:Int×Int×Nat×Nat×LV=>((fr 84 [(4,pt 1 0),(5,(pt 2 0))]),(hT 4 [(oC [(zI y.1),(.slice none 0 0)]),(oC [(zI y.2.1),(sc 3 0 2 y.2.2.1 y.2.2.2.1)]),(oC y.2.2.2.2)]))) (fun y=>MR pu n y.1 y.2.1 y.2.2.1 y.2.2.2.1 y.2.2.2.2) ?_ ?_
 ·rintro⟨z4,z5,n1,c1,q1⟩ hm
  exact lU pu n z4 z5 n1 c1 q1 hm
 ·refine .then (.rK ?_)
  replace hm:=Ae hm;obtain⟨h0,hm⟩:=hm
  refine .ghs (fr 84 [(1,zI z0),(4,pt 1 0),(5,(pt 2 0)),(41,(Sl.v 2 s0)),(42,(zI (Int.ofNat (Sl.n s0)))),(43,(zI (0:Int)))]) (hT 4 [(oC [zI z2,(.slice none 0 0)]),(oC [zI z3,sc 3 0 2 n0 c0]),oC q0]) (.k [4] [false] [.tmp 4 false,.tmp 5 true,.cell 2 1 false] [1,4,5,41,42,43] ⟨BI h0,trivial⟩) ?_
  refine .block (.loopM (v:=v) (fun y:Int×Sl×Int×Int×Int×Int×Nat×Nat×LV=>((fr 84 [(1,(zI y.1)),(4,pt 1 0),(5,(pt 2 0)),(41,(Sl.v 2 y.2.1)),(42,(zI y.2.2.1)),(43,(zI y.2.2.2.1))]),(hT 4 [(oC [(zI y.2.2.2.2.1),(.slice none 0 0)]),(oC [(zI y.2.2.2.2.2.1),(sc 3 0 2 y.2.2.2.2.2.2.1 y.2.2.2.2.2.2.2.1)]),(oC y.2.2.2.2.2.2.2.2)]))) (fun w y=>M8 pu n w y.1 y.2.1 y.2.2.1 y.2.2.2.1 y.2.2.2.2.1 y.2.2.2.2.2.1 y.2.2.2.2.2.2.1 y.2.2.2.2.2.2.2.1 y.2.2.2.2.2.2.2.2) n ⟨(z0,s0,(Int.ofNat (Sl.n s0)),(0:Int),z2,z3,n0,c0,q0),hm,(.k [3] [false] [.tmp 4 false,.tmp 5 true,.cell 2 1 false] [1,4,5,41,42,43] ⟨BI h0,trivial⟩)⟩ (fun _=>rfl) ?_)
  rintro w0 ⟨z6,s1,z7,z8,z9,z10,n2,c2,q2⟩ hm
  replace hm:O4 pu n (M8 pu n w0) z6 s1 z7 z8 z9 z10 n2 c2 q2=some v:=hm
  unfold O4 at hm
  refine .then (.rK ?_)
  replace hm:=Ae hm;obtain⟨h1,hm⟩:=hm
  refine .ghs (fr 84 [(1,zI z6),(4,pt 1 0),(5,(pt 2 0)),(41,(Sl.v 2 s1)),(42,zI z7),(43,zI z8),(44,(zB (AY z8 z7)))]) (hT 4 [(oC [zI z9,(.slice none 0 0)]),(oC [zI z10,sc 3 0 2 n2 c2]),oC q2]) (.k [3] [false] [.tmp 4 false,.tmp 5 true,.cell 2 1 false] [1,4,5,41,42,43,44] ⟨BI h1,trivial⟩) ?_
  refine .then ?_
  replace hm:=Ag hm;rcases hm with⟨h2,hm⟩ | ⟨h2,hm⟩
  ·refine C8 (AY z8 z7) h2 ?_
   refine .skip (.ghs (fr 84 [(1,zI z6),(4,pt 1 0),(5,(pt 2 0)),(41,(Sl.v 2 s1)),(42,zI z7),(43,zI z8)]) (hT 4 [(oC [zI z9,(.slice none 0 0)]),(oC [zI z10,sc 3 0 2 n2 c2]),oC q2]) (.k [3] [false] [.tmp 4 false,.tmp 5 true,.cell 2 1 false] [1,4,5,41,42,43] ⟨BI h1,trivial⟩) ?_)
   refine .then (.block (.then ?_))
   replace hm:=Ab hm;obtain⟨k1,h3,hm⟩:=hm
   obtain rfl:=AR h3
   replace hm:=Ae hm;obtain⟨h4,hm⟩:=hm
   replace hm:=Ae hm;obtain⟨h5,hm⟩:=hm
   replace hm:=Jg hm;obtain⟨x0,h6,hm⟩:=hm
   replace hm:=Jg hm;obtain⟨x1,h7,hm⟩:=hm
   refine .reg (eC 1 (keep (hT 4 [(oC [zI z9,(.slice none 0 0)]),(oC [zI z10,sc 3 0 2 n2 c2]),oC q2]) (bb (an (Nat.blt k1 (Sl.n s1)) true) (some (Cv (k1*2) (Sl.cs s1))) none)) (AX h4) (eD (keep (hT 4 [(oC [zI z9,(.slice none 0 0)]),(oC [zI z10,sc 3 0 2 n2 c2]),oC q2]) (bb (Nat.ble ((k1*2)+2) (len (Sl.cs s1))) (some (.agg ⟨Aq 2 (Am (k1*2) (Sl.cs s1))⟩)) none)) (Pd h5 (Ca h6 (Ca h7 rfl))) (eE))) ?_
   refine .ghs (fr 84 [(1,zI z6),(4,pt 1 0),(5,(pt 2 0)),(8,(zI (Int.ofNat k1))),(9,(pt 3 0)),(41,(Sl.v 2 s1)),(42,zI z7),(43,(zI (Int.ofNat k1)))]) (hT 5 [(oC [zI z9,(.slice none 0 0)]),(oC [zI z10,sc 4 0 2 n2 c2]),(oC [(zY x0),(zY x1)]),oC q2]) (.k [3] [false] [.tmp 4 false,.tmp 5 true,.tmp 9 false,.cell 2 1 false] [1,4,5,8,9,41,42,43] ⟨BI h1,trivial⟩) ?_
   refine .then (.join (v:=v) (fun y:Int×Sl×Int×Int×Bool×Int×Int×Nat×Nat×Int×Int×LV=>((fr 84 [(1,(zI y.1)),(4,pt 1 0),(5,(pt 2 0)),(9,(pt 3 0)),(41,(Sl.v 2 y.2.1)),(42,(zI y.2.2.1)),(43,(zI y.2.2.2.1)),(55,(zB y.2.2.2.2.1))]),(hT 5 [(oC [(zI y.2.2.2.2.2.1),(.slice none 0 0)]),(oC [(zI y.2.2.2.2.2.2.1),(sc 4 0 2 y.2.2.2.2.2.2.2.1 y.2.2.2.2.2.2.2.2.1)]),(oC [(zY y.2.2.2.2.2.2.2.2.2.1),(zY y.2.2.2.2.2.2.2.2.2.2.1)]),(oC y.2.2.2.2.2.2.2.2.2.2.2)]))) (fun y=>MU pu n (M8 pu n w0) y.1 y.2.1 y.2.2.1 y.2.2.2.1 y.2.2.2.2.1 y.2.2.2.2.2.1 y.2.2.2.2.2.2.1 y.2.2.2.2.2.2.2.1 y.2.2.2.2.2.2.2.2.1 y.2.2.2.2.2.2.2.2.2.1 y.2.2.2.2.2.2.2.2.2.2.1 y.2.2.2.2.2.2.2.2.2.2.2) ?_ ?_)
   ·rintro⟨z11,s2,z12,z13,b1,z14,z15,n3,c3,z16,z17,q3⟩ hm
    unfold MU at hm
    replace hm:=Ag hm;rcases hm with⟨h8,hm⟩ | ⟨h8,hm⟩
    ·refine .ifT b1 (by kernel_rfl) h8 ?_
     refine .exit ?_
     replace hm:=Ae hm;obtain⟨h9,hm⟩:=hm
     exact⟨(z14,z15,n3,c3,q3),hm,(.k [4] [false] [.tmp 4 false,.tmp 5 true,.cell 2 1 false] [4,5] ⟨BI h9,trivial⟩)⟩
    ·refine .ifF b1 (by kernel_rfl) h8 ?_
     refine .skip ?_
     replace hm:=Ae hm;obtain⟨h10,hm⟩:=hm
     refine .ghs (fr 84 [(1,zI z11),(4,pt 1 0),(5,(pt 2 0)),(9,(pt 3 0)),(41,(Sl.v 2 s2)),(42,zI z12),(43,zI z13)]) (hT 5 [(oC [zI z14,(.slice none 0 0)]),(oC [zI z15,sc 4 0 2 n3 c3]),(oC [(zY z16),(zY z17)]),oC q3]) (.k [4] [false] [.tmp 4 false,.tmp 5 true,.tmp 9 false,.cell 2 1 false] [1,4,5,9,41,42,43] ⟨BI h10,trivial⟩) ?_
     refine .then ?_
     replace hm:=Ae hm;obtain⟨h11,hm⟩:=hm
     refine .reg (eC 6 (keep (hT 5 [(oC [zI z14,(.slice none 0 0)]),(oC [zI z15,sc 4 0 2 n3 c3]),(oC [(zY z16),(zY z17)]),oC q3]) (bb (Bd (Aj .i64 (Int.sub z15 (1:Int))) (0:Int)) none (some (zI (Int.tmod (Aj .i64 z16) (Aj .i64 (Int.sub z15 (1:Int)))))))) (XH h11) (eE)) ?_
     refine .ghs (fr 84 [(1,zI z11),(4,pt 1 0),(5,(pt 2 0)),(9,(pt 3 0)),(10,(zI (Int.tmod (Aj .i64 z16) (Aj .i64 (Int.sub z15 (1:Int)))))),(41,(Sl.v 2 s2)),(42,zI z12),(43,zI z13)]) (hT 5 [(oC [zI z14,(.slice none 0 0)]),(oC [zI z15,sc 4 0 2 n3 c3]),(oC [(zY z16),(zY z17)]),oC q3]) (.k [4] [false] [.tmp 4 false,.tmp 5 true,.tmp 9 false,.cell 2 1 false] [1,4,5,9,10,41,42,43] ⟨BI h10,trivial⟩) ?_
     replace hm:=Ae hm;obtain⟨h12,hm⟩:=hm
     replace hm:=Ae hm;obtain⟨h13,hm⟩:=hm
     refine .reg (eC 13 (keep (hT 5 [(oC [zI z14,(.slice none 0 0)]),(oC [zI z15,sc 4 0 2 n3 c3]),(oC [(zY z16),(zY z17)]),oC q3]) (bb (Bd (Aj .i64 (Int.sub (Aj .i64 (Int.sub z15 (1:Int))) (Int.tmod (Aj .i64 z16) (Aj .i64 (Int.sub z15 (1:Int)))))) (0:Int)) none (some (zI (Int.tmod (Aj .i64 z17) (Aj .i64 (Int.sub (Aj .i64 (Int.sub z15 (1:Int))) (Int.tmod (Aj .i64 z16) (Aj .i64 (Int.sub z15 (1:Int))))))))))) (XH h12) (eC 3 (Oc 2 16 n3 c3 1 4 q3 [(zI (Int.tmod (Aj .i64 z16) (Aj .i64 (Int.sub z15 (1:Int))))),(zI (Aj .i64 (Int.add (Aj .i64 (Int.add (Int.tmod (Aj .i64 z16) (Aj .i64 (Int.sub z15 (1:Int)))) (1:Int))) (Int.tmod (Aj .i64 z17) (Aj .i64 (Int.sub (Aj .i64 (Int.sub z15 (1:Int))) (Int.tmod (Aj .i64 z16) (Aj .i64 (Int.sub z15 (1:Int))))))))))] [] (hT 6 [(oC [zI z14,(.slice none 0 0)]),(oC [zI z15,sc 4 0 2 n3 c3]),(oC [(zY z16),(zY z17)]),oC q3,(oC [(zI (Int.tmod (Aj .i64 z16) (Aj .i64 (Int.sub z15 (1:Int))))),(zI (Aj .i64 (Int.add (Aj .i64 (Int.add (Int.tmod (Aj .i64 z16) (Aj .i64 (Int.sub z15 (1:Int)))) (1:Int))) (Int.tmod (Aj .i64 z17) (Aj .i64 (Int.sub (Aj .i64 (Int.sub z15 (1:Int))) (Int.tmod (Aj .i64 z16) (Aj .i64 (Int.sub z15 (1:Int))))))))))])])) (I1 h13) (eE))) ?_
     replace hm:=Ae hm;obtain⟨h14,hm⟩:=hm
     refine .ghs (fr 84 [(1,zI z11),(4,pt 1 0),(5,(pt 2 0)),(41,(Sl.v 2 s2)),(42,zI z12),(43,zI z13)]) (hT 4 [(oC [zI z14,(.slice none 0 0)]),(oC [zI z15,(sc 3 0 2 (n3+1) (d2 (n3+1)))]),(oC (Br (Am 0 q3) [(zI (Int.tmod (Aj .i64 z16) (Aj .i64 (Int.sub z15 (1:Int))))),(zI (Aj .i64 (Int.add (Aj .i64 (Int.add (Int.tmod (Aj .i64 z16) (Aj .i64 (Int.sub z15 (1:Int)))) (1:Int))) (Int.tmod (Aj .i64 z17) (Aj .i64 (Int.sub (Aj .i64 (Int.sub z15 (1:Int))) (Int.tmod (Aj .i64 z16) (Aj .i64 (Int.sub z15 (1:Int))))))))))]))]) (.k [6] [false] [.tmp 4 false,.tmp 5 true,.cell 2 1 false] [1,4,5,41,42,43] ⟨BI h14,trivial⟩) ?_
     refine .rK ?_
     exact⟨(z11,s2,z12,(Aj .i64 (Int.add z13 (1:Int))),z14,z15,(n3+1),(d2 (n3+1)),(Br (Am 0 q3) [(zI (Int.tmod (Aj .i64 z16) (Aj .i64 (Int.sub z15 (1:Int))))),(zI (Aj .i64 (Int.add (Aj .i64 (Int.add (Int.tmod (Aj .i64 z16) (Aj .i64 (Int.sub z15 (1:Int)))) (1:Int))) (Int.tmod (Aj .i64 z17) (Aj .i64 (Int.sub (Aj .i64 (Int.sub z15 (1:Int))) (Int.tmod (Aj .i64 z16) (Aj .i64 (Int.sub z15 (1:Int))))))))))])),hm,(.k [3] [false] [.tmp 4 false,.tmp 5 true,.cell 2 1 false] [1,4,5,41,42,43] ⟨BI h14,trivial⟩)⟩
   ·replace hm:=Ag hm;rcases hm with⟨h15,hm⟩ | ⟨h15,hm⟩
    ·refine .reg (eC 2 (some ((zB (nt (AY (Int.ofNat k1) z6))),(hT 5 [(oC [zI z9,(.slice none 0 0)]),(oC [zI z10,sc 4 0 2 n2 c2]),(oC [(zY x0),(zY x1)]),oC q2]))) (show _=some ((zB true),_) from (by rw[show (nt (AY (Int.ofNat k1) z6))=true from h15])) (eE)) ?_
     exact⟨(z6,s1,z7,(Int.ofNat k1),true,z9,z10,n2,c2,x0,x1,q2),hm,(.k [4] [false] [.tmp 4 false,.tmp 5 true,.tmp 9 false,.cell 2 1 false] [1,4,5,9,41,42,43,55] ⟨BI h1,trivial⟩)⟩
    ·refine .reg (eC 2 (some ((zB (nt (AY (Int.ofNat k1) z6))),(hT 5 [(oC [zI z9,(.slice none 0 0)]),(oC [zI z10,sc 4 0 2 n2 c2]),(oC [(zY x0),(zY x1)]),oC q2]))) (show _=some ((zB false),_) from (by rw[show (nt (AY (Int.ofNat k1) z6))=false from h15])) (eE)) ?_
     exact⟨(z6,s1,z7,(Int.ofNat k1),(AY z10 (2:Int)),z9,z10,n2,c2,x0,x1,q2),hm,(.k [4] [false] [.tmp 4 false,.tmp 5 true,.tmp 9 false,.cell 2 1 false] [1,4,5,9,41,42,43,55] ⟨BI h1,trivial⟩)⟩
  ·refine Dn (AY z8 z7) h2 ?_
   refine .exit ?_
   exact⟨(z9,z10,n2,c2,q2),hm,(.k [3] [false] [.tmp 4 false,.tmp 5 true,.cell 2 1 false] [4,5] ⟨BI h1,trivial⟩)⟩
theorem r5 {call:A8} (pu:Af) (n:Nat) (hcall:call=Bb tabs Eo pu (inl pu)) {args:LV} {v:Value} (hm:m5 pu n args=some v) (_:∀ x∈args,closed2 x=true):args.length≤84∧BN tt call 1 Nh (Fr.made 84 args) (Ao tabs) (Fin tt 1 [.cell 4 27] v):=by
 subst hcall
 unfold m5 at hm
 replace hm:=Ad hm;obtain⟨a0,args_0,rfl,hm⟩:=hm
 replace hm:=Ad hm;obtain⟨a1,args_1,rfl,hm⟩:=hm
 replace hm:=AC hm;obtain⟨rfl,hm⟩:=hm
 replace hm:=BG hm;obtain⟨l0,rfl,hm⟩:=hm
 replace hm:=Ad hm;obtain⟨v0,l1058_0,rfl,hm⟩:=hm
 replace hm:=Ad hm;obtain⟨v1,l1058_1,rfl,hm⟩:=hm
 replace hm:=Ad hm;obtain⟨v2,l1058_2,rfl,hm⟩:=hm
 replace hm:=AC hm;obtain⟨rfl,hm⟩:=hm
 replace hm:=Ai hm;obtain⟨x0,rfl,hm⟩:=hm
 replace hm:=Al hm;obtain⟨s0,rfl,hm⟩:=hm
 replace hm:=Be hm;obtain⟨b0,rfl,hm⟩:=hm
 replace hm:=Ai hm;obtain⟨x1,rfl,hm⟩:=hm
 unfold iC at hm
 refine⟨by simp,?_⟩
 refine .same (F':=(fr 84 [(0,(.agg ⟨[(zY x0),(Sl.v 2 s0),zB b0]⟩)),(1,zI x1)])) (H':=Bq) (by kernel_rfl) (by kernel_rfl) ?_
 refine .then (.rK (.ghs (fr 84 [(1,zI x1),(2,pt 1 0),(4,(pt 2 0))]) (hT 3 [(oC [(zY x0),(Sl.v 2 s0),zB b0]),(oC [(zI (0:Int)),(.slice none 0 0)])]) (.k0 [false] [.tmp 2 false,.tmp 4 false] [1,2,4]) ?_))
 refine .then (.rK (.ghs (fr 84 [(1,zI x1),(2,pt 1 0),(4,(pt 2 0)),(5,(pt 3 0))]) (hT 4 [(oC [(zY x0),(Sl.v 2 s0),zB b0]),(oC [(zI (0:Int)),(.slice none 0 0)]),(oC [(zI (Aj .i64 (Int.add (1:Int) (Int.tmod (Aj .i64 x0) (5:Int))))),(.slice none 0 0)])]) (.k0 [false] [.tmp 2 false,.tmp 4 false,.tmp 5 false] [1,2,4,5]) ?_))
 refine .join (v:=v) (fun y:Int×Int×Sl×Bool×Int×Int×Nat×Nat×LV=>((fr 84 [(1,(zI y.1)),(2,pt 1 0),(4,(pt 2 0)),(5,(pt 3 0))]),(hT 5 [(oC [(zY y.2.1),(Sl.v 2 y.2.2.1),(zB y.2.2.2.1)]),(oC [(zI y.2.2.2.2.1),(.slice none 0 0)]),(oC [(zI y.2.2.2.2.2.1),(sc 4 0 2 y.2.2.2.2.2.2.1 y.2.2.2.2.2.2.2.1)]),(oC y.2.2.2.2.2.2.2.2)]))) (fun y=>K4 pu n y.1 y.2.1 y.2.2.1 y.2.2.2.1 y.2.2.2.2.1 y.2.2.2.2.2.1 y.2.2.2.2.2.2.1 y.2.2.2.2.2.2.2.1 y.2.2.2.2.2.2.2.2) ?_ ?_
 ·rintro⟨z0,z1,s1,b1,z2,z3,n0,c0,q0⟩ hm
  exact lV pu n z0 z1 s1 b1 z2 z3 n0 c0 q0 hm
 ·refine .then (.rK (.ghs (fr 84 [(1,zI x1),(2,pt 1 0),(4,(pt 2 0)),(5,(pt 3 0)),(18,zB b0)]) (hT 4 [(oC [(zY x0),(Sl.v 2 s0),zB b0]),(oC [(zI (0:Int)),(.slice none 0 0)]),(oC [(zI (Aj .i64 (Int.add (1:Int) (Int.tmod (Aj .i64 x0) (5:Int))))),(.slice none 0 0)])]) (.k0 [false] [.tmp 2 false,.tmp 4 false,.tmp 5 false] [1,2,4,5,18]) ?_))
  replace hm:=Ag hm;rcases hm with⟨h0,hm⟩ | ⟨h0,hm⟩
  ·refine .ifT b0 (by kernel_rfl) h0 ?_
   refine .then (.rK (.ghs (fr 84 [(1,zI x1),(2,pt 1 0),(4,(pt 2 0)),(5,(pt 3 0)),(6,(zI (Aj .i64 (Int.add (1:Int) (Int.tmod (Aj .i64 x0) (5:Int))))))]) (hT 4 [(oC [(zY x0),(Sl.v 2 s0),zB b0]),(oC [(zI (0:Int)),(.slice none 0 0)]),(oC [(zI (Aj .i64 (Int.add (1:Int) (Int.tmod (Aj .i64 x0) (5:Int))))),(.slice none 0 0)])]) (.k0 [false] [.tmp 2 false,.tmp 4 false,.tmp 5 false] [1,2,4,5,6]) ?_))
   refine .block (.loopM (v:=v) (fun y:Int×Int×Int×Sl×Bool×Int×Int×Nat×Nat×LV=>((fr 84 [(1,(zI y.1)),(2,pt 1 0),(4,(pt 2 0)),(5,(pt 3 0)),(6,(zI y.2.1))]),(hT 5 [(oC [(zY y.2.2.1),(Sl.v 2 y.2.2.2.1),(zB y.2.2.2.2.1)]),(oC [(zI y.2.2.2.2.2.1),(.slice none 0 0)]),(oC [(zI y.2.2.2.2.2.2.1),(sc 4 0 2 y.2.2.2.2.2.2.2.1 y.2.2.2.2.2.2.2.2.1)]),(oC y.2.2.2.2.2.2.2.2.2)]))) (fun w y=>K5 pu n w y.1 y.2.1 y.2.2.1 y.2.2.2.1 y.2.2.2.2.1 y.2.2.2.2.2.1 y.2.2.2.2.2.2.1 y.2.2.2.2.2.2.2.1 y.2.2.2.2.2.2.2.2.1 y.2.2.2.2.2.2.2.2.2) n ⟨(x1,(Aj .i64 (Int.add (1:Int) (Int.tmod (Aj .i64 x0) (5:Int)))),x0,s0,b0,(0:Int),(Aj .i64 (Int.add (1:Int) (Int.tmod (Aj .i64 x0) (5:Int)))),0,0,([]:LV)),hm,(.thawC 3 1 2 [(zI (Aj .i64 (Int.add (1:Int) (Int.tmod (Aj .i64 x0) (5:Int))))),(.slice none 0 0)] (imm:=false) (spent:=false) (anc:=[]) (by kernel_rfl) (by kernel_rfl) (by kernel_rfl) (by kernel_rfl) (.k0 [false] [.tmp 2 false,.tmp 4 false,.tmp 5 true,.cell 3 1 false] [1,2,4,5,6]))⟩ (fun _=>rfl) ?_)
   rintro w0 ⟨z4,z5,z6,s2,b2,z7,z8,n1,c1,q1⟩ hm
   replace hm:UR pu n (K5 pu n w0) z4 z5 z6 s2 b2 z7 z8 n1 c1 q1=some v:=hm
   unfold UR at hm
   refine .then (.then (.rK ?_))
   replace hm:=Ae hm;obtain⟨h1,hm⟩:=hm
   refine .ghs (fr 84 [(1,zI z4),(2,pt 1 0),(4,(pt 2 0)),(5,(pt 3 0)),(6,zI z5),(22,(zB (AY (1:Int) z5)))]) (hT 5 [(oC [(zY z6),(Sl.v 2 s2),zB b2]),(oC [zI z7,(.slice none 0 0)]),(oC [zI z8,sc 4 0 2 n1 c1]),oC q1]) (.k [4] [false] [.tmp 2 false,.tmp 4 false,.tmp 5 true,.cell 3 1 false] [1,2,4,5,6,22] ⟨BI h1,trivial⟩) ?_
   replace hm:=Ag hm;rcases hm with⟨h2,hm⟩ | ⟨h2,hm⟩
   ·refine C8 (AY (1:Int) z5) h2 ?_
    refine .skip (.ghs (fr 84 [(1,zI z4),(2,pt 1 0),(4,(pt 2 0)),(5,(pt 3 0)),(6,zI z5)]) (hT 5 [(oC [(zY z6),(Sl.v 2 s2),zB b2]),(oC [zI z7,(.slice none 0 0)]),(oC [zI z8,sc 4 0 2 n1 c1]),oC q1]) (.k [4] [false] [.tmp 2 false,.tmp 4 false,.tmp 5 true,.cell 3 1 false] [1,2,4,5,6] ⟨BI h1,trivial⟩) ?_)
    refine .join (v:=v) (fun y:Int×Int×Int×Sl×Bool×Int×Int×Nat×Nat×LV=>((fr 84 [(1,(zI y.1)),(2,pt 1 0),(4,(pt 2 0)),(5,(pt 3 0)),(6,(zI y.2.1))]),(hT 5 [(oC [(zY y.2.2.1),(Sl.v 2 y.2.2.2.1),(zB y.2.2.2.2.1)]),(oC [(zI y.2.2.2.2.2.1),(.slice none 0 0)]),(oC [(zI y.2.2.2.2.2.2.1),(sc 4 0 2 y.2.2.2.2.2.2.2.1 y.2.2.2.2.2.2.2.2.1)]),(oC y.2.2.2.2.2.2.2.2.2)]))) (fun y=>UN pu n (K5 pu n w0) y.1 y.2.1 y.2.2.1 y.2.2.2.1 y.2.2.2.2.1 y.2.2.2.2.2.1 y.2.2.2.2.2.2.1 y.2.2.2.2.2.2.2.1 y.2.2.2.2.2.2.2.2.1 y.2.2.2.2.2.2.2.2.2) ?_ ?_
    ·rintro⟨z9,z10,z11,s3,b3,z12,z13,n2,c2,q2⟩ hm
     unfold UN at hm
     refine .rK ?_
     replace hm:=Ae hm;obtain⟨h3,hm⟩:=hm
     exact⟨(z9,(Aj .i64 (Int.sub z10 (1:Int))),z11,s3,b3,z12,z13,n2,c2,q2),hm,(.k [4] [false] [.tmp 2 false,.tmp 4 false,.tmp 5 true,.cell 3 1 false] [1,2,4,5,6] ⟨BI h3,trivial⟩)⟩
    ·refine .block (.then (.rK (.ghs (fr 84 [(1,zI z4),(2,pt 1 0),(4,(pt 2 0)),(5,(pt 3 0)),(6,zI z5),(7,(zI (0:Int)))]) (hT 5 [(oC [(zY z6),(Sl.v 2 s2),zB b2]),(oC [zI z7,(.slice none 0 0)]),(oC [zI z8,sc 4 0 2 n1 c1]),oC q1]) (.k [4] [false] [.tmp 2 false,.tmp 4 false,.tmp 5 true,.cell 3 1 false] [1,2,4,5,6,7] ⟨BI h1,trivial⟩) ?_)))
     refine .block (.loopM (v:=v) (fun y:Int×Int×Int×Int×Sl×Bool×Int×Int×Nat×Nat×LV=>((fr 84 [(1,(zI y.1)),(2,pt 1 0),(4,(pt 2 0)),(5,(pt 3 0)),(6,(zI y.2.1)),(7,(zI y.2.2.1))]),(hT 5 [(oC [(zY y.2.2.2.1),(Sl.v 2 y.2.2.2.2.1),(zB y.2.2.2.2.2.1)]),(oC [(zI y.2.2.2.2.2.2.1),(.slice none 0 0)]),(oC [(zI y.2.2.2.2.2.2.2.1),(sc 4 0 2 y.2.2.2.2.2.2.2.2.1 y.2.2.2.2.2.2.2.2.2.1)]),(oC y.2.2.2.2.2.2.2.2.2.2)]))) (fun w y=>UQ pu n (K5 pu n w0) w y.1 y.2.1 y.2.2.1 y.2.2.2.1 y.2.2.2.2.1 y.2.2.2.2.2.1 y.2.2.2.2.2.2.1 y.2.2.2.2.2.2.2.1 y.2.2.2.2.2.2.2.2.1 y.2.2.2.2.2.2.2.2.2.1 y.2.2.2.2.2.2.2.2.2.2) n ⟨(z4,z5,(0:Int),z6,s2,b2,z7,z8,n1,c1,q1),hm,(.k [4] [false] [.tmp 2 false,.tmp 4 false,.tmp 5 true,.cell 3 1 false] [1,2,4,5,6,7] ⟨BI h1,trivial⟩)⟩ (fun _=>rfl) ?_)
     rintro w1 ⟨z14,z15,z16,z17,s4,b7,z18,z19,n3,c3,q3⟩ hm
     replace hm:UO pu n (K5 pu n w0) (UQ pu n (K5 pu n w0) w1) z14 z15 z16 z17 s4 b7 z18 z19 n3 c3 q3=some v:=hm
     unfold UO at hm
     refine .then (.then (.rK ?_))
     replace hm:=Ae hm;obtain⟨h4,hm⟩:=hm
     refine .ghs (fr 84 [(1,zI z14),(2,pt 1 0),(4,(pt 2 0)),(5,(pt 3 0)),(6,zI z15),(7,zI z16),(28,(zB (AY (Aj .i64 (Int.add z16 (1:Int))) z15)))]) (hT 5 [(oC [(zY z17),(Sl.v 2 s4),zB b7]),(oC [zI z18,(.slice none 0 0)]),(oC [zI z19,sc 4 0 2 n3 c3]),oC q3]) (.k [4] [false] [.tmp 2 false,.tmp 4 false,.tmp 5 true,.cell 3 1 false] [1,2,4,5,6,7,28] ⟨BI h4,trivial⟩) ?_
     replace hm:=Ag hm;rcases hm with⟨h5,hm⟩ | ⟨h5,hm⟩
     ·refine C8 (AY (Aj .i64 (Int.add z16 (1:Int))) z15) h5 ?_
      refine .skip (.ghs (fr 84 [(1,zI z14),(2,pt 1 0),(4,(pt 2 0)),(5,(pt 3 0)),(6,zI z15),(7,zI z16)]) (hT 5 [(oC [(zY z17),(Sl.v 2 s4),zB b7]),(oC [zI z18,(.slice none 0 0)]),(oC [zI z19,sc 4 0 2 n3 c3]),oC q3]) (.k [4] [false] [.tmp 2 false,.tmp 4 false,.tmp 5 true,.cell 3 1 false] [1,2,4,5,6,7] ⟨BI h4,trivial⟩) ?_)
      refine .then (.block ?_)
      replace hm:=Ae hm;obtain⟨h6,hm⟩:=hm
      refine .reg (eC 7 (Oc 2 16 n3 c3 1 4 q3 [zI z16,(zI (Aj .i64 (Int.add z16 (1:Int))))] [] (hT 6 [(oC [(zY z17),(Sl.v 2 s4),zB b7]),(oC [zI z18,(.slice none 0 0)]),(oC [zI z19,sc 4 0 2 n3 c3]),oC q3,(oC [zI z16,(zI (Aj .i64 (Int.add z16 (1:Int))))])])) (I1 h6) (eE)) ?_
      replace hm:=Ae hm;obtain⟨h7,hm⟩:=hm
      refine .ghs (fr 84 [(1,zI z14),(2,pt 1 0),(4,(pt 2 0)),(5,(pt 3 0)),(6,zI z15),(7,zI z16)]) (hT 5 [(oC [(zY z17),(Sl.v 2 s4),zB b7]),(oC [zI z18,(.slice none 0 0)]),(oC [zI z19,(sc 4 0 2 (n3+1) (d2 (n3+1)))]),(oC (Br (Am 0 q3) [zI z16,(zI (Aj .i64 (Int.add z16 (1:Int))))]))]) (.k [6] [false] [.tmp 2 false,.tmp 4 false,.tmp 5 true,.cell 3 1 false] [1,2,4,5,6,7] ⟨BI h7,trivial⟩) ?_
      refine .rK ?_
      exact⟨(z14,z15,(Aj .i64 (Int.add z16 (1:Int))),z17,s4,b7,z18,z19,(n3+1),(d2 (n3+1)),(Br (Am 0 q3) [zI z16,(zI (Aj .i64 (Int.add z16 (1:Int))))])),hm,(.k [4] [false] [.tmp 2 false,.tmp 4 false,.tmp 5 true,.cell 3 1 false] [1,2,4,5,6,7] ⟨BI h7,trivial⟩)⟩
     ·refine Dn (AY (Aj .i64 (Int.add z16 (1:Int))) z15) h5 ?_
      refine .exit ?_
      exact⟨(z14,z15,z17,s4,b7,z18,z19,n3,c3,q3),hm,(.k [4] [false] [.tmp 2 false,.tmp 4 false,.tmp 5 true,.cell 3 1 false] [1,2,4,5,6] ⟨BI h4,trivial⟩)⟩
   ·refine Dn (AY (1:Int) z5) h2 ?_
    refine .exit ?_
    exact⟨(z4,z6,s2,b2,z7,z8,n1,c1,q1),hm,(.k [4] [false] [.tmp 2 false,.tmp 4 false,.tmp 5 true,.cell 3 1 false] [1,2,4,5] ⟨BI h1,trivial⟩)⟩
  ·refine .ifF b0 (by kernel_rfl) h0 ?_
   refine .skip ?_
   exact⟨(x1,x0,s0,b0,(0:Int),(Aj .i64 (Int.add (1:Int) (Int.tmod (Aj .i64 x0) (5:Int)))),0,0,([]:LV)),hm,(.thawC 3 1 2 [(zI (Aj .i64 (Int.add (1:Int) (Int.tmod (Aj .i64 x0) (5:Int))))),(.slice none 0 0)] (imm:=false) (spent:=false) (anc:=[]) (by kernel_rfl) (by kernel_rfl) (by kernel_rfl) (by kernel_rfl) (.k0 [false] [.tmp 2 false,.tmp 4 false,.tmp 5 true,.cell 3 1 false] [1,2,4,5]))⟩
def OM (pu:Af) (n n0 c0 n1 c1:Nat) (q0:LV) (q1:LV):OV:=
 (bb (Au Ah q0) (bb (Au Ah q1) (bb (an (Nat.ble (0+n0*1) (len q0)) (Au Ah (Aq (n0*1) (Am 0 q0)))) (bb (an (Nat.ble (0+n1*1) (len q1)) (Au Ah (Aq (n1*1) (Am 0 q1)))) (some (.tuple ⟨[(Sl.v 1 (Sl.mk n0 0 (Aq (n0*1) (Am 0 q0)))),(Sl.v 1 (Sl.mk n1 0 (Aq (n1*1) (Am 0 q1))))]⟩)) none) none) none) none)
def O5 (pu:Af) (n:Nat) (ih0:Int→Nat→Nat→Nat→Nat→Sl→Int→Int→LV→LV→OV) (z0:Int) (n0 c0 n1 c1:Nat) (s0:Sl) (z1 z2:Int) (q0:LV) (q1:LV):OV:=
 (bb (Au Ah q0) (bb (Au Ah q1) (ih0 z0 n0 c0 n1 c1 s0 z1 (Aj .i64 (Int.add z2 (1:Int))) q0 q1) none) none)
def O6 (pu:Af) (n:Nat) (ih0:Int→Nat→Nat→Nat→Nat→Sl→Int→Int→LV→LV→OV) (z0:Int) (n0 c0 n1 c1:Nat) (z1:Int) (s0:Sl) (z2 z3:Int) (b0:Bool) (q0:LV) (q1:LV) (z4 z5:Int):OV:=
 (bb b0 (oo (EA z5) none fun k1=>(bb (an (Nat.blt k1 n0) true) (oo (AL q0 (0+k1*1)) none fun v0=>(oo (Bi .i64 v0) none fun x0=>(oo (EA z4) none fun k2=>(bb (an (Nat.blt k2 n0) true) (oo (AL q0 (0+k2*1)) none fun v1=>(oo (Bi .i64 v1) none fun x1=>(bb (an (Nat.blt k2 n0) true) (bb (an (Nat.ble ((0+k2*1)+1) (len q0)) true) (bb (an (Nat.blt k1 n0) true) (bb (an (Nat.ble ((0+k1*1)+1) (len (BM ([.int .i64 x0]:LV) (0+k2*1) q0))) true) (bb (Au Ah (BM ([.int .i64 x1]:LV) (0+k1*1) (BM ([.int .i64 x0]:LV) (0+k2*1) q0))) (bb (Au Ah q1) (oo (EA z1) none fun k3=>(bb (an (Nat.blt k3 n1) true) (bb (an (Nat.ble ((0+k3*1)+1) (len q1)) true) (bb (Au Ah (BM ([(.bool true)]:LV) (0+k3*1) q1)) (O5 pu n ih0 z0 n0 c0 n1 c1 s0 z2 z3 (BM ([.int .i64 x1]:LV) (0+k1*1) (BM ([.int .i64 x0]:LV) (0+k2*1) q0)) (BM ([(.bool true)]:LV) (0+k3*1) q1)) none) none) none)) none) none) none) none) none) none))) none)))) none)) (bb (Au Ah q0) (bb (Au Ah q1) (O5 pu n ih0 z0 n0 c0 n1 c1 s0 z2 z3 q0 q1) none) none))
def M9 (pu:Af) (n:Nat) (ih0:Int→Nat→Nat→Nat→Nat→Sl→Int→Int→LV→LV→OV) (z0:Int) (n0 c0 n1 c1:Nat) (s0:Sl) (z1 z2:Int) (q0:LV) (q1:LV):OV:=
 (bb (Au Ah q0) (bb (Au Ah q1) (bb (AY z2 z1) (oo (EA z2) none fun k1=>(bb (an (Nat.blt k1 (Sl.n s0)) true) (bb (Nat.ble ((k1*2)+2) (len (Sl.cs s0))) (oo (AL (Sl.cs s0) (k1*2)) none fun v0=>(oo (Bi .i64 v0) none fun x0=>(oo (AL (Sl.cs s0) ((k1*2)+1)) none fun v1=>(oo (Bi .i64 v1) none fun x1=>(bb (nt (Bd (Int.ofNat k1) z0)) (oo (EA x0) none fun k2=>(bb (an (Nat.blt k2 n0) true) (oo (AL q0 (0+k2*1)) none fun v2=>(oo (Bi .i64 v2) none fun x2=>(oo (EA x1) none fun k3=>(bb (an (Nat.blt k3 n0) true) (oo (AL q0 (0+k3*1)) none fun v3=>(oo (Bi .i64 v3) none fun x3=>(O6 pu n ih0 z0 n0 c0 n1 c1 (Int.ofNat k1) s0 z1 (Int.ofNat k1) (AY x3 x2) q0 q1 (Int.ofNat k2) (Int.ofNat k3)))) none)))) none)) (O6 pu n ih0 z0 n0 c0 n1 c1 (Int.ofNat k1) s0 z1 (Int.ofNat k1) false q0 q1 x0 x1)))))) none) none)) (OM pu n n0 c0 n1 c1 q0 q1)) none) none)
def K6 (pu:Af) (n w:Nat):Int→Nat→Nat→Nat→Nat→Sl→Int→Int→LV→LV→OV:=
 Nat.rec (motive:=fun _=>Int→Nat→Nat→Nat→Nat→Sl→Int→Int→LV→LV→OV) (fun _ _ _ _ _ _ _ _ _ _=>none) (fun _ ih0=>M9 pu n ih0) w
def iD (pu:Af) (n:Nat) (x0:Int) (s0 s1:Sl) (x1:Int):OV:=
 (bb (EQ (0+(Sl.n s1)) 8) (bb (Au Ah (Aq ((Sl.n s1)*1) (Sl.cs s1))) (bb (an (Nat.ble (Sl.n s0) (Sl.n s0)) (an (Nat.ble ((Sl.n s0)*1) 1099511627776) (an (Nat.ble (Sl.n s0) 1099511627776) true))) (bb (Au Ah (AF ([(.bool false)]:LV) (Sl.n s0))) (K6 pu n n x1 (Sl.n s1) (2*(Sl.n s1)+bb false 1 0) (Sl.n s0) (2*(Sl.n s0)+bb true 1 0) s0 (Int.ofNat (Sl.n s0)) (0:Int) (Aq ((Sl.n s1)*1) (Sl.cs s1)) (AF ([(.bool false)]:LV) (Sl.n s0))) none) none) none) none)
def m8 (pu:Af) (n:Nat) (args:LV):OV:=
 (ll args none fun a0 args=>(ll args none fun a1 args=>(ll args none fun a2 args=>(ll args (oo (Bt a0) none fun l0=>(ll l0 none fun v0 l0=>(ll l0 none fun v1 l0=>(ll l0 (oo (Bi .i64 v0) none fun x0=>(oo (Bj 2 v1) none fun s0=>(oo (Bj 1 a1) none fun s1=>(oo (Bi .i64 a2) none fun x1=>(iD pu n x0 s0 s1 x1))))) fun _ _=>none)))) fun _ _=>none))))
theorem lW (pu:Af) (n n0 c0 n1 c1:Nat) (q0:LV) (q1:LV) {v:Value} (hm:OM pu n n0 c0 n1 c1 q0 q1=some v):BN tt (Bb tabs Eo pu (inl pu)) 1 RP (fr 66 [(8,sc 1 0 1 n0 c0),(9,sc 2 0 1 n1 c1)]) (hT 3 [oC q0,oC q1]) (Fin tt 1 [.tmp 6,.tmp 7] v):=by
 unfold OM at hm
 refine .then (.rK ?_)
 replace hm:=Ae hm;obtain⟨h0,hm⟩:=hm
 replace hm:=Ae hm;obtain⟨h1,hm⟩:=hm
 refine .ghs (fr 66 [(6,sc 1 0 1 n0 c0),(7,sc 2 0 1 n1 c1)]) (hT 3 [oC q0,oC q1]) (.k [1,2] [false] [.tmp 6 false,.tmp 7 false] [6,7] ⟨BI h0,BI h1,trivial⟩) ?_
 replace hm:=Ae hm;obtain⟨h2,hm⟩:=hm
 replace hm:=Ae hm;obtain⟨h3,hm⟩:=hm
 refine .ghs (Fr.puts (fr 66 [(6,sc 1 0 1 n0 c0),(7,sc 2 0 1 n1 c1)]) [(6,(Sl.v 1 (Sl.mk n0 0 (Aq (n0*1) (Am 0 q0))))),(7,(Sl.v 1 (Sl.mk n1 0 (Aq (n1*1) (Am 0 q1)))))]) (hT 3 [.dead,.dead]) (.freezeC 1 6 1 (an (Nat.ble (0+n0*1) (len q0)) (Au Ah (Aq (n0*1) (Am 0 q0)))) (F1:=(Fr.puts (fr 66 [(6,sc 1 0 1 n0 c0),(7,sc 2 0 1 n1 c1)]) [(6,(Sl.v 1 (Sl.mk n0 0 (Aq (n0*1) (Am 0 q0)))))])) (H1:=(hT 3 [.dead,oC q1])) (by kernel_rfl) (by kernel_rfl) h2 (.freezeC 1 7 1 (an (Nat.ble (0+n1*1) (len q1)) (Au Ah (Aq (n1*1) (Am 0 q1)))) (F1:=(Fr.puts (fr 66 [(6,sc 1 0 1 n0 c0),(7,sc 2 0 1 n1 c1)]) [(6,(Sl.v 1 (Sl.mk n0 0 (Aq (n0*1) (Am 0 q0))))),(7,(Sl.v 1 (Sl.mk n1 0 (Aq (n1*1) (Am 0 q1)))))])) (H1:=(hT 3 [.dead,.dead])) (by kernel_rfl) (by kernel_rfl) h3 (E9.id _ _))) ?_
 refine .ret ?_
 exact Bp (.tuple ⟨[(Sl.v 1 (Sl.mk n0 0 (Aq (n0*1) (Am 0 q0)))),(Sl.v 1 (Sl.mk n1 0 (Aq (n1*1) (Am 0 q1))))]⟩) hm
theorem r8 {call:A8} (pu:Af) (n:Nat) (hcall:call=Bb tabs Eo pu (inl pu)) {args:LV} {v:Value} (hm:m8 pu n args=some v) (_:∀ x∈args,closed2 x=true):args.length≤66∧BN tt call 1 Ni (Fr.made 66 args) (Ao tabs) (Fin tt 1 [.tmp 6,.tmp 7] v):=by
 subst hcall
 unfold m8 at hm
 replace hm:=Ad hm;obtain⟨a0,args_0,rfl,hm⟩:=hm
 replace hm:=Ad hm;obtain⟨a1,args_1,rfl,hm⟩:=hm
 replace hm:=Ad hm;obtain⟨a2,args_2,rfl,hm⟩:=hm
 replace hm:=AC hm;obtain⟨rfl,hm⟩:=hm
 replace hm:=BG hm;obtain⟨l0,rfl,hm⟩:=hm
 replace hm:=Ad hm;obtain⟨v0,l2190_0,rfl,hm⟩:=hm
 replace hm:=Ad hm;obtain⟨v1,l2190_1,rfl,hm⟩:=hm
 replace hm:=AC hm;obtain⟨rfl,hm⟩:=hm
 replace hm:=Ai hm;obtain⟨x0,rfl,hm⟩:=hm
 replace hm:=Al hm;obtain⟨s0,rfl,hm⟩:=hm
 replace hm:=Al hm;obtain⟨s1,rfl,hm⟩:=hm
 replace hm:=Ai hm;obtain⟨x1,rfl,hm⟩:=hm
 unfold iD at hm
 refine⟨by simp,?_⟩
 refine .same (F':=(fr 66 [(0,(.agg ⟨[zI x0,(Sl.v 2 s0)]⟩)),(1,Sl.v 1 s1),(2,zI x1)])) (H':=Bq) (by kernel_rfl) (by kernel_rfl) ?_
 refine .then (.rK (.ghs (fr 66 [(1,Sl.v 1 s1),(2,zI x1),(3,pt 1 0)]) (hT 2 [(oC [zI x0,(Sl.v 2 s0)])]) (.k0 [false] [.tmp 3 false] [1,2,3]) ?_))
 refine .then ?_
 replace hm:=Ae hm;obtain⟨h0,hm⟩:=hm
 refine .reg (eC 1 (bb (EQ (0+(Sl.n s1)) 8) (some ((sc 3 0 1 (Sl.n s1) (d2 (Sl.n s1))),(hT 4 [(oC [zI x0,(Sl.v 2 s0)]),(oC []),(oC (Aq ((Sl.n s1)*1) (Sl.cs s1)))]))) none) (kH h0) (eE)) ?_
 replace hm:=Ae hm;obtain⟨h1,hm⟩:=hm
 refine .ghs (fr 66 [(2,zI x1),(3,pt 1 0),(8,(sc 2 0 1 (Sl.n s1) (d2 (Sl.n s1))))]) (hT 3 [(oC [zI x0,(Sl.v 2 s0)]),(oC (Aq ((Sl.n s1)*1) (Sl.cs s1)))]) (.k [3] [false] [.tmp 3 false,.tmp 8 false] [2,3,8] ⟨BI h1,trivial⟩) ?_
 refine .then ?_
 replace hm:=Ae hm;obtain⟨h2,hm⟩:=hm
 refine .reg (eC 3 (bb (an (Nat.ble (Sl.n s0) (Sl.n s0)) (an (Nat.ble ((Sl.n s0)*1) 1099511627776) (an (Nat.ble (Sl.n s0) 1099511627776) true))) (some ((sc 3 0 1 (Sl.n s0) (2*(Sl.n s0)+bb true 1 0)),(hT 4 [(oC [zI x0,(Sl.v 2 s0)]),(oC (Aq ((Sl.n s1)*1) (Sl.cs s1))),(oC (AF ([zB false]:LV) (Sl.n s0)))]))) none) (kH h2) (eE)) ?_
 replace hm:=Ae hm;obtain⟨h3,hm⟩:=hm
 refine .ghs (fr 66 [(2,zI x1),(3,pt 1 0),(8,(sc 2 0 1 (Sl.n s1) (d2 (Sl.n s1)))),(9,(sc 3 0 1 (Sl.n s0) (2*(Sl.n s0)+bb true 1 0)))]) (hT 4 [(oC [zI x0,(Sl.v 2 s0)]),(oC (Aq ((Sl.n s1)*1) (Sl.cs s1))),(oC (AF ([zB false]:LV) (Sl.n s0)))]) (.k [2,3] [false] [.tmp 3 false,.tmp 8 false,.tmp 9 false] [2,3,8,9] ⟨BI h1,BI h3,trivial⟩) ?_
 refine .join (v:=v) (fun y:Nat×Nat×Nat×Nat×LV×LV=>((fr 66 [(8,(sc 1 0 1 y.1 y.2.1)),(9,(sc 2 0 1 y.2.2.1 y.2.2.2.1))]),(hT 3 [(oC y.2.2.2.2.1),(oC y.2.2.2.2.2)]))) (fun y=>OM pu n y.1 y.2.1 y.2.2.1 y.2.2.2.1 y.2.2.2.2.1 y.2.2.2.2.2) ?_ ?_
 ·rintro⟨n0,c0,n1,c1,q0,q1⟩ hm
  exact lW pu n n0 c0 n1 c1 q0 q1 hm
 ·refine .then (.rK (.ghs (fr 66 [(2,zI x1),(8,(sc 1 0 1 (Sl.n s1) (d2 (Sl.n s1)))),(9,(sc 2 0 1 (Sl.n s0) (2*(Sl.n s0)+bb true 1 0))),(19,(Sl.v 2 s0)),(20,(zI (Int.ofNat (Sl.n s0)))),(21,(zI (0:Int)))]) (hT 3 [(oC (Aq ((Sl.n s1)*1) (Sl.cs s1))),(oC (AF ([zB false]:LV) (Sl.n s0)))]) (.k [2,3] [false] [.tmp 8 false,.tmp 9 false] [2,8,9,19,20,21] ⟨BI h1,BI h3,trivial⟩) ?_))
  refine .block (.loopM (v:=v) (fun y:Int×Nat×Nat×Nat×Nat×Sl×Int×Int×LV×LV=>((fr 66 [(2,(zI y.1)),(8,(sc 1 0 1 y.2.1 y.2.2.1)),(9,(sc 2 0 1 y.2.2.2.1 y.2.2.2.2.1)),(19,(Sl.v 2 y.2.2.2.2.2.1)),(20,(zI y.2.2.2.2.2.2.1)),(21,(zI y.2.2.2.2.2.2.2.1))]),(hT 3 [(oC y.2.2.2.2.2.2.2.2.1),(oC y.2.2.2.2.2.2.2.2.2)]))) (fun w y=>K6 pu n w y.1 y.2.1 y.2.2.1 y.2.2.2.1 y.2.2.2.2.1 y.2.2.2.2.2.1 y.2.2.2.2.2.2.1 y.2.2.2.2.2.2.2.1 y.2.2.2.2.2.2.2.2.1 y.2.2.2.2.2.2.2.2.2) n ⟨(x1,(Sl.n s1),(d2 (Sl.n s1)),(Sl.n s0),(2*(Sl.n s0)+bb true 1 0),s0,(Int.ofNat (Sl.n s0)),(0:Int),(Aq ((Sl.n s1)*1) (Sl.cs s1)),(AF ([zB false]:LV) (Sl.n s0))),hm,(.k [1,2] [false] [.tmp 8 false,.tmp 9 false] [2,8,9,19,20,21] ⟨BI h1,BI h3,trivial⟩)⟩ (fun _=>rfl) ?_)
  rintro w0 ⟨z0,n2,c2,n3,c3,s2,z1,z2,q2,q3⟩ hm
  replace hm:M9 pu n (K6 pu n w0) z0 n2 c2 n3 c3 s2 z1 z2 q2 q3=some v:=hm
  unfold M9 at hm
  refine .then (.rK ?_)
  replace hm:=Ae hm;obtain⟨h4,hm⟩:=hm
  replace hm:=Ae hm;obtain⟨h5,hm⟩:=hm
  refine .ghs (fr 66 [(2,zI z0),(8,sc 1 0 1 n2 c2),(9,sc 2 0 1 n3 c3),(19,(Sl.v 2 s2)),(20,zI z1),(21,zI z2),(22,(zB (AY z2 z1)))]) (hT 3 [oC q2,oC q3]) (.k [1,2] [false] [.tmp 8 false,.tmp 9 false] [2,8,9,19,20,21,22] ⟨BI h4,BI h5,trivial⟩) ?_
  refine .then ?_
  replace hm:=Ag hm;rcases hm with⟨h6,hm⟩ | ⟨h6,hm⟩
  ·refine C8 (AY z2 z1) h6 ?_
   refine .skip (.ghs (fr 66 [(2,zI z0),(8,sc 1 0 1 n2 c2),(9,sc 2 0 1 n3 c3),(19,(Sl.v 2 s2)),(20,zI z1),(21,zI z2)]) (hT 3 [oC q2,oC q3]) (.k [1,2] [false] [.tmp 8 false,.tmp 9 false] [2,8,9,19,20,21] ⟨BI h4,BI h5,trivial⟩) ?_)
   refine .join (v:=v) (fun y:Int×Nat×Nat×Nat×Nat×Sl×Int×Int×LV×LV=>((fr 66 [(2,(zI y.1)),(8,(sc 1 0 1 y.2.1 y.2.2.1)),(9,(sc 2 0 1 y.2.2.2.1 y.2.2.2.2.1)),(19,(Sl.v 2 y.2.2.2.2.2.1)),(20,(zI y.2.2.2.2.2.2.1)),(21,(zI y.2.2.2.2.2.2.2.1))]),(hT 3 [(oC y.2.2.2.2.2.2.2.2.1),(oC y.2.2.2.2.2.2.2.2.2)]))) (fun y=>O5 pu n (K6 pu n w0) y.1 y.2.1 y.2.2.1 y.2.2.2.1 y.2.2.2.2.1 y.2.2.2.2.2.1 y.2.2.2.2.2.2.1 y.2.2.2.2.2.2.2.1 y.2.2.2.2.2.2.2.2.1 y.2.2.2.2.2.2.2.2.2) ?_ ?_
   ·rintro⟨z3,n4,c7,n5,c72,s3,z4,z5,q4,q5⟩ hm
    unfold O5 at hm
    refine .rK ?_
    replace hm:=Ae hm;obtain⟨h7,hm⟩:=hm
    replace hm:=Ae hm;obtain⟨h8,hm⟩:=hm
    exact⟨(z3,n4,c7,n5,c72,s3,z4,(Aj .i64 (Int.add z5 (1:Int))),q4,q5),hm,(.k [1,2] [false] [.tmp 8 false,.tmp 9 false] [2,8,9,19,20,21] ⟨BI h7,BI h8,trivial⟩)⟩
   ·refine .block (.then ?_)
    replace hm:=Ab hm;obtain⟨k1,h9,hm⟩:=hm
    obtain rfl:=AR h9
    replace hm:=Ae hm;obtain⟨h10,hm⟩:=hm
    replace hm:=Ae hm;obtain⟨h11,hm⟩:=hm
    replace hm:=Jg hm;obtain⟨x2,h12,hm⟩:=hm
    replace hm:=Jg hm;obtain⟨x3,h13,hm⟩:=hm
    refine .reg (eC 1 (keep (hT 3 [oC q2,oC q3]) (bb (an (Nat.blt k1 (Sl.n s2)) true) (some (Cv (k1*2) (Sl.cs s2))) none)) (AX h10) (eD (keep (hT 3 [oC q2,oC q3]) (bb (Nat.ble ((k1*2)+2) (len (Sl.cs s2))) (some (.agg ⟨Aq 2 (Am (k1*2) (Sl.cs s2))⟩)) none)) (Pd h11 (Ca h12 (Ca h13 rfl))) (eE))) ?_
    refine .ghs (fr 66 [(2,zI z0),(8,sc 1 0 1 n2 c2),(9,sc 2 0 1 n3 c3),(10,(zI (Int.ofNat k1))),(11,(pt 3 0)),(19,(Sl.v 2 s2)),(20,zI z1),(21,(zI (Int.ofNat k1)))]) (hT 4 [oC q2,oC q3,(oC [zI x2,zI x3])]) (.k [1,2] [false] [.tmp 8 false,.tmp 9 false,.tmp 11 false] [2,8,9,10,11,19,20,21] ⟨BI h4,BI h5,trivial⟩) ?_
    refine .join (v:=v) (fun y:Int×Nat×Nat×Nat×Nat×Int×Sl×Int×Int×Bool×LV×LV×Int×Int=>((fr 66 [(2,(zI y.1)),(8,(sc 1 0 1 y.2.1 y.2.2.1)),(9,(sc 2 0 1 y.2.2.2.1 y.2.2.2.2.1)),(10,(zI y.2.2.2.2.2.1)),(11,(pt 3 0)),(19,(Sl.v 2 y.2.2.2.2.2.2.1)),(20,(zI y.2.2.2.2.2.2.2.1)),(21,(zI y.2.2.2.2.2.2.2.2.1)),(41,(zB y.2.2.2.2.2.2.2.2.2.1))]),(hT 4 [(oC y.2.2.2.2.2.2.2.2.2.2.1),(oC y.2.2.2.2.2.2.2.2.2.2.2.1),(oC [(zI y.2.2.2.2.2.2.2.2.2.2.2.2.1),(zI y.2.2.2.2.2.2.2.2.2.2.2.2.2)])]))) (fun y=>O6 pu n (K6 pu n w0) y.1 y.2.1 y.2.2.1 y.2.2.2.1 y.2.2.2.2.1 y.2.2.2.2.2.1 y.2.2.2.2.2.2.1 y.2.2.2.2.2.2.2.1 y.2.2.2.2.2.2.2.2.1 y.2.2.2.2.2.2.2.2.2.1 y.2.2.2.2.2.2.2.2.2.2.1 y.2.2.2.2.2.2.2.2.2.2.2.1 y.2.2.2.2.2.2.2.2.2.2.2.2.1 y.2.2.2.2.2.2.2.2.2.2.2.2.2) ?_ ?_
    ·rintro⟨z6,n6,c73,n7,c74,z7,s4,z8,z9,b0,q6,q7,z10,z11⟩ hm
     unfold O6 at hm
     replace hm:=Ag hm;rcases hm with⟨h14,hm⟩ | ⟨h14,hm⟩
     ·refine .ifT b0 (by kernel_rfl) h14 ?_
      refine .then ?_
      replace hm:=Ab hm;obtain⟨k2,h15,hm⟩:=hm
      obtain rfl:=AR h15
      replace hm:=Ae hm;obtain⟨h16,hm⟩:=hm
      replace hm:=Jg hm;obtain⟨x4,h17,hm⟩:=hm
      replace hm:=Ab hm;obtain⟨k3,h18,hm⟩:=hm
      obtain rfl:=AR h18
      replace hm:=Ae hm;obtain⟨h19,hm⟩:=hm
      replace hm:=Jg hm;obtain⟨x5,h20,hm⟩:=hm
      replace hm:=Ae hm;obtain⟨h21,hm⟩:=hm
      replace hm:=Ae hm;obtain⟨h22,hm⟩:=hm
      replace hm:=Ae hm;obtain⟨h23,hm⟩:=hm
      replace hm:=Ae hm;obtain⟨h24,hm⟩:=hm
      refine .reg (eN 15 (Fr.puts (fr 66 [(2,zI z6),(8,sc 1 0 1 n6 c73),(9,sc 2 0 1 n7 c74),(10,zI z7),(11,(pt 3 0)),(19,(Sl.v 2 s4)),(20,zI z8),(21,zI z9),(41,zB b0)]) [(42,sc 1 0 1 n6 c73),(43,(pt 3 0)),(44,(zI (Int.ofNat k3))),(45,sc 1 0 1 n6 c73),(46,(pt 3 1)),(47,(zI (Int.ofNat k2))),(48,sc 1 0 1 n6 c73),(49,(pt 3 1)),(50,(zI (Int.ofNat k2))),(51,(.pointer (some ⟨1,(0+k2*1),none⟩))),(52,zI x4),(53,sc 1 0 1 n6 c73),(54,(pt 3 0)),(55,(zI (Int.ofNat k3))),(56,(.pointer (some ⟨1,(0+k3*1),none⟩)))]) (hT 4 [oC q6,oC q7,(oC [(zI (Int.ofNat k3)),(zI (Int.ofNat k2))])]) (eC 9 (keep (hT 4 [oC q6,oC q7,(oC [(zI (Int.ofNat k3)),(zI (Int.ofNat k2))])]) (bb (an (Nat.blt k2 n6) true) (some (.pointer (some ⟨1,(0+k2*1),none⟩))) none)) (AX h16) (eD (keep (hT 4 [oC q6,oC q7,(oC [(zI (Int.ofNat k3)),(zI (Int.ofNat k2))])]) (AL q6 (0+k2*1))) (AZ h17) (eC 3 (keep (hT 4 [oC q6,oC q7,(oC [(zI (Int.ofNat k3)),(zI (Int.ofNat k2))])]) (bb (an (Nat.blt k3 n6) true) (some (.pointer (some ⟨1,(0+k3*1),none⟩))) none)) (AX h19) (by kernel_rfl)))) (eD (keep (hT 4 [oC q6,oC q7,(oC [(zI (Int.ofNat k3)),(zI (Int.ofNat k2))])]) (AL q6 (0+k3*1))) (AZ h20) (eD (keep (hT 4 [oC q6,oC q7,(oC [(zI (Int.ofNat k3)),(zI (Int.ofNat k2))])]) (bb (an (Nat.blt k3 n6) true) (some (.pointer (some ⟨1,(0+k3*1),none⟩))) none)) (AX h21) (eD (done (bb (an (Nat.ble ((0+k3*1)+1) (len q6)) true) (some (hT 4 [(oC (BM ([zI x4]:LV) (0+k3*1) q6)),oC q7,(oC [(zI (Int.ofNat k3)),(zI (Int.ofNat k2))])])) none) undef) (Js h22) (eD (keep (hT 4 [(oC (BM ([zI x4]:LV) (0+k3*1) q6)),oC q7,(oC [(zI (Int.ofNat k3)),(zI (Int.ofNat k2))])]) (bb (an (Nat.blt k2 n6) true) (some (.pointer (some ⟨1,(0+k2*1),none⟩))) none)) (AX h23) (eD (done (bb (an (Nat.ble ((0+k2*1)+1) (len (BM ([zI x4]:LV) (0+k3*1) q6))) true) (some (hT 4 [(oC (BM ([zI x5]:LV) (0+k2*1) (BM ([zI x4]:LV) (0+k3*1) q6))),oC q7,(oC [(zI (Int.ofNat k3)),(zI (Int.ofNat k2))])])) none) undef) (Js h24) (eE))))))) ?_
      replace hm:=Ae hm;obtain⟨h25,hm⟩:=hm
      replace hm:=Ae hm;obtain⟨h26,hm⟩:=hm
      refine .ghs (fr 66 [(2,zI z6),(8,sc 1 0 1 n6 c73),(9,sc 2 0 1 n7 c74),(10,zI z7),(19,(Sl.v 2 s4)),(20,zI z8),(21,zI z9)]) (hT 3 [(oC (BM ([zI x5]:LV) (0+k2*1) (BM ([zI x4]:LV) (0+k3*1) q6))),oC q7]) (.k [1,2] [false] [.tmp 8 false,.tmp 9 false] [2,8,9,10,19,20,21] ⟨BI h25,BI h26,trivial⟩) ?_
      replace hm:=Ab hm;obtain⟨k4,h27,hm⟩:=hm
      obtain rfl:=AR h27
      replace hm:=Ae hm;obtain⟨h28,hm⟩:=hm
      replace hm:=Ae hm;obtain⟨h29,hm⟩:=hm
      refine .reg (eC 2 (keep (hT 3 [(oC (BM ([zI x5]:LV) (0+k2*1) (BM ([zI x4]:LV) (0+k3*1) q6))),oC q7]) (bb (an (Nat.blt k4 n7) true) (some (.pointer (some ⟨2,(0+k4*1),none⟩))) none)) (AX h28) (eD (done (bb (an (Nat.ble ((0+k4*1)+1) (len q7)) true) (some (hT 3 [(oC (BM ([zI x5]:LV) (0+k2*1) (BM ([zI x4]:LV) (0+k3*1) q6))),(oC (BM ([zB true]:LV) (0+k4*1) q7))])) none) undef) (Js h29) (eE))) ?_
      replace hm:=Ae hm;obtain⟨h30,hm⟩:=hm
      exact⟨(z6,n6,c73,n7,c74,s4,z8,z9,(BM ([zI x5]:LV) (0+k2*1) (BM ([zI x4]:LV) (0+k3*1) q6)),(BM ([zB true]:LV) (0+k4*1) q7)),hm,(.k [1,2] [false] [.tmp 8 false,.tmp 9 false] [2,8,9,19,20,21] ⟨BI h25,BI h30,trivial⟩)⟩
     ·refine .ifF b0 (by kernel_rfl) h14 ?_
      refine .skip ?_
      replace hm:=Ae hm;obtain⟨h31,hm⟩:=hm
      replace hm:=Ae hm;obtain⟨h32,hm⟩:=hm
      exact⟨(z6,n6,c73,n7,c74,s4,z8,z9,q6,q7),hm,(.k [1,2] [false] [.tmp 8 false,.tmp 9 false] [2,8,9,19,20,21] ⟨BI h31,BI h32,trivial⟩)⟩
    ·replace hm:=Ag hm;rcases hm with⟨h33,hm⟩ | ⟨h33,hm⟩
     ·replace hm:=Ab hm;obtain⟨k5,h34,hm⟩:=hm
      obtain rfl:=AR h34
      replace hm:=Ae hm;obtain⟨h35,hm⟩:=hm
      replace hm:=Jg hm;obtain⟨x6,h36,hm⟩:=hm
      replace hm:=Ab hm;obtain⟨k6,h37,hm⟩:=hm
      obtain rfl:=AR h37
      replace hm:=Ae hm;obtain⟨h38,hm⟩:=hm
      replace hm:=Jg hm;obtain⟨x7,h39,hm⟩:=hm
      refine .reg (eC 2 (some ((zB (nt (Bd (Int.ofNat k1) z0))),(hT 4 [oC q2,oC q3,(oC [(zI (Int.ofNat k5)),(zI (Int.ofNat k6))])]))) (show _=some ((zB true),_) from (by rw[show (nt (Bd (Int.ofNat k1) z0))=true from h33])) (eC 4 (keep (hT 4 [oC q2,oC q3,(oC [(zI (Int.ofNat k5)),(zI (Int.ofNat k6))])]) (bb (an (Nat.blt k5 n2) true) (some (.pointer (some ⟨1,(0+k5*1),none⟩))) none)) (AX h35) (eD (keep (hT 4 [oC q2,oC q3,(oC [(zI (Int.ofNat k5)),(zI (Int.ofNat k6))])]) (AL q2 (0+k5*1))) (AZ h36) (eC 3 (keep (hT 4 [oC q2,oC q3,(oC [(zI (Int.ofNat k5)),(zI (Int.ofNat k6))])]) (bb (an (Nat.blt k6 n2) true) (some (.pointer (some ⟨1,(0+k6*1),none⟩))) none)) (AX h38) (eD (keep (hT 4 [oC q2,oC q3,(oC [(zI (Int.ofNat k5)),(zI (Int.ofNat k6))])]) (AL q2 (0+k6*1))) (AZ h39) (eE)))))) ?_
      exact⟨(z0,n2,c2,n3,c3,(Int.ofNat k1),s2,z1,(Int.ofNat k1),(AY x7 x6),q2,q3,(Int.ofNat k5),(Int.ofNat k6)),hm,(.k [1,2] [false] [.tmp 8 false,.tmp 9 false,.tmp 11 false] [2,8,9,10,11,19,20,21,41] ⟨BI h4,BI h5,trivial⟩)⟩
     ·refine .reg (eC 2 (some ((zB (nt (Bd (Int.ofNat k1) z0))),(hT 4 [oC q2,oC q3,(oC [zI x2,zI x3])]))) (show _=some ((zB false),_) from (by rw[show (nt (Bd (Int.ofNat k1) z0))=false from h33])) (eE)) ?_
      exact⟨(z0,n2,c2,n3,c3,(Int.ofNat k1),s2,z1,(Int.ofNat k1),false,q2,q3,x2,x3),hm,(.k [1,2] [false] [.tmp 8 false,.tmp 9 false,.tmp 11 false] [2,8,9,10,11,19,20,21,41] ⟨BI h4,BI h5,trivial⟩)⟩
  ·refine Dn (AY z2 z1) h6 ?_
   refine .exit ?_
   exact⟨(n2,c2,n3,c3,q2,q3),hm,(.k [1,2] [false] [.tmp 8 false,.tmp 9 false] [8,9] ⟨BI h4,BI h5,trivial⟩)⟩
end
end Go.TbGM
