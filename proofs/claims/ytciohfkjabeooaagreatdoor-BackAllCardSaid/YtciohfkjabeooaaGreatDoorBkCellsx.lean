/- Made from wip. -/
import Derived.Test.YtciohfkjabeooaaGreatDoorSpObj3x
import Derived.Test.YtciohfkjabeooaaGreatDoorSpClox
import Derived.KernelRfl
import Derived.Sort.Grow
import Derived.Lib.SlicesCompact

namespace Go.Sp

theorem A7 {α β:Type} {f:α→Option β} {a:α} {l:List α} {b:β} {r:List β} (h:f a=some b) (hr:CG f l=some r):CG f (a::l)=some (b::r):=by
 show oo (f a) none (fun b=>oo (CG f l) none fun r=>some (b::r))=_
 rw[h,Ac,hr,Ac]
theorem Dy {α β:Type} {f:α→Option β}:CG f ([]:List α)=some []:=rfl
theorem KU {H : Aa} {olds : List (Option Nat)} {id : Nat} {q : List Value} {anc : List Nat} (hc : Au Ah q = true) (hg : H.get id = .cells q false false anc := by kernel_rfl) (ha : Au (fun a => nt (isS (idxOf a olds 0))) anc = true := by kernel_rfl) :
 newObj H [] olds (false,some id)=some (.cells q false false []):=by
 show EE olds false false (H.get id)=_
 rw[hg]
 show bb (an (Au (fun a=>nt (isS (idxOf a olds 0))) anc) (Dp (nt false) _)) (bb false _ (bb (Dp false (Au Ah q)) _ none)) none=_
 rw[ha,hc];rfl
theorem KW {inv:List (Option Nat)} {q:List Value} (hc:Au Ah q=true):KM inv (false,.cells q false false [])=some (.cells q false false []):=by
 show bb (an true (Dp (nt false) (an (nt false) true))) (bb false (oo (CG (Ry inv) q) none fun xs'=>some (AJ.cells xs' false false [])) (bb (Dp false (Au Ah q)) (some (AJ.cells q false false [])) none)) none=_
 rw[hc];rfl
theorem Gw {o:AJ} {l:List Value} (hp:plainO o) (h:Bt (Ef o)=some l):o = .cells l false false []:=by
 rcases hp with rfl | ⟨xs,rfl⟩ | ⟨es,c,rfl⟩
 ·cases h
 ·injection h with h;subst h;rfl
 ·cases h
theorem Hw {tabs:List (List Value)} {na:Nat} {rs:List Rt} {outs:List Bool} {f:List Value→Option Value} {args:List Value} {H H2:Aa} {v v':Value} (olds:List (Option Nat)) (ps:List (Bool×Option Nat)) (os:List AJ) (as es:List Value) (os':List AJ) (inv:List (Option Nat)) (qs:List (Bool×AJ)) (ns:List AJ)
 (hr:Na (Fr.made (len args) args) H rs (DY (len tabs))=true) (hos:CG (newObj H [] olds) ps=some os) (hz:f (Br as (AP Ef os))=some (.tuple ⟨v::es⟩)) (hd:CG TP es=some os') (hn:CG (KM inv) qs=some ns)
 (hol:E8 (Fr.made (len args) args) H rs (DY (len tabs))=olds:=by kernel_rfl)
 (hc:an (KL H tabs 0) (an (NS olds olds 0) (an (Nat.beq (len olds) (len tabs+len rs)) (an (Nat.beq (len args) na) (Qn H (Am (len tabs) olds)))))=true:=by kernel_rfl)
 (hps:Gf (AP Rt.deep rs) (Am (len tabs) olds)=ps:=by kernel_rfl) (has:CG (Rz olds) args=some as:=by kernel_rfl)
 (hl:an (Nat.beq (len outs) (len os')) (Nat.ble (len rs) (len os'))=true:=by kernel_rfl) (hinv:Oj olds H.next (len os' - len rs)=inv:=by kernel_rfl) (hqs:Gf outs os'=qs:=by kernel_rfl)
 (hv:Rz inv v=some v':=by kernel_rfl) (hH:Ht (Am (len tabs) olds) ns (H.kill (I6 H (Am (len tabs) olds)))=H2:=by kernel_rfl):VO tabs na rs outs f args H=some (v',H2):=by
 unfold VO
 subst hps;subst hinv;subst hqs;subst hH
 dsimp only
 rw[hol,hc,Ak,hr,Ak,hos,Ac,has,Ac,hz,Ac]
 show oo (CG TP es) none (fun os'=>
  bb (an (Nat.beq (len outs) (len os')) (Nat.ble (len rs) (len os')))
   (oo (CG (KM (Oj olds H.next (len os' - len rs))) (Gf outs os')) none fun ns => oo (Rz (Oj olds H.next (len os' - len rs)) v) none fun v' =>
     some (v',Ht (Am (len tabs) olds) ns (H.kill (I6 H (Am (len tabs) olds))))) none)=_
 rw[hd,Ac,hl,Ak,hn,Ac,hv,Ac]

theorem Pi {c2:Nat} {q:List Value} (h:Dp (Nat.ble 2 c2) (MQ q)=true) {b:Bool} (hb:b=true):an (Dp (Nat.ble 2 c2) (MQ q)) b=true:=by rw[h,hb];rfl
theorem Kb {tt:TT} {T k:Nat} {rs:List ResultVar} {z:Value} {F:Fr} {H:Aa} (v:Value) (os:List AJ) (h:DV tt F H rs=some v) (hz:some (Value.tuple ⟨v::os.map Ef⟩)=some z) (hk:k≤os.length) (ho:∀ i o,os[i]?=some o→H.get (T+i)=o∧plainO o):FJ tt T k rs z .ret F H:=by
 injection hz with hz;exact⟨v,os,hz.symm,h,hk,ho⟩
theorem Uw {tt:TT} {T k:Nat} {rs:List ResultVar} {z:Value} {F:Fr} {H:Aa} (v:Value) (os:List AJ) (h:DV tt F H rs=some v) (hz:some (Value.tuple ⟨v::os.map Ef⟩)=some z) (hk:k≤os.length) (ho:∀ i o,os[i]?=some o→H.get (T+i)=o∧plainO o):FJ tt T k rs z .normal F H:=by
 injection hz with hz;exact⟨F,H,.id F H,v,os,hz.symm,h,hk,ho⟩
theorem Hz {H:Aa} {T:Nat}:∀ (i:Nat) (o:AJ),([]:List AJ)[i]?=some o→H.get (T+i)=o∧plainO o:=by intro i o h;simp at h
theorem Bq {H:Aa} {T:Nat} {a:AJ} {l:List AJ} (hp:plainO a) (hr:∀ (i:Nat) (o:AJ),l[i]?=some o→H.get (T+1+i)=o∧plainO o) (ha:H.get T=a:=by kernel_rfl):∀ (i:Nat) (o:AJ),(a::l)[i]?=some o→H.get (T+i)=o∧plainO o:=by
 intro i o h
 cases i with
 | zero=>simp at h;subst h;exact⟨ha,hp⟩
 | succ i=>have:=hr i o (by simpa using h);rwa [show T+(i+1)=T+1+i by omega]
theorem G9 (xs:List Value):plainO (.cells xs false false []):=.inr (.inl ⟨_,rfl⟩)
theorem Yd:plainO .dead:=.inl rfl

noncomputable section
def zY (z:Int):Value:=.int .u8 z
def FD (v:Value) (id off:Nat):Bool:=oo (FO v) false fun p=>pp p fun a b=>an (Nat.beq a id) (Nat.beq b off)
structure NC where
 n:Nat
 c:Nat
def OJ (id off sz:Nat) (v:Value):Option NC:=oo (IA v) none fun s=>ss s fun i o z n c=>bb (an (Nat.beq i id) (an (Nat.beq o off) (Nat.beq z sz))) (some ⟨n,c⟩) none
def O6 (g:FuncId) (nf:Nat) (v:Value):Option (List Value):=oo (GH v) none fun x=>wF.rec (motive:=fun _=>Option (List Value)) (fun f a b=>bb (an (Nat.beq f g) (Nat.beq (len a) nf)) (some (Br a b)) none) x
def QM (v:Value):Bool:=oo (CQ v) false fun l=>MQ l
def wS (v:Value):Bool:=DN v
end
theorem DT {v:Value} {id off:Nat} (h:FD v id off=true):v = .pointer (some ⟨id,off,none⟩):=by
 unfold FD at h
 cases hp:FO v with
 | none=>rw[hp] at h;cases h
 | some p =>
  rw[hp,Ac] at h
  obtain⟨h1,h2⟩:=Av (show an (Nat.beq p.1 id) (Nat.beq p.2 off)=true from h)
  rw[Dg hp,Nat.eq_of_beq_eq_true h1,Nat.eq_of_beq_eq_true h2]
theorem I9 {id off sz:Nat} {v:Value} {x:NC} (h:OJ id off sz v=some x):v = .slice (some ⟨id,off,some sz⟩) x.n x.c:=by
 unfold OJ at h
 obtain⟨s,hs,h⟩:=Ab h
 obtain⟨i,o,z,n,c⟩:=s
 obtain⟨hc,h⟩:=Ae (show bb (an (Nat.beq i id) (an (Nat.beq o off) (Nat.beq z sz))) (some (⟨n,c⟩:NC)) none=some x from h)
 injection h with h;subst h
 obtain⟨h1,hc⟩:=Av hc
 obtain⟨h2,h3⟩:=Av hc
 rw[Ko hs,Nat.eq_of_beq_eq_true h1,Nat.eq_of_beq_eq_true h2,Nat.eq_of_beq_eq_true h3]
theorem Jb {g:FuncId} {nf:Nat} {v:Value} {l:List Value} (h:O6 g nf v=some l):v = .func (.func g) ⟨Aq nf l⟩ ⟨Am nf l⟩:=by
 unfold O6 at h
 obtain⟨y,hy,h⟩:=Ab h
 obtain⟨f,a,b⟩:=y
 obtain⟨hc,h⟩:=Ae (show bb (an (Nat.beq f g) (Nat.beq (len a) nf)) (some (Br a b)) none=some l from h)
 injection h with h;subst h
 obtain⟨h1,h2⟩:=Av hc
 have h2:=Nat.eq_of_beq_eq_true h2
 rw[EZ hy,Nat.eq_of_beq_eq_true h1,Cg,Bz,BH,←h2,AV,List.take_left,List.drop_left]
theorem Pj {v:Value} (h:QM v=true):v = .tuple ⟨[]⟩:=by
 unfold QM at h
 cases hl:CQ v with
 | none=>rw[hl] at h;cases h
 | some l =>
  rw[hl,Ac] at h
  cases l with
  | nil=>exact EU hl
  | cons a r=>cases h
theorem Nh {v:Value} (h:Nq v=true):TP v=some .dead:=by
 have h1:Bt v=none:=by cases v <;> first | rfl | cases h
 have h2:CQ v=none:=by cases v <;> first | rfl | cases h
 unfold TP
 rw[h1,Az,h2,Az,h,Ak]
theorem Co {α:Type} {l:List α} {n:Nat} (h:l.length=n+1):∃ a r,l=a::r∧r.length=n:=by
 cases l with
 | nil=>simp at h
 | cons a r=>exact⟨a,r,rfl,by simpa using h⟩
theorem len_nil {α:Type} {l:List α} (h:l.length=0):l=[]:=List.eq_nil_of_length_eq_zero h
theorem wT {β:Type} {c:Bool} {a b:Option β} {v:β} (h:bb c a b=some v):a=some v∨b=some v:=by
 cases c
 ·exact .inr h
 ·exact .inl h
theorem Ye {v:Value} (h:wS v=true):v = .slice none 0 0:=CB h

noncomputable def wU (w:Bool) (sz:Nat) (s:Sl):Option Value:=oo (AbX 2 (s.v sz) (.slice none 0 0)) none fun b=>bv (bq w b)
theorem iV {H:Aa} {w:Bool} {sz:Nat} {s:Sl} (h:Dp (Nat.beq s.fl 2) (Dp (Nat.beq s.fl 3) (Nat.ble 1 s.n))=true):keep H (wU w sz s)=some (.bool (bq w (Nat.beq s.fl 2)),H):=by
 have e:AbX 2 (s.v sz) (.slice none 0 0)=some (Nat.beq s.fl 2):=by
  show oo (bb (Nat.beq s.fl 2) (some ((2:Nat),true)) (bb (Dp (Nat.beq s.fl 3) (Nat.ble 1 s.n)) (some (2,false)) none)) none (fun p=>bb (an (Nat.beq p.1 2) true) (bb p.2 (some true) (some false)) none)=_
  cases hb:Nat.beq s.fl 2 with
  | true=>rfl
  | false =>
   rw[hb] at h
   have h:Dp (Nat.beq s.fl 3) (Nat.ble 1 s.n)=true:=h
   rw[AA,h];rfl
 unfold wU
 rw[e];rfl
noncomputable def bI (H:Aa) (sz bytes:Nat) (s:Sl) (k:Nat) (new:List Value):Option (Value×Aa):=PU H sz bytes (s.v sz) ⟨sz,s.n,s.fl,s.cs⟩ k new
theorem iW {H : Aa} {sz bytes : Nat} {s : Sl} {k : Nat} {new : List Value} (h : an (Dp (Nat.beq s.fl 1) (Nat.beq s.fl 2)) (EQ (s.n + k) bytes) = true) (hk : Nat.beq k 0 = false := by kernel_rfl) :
 bI H sz bytes s k new=some (sliceAt H.next 0 sz (s.n+k) (s.n+k) false,H.push (.cells (Br s.cs new) false false [])):=by
 obtain⟨h1,h2⟩:=Av h
 unfold bI
 show bb (Nat.beq k 0) _ (bb (an (Dp (Nat.beq s.fl 1) (Nat.beq s.fl 2)) (an (Dp (Nat.beq s.fl 2) (Nat.beq sz sz)) (EQ (s.n+k) bytes))) _ none)=_
 rw[hk,h1,h2,show Nat.beq sz sz=true from Nat.beq_refl _]
 cases Nat.beq s.fl 2 <;> rfl

noncomputable section
def iE (m:Option Nat) (v:Value) (H:Aa):Option (Value×Aa):=oo m (some (v,H)) fun z=>ER z v H
def iF (ms:List (Option Nat)):List Value→Aa→Option (List Value×Aa):=
 List.rec (motive := fun _ => List Value → Aa → Option (List Value × Aa)) (fun l H => ll l (some ([], H)) fun _ _ => none)
  (fun m _ ih l H=>ll l none fun v r=>oo (iE m v H) none fun p=>pp p fun v' H1=>oo (ih r H1) none fun q=>pp q fun r' H2=>some (v'::r',H2)) ms
def iX (ms:List (Option Nat)) (v:Value) (H:Aa):Option (Value×Aa):=oo (Bt v) (ll ms none fun m _=>iE m v H) fun l=>oo (iF ms l H) none fun p=>pp p fun l' H1=>some (.agg ⟨l'⟩,H1)
def SQ (ms:List (List (Option Nat))):List Value→Aa→Option (List Value×Aa):=
 List.rec (motive := fun _ => List Value → Aa → Option (List Value × Aa)) (fun l H => ll l (some ([], H)) fun _ _ => none)
  (fun m _ ih l H=>ll l none fun v r=>oo (iX m v H) none fun p=>pp p fun v' H1=>oo (ih r H1) none fun q=>pp q fun r' H2=>some (v'::r',H2)) ms
def Jg (tabs:List (List Value)) (ms:List (List (Option Nat))) (na:Nat) (rs:List Rt) (outs:List Bool) (f:List Value→Option Value) (args:List Value) (H:Aa):Option (Value×Aa):=
 oo (SQ ms args H) none fun p=>pp p fun as H1=>VO tabs na rs outs f as H1
end
theorem bJ {m:Option Nat} {v v' u:Value} {H H':Aa} {R:Ren} {w:World} (h:iE m v H=some (v',H')) (hs:Ck H R w) (hx:VR R v u):∃ R',R.le R'∧Ba H R w H' R' w∧VR R' v' u:=by
 cases m with
 | none=>injection h with h;injection h with e1 e2;subst e1;subst e2;exact⟨R,R.le_refl,.refl hs,hx⟩
 | some z=>obtain⟨R',h1,_,h2,h3,_⟩:=TM (show ER z v H=some (v',H') from h) hs hx;exact⟨R',h1,h2,h3⟩
theorem bM:∀ {ms:List (Option Nat)} {l l' us:List Value} {H H':Aa} {R:Ren} {w:World},iF ms l H=some (l',H')→Ck H R w→Cf R l us→∃ R',R.le R'∧Ba H R w H' R' w∧Cf R' l' us
 | [], l, l', us, H, H', R, w, h, hs, hl => by
  cases l with
  | nil=>injection h with h;injection h with e1 e2;subst e1;subst e2;exact⟨R,R.le_refl,.refl hs,hl⟩
  | cons=>cases h
 | m :: ms, l, l', us, H, H', R, w, h, hs, hl => by
  cases l with
  | nil=>cases h
  | cons v r =>
   obtain⟨⟨v',H1⟩,h1,h2⟩:=Ab (show oo (iE m v H) none (fun p=>pp p fun v' H1=>oo (iF ms r H1) none fun q=>pp q fun r' H2=>some (v'::r',H2))=some (l',H') from h)
   obtain⟨⟨r',H2⟩,h3,h4⟩:=Ab (show oo (iF ms r H1) none (fun q=>pp q fun r' H2=>some (v'::r',H2))=some (l',H') from h2)
   injection h4 with h4;injection h4 with e1 e2;subst e1;subst e2
   obtain⟨u,us',rfl,hu,hus⟩:=hl.uncons
   obtain⟨R1,k1,k2,k3⟩:=bJ h1 hs hu
   obtain⟨R2,j1,j2,j3⟩:=bM h3 k2.sim (hus.mono k1)
   exact⟨R2,Ren.le_trans k1 j1,k2.trans j2 hs,.cons (k3.mono j1) j3⟩
theorem wV {ms:List (Option Nat)} {v v' u:Value} {H H':Aa} {R:Ren} {w:World} (h:iX ms v H=some (v',H')) (hs:Ck H R w) (hx:VR R v u):∃ R',R.le R'∧Ba H R w H' R' w∧VR R' v' u:=by
 unfold iX at h
 cases ha:Bt v with
 | none =>
  rw[ha,Az] at h
  cases ms with
  | nil=>cases h
  | cons m r=>exact bJ (show iE m v H=some (v',H') from h) hs hx
 | some l =>
  rw[ha,Ac] at h
  obtain⟨⟨l',H1⟩,h1,h2⟩:=Ab h
  injection (show some (Value.agg ⟨l'⟩,H1)=some (v',H') from h2) with h2;injection h2 with e1 e2;subst e1;subst e2
  rw[BQ ha] at hx
  obtain⟨us,rfl,hl⟩:=hx.agg_l
  obtain⟨R',k1,k2,k3⟩:=bM h1 hs hl
  exact⟨R',k1,k2,.agg k3.1 k3.2⟩
theorem WZ:∀ {ms:List (List (Option Nat))} {l l' us:List Value} {H H':Aa} {R:Ren} {w:World},SQ ms l H=some (l',H')→Ck H R w→Cf R l us→∃ R',R.le R'∧Ba H R w H' R' w∧Cf R' l' us
 | [], l, l', us, H, H', R, w, h, hs, hl => by
  cases l with
  | nil=>injection h with h;injection h with e1 e2;subst e1;subst e2;exact⟨R,R.le_refl,.refl hs,hl⟩
  | cons=>cases h
 | m :: ms, l, l', us, H, H', R, w, h, hs, hl => by
  cases l with
  | nil=>cases h
  | cons v r =>
   obtain⟨⟨v',H1⟩,h1,h2⟩:=Ab (show oo (iX m v H) none (fun p=>pp p fun v' H1=>oo (SQ ms r H1) none fun q=>pp q fun r' H2=>some (v'::r',H2))=some (l',H') from h)
   obtain⟨⟨r',H2⟩,h3,h4⟩:=Ab (show oo (SQ ms r H1) none (fun q=>pp q fun r' H2=>some (v'::r',H2))=some (l',H') from h2)
   injection h4 with h4;injection h4 with e1 e2;subst e1;subst e2
   obtain⟨u,us',rfl,hu,hus⟩:=hl.uncons
   obtain⟨R1,k1,k2,k3⟩:=wV h1 hs hu
   obtain⟨R2,j1,j2,j3⟩:=WZ h3 k2.sim (hus.mono k1)
   exact⟨R2,Ren.le_trans k1 j1,k2.trans j2 hs,.cons (k3.mono j1) j3⟩
theorem Pb {P:Program} {tabs:List (List Value)} (hne:∀ t∈tabs,t=t) (hpl:∀ t∈tabs,∀ x∈t,BR x=true) {g na:Nat} {ms:List (List (Option Nat))} {rs:List Rt} {outs:List Bool} {f:List Value→Option Value} (hok:Cn P tabs na rs.length g f) {args:List Value} {H H':Aa} {v:Value}
 (h:Jg tabs ms na rs outs f args H=some (v,H')) :
 (∀ (as:Array Value) (w:World),(callFunc g as).run P w = .ok (.enter g as) w) ∧
 ∀ R w args',Ck H R w→JH (List.range tabs.length) R→Cf R args args'→Calls P g ⟨args'⟩ w fun e w'=>∃ u R',e = .returned u∧VR R' v u∧Ba H R w H' R' w':=by
 unfold Jg at h
 obtain⟨⟨as,H1⟩,h1,h2⟩:=Ab h
 have h2:VO tabs na rs outs f as H1=some (v,H'):=h2
 refine⟨hok.1,fun R w args' hs hgl ha=>?_⟩
 obtain⟨R1,k1,k2,k3⟩:=WZ h1 hs ha
 exact((lF hne hpl hok h2).2 R1 w args' k2.sim (hgl.mono k1) k3).mono fun e w' ⟨u,R',q1,q2,q3⟩=>⟨u,R',q1,q2,k2.trans q3 hs⟩
theorem FL {v:Value} {H:Aa}:iE none v H=some (v,H):=rfl
theorem Ni {z:Nat} {v v':Value} {H H1:Aa} (h:ER z v H=some (v',H1)):iE (some z) v H=some (v',H1):=h
theorem QN {H:Aa}:iF [] [] H=some ([],H):=rfl
theorem FX {m:Option Nat} {ms:List (Option Nat)} {v v':Value} {r r':List Value} {H H1 H2:Aa} (h:iE m v H=some (v',H1)) (hr:iF ms r H1=some (r',H2)):iF (m::ms) (v::r) H=some (v'::r',H2):=by
 show oo (iE m v H) none (fun p=>pp p fun v' H1=>oo (iF ms r H1) none fun q=>pp q fun r' H2=>some (v'::r',H2))=_
 rw[h,Ac,GJ,hr];rfl
theorem Fp {m:Option Nat} {v v':Value} {H H1:Aa} (h:iE m v H=some (v',H1)) (ha:Bt v=none:=by kernel_rfl):iX [m] v H=some (v',H1):=by
 unfold iX;rw[ha];exact h
theorem QO {ms:List (Option Nat)} {l l':List Value} {H H1:Aa} (h:iF ms l H=some (l',H1)):iX ms (.agg ⟨l⟩) H=some (.agg ⟨l'⟩,H1):=by
 show oo (iF ms l H) none (fun p=>pp p fun l' H1=>some (Value.agg ⟨l'⟩,H1))=_
 rw[h];rfl
theorem JN {H:Aa}:SQ [] [] H=some ([],H):=rfl
theorem Cs {m:List (Option Nat)} {ms:List (List (Option Nat))} {v v':Value} {r r':List Value} {H H1 H2:Aa} (h:iX m v H=some (v',H1)) (hr:SQ ms r H1=some (r',H2)):SQ (m::ms) (v::r) H=some (v'::r',H2):=by
 show oo (iX m v H) none (fun p=>pp p fun v' H1=>oo (SQ ms r H1) none fun q=>pp q fun r' H2=>some (v'::r',H2))=_
 rw[h,Ac,GJ,hr];rfl
theorem Hy {tabs:List (List Value)} {ms:List (List (Option Nat))} {na:Nat} {rs:List Rt} {outs:List Bool} {f:List Value→Option Value} {args as:List Value} {H H1 H2:Aa} {v:Value} (h1:SQ ms args H=some (as,H1)) (h2:VO tabs na rs outs f as H1=some (v,H2)):Jg tabs ms na rs outs f args H=some (v,H2):=by
 unfold Jg;rw[h1,Ac,GJ,h2]

noncomputable def TV (H:Aa) (sz bytes:Nat) (s:Value) (n:Nat) (X:Value):Option (Value×Aa):=oo (Dt H sz n X) none fun new=>D7 H sz bytes s n new
theorem Ux {H : Aa} {id off sz n c bytes : Nat} {s : Value} {q : List Value} {imm sp : Bool} {anc : List Nat} (hc : Nat.ble (off + n * sz) (len q) = true) (hg : H.get id = .cells q imm sp anc := by kernel_rfl) :
 TV H sz bytes s n (.slice (some ⟨id,off,some sz⟩) n c)=Ql H sz bytes s ⟨n,0,Aq (n*sz) (Am off q)⟩:=by
 unfold TV Ql
 have e1:Dt H sz n (.slice (some ⟨id,off,some sz⟩) n c)=some (Aq (n*sz) (Am off q)):=by
  show bb (Nat.beq n 0) (some []) (oo (Bv (H.get id)) none fun o=>bb (an (Nat.beq sz sz) (Nat.ble (off+n*sz) (len o.xs))) (some (Aq (n*sz) (Am off o.xs))) none)=_
  cases hb:Nat.beq n 0 with
  | true=>rw[Nat.eq_of_beq_eq_true hb,Ak,Nat.zero_mul];rfl
  | false =>
   rw[AA,hg]
   show bb (an (Nat.beq sz sz) (Nat.ble (off+n*sz) (len q))) _ none=_
   rw[hc,show Nat.beq sz sz=true from Nat.beq_refl _];rfl
 have e2:Dt H sz n (Sl.v sz ⟨n,0,Aq (n*sz) (Am off q)⟩)=some (Aq (n*sz) (Am off q)):=by
  show bb (Nat.beq n 0) (some []) (bb (an (Nat.beq sz sz) (Nat.ble n n)) (some (Aq (n*sz) (Aq (n*sz) (Am off q)))) none)=_
  cases hb:Nat.beq n 0 with
  | true=>rw[Nat.eq_of_beq_eq_true hb,Ak,Nat.zero_mul];rfl
  | false =>
   rw[AA,show Nat.beq sz sz=true from Nat.beq_refl _,Nat.ble_eq_true_of_le (Nat.le_refl _),Cg,Cg,List.take_take,Nat.min_self];rfl
 rw[e1]
 show _=oo (Dt H sz n (Sl.v sz ⟨n,0,Aq (n*sz) (Am off q)⟩)) none _
 rw[e2]
end Go.Sp
namespace Go.Sp
noncomputable section
end
section
variable {tt:TT} {call:A8} {n0:Nat}
end
end Go.Sp
namespace Go.Sp
end Go.Sp
namespace Go.Sp
theorem Oi {v:Value} {H:Aa} (id off sz ln c2:Nat) (xs:List Value) (imm sp:Bool) (anc:List Nat) (hx:IA v=some ⟨id,off,sz,ln,c2⟩) (hg:H.get id = .cells xs imm sp anc)
 (hc:an (Nat.ble (off+ln*sz) (len xs)) (Au Ah (Aq (ln*sz) (Am off xs)))=true):M4 H v=some (Sl.v sz ⟨ln,0,Aq (ln*sz) (Am off xs)⟩):=by
 unfold M4
 rw[hx,Ac]
 show oo (Bv (H.get id)) none _=_
 rw[hg]
 show bb (an (Nat.ble (off+ln*sz) (len xs)) (Au Ah (Aq (ln*sz) (Am off xs)))) _ none=_
 rw[hc];rfl
theorem Gp {v:Value} {H:Aa} (hx:IA v=none) (hc:Ah v=true):M4 H v=some v:=by
 unfold M4
 rw[hx,Az,hc];rfl
theorem Jj {f:Value→Option Value}:CG f ([]:List Value)=some []:=rfl
theorem DL {f:Value→Option Value} {v v':Value} {l l':List Value} (h1:f v=some v') (h2:CG f l=some l'):CG f (v::l)=some (v'::l'):=by
 show oo (f v) none (fun a=>oo (CG f l) none fun r=>some (a::r))=_
 rw[h1,Ac,h2];rfl
theorem iY {H:Aa} {l l':List Value} (h:CG (M4 H) l=some l'):RG H (.agg ⟨l⟩)=some (.agg ⟨l'⟩):=by
 show oo (CG (M4 H) l) none (fun l'=>some (Value.agg ⟨l'⟩))=_
 rw[h];rfl
theorem FY {H:Aa} {v v':Value} (ha:Bt v=none) (h:M4 H v=some v'):RG H v=some v':=by
 unfold RG
 rw[ha,Az,h]
theorem Uy {f:List Value→Option Value} {H:Aa} {args as:List Value} {v:Value} (hp:CG (RG H) args=some as) (h:f as=some v) (hpl:RH v=true) :
 oo (CG (RG H) args) none (fun l1=>oo (f l1) none fun v=>bb (RH v) (some (v,H)) none)=some (v,H):=by
 rw[hp,Ac,h,Ac,hpl];rfl
end Go.Sp
namespace Go.Sp
noncomputable section
end
section
variable {P:Program} {tt:TT} {tabs:List (List Value)}
end
end Go.Sp
namespace Go.Sp
noncomputable section
end
theorem Quiet.refl (n0:Nat) (H:Aa):Quiet n0 H H:=fun _ _ _ R _ _ _ hp=>⟨R,R.le_refl,rfl,hp⟩
theorem Quiet.trans {n0:Nat} {H H1 H2:Aa} (h:Quiet n0 H H1) (h':Quiet n0 H1 H2):Quiet n0 H H2:=fun H0 R0 w0 R w hs hn hp=>by
 obtain⟨R1,a1,a2,a3⟩:=h H0 R0 w0 R w hs hn hp
 obtain⟨R2,b1,b2,b3⟩:=h' H0 R0 w0 R1 w hs hn a3
 exact⟨R2,Ren.le_trans a1 b1,b2.trans a2,b3⟩
theorem Quiet.tell {n0:Nat} {H H1:Aa} (h:Quiet n0 H H1) (v:Value):FU n0 H v H1 v:=fun H0 R0 w0 R w _ hs hn hp hv=>by
 obtain⟨R1,a1,a2,a3⟩:=h H0 R0 w0 R w hs hn hp
 exact⟨R1,a1,a2,a3,hv.mono a1⟩
theorem FU.trans {n0:Nat} {H H1 H2:Aa} {v v1 v2:Value} (h:FU n0 H v H1 v1) (h':FU n0 H1 v1 H2 v2):FU n0 H v H2 v2:=fun H0 R0 w0 R w u hs hn hp hv=>by
 obtain⟨R1,a1,a2,a3,a4⟩:=h H0 R0 w0 R w u hs hn hp hv
 obtain⟨R2,b1,b2,b3,b4⟩:=h' H0 R0 w0 R1 w u hs hn a3 a4
 exact⟨R2,Ren.le_trans a1 b1,b2.trans a2,b3,b4⟩
theorem Mr.len {n0:Nat} {H H1:Aa} {l l':List Value} (h:Mr n0 H l H1 l'):l'.length=l.length:=by
 induction h with
 | nil=>rfl
 | cons _ _ ih=>simp[ih]
structure Ahr (n0:Nat) (av:List Nat) (H:Aa) (v:Value) (H':Aa) (v':Value):Prop where
 tell:FU n0 H v H' v'
 quiet:Quiet n0 H H'
 keep:∀ i,ED i av=true→H'.get i=H.get i
section
variable {P:Program} {tt:TT} {tabs:List (List Value)}
end
end Go.Sp
namespace Go.Sp

theorem Quiet.dead {n0:Nat} {H:Aa} {id:Nat} {xs:List Value} {spent:Bool} {anc:List Nat} (h1:H.get id = .cells xs false spent anc):Quiet n0 H (H.set id .dead):=fun H0 R0 w0 R w hs0 _ hp=>by
 have hs:=hp.sim
 have hget:∀ i,(H.set id .dead).get i=if id=i then .dead else H.get i:=fun i=>Aa.get_set _ _ _ _
 have hwr:∀ i,(H.get i).writable=false→((H.set id .dead).get i).writable=false:=fun i h=>by
  rw[hget];split
  ·rfl
  ·exact h
 refine ⟨R, R.le_refl, rfl, hp.le, hp.new, ⟨fun i c β h => by rw [Aa.next_set]; exact hs.dom i c β h, fun i c β h => ?_, fun i c β i' β' h h' hne hw => ?_, fun i a ha => ?_, fun i hi => ?_, fun c C h => ⟨(hs.ro c C h).1, fun i β h' => hwr i ((hs.ro c C h).2 i β h')⟩⟩,
  by rw[Aa.next_set];exact hp.next,hp.grow,hp.frame,fun i hi hr Q c β ob h=>?_,fun i hi h=>?_,hp.fresh,hp.side,hp.rofresh⟩
 ·rw[hget];split
  ·trivial
  ·exact hs.obj i c β h
 ·rw[hget] at hw
  split at hw
  ·cases hw
  ·rename_i he
   rw[hget i']
   split
   ·exact .inl rfl
   ·rw [hget i, if_neg he]; exact hs.sep i c β i' β' h h' hne hw
 ·rw[hget] at ha
  split at ha
  ·cases ha
  ·obtain⟨h1,h2,h3⟩:=hs.anc i a ha
   refine⟨by rw[Aa.next_set];exact h1,?_,hwr a h3⟩
   rw[hget];split
   ·rfl
   ·exact h2
 ·rw[Aa.next_set] at hi
  rw[hget];split
  ·rfl
  ·exact hs.wf i hi
 ·rw[hget];split
  ·trivial
  ·exact hp.calm i hi hr Q c β ob h
 ·rw[hget];split
  ·rename_i he
   subst he
   have:=hp.imm id hi h
   rw[h1] at this
   rw[←this] at h;cases h
  ·exact hp.imm i hi h
theorem Quiet.push {n0:Nat} {H:Aa} {o:AJ} (h:o.ancOf=[]):Quiet n0 H (H.push o):=fun H0 R0 w0 R w _ _ hp=>⟨R,R.le_refl,rfl,hp.absPush h⟩

theorem FU.frzP {n0 m:Nat} {H:Aa} {id off:Nat} {xs:List Value} {anc:List Nat} (hn:Nat.ble n0 m=true) (hm:Nat.ble m id=true) (h1:H.get id = .cells xs false false anc) (hne:Nat.ble 1 (len xs)=true) (hc:Au Ah xs=true) :
 FU n0 H (.pointer (some ⟨id,off,none⟩)) (H.set id .dead) (Cv off xs):=fun H0 R0 w0 R w u hs hn0 hp hv=>by
 obtain⟨c,β,hid,rfl⟩:=hv.ptr_l
 have hne:1≤xs.length:=by have:=Nat.le_of_ble_eq_true hne;rwa [AV] at this
 obtain⟨C,t,fz,k1,k2,k3,k4⟩:=hp.sim.cells (o:=⟨xs,false,false,anc⟩) hid (by rw[h1];rfl)
 have hfz:Cq m false (.slice (some ⟨id,0,some 1⟩) xs.length (2*xs.length)) H=some (FP 1 xs.length 0 xs,H.set id .dead):=by
  unfold Cq
  show oo (Bv (H.get id)) none _=_
  rw[h1]
  have ht:Aq (xs.length*1) (Am 0 xs)=xs:=by rw[Cg,Bz,List.drop_zero,List.take_of_length_le (by omega)]
  show bb (an (Nat.ble m id) (an true (an true (an (Nat.ble (0+xs.length*1) (len xs)) (Au Ah (Aq (xs.length*1) (Am 0 xs))))))) (some (FP 1 xs.length 0 (Aq (xs.length*1) (Am 0 xs)),_)) none=_
  rw[ht,hm,hc,AV,Nat.ble_eq_true_of_le (by omega)]
  rfl
 obtain ⟨R', q1, q0, q2, q3⟩ := Gg (u := .slice (some ⟨c, β + 0, none⟩) xs.length xs.length) hfz hs (Nat.le_trans hn0 (Nat.le_of_ble_eq_true hn)) hp (.sl hid (by omega) (by omega) (fun h => by omega) (by
  have k2:C.size=R.sz c:=k2
  have k3:β+xs.length≤C.size:=k3
  omega))
 refine⟨R',q1,q0,q2,?_⟩
 rcases q3.fs_l (f:=⟨1,xs.length,0,xs⟩) rfl with⟨e,_⟩ | ⟨_,e,_⟩ | ⟨c',o',cap,C',hro,he,hl,_,_,_,hfit,hcr,hcl⟩
 ·have e:xs.length=0:=e;omega
 ·have e:xs.length=0:=e;omega
 ·injection he with he1 he2 he3
  injection he1 with he1
  injection he1 with e1 e2 e3
  subst e1
  have e2:β=o':=by omega
  subst e2
  exact .mkFp hro hfit hcr hcl

noncomputable def iZ (v:Value):Bool:=vv v (fun _=>false) (fun _ _=>false) (fun _=>false) (fun a=>nt (isS a)) (fun _ _ _=>false) (fun _=>false) (fun _ _ _=>false) false (fun _ _=>false) false (fun _=>false) (fun _=>false) false
theorem jA {v:Value} (h:iZ v=true):v = .pointer none:=by
 cases v <;> simp only[iZ,vv] at h <;> try (cases h;done)
 rename_i a;cases a with
 | none=>rfl
 | some a=>cases h
section
variable {n0:Nat}
theorem E9.frzP (m t id off:Nat) (xs:List Value) (c:Bool) {F F':Fr} {H H':Aa} {anc:List Nat} (hcl:Au Ah xs=c) (hc:c=true) (r:E9 n0 (F.put (some t) (Cv off xs)) (H.set id .dead) F' H')
 (hv:F.get t = .pointer (some ⟨id,off,none⟩):=by kernel_rfl) (hn:Nat.ble n0 m=true:=by kernel_rfl) (hm:Nat.ble m id=true:=by kernel_rfl) (h1:H.get id = .cells xs false false anc:=by kernel_rfl) (hne:Nat.ble 1 (len xs)=true:=by kernel_rfl):E9 n0 F H F' H':=
 .step (.tell (by rw[hv];exact .frzP hn hm h1 hne (hcl.trans hc))) r
end
end Go.Sp
namespace Go.Sp

def bN (a:Nat) (v:Value):Prop:=∀ (R:Ren) (u:Value),VR R v u→∃ p,R.f a=some p
theorem QR {a off:Nat}:bN a (.pointer (some ⟨a,off,none⟩)):=fun R u h=>by
 obtain⟨c,β,h1,_⟩:=h.ptr_l
 exact⟨_,h1⟩
theorem zL.move {n0:Nat} {F:Fr} {H:Aa} {t a j b off sz n c2:Nat} {xs ys:List Value} {spA:Bool} {ancA ancB:List Nat} (hl:bN a (F.get t)) (ha:H.get a = .cells xs false spA ancA) (hj:xs[j]?=some (.slice (some ⟨b,off,some sz⟩) n c2))
 (hb:H.get b = .cells ys false false ancB) (hab:a≠b) :
 zL n0 F H (((H.push (.cells ys false false ancB)).set b .dead).set a (.cells (xs.set j (.slice (some ⟨H.next,off,some sz⟩) n c2)) false spA ancA)):=fun H0 R0 w0 R w hs0 _ hp ht=>by
 have hs:=hp.sim
 obtain⟨u0,hu0⟩:=ht t
 obtain⟨⟨ca,βa⟩,hfa⟩:=hl R u0 hu0
 have hbn:b < H.next:=hs.wf.lt (by rw[hb];exact fun h=>by cases h)
 have han:a < H.next:=hs.wf.lt (by rw[ha];exact fun h=>by cases h)
 generalize hH':((H.push (.cells ys false false ancB)).set b .dead).set a (.cells (xs.set j (.slice (some ⟨H.next,off,some sz⟩) n c2)) false spA ancA)=H'
 have hnext:H'.next=H.next+1:=by rw[←hH',Aa.next_set,Aa.next_set,Aa.next_push]
 have gA:H'.get a = .cells (xs.set j (.slice (some ⟨H.next,off,some sz⟩) n c2)) false spA ancA:=by rw[←hH',Aa.get_set,if_pos rfl]
 have gB:H'.get b = .dead:=by rw[←hH',Aa.get_set,if_neg hab,Aa.get_set,if_pos rfl]
 have gN:H'.get H.next = .cells ys false false ancB:=by rw[←hH',Aa.get_set,if_neg (by omega),Aa.get_set,if_neg (by omega),Aa.get_push,if_pos rfl]
 have gO:∀ i,i≠a→i≠b→i≠H.next→H'.get i=H.get i:=fun i h1 h2 h3=>by
  rw[←hH',Aa.get_set,if_neg (Ne.symm h1),Aa.get_set,if_neg (Ne.symm h2),Aa.get_push,if_neg (Ne.symm h3)]
 have himm:∀ i,i≠b→i≠H.next→(H'.get i).immB=(H.get i).immB:=fun i h2 h3=>by
  by_cases h1:i=a
  ·subst h1;rw[gA,ha];rfl
  ·rw[gO i h1 h2 h3]
 have hwr:∀ i,i≠b→i≠H.next→(H'.get i).writable=(H.get i).writable:=fun i h2 h3=>by
  by_cases h1:i=a
  ·subst h1;rw[gA,ha];rfl
  ·rw[gO i h1 h2 h3]
 have hanc:∀ i,i≠b→i≠H.next→(H'.get i).ancOf=(H.get i).ancOf:=fun i h2 h3=>by
  by_cases h1:i=a
  ·subst h1;rw[gA,ha];rfl
  ·rw[gO i h1 h2 h3]
 have hsize:∀ i,i≠b→i≠H.next→(H'.get i).size=(H.get i).size:=fun i h2 h3=>by
  by_cases h1:i=a
  ·subst h1;rw[gA,ha];simp[AJ.size]
  ·rw[gO i h1 h2 h3]
 have bw:(H.get b).writable=true:=by rw[hb];rfl
 have b0:∀ x,H0.get b=x→x.immB=true→b < H0.next→False:=fun x hx hi hlt=>by
  have:=hp.imm b hlt (by rw[hx];exact hi)
  rw[hb,hx] at this
  subst this;cases hi
 have a0:∀ x,H0.get a=x→x.immB=true→a < H0.next→False:=fun x hx hi hlt=>by
  have:=hp.imm a hlt (by rw[hx];exact hi)
  rw[ha,hx] at this
  subst this;cases hi
 let R':Ren:=⟨fun i=>if i=H.next then R.f b else R.f i,R.sz,R.ro⟩
 have fN:R'.f H.next=R.f b:=by show (if H.next=H.next then R.f b else R.f H.next)=_;rw[if_pos rfl]
 have fO:∀ i,i≠H.next→R'.f i=R.f i:=fun i h=>by show (if i=H.next then R.f b else R.f i)=_;rw[if_neg h]
 have hle:R.le R':=⟨fun i c β h=>⟨by rw[fO i (fun e=>by have:=(hs.dom i c β h).1;omega)];exact h,rfl⟩,fun _ _ h=>h⟩
 -- what stands behind a number of the new heap
 have wO:∀ i c β,R'.f i=some (c,β)→i≠b→∃ k,R.f k=some (c,β)∧(k=i∧i≠H.next∨k=b∧i=H.next)∧(H'.get i).writable=(H.get k).writable∧(H'.get i).ancOf=(H.get k).ancOf∧(H'.get i).size=(H.get k).size:=fun i c β h hib=>by
  by_cases hi:i=H.next
  ·subst hi
   rw[fN] at h
   exact⟨b,h,.inr ⟨rfl,rfl⟩,by rw[gN,hb],by rw[gN,hb],by rw[gN,hb]⟩
  ·rw[fO i hi] at h
   exact⟨i,h,.inl ⟨rfl,hi⟩,hwr i hib hi,hanc i hib hi,hsize i hib hi⟩
 have nb:∀ i x,x∈(H.get i).ancOf→x≠b:=fun i x hx e=>by
  have:=(hs.anc i x hx).2.2
  rw[e,bw] at this;cases this
 refine ⟨R', hle, Ren.le_trans hp.le hle, fun i p h => ?_, ⟨fun i c β h => ?_, fun i c β h => ?_, fun i c β i' β' h h' hne hw => ?_, fun i x hx => ?_, fun i hi => ?_, fun c C h => ⟨(hs.ro c C h).1, fun i β h' => ?_⟩⟩, ?_, hp.grow, hp.frame, fun i hi hr Q c β ob h => ?_, fun i hi h => ?_, fun i c β h h0 => ?_, hp.side, hp.rofresh⟩
 ·by_cases hi:i=H.next
  ·subst hi
   right
   refine⟨?_,hp.next⟩
   cases h0:R0.f H.next with
   | none=>rfl
   | some q=>have:=(hs0.dom H.next q.1 q.2 h0).1;have:=hp.next;omega
  ·rw[fO i hi] at h;exact hp.new i p h
 ·rw[hnext]
  by_cases hi:i=H.next
  ·subst hi
   rw[fN] at h
   exact⟨by omega,(hs.dom b c β h).2⟩
  ·rw[fO i hi] at h
   have:=hs.dom i c β h
   exact⟨by omega,this.2⟩
 ·by_cases hi:i=H.next
  ·subst hi
   rw[fN] at h
   have:=hs.obj b c β h
   rw[hb] at this
   rw[gN]
   exact this.mono hle rfl
  ·rw[fO i hi] at h
   have ho:=hs.obj i c β h
   by_cases h1:i=a
   ·subst h1
    rw[ha] at ho
    obtain⟨C,t,fz,k1,k2,k3,k4,k5⟩:=ho
    rw[gA]
    refine⟨C,t,fz,k1,k2,by simpa using k3,fun q x hx=>?_,k5⟩
    rw[List.getElem?_set] at hx
    split at hx
    ·rename_i hq
     split at hx
     ·injection hx with hx;subst hx
      obtain⟨y,y1,y2⟩:=k4 j _ hj
      rw[←hq]
      refine⟨y,y1,?_⟩
      cases y2 with
      | sl e1 e2 e3 e4 e5=>exact .sl (by rw[fN];exact e1) e2 e3 e4 e5
      | slE e1=>exact .slE e1
      | slN e1=>exact .slN e1
     ·cases hx
    ·obtain⟨y,y1,y2⟩:=k4 q x hx
     exact⟨y,y1,y2.mono hle⟩
   ·by_cases h2:i=b
    ·subst h2;rw[gB];trivial
    ·rw[gO i h1 h2 hi];exact ho.mono hle rfl
 ·by_cases hib:i'=b
  ·left;rw[hib];exact gB
  ·by_cases hb2:i=b
   ·rw[hb2,gB] at hw;cases hw
   ·obtain⟨k,k1,k2,k3,k4,k5⟩:=wO i c β h hb2
    obtain ⟨k', l1, l2, l3, l4, l5⟩ := wO i' c β' h' hib
    rw[k3] at hw
    have hkk:k≠k':=by
     rcases k2 with⟨rfl,_⟩ | ⟨rfl,rfl⟩ <;> rcases l2 with⟨rfl,_⟩ | ⟨rfl,rfl⟩
     ·exact hne
     ·exact hb2
     ·exact fun e=>hib e.symm
     ·exact absurd rfl hne
    rcases hs.sep k c β k' β' k1 l1 hkk hw with h9 | ⟨h9, h8⟩
    ·left
     rcases l2 with⟨rfl,h7⟩ | ⟨rfl,rfl⟩
     ·rw[gO k' (fun e=>by rw[e,ha] at h9;cases h9) hib h7];exact h9
     ·rw[hb] at h9;cases h9
    ·right
     have:=nb k k' h9
     rcases l2 with⟨rfl,h7⟩ | ⟨rfl,rfl⟩
     ·rw[k4,k5,l5];exact⟨h9,h8⟩
     ·exact absurd rfl this
 ·have key : ∀ k, x ∈ (H.get k).ancOf → x < H'.next ∧ (H'.get x).immB = false ∧ (H'.get x).writable = false := fun k hx => by
   have h3:=nb k x hx
   obtain⟨e1,e2,e3⟩:=hs.anc k x hx
   rw[hnext,himm x h3 (by omega),hwr x h3 (by omega)]
   exact⟨by omega,e2,e3⟩
  by_cases hib:i=b
  ·rw[hib,gB] at hx;cases hx
  ·by_cases hi:i=H.next
   ·rw[hi,gN] at hx
    exact key b (by rw[hb];exact hx)
   ·rw[hanc i hib hi] at hx;exact key i hx
 ·rw[hnext] at hi
  rw[gO i (by omega) (by omega) (by omega)]
  exact hs.wf i (by omega)
 ·by_cases hib:i=b
  ·rw[hib,gB];rfl
  ·obtain⟨k,k1,_,k3,_⟩:=wO i c β h' hib
   rw[k3];exact(hs.ro c C h).2 k β k1
 ·rw[hnext];have:=hp.next;omega
 ·by_cases h2:i=b
  ·rw[h2,gB];trivial
  ·by_cases h1:i=a
   ·subst h1
    rcases hp.new i _ hfa with h9 | ⟨_,h9⟩
    ·rw[hr] at h9;cases h9
    ·omega
   ·rw[gO i h1 h2 (by have:=hp.next;omega)];exact hp.calm i hi hr Q c β ob h
 ·by_cases h2:i=b
  ·subst h2;exact(b0 _ rfl h hi).elim
  ·by_cases h1:i=a
   ·subst h1;exact(a0 _ rfl h hi).elim
   ·rw[gO i h1 h2 (by have:=hp.next;omega)];exact hp.imm i hi h
 ·by_cases hi:i=H.next
  ·subst hi
   rw[fN] at h
   cases h1:R0.f b with
   | none=>exact hp.fresh b c β h h1
   | some q =>
    right
    have:=(hp.le.1 b q.1 q.2 h1).1
    rw[h] at this
    injection this with this
    refine⟨b,β,by rw[h1,this],?_⟩
    cases h4:(H0.get b).immB with
    | false=>rfl
    | true=>exact(b0 _ rfl h4 (hs0.dom b q.1 q.2 h1).1).elim
  ·rw[fO i hi] at h;exact hp.fresh i c β h h0

theorem E9.mv {n0:Nat} (t a j b off sz n c2:Nat) (xs ys:List Value) {F F':Fr} {H H':Aa} {spA:Bool} {ancA ancB:List Nat} {v:Value} (hv:F.get t=v) (hl:bN a v)
 (r:E9 n0 F (((H.push (.cells ys false false ancB)).set b .dead).set a (.cells (xs.set j (.slice (some ⟨H.next,off,some sz⟩) n c2)) false spA ancA)) F' H') (ha:H.get a = .cells xs false spA ancA:=by kernel_rfl)
 (hj:AL xs j=some (.slice (some ⟨b,off,some sz⟩) n c2):=by kernel_rfl) (hb:H.get b = .cells ys false false ancB:=by kernel_rfl) (hab:Nat.beq a b=false:=by kernel_rfl):E9 n0 F H F' H':=
 .step (.upd (.move (t:=t) (by rw[hv];exact hl) ha (by rw[←BZ];exact hj) hb (fun e=>by rw[e] at hab;have:Nat.beq b b=true:=Nat.beq_refl b;rw[this] at hab;cases hab))) r
end Go.Sp
namespace Go.Sp
theorem E9.gst {n0:Nat} {F F':Fr} {H H':Aa} (h:E9 n0 F H F' H'):zC n0 F H F' H':=by
 induction h with
 | id=>exact .id _ _
 | step h _ ih=>exact .step h ih
theorem PG.room {id sz n c2:Nat}:PG (.slice (some ⟨id,0,some sz⟩) n c2) (.slice (some ⟨id,0,some sz⟩) n (2*n)):=fun R u h=>by
 cases h with
 | sl h h1 h2 h3 h4=>exact .sl h (by omega) (by omega) (fun ho=>by omega) h4
 | slE h=>exact .slE (by omega)
 | slN h=>exact .slN (by omega)
theorem Ba.cut {H0 H:Aa} {R0 R:Ren} {w0 w:World} (hp:Ba H0 R0 w0 H R w) {id:Nat} {xs:List Value} (k:Nat) (hg:H.get id = .cells xs false false []):Ba H0 R0 w0 (H.set id (.cells (xs.take k) false false [])) R w:=by
 have key:∀ (Q:Ren) (c β:Nat) (ob:Option Obj),FH Q (.cells xs false false []) c β ob→FH Q (.cells (xs.take k) false false []) c β ob:=fun Q c β ob h=>by
  obtain⟨C,t,fz,k1,k2,k3,k4,k5⟩:=h
  refine⟨C,t,fz,k1,k2,?_,fun i x hx=>k4 i x ?_,k5⟩
  ·have:(xs.take k).length≤xs.length:=by simp;omega
   omega
  ·rw[List.getElem?_take] at hx
   split at hx
   ·exact hx
   ·cases hx
 refine hp.recell hg (fun c β h=>?_) (fun i y hy=>.inl ?_) (.inr (.inr key))
 ·have ho:=hp.sim.obj id c β h
  rw[hg] at ho
  obtain⟨C,t,fz,k1,k2,k3,k4,k5⟩:=ho
  have:(xs.take k).length≤xs.length:=by simp;omega
  omega
 ·rw[List.getElem?_take] at hy
  split at hy
  ·exact hy
  ·cases hy
theorem zL.cut {n0:Nat} {F:Fr} {H:Aa} {id:Nat} {xs ys:List Value} (k:Nat) (hg:H.get id = .cells xs false false []) (hy:Aq k xs=ys):zL n0 F H (H.set id (.cells ys false false [])):=fun H0 R0 w0 R w _ _ hp _=>by
 rw[Cg] at hy;subst hy
 exact⟨R,R.le_refl,hp.cut k hg⟩
theorem E9.cut {n0:Nat} (id k:Nat) (xs ys:List Value) {F F':Fr} {H H':Aa} (hy:Aq k xs=ys) (r:E9 n0 F (H.set id (.cells ys false false [])) F' H') (hg:H.get id = .cells xs false false []:=by kernel_rfl):E9 n0 F H F' H':=
 .step (.upd (.cut k hg hy)) r
theorem E9.room {n0:Nat} (t id sz n c2:Nat) {F F':Fr} {H H':Aa} (r:E9 n0 (F.put (some t) (.slice (some ⟨id,0,some sz⟩) n (2*n))) H F' H') (hv:F.get t = .slice (some ⟨id,0,some sz⟩) n c2:=by kernel_rfl):E9 n0 F H F' H':=
 .step (.weak (by rw[hv];exact .room)) r
theorem BN.room {tt:TT} {call:A8} {n0:Nat} {ord:List Nat} {ops:List Fs} {F:Fr} {H:Aa} {Q:Ex→Fr→Aa→Prop} (t id n c2:Nat) (xs:List Value) (hl:Nat.ble (n*1) (len xs)=true) (FE:Fr) (HE:Aa) (FR:Fr) (HR:Aa) (F':Fr) (H':Aa)
 (eE:BD tt call ops (F.put (some t) (.slice (some ⟨id,0,some 1⟩) n (2*n+1))) H=some (FE,HE)) (gE:E9 n0 FE HE F' H')
 (eR:BD tt call ops (F.put (some t) (.slice (some ⟨id,0,some 1⟩) n (2*(n+1)))) (H.set id (.cells (Br (Aq (n*1) xs) [EP]) false false []))=some (FR,HR)) (gR:E9 n0 FR HR F' H') (h:Q .normal F' H')
 (ht:F.get t = .slice (some ⟨id,0,some 1⟩) n c2:=by kernel_rfl) (hg:H.get id = .cells xs false false []:=by kernel_rfl):BN tt call n0 (.reg ord ops) F H Q:=by
 have hn:=Nat.le_of_ble_eq_true hl
 rw[AV] at hn
 refine .rm (ys:=Br (Aq (n*1) xs) [EP]) ht hg ?_ ?_ (.post (.reg eE (Q:=fun e F1 H1=>e = .normal∧F1=FE∧H1=HE) ⟨rfl,rfl,rfl⟩) ?_) (.post (.reg eR (Q:=fun e F1 H1=>e = .normal∧F1=FR∧H1=HR) ⟨rfl,rfl,rfl⟩) ?_)
 ·rw[BH,Cg,List.length_append,List.length_take,Nat.min_eq_left hn];simp
 ·intro i y hy
  rw[BH,Cg,List.getElem?_append] at hy
  split at hy
  ·rw[List.getElem?_take] at hy
   split at hy
   ·exact .inl hy
   ·cases hy
  ·exact .inr (by
    have:=List.mem_of_getElem? hy
    simpa using this)
 ·rintro e F1 H1 ⟨rfl,rfl,rfl⟩
  exact⟨_,_,gE.gst,h⟩
 ·rintro e F1 H1 ⟨rfl,rfl,rfl⟩
  exact⟨_,_,gR.gst,h⟩
noncomputable def Uz (bytes n:Nat) (xs new:List Value):Bool:=an (EQ (n+1) bytes) (an (Nat.ble (n*1) (len xs)) (an (Nat.beq (len new) 1) (Au D6 new)))
theorem jC {H:Aa} {bytes id n:Nat} {xs new:List Value} (h:Uz bytes n xs new=true) :
 Oc 1 bytes n (2*n+1) 1 id xs new [] H=some (.slice (some ⟨H.next,0,some 1⟩) (n+1) (2*(n+1)+bb false 1 0),H.push (.cells (Br (Aq (n*1) xs) new) false false [])):=by
 obtain⟨h1,h2⟩:=Av h
 obtain⟨h2,h3⟩:=Av h2
 have e0:Nat.ble (n+1) ((2*n+1) / 2)=false:=by
  rw[show (2*n+1) / 2=n by omega]
  cases hb:Nat.ble (n+1) n with
  | false=>rfl
  | true=>have:=Nat.le_of_ble_eq_true hb;omega
 have e1:Nat.beq ((2*n+1) % 2) 1=true:=by rw[show (2*n+1) % 2=1 by omega];rfl
 have e2:Nat.ble (0+n*1) (len xs)=true:=by rw[Nat.zero_add];exact h2
 have e3:Am 0 xs=xs:=by rw[Bz];rfl
 unfold Oc
 rw[h1,e0,e1,e2,e3]
 rfl
theorem bP {a:List Value} {x y:Value} {i:Nat} (h:i=a.length):BM [x] i (Br a [y])=Br a [x]:=by
 subst h
 rw[BH,BH]
 apply List.ext_getElem?
 intro j
 rw[He _ _ _ (by simp)]
 by_cases h:j < a.length
 ·rw[if_neg (by omega),List.getElem?_append_left h,List.getElem?_append_left h]
 ·rw[List.getElem?_append_right (by omega)]
  by_cases h2:j=a.length
  ·subst h2;simp
  ·rw[if_neg (by simp;omega),List.getElem?_append_right (by omega),List.getElem?_eq_none (by simp;omega),List.getElem?_eq_none (by simp;omega)]
theorem jD {H : Aa} {bytes id n : Nat} {xs new : List Value} (h : Uz bytes n xs new = true) (hg : H.get id = .cells (Br (Aq (n * 1) xs) [EP]) false false [] := by kernel_rfl) :
 Oc 1 bytes n (2*(n+1)) 1 id (Br (Aq (n*1) xs) [EP]) new [] H=some (.slice (some ⟨id,0,some 1⟩) (n+1) (2*(n+1)+bb false 1 0),H.set id (.cells (Br (Aq (n*1) xs) new) false false [])):=by
 obtain⟨h1,h2⟩:=Av h
 obtain⟨h2,h3⟩:=Av h2
 obtain⟨h4,h5⟩:=Av h3
 have hn:=Nat.le_of_ble_eq_true h2
 rw[AV] at hn
 have h4:=Nat.eq_of_beq_eq_true h4
 rw[AV] at h4
 obtain⟨x,rfl⟩:∃ x,new=[x]:=by
  cases new with
  | nil=>cases h4
  | cons x r => cases r with
   | nil=>exact⟨x,rfl⟩
   | cons y r=>simp at h4
 have e0:Nat.ble (n+1) ((2*(n+1)) / 2)=true:=by
  rw[show (2*(n+1)) / 2=n+1 by omega]
  exact Nat.ble_eq_true_of_le (Nat.le_refl _)
 have hlen:(Br (Aq (n*1) xs) [EP]).length=n+1:=by
  rw[BH,Cg,List.length_append,List.length_take,Nat.min_eq_left hn];simp
 have e2:Nat.ble (0+n*1+len [x]) (len (Br (Aq (n*1) xs) [EP]))=true:=by
  rw[AV (Br _ _),hlen]
  exact Nat.ble_eq_true_of_le (by show 0+n*1+1≤n+1;omega)
 have e3:BM [x] (0+n*1) (Br (Aq (n*1) xs) [EP])=Br (Aq (n*1) xs) [x]:=bP (by rw[Cg,List.length_take,Nat.min_eq_left hn];omega)
 have ew:Ej H id (0+n*1) [x]=some (H.set id (.cells (Br (Aq (n*1) xs) [x]) false false [])):=by
  unfold Ej
  rw[hg]
  show bb (an true (an true (an (Nat.ble (0+n*1+len [x]) (len (Br (Aq (n*1) xs) [EP]))) (Au D6 [x])))) (some ((H.kill []).set id (.cells (BM [x] (0+n*1) (Br (Aq (n*1) xs) [EP])) false false []))) none=_
  rw[e2,h5,e3]
  rfl
 unfold Oc
 rw[h1,e0,ew]
 rfl
end Go.Sp
namespace Go.Sp
noncomputable section
def W9 (tabs:List (List Value)) (sz:Nat) (f:List Value→Option Value) (args:List Value) (H:Aa):Option (Value×Aa):=
 bb (IZ H tabs 0) (oo (CG (RG H) args) none fun as=>oo (f as) none fun v=>oo (Bj sz v) none fun s=>
  bb (Au RH s.cs) (some (.slice (some ⟨H.next,0,some sz⟩) s.n (2*s.n+bb false 1 0),H.push (.cells s.cs false false []))) none) none
end
theorem bQ {P:Program} {tabs:List (List Value)} (hne:∀ t∈tabs,t=t) (hpl:∀ t∈tabs,∀ x∈t,BR x=true) {g sz:Nat} {f:List Value→Option Value} (hok:FN P tabs g sz f) {args:List Value} {H H':Aa} {v:Value} (h:W9 tabs sz f args H=some (v,H')) :
 (∀ (as:Array Value) (w:World),(callFunc g as).run P w = .ok (.enter g as) w) ∧
 ∀ R w args',Ck H R w→JH (List.range tabs.length) R→Cf R args args'→Calls P g ⟨args'⟩ w fun e w'=>∃ u R',e = .returned u∧VR R' v u∧Ba H R w H' R' w':=by
 refine⟨hok.1,fun R w args' hs hgl ha=>?_⟩
 obtain⟨htab,h1⟩:=Ae h
 obtain⟨as,has,h1⟩:=Ab h1
 obtain⟨v',hv',h1⟩:=Ab h1
 obtain⟨s,hsl,h1⟩:=Ab h1
 obtain⟨hpt,h1⟩:=Ae h1
 rw[Bh,List.all_eq_true] at hpt
 injection h1 with h1;injection h1 with e1 e2;subst e1;subst e2
 have hs0:=KE hs hgl htab (Hq w) (TF w) (N8 hs) hne hpl
 have hcl:∀ x∈as,closed2 x=true:=fun x hx=>by
  obtain⟨i,hi⟩:=List.mem_iff_getElem?.1 hx
  obtain⟨m1,m2⟩:=Di has
  have hlt:i < args.length:=by rw[←m1];exact(List.getElem?_eq_some_iff.1 hi).1
  obtain⟨b,hb,hf⟩:=m2 i _ (List.getElem?_eq_getElem hlt)
  rw[hi] at hb;injection hb with hb;subst hb
  have hlt2:i < args'.length:=by rw[←ha.1];exact hlt
  exact(Qg (R':=⟨R.f,R.sz,Hq w⟩) hs rfl (ha.2 i _ _ (List.getElem?_eq_getElem hlt) (List.getElem?_eq_getElem hlt2)) hf).2
 refine(hok.2 as v' hv' hcl _ w args' rfl hs0 (Im (fun v u v' hv h=>(Qg hs rfl hv h).1) has ha)).mono fun e w' ⟨u,H1,R1,id,off,c2,anc,xs,s',he,hu,hp,g1,g2,g3,g4,g5,g6⟩=>?_
 have hss:s'=s:=by
  rw[Qh hsl] at g6
  injection g6 with q1 q2
  injection q2 with q2
  injection q2 with q2
  injection q2 with q3 q4
  injection q3 with _ q5 q6
  cases s;cases s'
  simp only at q4 q5 q6
  subst q4;subst q5;subst q6;rfl
 subst hss
 have hpp:Ba H R w H R w':=LG hs rfl hp rfl rfl (fun c C h=>h) fun c C h=>.inl h
 have hpa:=hpp.absPush (obj:=.cells s'.cs false false []) rfl
 have hnone:R.f H.next=none:=hs.none_of_next
 have empty:s'.n=0→(∃ c o,u = .slice (some ⟨c,o,none⟩) 0 0)∨u = .slice none 0 0→∃ u' R',e = .returned u'∧VR R' (.slice (some ⟨H.next,0,some sz⟩) s'.n (2*s'.n+bb false 1 0)) u'∧Ba H R w (H.push (.cells s'.cs false false [])) R' w':=fun h0 hcase=>by
  refine⟨u,_,he,?_,hpa⟩
  rw[h0]
  rcases hcase with⟨c,o,rfl⟩ | rfl
  ·exact .slE rfl
  ·exact .slN rfl
 have hvs:IA (.slice (some ⟨id,off,some sz⟩) s'.n c2)=some ⟨id,off,sz,s'.n,c2⟩:=rfl
 rcases hu.sl_l hvs with⟨c,β,cap,hid,hu',k1,k2,k3,k4⟩ | ⟨c,o2,hu',k0,k00⟩ | ⟨hu',k0,k00⟩
 ·have hidn:(fun i=>if i < tabs.length then some (i,0) else none:Nat→Option (Nat×Nat)) id=none:=by simp;omega
  have hcf:w.heap.size≤c:=by
   rcases hp.fresh id c β hid hidn with h3 | ⟨id0,β0,h3,h4⟩
   ·exact h3
   ·have:=FV (Jr (show (if id0 < tabs.length then some (id0,0) else none)=some (c,β0) from h3)).1
    rw[this] at h4;cases h4
  have hcd:=(hp.sim.dom id c β hid).2
  have hob:=hp.sim.obj id c β hid
  rw[g2] at hob
  obtain⟨C,t,fz,m1,m2,m3,m4,m5⟩:=hob
  have hroc:R.ro c=none:=by
   cases hr:R.ro c with
   | none=>rfl
   | some D =>
    obtain⟨⟨t,fz,h3⟩,_⟩:=hs.ro c D hr
    have:=(Array.getElem?_eq_some_iff.1 h3).1
    omega
  obtain ⟨hle2, hpost⟩ := hpa.adopt (k := H.next) (c := c) (β := β + off) (n := R1.sz c) (by simp) (Nat.le_refl _) hnone hcf hcd (fun id' β' h' => by have := (hs.dom id' c β' h').2; omega) hroc (fun Q hQ _ hQs => by
   rw[Aa.get_push,if_pos rfl]
   refine⟨C,t,fz,m1,by rw[hQs];exact m2,by rw[g4];simp;omega,fun i x hx=>?_,m5⟩
   have hxm:x∈s'.cs:=List.mem_of_getElem? hx
   rw[g4,List.getElem?_take] at hx
   split at hx
   ·rw[List.getElem?_drop] at hx
    obtain⟨y,n1,n2⟩:=m4 (off+i) x hx
    exact⟨y,by rw[←n1];congr 1;omega,VE n2 (hpt x hxm)⟩
   ·cases hx)
  refine⟨u,_,he,?_,hpost⟩
  have k1:s'.n≤c2 / 2:=k1
  have k2:c2 / 2≤cap:=k2
  have e9:(2*s'.n+bb false 1 0) / 2=s'.n:=by show (2*s'.n+0) / 2=_;omega
  have:VR (R.ext H.next c (β+off) (R1.sz c)) (.slice (some ⟨H.next,0,some sz⟩) s'.n (2*s'.n+bb false 1 0)) (.slice (some ⟨c,(β+off)+0,none⟩) s'.n cap):=
   .sl (Ren.ext_new _ _ _ _ _) (by rw[e9];exact Nat.le_refl _) (by rw[e9];omega) (fun h9=>by exfalso;have h9:(2*s'.n+0) % 2=1:=h9;omega) (by rw[Ren.ext_sz];exact k4)
  rw[hu']
  exact this
 ·exact empty k0 (.inl ⟨c,o2,hu'⟩)
 ·exact empty k0 (.inr hu')
theorem bR {tabs : List (List Value)} {sz : Nat} {f : List Value → Option Value} {args as : List Value} {H H2 : Aa} {s : Sl} {v : Value} (has : CG (RG H) args = some as) (hf : f as = some (s.v sz)) (hp : Au RH s.cs = true) (ht : IZ H tabs 0 = true := by kernel_rfl)
 (hH:H.push (.cells s.cs false false [])=H2:=by kernel_rfl) (hv:(.slice (some ⟨H.next,0,some sz⟩) s.n (2*s.n+bb false 1 0):Value)=v:=by kernel_rfl):W9 tabs sz f args H=some (v,H2):=by
 subst hH;subst hv
 unfold W9
 have:Bj sz (s.v sz)=some s:=by
  show bb (Nat.beq sz sz) (some s) none=some s
  rw[Nat.beq_refl];rfl
 rw[ht,has,Ak,Ac,hf,Ac,this,Ac,hp];rfl
noncomputable section
def frzP (tabs:List (List Value)) (sz:Nat) (f:List Value→Option Value) (args:List Value) (H:Aa):Option (Value×Aa):=
 oo (W9 tabs sz f args H) none fun p=>pp p fun v H1=>Cq H.next false v H1
end
theorem TW {P:Program} {tabs:List (List Value)} (hne:∀ t∈tabs,t=t) (hpl:∀ t∈tabs,∀ x∈t,BR x=true) {g sz:Nat} {f:List Value→Option Value} (hok:FN P tabs g sz f) {args:List Value} {H H':Aa} {v:Value} (h:frzP tabs sz f args H=some (v,H')) :
 (∀ (as:Array Value) (w:World),(callFunc g as).run P w = .ok (.enter g as) w) ∧
 ∀ R w args',Ck H R w→JH (List.range tabs.length) R→Cf R args args'→Calls P g ⟨args'⟩ w fun e w'=>∃ u R',e = .returned u∧VR R' v u∧Ba H R w H' R' w':=by
 refine⟨hok.1,fun R w args' hs hgl ha=>?_⟩
 unfold frzP at h
 obtain⟨p,hp,h⟩:=Ab h
 obtain⟨v1,H1⟩:=p
 replace h:Cq H.next false v1 H1=some (v,H'):=h
 refine((bQ hne hpl hok hp).2 R w args' hs hgl ha).mono fun e w' ⟨u,R1,he,hu,hpo⟩=>?_
 obtain⟨R2,_,_,k2,k3⟩:=Gg h hs (Nat.le_refl _) hpo hu
 exact⟨u,R2,he,k3,k2⟩
theorem Ov {tabs : List (List Value)} {sz : Nat} {f : List Value → Option Value} {args as : List Value} {H H2 : Aa} {s : Sl} {v : Value} (has : CG (RG H) args = some as) (hf : f as = some (s.v sz)) (hp : Au RH s.cs = true) (hc : an (Nat.ble (0 + s.n * sz) (len s.cs)) (Au Ah (Aq (s.n * sz) (Am 0 s.cs))) = true) (ht : IZ H tabs 0 = true := by kernel_rfl)
 (hH:(H.push (.cells s.cs false false [])).set H.next .dead=H2:=by kernel_rfl) (hv:FP sz s.n 0 (Aq (s.n*sz) (Am 0 s.cs))=v:=by kernel_rfl):frzP tabs sz f args H=some (v,H2):=by
 subst hH;subst hv
 unfold frzP
 rw[bR (H2:=H.push (.cells s.cs false false [])) (v:=.slice (some ⟨H.next,0,some sz⟩) s.n (2*s.n+bb false 1 0)) has hf hp ht rfl rfl]
 show Cq H.next false (.slice (some ⟨H.next,0,some sz⟩) s.n (2*s.n+bb false 1 0)) (H.push (.cells s.cs false false []))=_
 unfold Cq
 show oo (Bv ((H.push (.cells s.cs false false [])).get H.next)) none _=_
 rw[Aa.get_push,if_pos rfl]
 show bb (an (Nat.ble H.next H.next) (an true (an true (an (Nat.ble (0+s.n*sz) (len s.cs)) (Au Ah (Aq (s.n*sz) (Am 0 s.cs))))))) _ none=_
 rw[hc,Nat.ble_eq_true_of_le (Nat.le_refl _)]
 rfl
end Go.Sp
namespace Go.Sp
open Go.Sort

noncomputable section
def G5 (z:Int):Value:=.int .i64 z
def Jh (zs:List Int):List Int:=zs.mergeSort fun x y=>decide (x≤y)
def UA (zs:List Int):List Int:=Lib.compact zs
end

theorem Ba.growW {H H':Aa} {R R':Ren} {w w1 w2:World} (hp:Ba H R w H' R' w1) {os:Array Obj} (e:w2.heap=w1.heap++os) (e1:w2.os=w1.os) (e2:w2.output=w1.output):Ba H R w H' R' w2:=by
 have hget:∀ c,c < w1.heap.size→w2.heap[c]?=w1.heap[c]?:=fun c hc=>by rw[e,Array.getElem?_append_left hc]
 have hsz:w1.heap.size≤w2.heap.size:=by rw[e];simp
 have hs:=hp.sim
 refine ⟨hp.le, hp.new, ⟨fun id c β h => ⟨(hs.dom id c β h).1, Nat.lt_of_lt_of_le (hs.dom id c β h).2 hsz⟩, fun id c β h => by rw [hget c (hs.dom id c β h).2]; exact hs.obj id c β h, hs.sep, hs.anc, hs.wf, fun c C h => ?_⟩,
  hp.next,Nat.le_trans hp.grow hsz,fun c hc h=>by rw[hget c (Nat.lt_of_lt_of_le hc hp.grow)];exact hp.frame c hc h,hp.calm,hp.imm,hp.fresh,⟨e1.trans hp.side.1,e2.trans hp.side.2.1,fun a ha=>?_⟩,hp.rofresh⟩
 ·obtain⟨⟨t,fz,h1⟩,h2⟩:=hs.ro c C h
  exact⟨⟨t,fz,by rw[hget c (Array.getElem?_eq_some_iff.1 h1).1];exact h1⟩,h2⟩
 ·rw[←hp.side.2.2 a ha]
  unfold World.frozen?
  rw[hget a.block (Nat.lt_of_lt_of_le ha hp.grow)]

theorem MU (l:List Int):AP G5 l=l.map G5:=by
 induction l with
 | nil=>rfl
 | cons x l ih=>show G5 x::AP G5 l=_;rw[ih];rfl
theorem Gs (l:List Int):(AP G5 l).length=l.length:=by rw[MU];simp

theorem bS {H H':Aa} {R:Ren} {w:World} {id c β:Nat} {vals:List Int} (hs:Ck H R w) (hw:Ej H id 0 (AP G5 vals)=some H') (hid:R.f id=some (c,β)) (n:Nat) (os:Array Obj) :
 Ba H R w H' R (grow (putRow (Value.int .i64) (Go.Sort.ahead w n) c β vals.toArray) os):=by
 have hv:Cf R (AP G5 vals) (AP G5 vals):=JX fun x hx=>by
  rw[MU] at hx
  obtain⟨z,_,rfl⟩:=List.mem_map.1 hx
  rfl
 obtain⟨C,t,hC,hfit,_,hp⟩:=F8 hs hw hid hv
 refine hp.growW (os:=os) ?_ rfl rfl
 show (putRow (Value.int .i64) (Go.Sort.ahead w n) c β vals.toArray).heap++os=_
 congr 1
 apply Array.ext_getElem?
 intro k
 by_cases hk:c=k
 ·subst hk
  rw[setRow_heap w c C _ t (0,0) hC]
  show (Array.modify w.heap c (onCells (putCells (Value.int .i64) β vals.toArray)))[c]?=_
  rw[Array.getElem?_modify,if_pos rfl,hC]
  show some (Obj.cells _ _ _)=some (Obj.cells _ _ _)
  congr 2
  apply Array.ext_getElem?
  intro j
  rw[Gs] at hfit
  simp only[putCells,Array.getElem?_mapIdx,List.getElem?_toArray,MU,List.length_map,Nat.add_zero]
  by_cases h1:β≤j∧j < β+vals.length
  ·have hj:j < C.size:=by omega
   have hj2:j - β < vals.length:=by omega
   rw[Array.getElem?_eq_getElem hj,Option.map_some,if_pos (by simpa using h1)]
   rw[List.append_assoc,List.getElem?_append_right (by simp;omega),List.getElem?_append_left (by simp;omega)]
   simp only[List.length_take,Array.length_toList,List.getElem?_map]
   rw[show j - min β C.size=j - β by omega,List.getElem?_eq_getElem hj2]
   simp[G5,getElem!_pos,hj2]
  ·by_cases h2:j < β
   ·rw[List.append_assoc,List.getElem?_append_left (by simp;omega),List.getElem?_take_of_lt h2]
    simp only[Array.getElem?_toList]
    cases hcj:C[j]? with
    | none=>rfl
    | some y=>rw[Option.map_some,if_neg (by simpa using h1)]
   ·rw[List.getElem?_append_right (by simp;omega),List.getElem?_drop]
    simp only[Array.getElem?_toList]
    have:β+vals.length+(j - (List.take β C.toList++List.map G5 vals).length)=j:=by simp;omega
    rw[this]
    cases hcj:C[j]? with
    | none=>rfl
    | some y=>rw[Option.map_some,if_neg (by simpa using h1)]
 ·rw[setRow_other _ _ _ _ (fun h=>hk h.symm)]
  show (Array.modify w.heap c _)[k]?=_
  rw[Array.getElem?_modify,if_neg hk]

section
variable {P:Program} {g:FuncId}

end

theorem Wm {H:Aa} {id:Nat} {xs:List Value} {anc:List Nat} {vals:List Int} (hg:H.get id = .cells xs false false anc) (hl:vals.length=xs.length) :
 Ej H id 0 (AP G5 vals)=some ((H.kill anc).set id (.cells (AP G5 vals) false false [])):=by
 unfold Ej
 have h1:Nat.ble (0+len (AP G5 vals)) (len xs)=true:=by rw[AV,AV,Gs];exact Nat.ble_eq_true_of_le (by omega)
 have h2:Au D6 (AP G5 vals)=true:=by
  rw[Bh,List.all_eq_true,MU]
  intro x hx
  obtain⟨z,_,rfl⟩:=List.mem_map.1 hx
  rfl
 have h3:BM (AP G5 vals) 0 xs=AP G5 vals:=by
  show Br (AP G5 vals) (Am (len (AP G5 vals)) xs)=_
  rw[BH,Bz,AV,Gs,List.drop_of_length_le (by omega),List.append_nil]
 rw[hg]
 show bb (an (nt false) (an (nt false) (an (Nat.ble (0+len (AP G5 vals)) (len xs)) (Au D6 (AP G5 vals))))) (some ((H.kill anc).set id (.cells (BM (AP G5 vals) 0 xs) false false []))) none=_
 rw[h1,h2,h3];rfl

end Go.Sp
namespace Go.Sp
open Go
noncomputable section
end
end Go.Sp
namespace Go.BkQ
open Go Go.Sp
noncomputable section
def IV (z:Int):Value:=.int .i64 z
def AcV (rows cols t r c:Nat):Nat×Nat:=
 bb (Nat.beq t 1) (rows - 1 - c, r) (bb (Nat.beq t 2) (rows - 1 - r, cols - 1 - c) (bb (Nat.beq t 3) (c, cols - 1 - r) (bb (Nat.beq t 4) (r, cols - 1 - c)
  (bb (Nat.beq t 5) (rows - 1 - r,c) (bb (Nat.beq t 6) (c,r) (bb (Nat.beq t 7) (rows - 1 - c,cols - 1 - r) (r,c)))))))
def Jc (rows cols t i:Nat):Nat:=Nat.rec (motive:=fun _=>Nat) 0 (fun _ _=>pp (AcV rows cols t (i / cols) (i % cols)) fun r c=>r*cols+c) cols
def upN (n:Nat):List Nat:=Nat.rec (motive:=fun _=>List Nat) [] (fun k ih=>Br ih [k]) n
def cellL (rows cols t:Nat):List Nat:=AP (Jc rows cols t) (upN (rows*cols))
def M8 (l:List Nat):List Value:=AP (fun n=>IV (.ofNat n)) l
def KX (l:List Nat):Value:=FP 1 (len l) 0 (M8 l)
def triples:List (Nat×Nat×Nat):=[(1,1,0),(1,1,1),(1,1,2),(1,1,3),(1,1,4),(1,1,5),(1,1,6),(1,1,7),(1,2,0),(1,2,2),(1,2,4),(1,2,5),(1,3,0),(1,3,2),(1,3,4),(1,3,5),(1,4,0),(1,4,2),(1,4,4),(1,4,5),(2,1,0),(2,1,2),(2,1,4),(2,1,5),(2,2,0),(2,2,1),(2,2,2),(2,2,3),(2,2,4),(2,2,5),(2,2,6),(2,2,7),(2,3,0),(2,3,2),(2,3,4),(2,3,5),(2,4,0),(2,4,2),(2,4,4),(2,4,5),(3,1,0),(3,1,2),(3,1,4),(3,1,5),(3,2,0),(3,2,2),(3,2,4),(3,2,5),(3,3,0),(3,3,1),(3,3,2),(3,3,3),(3,3,4),(3,3,5),(3,3,6),(3,3,7),(3,4,0),(3,4,2),(3,4,4),(3,4,5),(4,1,0),(4,1,2),(4,1,4),(4,1,5),(4,2,0),(4,2,2),(4,2,4),(4,2,5),(4,3,0),(4,3,2),(4,3,4),(4,3,5),(4,4,0),(4,4,1),(4,4,2),(4,4,3),(4,4,4),(4,4,5),(4,4,6),(4,4,7)]
def Wn (l:List (Nat×Nat×Nat)) (r c t:Nat):Bool:=List.rec (motive:=fun _=>Bool) false (fun p _ ih=>Dp (an (Nat.beq p.1 r) (an (Nat.beq p.2.1 c) (Nat.beq p.2.2 t))) ih) l
def cellsM (args : List Value) : Option Value := ll args none fun a r => ll r none fun b r => ll r (oo (Bt a) none fun l => ll l none fun v1 l => ll l none fun v2 l => ll l none fun v3 l => ll l none fun v4 l => ll l
 (oo (Bi .i64 v1) none fun z1 => oo (EA z1) none fun rows => oo (Bi .i64 v2) none fun z2 => oo (EA z2) none fun cols => oo (Bi .i64 b) none fun z3 => oo (EA z3) none fun t =>
   bb (Wn triples rows cols t) (some (KX (cellL rows cols t))) none) fun _ _=>none) fun _ _=>none
def trueF (args:List Value):Option Value:=ll args (some (.bool true)) fun _ _=>none
end
theorem jE {a b:Bool} (h:Dp a b=true):a=true∨b=true:=by
 cases a with
 | true=>exact .inl rfl
 | false=>exact .inr h
theorem bT {l:List (Nat×Nat×Nat)} {r c t:Nat} (h:Wn l r c t=true):(r,c,t)∈l:=by
 induction l with
 | nil=>cases h
 | cons p l ih =>
  rcases jE (show Dp (an (Nat.beq p.1 r) (an (Nat.beq p.2.1 c) (Nat.beq p.2.2 t))) (Wn l r c t)=true from h) with h | h
  ·obtain⟨h1,h⟩:=Av h
   obtain⟨h2,h3⟩:=Av h
   obtain⟨p1,p2,p3⟩:=p
   have h1:p1=r:=Nat.eq_of_beq_eq_true h1
   have h2:p2=c:=Nat.eq_of_beq_eq_true h2
   have h3:p3=t:=Nat.eq_of_beq_eq_true h3
   subst h1;subst h2;subst h3
   exact List.mem_cons_self
  ·exact List.mem_cons_of_mem _ (ih h)
theorem Wo {args:List Value} {v:Value} (h:cellsM args=some v):∃ r c t v3 v4,args=[.agg ⟨[IV (.ofNat r),IV (.ofNat c),v3,v4]⟩,IV (.ofNat t)]∧(r,c,t)∈triples∧v=KX (cellL r c t):=by
 replace h:=Ad h;obtain⟨a,r1,rfl,h⟩:=h
 replace h:=Ad h;obtain⟨b,r2,rfl,h⟩:=h
 replace h:=AC h;obtain⟨rfl,h⟩:=h
 replace h:=Ab h;obtain⟨l,hl,h⟩:=h
 replace h:=Ad h;obtain⟨v1,l1,rfl,h⟩:=h
 replace h:=Ad h;obtain⟨v2,l2,rfl,h⟩:=h
 replace h:=Ad h;obtain⟨v3,l3,rfl,h⟩:=h
 replace h:=Ad h;obtain⟨v4,l4,rfl,h⟩:=h
 replace h:=AC h;obtain⟨rfl,h⟩:=h
 replace h:=Ab h;obtain⟨z1,h1,h⟩:=h
 replace h:=Ab h;obtain⟨r,h2,h⟩:=h
 replace h:=Ab h;obtain⟨z2,h3,h⟩:=h
 replace h:=Ab h;obtain⟨c,h4,h⟩:=h
 replace h:=Ab h;obtain⟨z3,h5,h⟩:=h
 replace h:=Ab h;obtain⟨t,h6,h⟩:=h
 replace h:=Ae h;obtain⟨hc,h⟩:=h
 injection h with h
 refine⟨r,c,t,v3,v4,?_,bT hc,h.symm⟩
 rw[BQ hl,Eh h1,Eh h3,Eh h5,AR h2,AR h4,AR h6];rfl
end Go.BkQ
