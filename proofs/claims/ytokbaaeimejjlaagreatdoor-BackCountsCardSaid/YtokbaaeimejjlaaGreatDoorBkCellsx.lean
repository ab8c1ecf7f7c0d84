/- Made from wip. -/
import Derived.Test.YtokbaaeimejjlaaGreatDoorSpObj3x
import Derived.Test.YtokbaaeimejjlaaGreatDoorSpClox
import Derived.Sort.Grow
import Derived.Lib.SlicesCompact

namespace Go.Sp

theorem Cz {α β:Type} {f:α→Option β} {a:α} {l:List α} {b:β} {r:List β} (h:f a=some b) (hr:CG f l=some r):CG f (a::l)=some (b::r):=by
 show oo (f a) none (fun b=>oo (CG f l) none fun r=>some (b::r))=_
 rw[h,Ac,hr,Ac]
theorem C8 {α β:Type} {f:α→Option β}:CG f ([]:List α)=some []:=rfl
theorem KT {H : Aa} {olds : List (Option Nat)} {id : Nat} {q : List Value} {anc : List Nat} (hc : Au Ah q = true) (hg : H.get id = .cells q false false anc := by kernel_rfl) (ha : Au (fun a => nt (isS (idxOf a olds 0))) anc = true := by kernel_rfl) :
 newObj H [] olds (false,some id)=some (.cells q false false []):=by
 show EE olds false false (H.get id)=_
 rw[hg]
 show bb (an (Au (fun a=>nt (isS (idxOf a olds 0))) anc) (Dp (nt false) _)) (bb false _ (bb (Dp false (Au Ah q)) _ none)) none=_
 rw[ha,hc];rfl
theorem JN {inv:List (Option Nat)} {q:List Value} (hc:Au Ah q=true):KM inv (false,.cells q false false [])=some (.cells q false false []):=by
 show bb (an true (Dp (nt false) (an (nt false) true))) (bb false (oo (CG (Ry inv) q) none fun xs'=>some (AJ.cells xs' false false [])) (bb (Dp false (Au Ah q)) (some (AJ.cells q false false [])) none)) none=_
 rw[hc];rfl
theorem Jb {o:AJ} {l:List Value} (hp:plainO o) (h:Bt (Ef o)=some l):o = .cells l false false []:=by
 rcases hp with rfl | ⟨xs,rfl⟩ | ⟨es,c,rfl⟩
 ·cases h
 ·injection h with h;subst h;rfl
 ·cases h
theorem FX {tabs : List (List Value)} {na : Nat} {rs : List Rt} {outs : List Bool} {f : List Value → Option Value} {args : List Value} {H H2 : Aa} {v v' : Value} (olds : List (Option Nat)) (ps : List (Bool × Option Nat)) (os : List AJ) (as es : List Value) (os' : List AJ) (inv : List (Option Nat)) (qs : List (Bool × AJ)) (ns : List AJ)
 (hr:Na (Fr.made (len args) args) H rs (DY (len tabs))=true) (hos:CG (newObj H [] olds) ps=some os) (hz:f (Br as (AP Ef os))=some (.tuple ⟨v::es⟩)) (hd:CG TP es=some os') (hn:CG (KM inv) qs=some ns)
 (hol:E8 (Fr.made (len args) args) H rs (DY (len tabs))=olds:=by kernel_rfl)
 (hc:an (KL H tabs 0) (an (NS olds olds 0) (an (Nat.beq (len olds) (len tabs+len rs)) (an (Nat.beq (len args) na) (Qn H (Am (len tabs) olds)))))=true:=by kernel_rfl)
 (hps:Gf (AP Rt.deep rs) (Am (len tabs) olds)=ps:=by kernel_rfl) (has:CG (Rz olds) args=some as:=by kernel_rfl)
 (hl:an (Nat.beq (len outs) (len os')) (Nat.ble (len rs) (len os'))=true:=by kernel_rfl) (hinv:Oj olds H.next (len os' - len rs)=inv:=by kernel_rfl) (hqs:Gf outs os'=qs:=by kernel_rfl)
 (hv:Rz inv v=some v':=by kernel_rfl) (hH:Ht (Am (len tabs) olds) ns (H.kill (I6 H (Am (len tabs) olds)))=H2:=by kernel_rfl):VO tabs na rs outs f args H=some (v',H2):=by
 unfold VO
 subst hps;subst hinv;subst hqs;subst hH
 dsimp only
 rw[hol,hc,Ak,hr,Ak,hos,Ac,has,Ac,hz,Ac]
 show oo (CG TP es) none (fun os'=>
  bb (an (Nat.beq (len outs) (len os')) (Nat.ble (len rs) (len os')))
   (oo (CG (KM (Oj olds H.next (len os' - len rs))) (Gf outs os')) none fun ns => oo (Rz (Oj olds H.next (len os' - len rs)) v) none fun v' =>
     some (v',Ht (Am (len tabs) olds) ns (H.kill (I6 H (Am (len tabs) olds))))) none)=_
 rw[hd,Ac,hl,Ak,hn,Ac,hv,Ac]

theorem dX {c2:Nat} {q:List Value} (h:Dp (Nat.ble 2 c2) (MQ q)=true) {b:Bool} (hb:b=true):an (Dp (Nat.ble 2 c2) (MQ q)) b=true:=by rw[h,hb];rfl
theorem FB {tt:TT} {T k:Nat} {rs:List ResultVar} {z:Value} {F:Fr} {H:Aa} (v:Value) (os:List AJ) (h:DV tt F H rs=some v) (hz:some (Value.tuple ⟨v::os.map Ef⟩)=some z) (hk:k≤os.length) (ho:∀ i o,os[i]?=some o→H.get (T+i)=o∧plainO o):FJ tt T k rs z .ret F H:=by
 injection hz with hz;exact⟨v,os,hz.symm,h,hk,ho⟩
theorem FC {H:Aa} {T:Nat}:∀ (i:Nat) (o:AJ),([]:List AJ)[i]?=some o→H.get (T+i)=o∧plainO o:=by intro i o h;simp at h
theorem Dr {H:Aa} {T:Nat} {a:AJ} {l:List AJ} (hp:plainO a) (hr:∀ (i:Nat) (o:AJ),l[i]?=some o→H.get (T+1+i)=o∧plainO o) (ha:H.get T=a:=by kernel_rfl):∀ (i:Nat) (o:AJ),(a::l)[i]?=some o→H.get (T+i)=o∧plainO o:=by
 intro i o h
 cases i with
 | zero=>simp at h;subst h;exact⟨ha,hp⟩
 | succ i=>have:=hr i o (by simpa using h);rwa [show T+(i+1)=T+1+i by omega]
theorem MM (xs:List Value):plainO (.cells xs false false []):=.inr (.inl ⟨_,rfl⟩)
noncomputable section
def zY (z:Int):Value:=.int .u8 z
def Gm (v:Value) (id off:Nat):Bool:=oo (FO v) false fun p=>pp p fun a b=>an (Nat.beq a id) (Nat.beq b off)
structure NC where
 n:Nat
 c:Nat
def Yv (id off sz:Nat) (v:Value):Option NC:=oo (IA v) none fun s=>ss s fun i o z n c=>bb (an (Nat.beq i id) (an (Nat.beq o off) (Nat.beq z sz))) (some ⟨n,c⟩) none
def SQ (g:FuncId) (nf:Nat) (v:Value):Option (List Value):=oo (GH v) none fun x=>FnV.rec (motive:=fun _=>Option (List Value)) (fun f a b=>bb (an (Nat.beq f g) (Nat.beq (len a) nf)) (some (Br a b)) none) x
def AaZ (v:Value):Bool:=DN v
end
theorem Eo {v:Value} {id off:Nat} (h:Gm v id off=true):v = .pointer (some ⟨id,off,none⟩):=by
 unfold Gm at h
 cases hp:FO v with
 | none=>rw[hp] at h;cases h
 | some p =>
  rw[hp,Ac] at h
  obtain⟨h1,h2⟩:=Av (show an (Nat.beq p.1 id) (Nat.beq p.2 off)=true from h)
  rw[Dg hp,Nat.eq_of_beq_eq_true h1,Nat.eq_of_beq_eq_true h2]
theorem PM {id off sz:Nat} {v:Value} {x:NC} (h:Yv id off sz v=some x):v = .slice (some ⟨id,off,some sz⟩) x.n x.c:=by
 unfold Yv at h
 obtain⟨s,hs,h⟩:=Ab h
 obtain⟨i,o,z,n,c⟩:=s
 obtain⟨hc,h⟩:=Ae (show bb (an (Nat.beq i id) (an (Nat.beq o off) (Nat.beq z sz))) (some (⟨n,c⟩:NC)) none=some x from h)
 injection h with h;subst h
 obtain⟨h1,hc⟩:=Av hc
 obtain⟨h2,h3⟩:=Av hc
 rw[Ko hs,Nat.eq_of_beq_eq_true h1,Nat.eq_of_beq_eq_true h2,Nat.eq_of_beq_eq_true h3]
theorem JO {g:FuncId} {nf:Nat} {v:Value} {l:List Value} (h:SQ g nf v=some l):v = .func (.func g) ⟨Aq nf l⟩ ⟨Am nf l⟩:=by
 unfold SQ at h
 obtain⟨y,hy,h⟩:=Ab h
 obtain⟨f,a,b⟩:=y
 obtain⟨hc,h⟩:=Ae (show bb (an (Nat.beq f g) (Nat.beq (len a) nf)) (some (Br a b)) none=some l from h)
 injection h with h;subst h
 obtain⟨h1,h2⟩:=Av hc
 have h2:=Nat.eq_of_beq_eq_true h2
 rw[EZ hy,Nat.eq_of_beq_eq_true h1,Cg,Bz,BH,←h2,AV,List.take_left,List.drop_left]
theorem Co {α:Type} {l:List α} {n:Nat} (h:l.length=n+1):∃ a r,l=a::r∧r.length=n:=by
 cases l with
 | nil=>simp at h
 | cons a r=>exact⟨a,r,rfl,by simpa using h⟩
theorem len_nil {α:Type} {l:List α} (h:l.length=0):l=[]:=List.eq_nil_of_length_eq_zero h
theorem Aa0 {β:Type} {c:Bool} {a b:Option β} {v:β} (h:bb c a b=some v):a=some v∨b=some v:=by
 cases c
 ·exact .inr h
 ·exact .inl h
theorem Yw {v:Value} (h:AaZ v=true):v = .slice none 0 0:=CB h

noncomputable section
def lQ (m:Option Nat) (v:Value) (H:Aa):Option (Value×Aa):=oo m (some (v,H)) fun z=>ER z v H
def lS (ms:List (Option Nat)):List Value→Aa→Option (List Value×Aa):=
 List.rec (motive := fun _ => List Value → Aa → Option (List Value × Aa)) (fun l H => ll l (some ([], H)) fun _ _ => none)
  (fun m _ ih l H=>ll l none fun v r=>oo (lQ m v H) none fun p=>pp p fun v' H1=>oo (ih r H1) none fun q=>pp q fun r' H2=>some (v'::r',H2)) ms
def lU (ms:List (Option Nat)) (v:Value) (H:Aa):Option (Value×Aa):=oo (Bt v) (ll ms none fun m _=>lQ m v H) fun l=>oo (lS ms l H) none fun p=>pp p fun l' H1=>some (.agg ⟨l'⟩,H1)
def Sd (ms:List (List (Option Nat))):List Value→Aa→Option (List Value×Aa):=
 List.rec (motive := fun _ => List Value → Aa → Option (List Value × Aa)) (fun l H => ll l (some ([], H)) fun _ _ => none)
  (fun m _ ih l H=>ll l none fun v r=>oo (lU m v H) none fun p=>pp p fun v' H1=>oo (ih r H1) none fun q=>pp q fun r' H2=>some (v'::r',H2)) ms
def Gn (tabs:List (List Value)) (ms:List (List (Option Nat))) (na:Nat) (rs:List Rt) (outs:List Bool) (f:List Value→Option Value) (args:List Value) (H:Aa):Option (Value×Aa):=
 oo (Sd ms args H) none fun p=>pp p fun as H1=>VO tabs na rs outs f as H1
end
theorem dY {m:Option Nat} {v v' u:Value} {H H':Aa} {R:Ren} {w:World} (h:lQ m v H=some (v',H')) (hs:Ck H R w) (hx:VR R v u):∃ R',R.le R'∧Ba H R w H' R' w∧VR R' v' u:=by
 cases m with
 | none=>injection h with h;injection h with e1 e2;subst e1;subst e2;exact⟨R,R.le_refl,.refl hs,hx⟩
 | some z=>obtain⟨R',h1,_,h2,h3,_⟩:=TM (show ER z v H=some (v',H') from h) hs hx;exact⟨R',h1,h2,h3⟩
theorem dZ : ∀ {ms : List (Option Nat)} {l l' us : List Value} {H H' : Aa} {R : Ren} {w : World}, lS ms l H = some (l', H') → Ck H R w → Cf R l us → ∃ R', R.le R' ∧ Ba H R w H' R' w ∧ Cf R' l' us
 | [], l, l', us, H, H', R, w, h, hs, hl => by
  cases l with
  | nil=>injection h with h;injection h with e1 e2;subst e1;subst e2;exact⟨R,R.le_refl,.refl hs,hl⟩
  | cons=>cases h
 | m :: ms, l, l', us, H, H', R, w, h, hs, hl => by
  cases l with
  | nil=>cases h
  | cons v r =>
   obtain⟨⟨v',H1⟩,h1,h2⟩:=Ab (show oo (lQ m v H) none (fun p=>pp p fun v' H1=>oo (lS ms r H1) none fun q=>pp q fun r' H2=>some (v'::r',H2))=some (l',H') from h)
   obtain⟨⟨r',H2⟩,h3,h4⟩:=Ab (show oo (lS ms r H1) none (fun q=>pp q fun r' H2=>some (v'::r',H2))=some (l',H') from h2)
   injection h4 with h4;injection h4 with e1 e2;subst e1;subst e2
   obtain⟨u,us',rfl,hu,hus⟩:=hl.uncons
   obtain⟨R1,k1,k2,k3⟩:=dY h1 hs hu
   obtain⟨R2,j1,j2,j3⟩:=dZ h3 k2.sim (hus.mono k1)
   exact⟨R2,Ren.le_trans k1 j1,k2.trans j2 hs,.cons (k3.mono j1) j3⟩
theorem Aa1 {ms:List (Option Nat)} {v v' u:Value} {H H':Aa} {R:Ren} {w:World} (h:lU ms v H=some (v',H')) (hs:Ck H R w) (hx:VR R v u):∃ R',R.le R'∧Ba H R w H' R' w∧VR R' v' u:=by
 unfold lU at h
 cases ha:Bt v with
 | none =>
  rw[ha,Az] at h
  cases ms with
  | nil=>cases h
  | cons m r=>exact dY (show lQ m v H=some (v',H') from h) hs hx
 | some l =>
  rw[ha,Ac] at h
  obtain⟨⟨l',H1⟩,h1,h2⟩:=Ab h
  injection (show some (Value.agg ⟨l'⟩,H1)=some (v',H') from h2) with h2;injection h2 with e1 e2;subst e1;subst e2
  rw[BQ ha] at hx
  obtain⟨us,rfl,hl⟩:=hx.agg_l
  obtain⟨R',k1,k2,k3⟩:=dZ h1 hs hl
  exact⟨R',k1,k2,.agg k3.1 k3.2⟩
theorem Xf : ∀ {ms : List (List (Option Nat))} {l l' us : List Value} {H H' : Aa} {R : Ren} {w : World}, Sd ms l H = some (l', H') → Ck H R w → Cf R l us → ∃ R', R.le R' ∧ Ba H R w H' R' w ∧ Cf R' l' us
 | [], l, l', us, H, H', R, w, h, hs, hl => by
  cases l with
  | nil=>injection h with h;injection h with e1 e2;subst e1;subst e2;exact⟨R,R.le_refl,.refl hs,hl⟩
  | cons=>cases h
 | m :: ms, l, l', us, H, H', R, w, h, hs, hl => by
  cases l with
  | nil=>cases h
  | cons v r =>
   obtain⟨⟨v',H1⟩,h1,h2⟩:=Ab (show oo (lU m v H) none (fun p=>pp p fun v' H1=>oo (Sd ms r H1) none fun q=>pp q fun r' H2=>some (v'::r',H2))=some (l',H') from h)
   obtain⟨⟨r',H2⟩,h3,h4⟩:=Ab (show oo (Sd ms r H1) none (fun q=>pp q fun r' H2=>some (v'::r',H2))=some (l',H') from h2)
   injection h4 with h4;injection h4 with e1 e2;subst e1;subst e2
   obtain⟨u,us',rfl,hu,hus⟩:=hl.uncons
   obtain⟨R1,k1,k2,k3⟩:=Aa1 h1 hs hu
   obtain⟨R2,j1,j2,j3⟩:=Xf h3 k2.sim (hus.mono k1)
   exact⟨R2,Ren.le_trans k1 j1,k2.trans j2 hs,.cons (k3.mono j1) j3⟩
theorem KU {P : Program} {tabs : List (List Value)} (hne : ∀ t ∈ tabs, t ≠ []) (hpl : ∀ t ∈ tabs, ∀ x ∈ t, BR x = true) {g na : Nat} {ms : List (List (Option Nat))} {rs : List Rt} {outs : List Bool} {f : List Value → Option Value} (hok : Cn P tabs na rs.length g f) {args : List Value} {H H' : Aa} {v : Value}
 (h:Gn tabs ms na rs outs f args H=some (v,H')) :
 (∀ (as:Array Value) (w:World),(callFunc g as).run P w = .ok (.enter g as) w) ∧
 ∀ R w args',Ck H R w→JH (List.range tabs.length) R→Cf R args args'→Calls P g ⟨args'⟩ w fun e w'=>∃ u R',e = .returned u∧VR R' v u∧Ba H R w H' R' w':=by
 unfold Gn at h
 obtain⟨⟨as,H1⟩,h1,h2⟩:=Ab h
 have h2:VO tabs na rs outs f as H1=some (v,H'):=h2
 refine⟨hok.1,fun R w args' hs hgl ha=>?_⟩
 obtain⟨R1,k1,k2,k3⟩:=Xf h1 hs ha
 exact((lF hne hpl hok h2).2 R1 w args' k2.sim (hgl.mono k1) k3).mono fun e w' ⟨u,R',q1,q2,q3⟩=>⟨u,R',q1,q2,k2.trans q3 hs⟩
theorem Ey {v:Value} {H:Aa}:lQ none v H=some (v,H):=rfl
theorem Oi {z:Nat} {v v':Value} {H H1:Aa} (h:ER z v H=some (v',H1)):lQ (some z) v H=some (v',H1):=h
theorem Xg {H:Aa}:lS [] [] H=some ([],H):=rfl
theorem FM {m:Option Nat} {ms:List (Option Nat)} {v v':Value} {r r':List Value} {H H1 H2:Aa} (h:lQ m v H=some (v',H1)) (hr:lS ms r H1=some (r',H2)):lS (m::ms) (v::r) H=some (v'::r',H2):=by
 show oo (lQ m v H) none (fun p=>pp p fun v' H1=>oo (lS ms r H1) none fun q=>pp q fun r' H2=>some (v'::r',H2))=_
 rw[h,Ac,GJ,hr];rfl
theorem DR {m:Option Nat} {v v':Value} {H H1:Aa} (h:lQ m v H=some (v',H1)) (ha:Bt v=none:=by kernel_rfl):lU [m] v H=some (v',H1):=by
 unfold lU;rw[ha];exact h
theorem Xh {ms:List (Option Nat)} {l l':List Value} {H H1:Aa} (h:lS ms l H=some (l',H1)):lU ms (.agg ⟨l⟩) H=some (.agg ⟨l'⟩,H1):=by
 show oo (lS ms l H) none (fun p=>pp p fun l' H1=>some (Value.agg ⟨l'⟩,H1))=_
 rw[h];rfl
theorem Iz {H:Aa}:Sd [] [] H=some ([],H):=rfl
theorem CK {m:List (Option Nat)} {ms:List (List (Option Nat))} {v v':Value} {r r':List Value} {H H1 H2:Aa} (h:lU m v H=some (v',H1)) (hr:Sd ms r H1=some (r',H2)):Sd (m::ms) (v::r) H=some (v'::r',H2):=by
 show oo (lU m v H) none (fun p=>pp p fun v' H1=>oo (Sd ms r H1) none fun q=>pp q fun r' H2=>some (v'::r',H2))=_
 rw[h,Ac,GJ,hr];rfl
theorem FY {tabs:List (List Value)} {ms:List (List (Option Nat))} {na:Nat} {rs:List Rt} {outs:List Bool} {f:List Value→Option Value} {args as:List Value} {H H1 H2:Aa} {v:Value} (h1:Sd ms args H=some (as,H1)) (h2:VO tabs na rs outs f as H1=some (v,H2)):Gn tabs ms na rs outs f args H=some (v,H2):=by
 unfold Gn;rw[h1,Ac,GJ,h2]

end Go.Sp
namespace Go.Sp
noncomputable section
end
section
variable {tt:TT} {call:A8} {n0:Nat}
end
end Go.Sp
namespace Go.Sp
end Go.Sp
namespace Go.Sp
end Go.Sp
namespace Go.Sp
noncomputable section
end
section
variable {P:Program} {tt:TT} {tabs:List (List Value)}
end
end Go.Sp
namespace Go.Sp
noncomputable section
end
theorem Quiet.refl (n0:Nat) (H:Aa):Quiet n0 H H:=fun _ _ _ R _ _ _ hp=>⟨R,R.le_refl,rfl,hp⟩
theorem Quiet.trans {n0:Nat} {H H1 H2:Aa} (h:Quiet n0 H H1) (h':Quiet n0 H1 H2):Quiet n0 H H2:=fun H0 R0 w0 R w hs hn hp=>by
 obtain⟨R1,a1,a2,a3⟩:=h H0 R0 w0 R w hs hn hp
 obtain⟨R2,b1,b2,b3⟩:=h' H0 R0 w0 R1 w hs hn a3
 exact⟨R2,Ren.le_trans a1 b1,b2.trans a2,b3⟩
theorem Quiet.tell {n0:Nat} {H H1:Aa} (h:Quiet n0 H H1) (v:Value):FU n0 H v H1 v:=fun H0 R0 w0 R w _ hs hn hp hv=>by
 obtain⟨R1,a1,a2,a3⟩:=h H0 R0 w0 R w hs hn hp
 exact⟨R1,a1,a2,a3,hv.mono a1⟩
theorem FU.trans {n0:Nat} {H H1 H2:Aa} {v v1 v2:Value} (h:FU n0 H v H1 v1) (h':FU n0 H1 v1 H2 v2):FU n0 H v H2 v2:=fun H0 R0 w0 R w u hs hn hp hv=>by
 obtain⟨R1,a1,a2,a3,a4⟩:=h H0 R0 w0 R w u hs hn hp hv
 obtain⟨R2,b1,b2,b3,b4⟩:=h' H0 R0 w0 R1 w u hs hn a3 a4
 exact⟨R2,Ren.le_trans a1 b1,b2.trans a2,b3,b4⟩
theorem Mr.len {n0:Nat} {H H1:Aa} {l l':List Value} (h:Mr n0 H l H1 l'):l'.length=l.length:=by
 induction h with
 | nil=>rfl
 | cons _ _ ih=>simp[ih]
structure AjA (n0:Nat) (av:List Nat) (H:Aa) (v:Value) (H':Aa) (v':Value):Prop where
 tell:FU n0 H v H' v'
 quiet:Quiet n0 H H'
 keep:∀ i,ED i av=true→H'.get i=H.get i
section
variable {P:Program} {tt:TT} {tabs:List (List Value)}
end
end Go.Sp
namespace Go.Sp

theorem Quiet.dead {n0:Nat} {H:Aa} {id:Nat} {xs:List Value} {spent:Bool} {anc:List Nat} (h1:H.get id = .cells xs false spent anc):Quiet n0 H (H.set id .dead):=fun H0 R0 w0 R w hs0 _ hp=>by
 have hs:=hp.sim
 have hget:∀ i,(H.set id .dead).get i=if id=i then .dead else H.get i:=fun i=>Aa.get_set _ _ _ _
 have hwr:∀ i,(H.get i).writable=false→((H.set id .dead).get i).writable=false:=fun i h=>by
  rw[hget];split
  ·rfl
  ·exact h
 refine ⟨R, R.le_refl, rfl, hp.le, hp.new, ⟨fun i c β h => by rw [Aa.next_set]; exact hs.dom i c β h, fun i c β h => ?_, fun i c β i' β' h h' hne hw => ?_, fun i a ha => ?_, fun i hi => ?_, fun c C h => ⟨(hs.ro c C h).1, fun i β h' => hwr i ((hs.ro c C h).2 i β h')⟩⟩,
  by rw[Aa.next_set];exact hp.next,hp.grow,hp.frame,fun i hi hr Q c β ob h=>?_,fun i hi h=>?_,hp.fresh,hp.side,hp.rofresh⟩
 ·rw [hget]; split
  ·trivial
  ·exact hs.obj i c β h
 ·rw [hget] at hw
  split at hw
  ·cases hw
  ·rename_i he
   rw[hget i']
   split
   ·exact .inl rfl
   ·rw [hget i, if_neg he]; exact hs.sep i c β i' β' h h' hne hw
 ·rw [hget] at ha
  split at ha
  ·cases ha
  ·obtain ⟨h1, h2, h3⟩ := hs.anc i a ha
   refine⟨by rw[Aa.next_set];exact h1,?_,hwr a h3⟩
   rw[hget];split
   ·rfl
   ·exact h2
 ·rw [Aa.next_set] at hi
  rw[hget];split
  ·rfl
  ·exact hs.wf i hi
 ·rw [hget]; split
  ·trivial
  ·exact hp.calm i hi hr Q c β ob h
 ·rw [hget]; split
  ·rename_i he
   subst he
   have:=hp.imm id hi h
   rw[h1] at this
   rw[←this] at h;cases h
  ·exact hp.imm i hi h
theorem Quiet.push {n0:Nat} {H:Aa} {o:AJ} (h:o.ancOf=[]):Quiet n0 H (H.push o):=fun H0 R0 w0 R w _ _ hp=>⟨R,R.le_refl,rfl,hp.absPush h⟩

theorem FU.frzP {n0 m : Nat} {H : Aa} {id off : Nat} {xs : List Value} {anc : List Nat} (hn : Nat.ble n0 m = true) (hm : Nat.ble m id = true) (h1 : H.get id = .cells xs false false anc) (hne : Nat.ble 1 (len xs) = true) (hc : Au Ah xs = true) :
 FU n0 H (.pointer (some ⟨id,off,none⟩)) (H.set id .dead) (Cv off xs):=fun H0 R0 w0 R w u hs hn0 hp hv=>by
 obtain⟨c,β,hid,rfl⟩:=hv.ptr_l
 have hne:1≤xs.length:=by have:=Nat.le_of_ble_eq_true hne;rwa [AV] at this
 obtain⟨C,t,fz,k1,k2,k3,k4⟩:=hp.sim.cells (o:=⟨xs,false,false,anc⟩) hid (by rw[h1];rfl)
 have hfz:Cq m false (.slice (some ⟨id,0,some 1⟩) xs.length (2*xs.length)) H=some (FP 1 xs.length 0 xs,H.set id .dead):=by
  unfold Cq
  show oo (Bv (H.get id)) none _=_
  rw[h1]
  have ht:Aq (xs.length*1) (Am 0 xs)=xs:=by rw[Cg,Bz,List.drop_zero,List.take_of_length_le (by omega)]
  show bb (an (Nat.ble m id) (an true (an true (an (Nat.ble (0+xs.length*1) (len xs)) (Au Ah (Aq (xs.length*1) (Am 0 xs))))))) (some (FP 1 xs.length 0 (Aq (xs.length*1) (Am 0 xs)),_)) none=_
  rw[ht,hm,hc,AV,Nat.ble_eq_true_of_le (by omega)]
  rfl
 obtain ⟨R', q1, q0, q2, q3⟩ := Gg (u := .slice (some ⟨c, β + 0, none⟩) xs.length xs.length) hfz hs (Nat.le_trans hn0 (Nat.le_of_ble_eq_true hn)) hp (.sl hid (by omega) (by omega) (fun h => by omega) (by
  have k2:C.size=R.sz c:=k2
  have k3:β+xs.length≤C.size:=k3
  omega))
 refine⟨R',q1,q0,q2,?_⟩
 rcases q3.fs_l (f:=⟨1,xs.length,0,xs⟩) rfl with⟨e,_⟩ | ⟨_,e,_⟩ | ⟨c',o',cap,C',hro,he,hl,_,_,_,hfit,hcr,hcl⟩
 ·have e:xs.length=0:=e;omega
 ·have e:xs.length=0:=e;omega
 ·injection he with he1 he2 he3
  injection he1 with he1
  injection he1 with e1 e2 e3
  subst e1
  have e2:β=o':=by omega
  subst e2
  exact .mkFp hro hfit hcr hcl

noncomputable def U0 (v:Value):Bool:=vv v (fun _=>false) (fun _ _=>false) (fun _=>false) (fun a=>nt (isS a)) (fun _ _ _=>false) (fun _=>false) (fun _ _ _=>false) false (fun _ _=>false) false (fun _=>false) (fun _=>false) false
theorem MS {v:Value} (h:U0 v=true):v = .pointer none:=by
 cases v <;> simp only[U0,vv] at h <;> try (cases h;done)
 rename_i a;cases a with
 | none=>rfl
 | some a=>cases h
section
variable {n0:Nat}
theorem E9.frzP (m t id off : Nat) (xs : List Value) (c : Bool) {F F' : Fr} {H H' : Aa} {anc : List Nat} (hcl : Au Ah xs = c) (hc : c = true) (r : E9 n0 (F.put (some t) (Cv off xs)) (H.set id .dead) F' H')
 (hv:F.get t = .pointer (some ⟨id,off,none⟩):=by kernel_rfl) (hn:Nat.ble n0 m=true:=by kernel_rfl) (hm:Nat.ble m id=true:=by kernel_rfl) (h1:H.get id = .cells xs false false anc:=by kernel_rfl) (hne:Nat.ble 1 (len xs)=true:=by kernel_rfl):E9 n0 F H F' H':=
 .step (.tell (by rw[hv];exact .frzP hn hm h1 hne (hcl.trans hc))) r
end
end Go.Sp
namespace Go.Sp
open Go.Sort

noncomputable section
def Eb (z:Int):Value:=.int .i64 z
def G5 (zs:List Int):List Int:=zs.mergeSort fun x y=>decide (x≤y)
end

theorem Ba.growW {H H':Aa} {R R':Ren} {w w1 w2:World} (hp:Ba H R w H' R' w1) {os:Array Obj} (e:w2.heap=w1.heap++os) (e1:w2.os=w1.os) (e2:w2.output=w1.output):Ba H R w H' R' w2:=by
 have hget:∀ c,c < w1.heap.size→w2.heap[c]?=w1.heap[c]?:=fun c hc=>by rw[e,Array.getElem?_append_left hc]
 have hsz:w1.heap.size≤w2.heap.size:=by rw[e];simp
 have hs:=hp.sim
 refine ⟨hp.le, hp.new, ⟨fun id c β h => ⟨(hs.dom id c β h).1, Nat.lt_of_lt_of_le (hs.dom id c β h).2 hsz⟩, fun id c β h => by rw [hget c (hs.dom id c β h).2]; exact hs.obj id c β h, hs.sep, hs.anc, hs.wf, fun c C h => ?_⟩,
  hp.next,Nat.le_trans hp.grow hsz,fun c hc h=>by rw[hget c (Nat.lt_of_lt_of_le hc hp.grow)];exact hp.frame c hc h,hp.calm,hp.imm,hp.fresh,⟨e1.trans hp.side.1,e2.trans hp.side.2.1,fun a ha=>?_⟩,hp.rofresh⟩
 ·obtain ⟨⟨t, fz, h1⟩, h2⟩ := hs.ro c C h
  exact⟨⟨t,fz,by rw[hget c (Array.getElem?_eq_some_iff.1 h1).1];exact h1⟩,h2⟩
 ·rw [← hp.side.2.2 a ha]
  unfold World.frozen?
  rw[hget a.block (Nat.lt_of_lt_of_le ha hp.grow)]

theorem Ki (l:List Int):AP Eb l=l.map Eb:=by
 induction l with
 | nil=>rfl
 | cons x l ih=>show Eb x::AP Eb l=_;rw[ih];rfl
theorem Ez (l:List Int):(AP Eb l).length=l.length:=by rw[Ki];simp

theorem eB {H H' : Aa} {R : Ren} {w : World} {id c β : Nat} {vals : List Int} (hs : Ck H R w) (hw : Ej H id 0 (AP Eb vals) = some H') (hid : R.f id = some (c, β)) (n : Nat) (os : Array Obj) :
 Ba H R w H' R (grow (putRow (Value.int .i64) (Go.Sort.ahead w n) c β vals.toArray) os):=by
 have hv:Cf R (AP Eb vals) (AP Eb vals):=JX fun x hx=>by
  rw[Ki] at hx
  obtain⟨z,_,rfl⟩:=List.mem_map.1 hx
  rfl
 obtain⟨C,t,hC,hfit,_,hp⟩:=F8 hs hw hid hv
 refine hp.growW (os:=os) ?_ rfl rfl
 show (putRow (Value.int .i64) (Go.Sort.ahead w n) c β vals.toArray).heap++os=_
 congr 1
 apply Array.ext_getElem?
 intro k
 by_cases hk:c=k
 ·subst hk
  rw[setRow_heap w c C _ t (0,0) hC]
  show (Array.modify w.heap c (onCells (putCells (Value.int .i64) β vals.toArray)))[c]?=_
  rw[Array.getElem?_modify,if_pos rfl,hC]
  show some (Obj.cells _ _ _)=some (Obj.cells _ _ _)
  congr 2
  apply Array.ext_getElem?
  intro j
  rw[Ez] at hfit
  simp only[putCells,Array.getElem?_mapIdx,List.getElem?_toArray,Ki,List.length_map,Nat.add_zero]
  by_cases h1:β≤j∧j < β+vals.length
  ·have hj : j < C.size := by omega
   have hj2:j - β < vals.length:=by omega
   rw[Array.getElem?_eq_getElem hj,Option.map_some,if_pos (by simpa using h1)]
   rw[List.append_assoc,List.getElem?_append_right (by simp;omega),List.getElem?_append_left (by simp;omega)]
   simp only[List.length_take,Array.length_toList,List.getElem?_map]
   rw[show j - min β C.size=j - β by omega,List.getElem?_eq_getElem hj2]
   simp[Eb,getElem!_pos,hj2]
  ·by_cases h2 : j < β
   ·rw [List.append_assoc, List.getElem?_append_left (by simp; omega), List.getElem?_take_of_lt h2]
    simp only[Array.getElem?_toList]
    cases hcj:C[j]? with
    | none=>rfl
    | some y=>rw[Option.map_some,if_neg (by simpa using h1)]
   ·rw [List.getElem?_append_right (by simp; omega), List.getElem?_drop]
    simp only[Array.getElem?_toList]
    have:β+vals.length+(j - (List.take β C.toList++List.map Eb vals).length)=j:=by simp;omega
    rw[this]
    cases hcj:C[j]? with
    | none=>rfl
    | some y=>rw[Option.map_some,if_neg (by simpa using h1)]
 ·rw [setRow_other _ _ _ _ (fun h => hk h.symm)]
  show (Array.modify w.heap c _)[k]?=_
  rw[Array.getElem?_modify,if_neg hk]

section
variable {P:Program} {g:FuncId}

end

theorem VL {H : Aa} {id : Nat} {xs : List Value} {anc : List Nat} {vals : List Int} (hg : H.get id = .cells xs false false anc) (hl : vals.length = xs.length) :
 Ej H id 0 (AP Eb vals)=some ((H.kill anc).set id (.cells (AP Eb vals) false false [])):=by
 unfold Ej
 have h1:Nat.ble (0+len (AP Eb vals)) (len xs)=true:=by rw[AV,AV,Ez];exact Nat.ble_eq_true_of_le (by omega)
 have h2:Au D6 (AP Eb vals)=true:=by
  rw[Bh,List.all_eq_true,Ki]
  intro x hx
  obtain⟨z,_,rfl⟩:=List.mem_map.1 hx
  rfl
 have h3:BM (AP Eb vals) 0 xs=AP Eb vals:=by
  show Br (AP Eb vals) (Am (len (AP Eb vals)) xs)=_
  rw[BH,Bz,AV,Ez,List.drop_of_length_le (by omega),List.append_nil]
 rw[hg]
 show bb (an (nt false) (an (nt false) (an (Nat.ble (0+len (AP Eb vals)) (len xs)) (Au D6 (AP Eb vals))))) (some ((H.kill anc).set id (.cells (BM (AP Eb vals) 0 xs) false false []))) none=_
 rw[h1,h2,h3];rfl

end Go.Sp
namespace Go.BkQ
open Go Go.Sp
noncomputable section
def IV (z:Int):Value:=.int .i64 z
def Aey (rows cols t r c:Nat):Nat×Nat:=
 bb (Nat.beq t 1) (rows - 1 - c, r) (bb (Nat.beq t 2) (rows - 1 - r, cols - 1 - c) (bb (Nat.beq t 3) (c, cols - 1 - r) (bb (Nat.beq t 4) (r, cols - 1 - c)
  (bb (Nat.beq t 5) (rows - 1 - r,c) (bb (Nat.beq t 6) (c,r) (bb (Nat.beq t 7) (rows - 1 - c,cols - 1 - r) (r,c)))))))
def Aez (rows cols t i:Nat):Nat:=Nat.rec (motive:=fun _=>Nat) 0 (fun _ _=>pp (Aey rows cols t (i / cols) (i % cols)) fun r c=>r*cols+c) cols
def upN (n:Nat):List Nat:=Nat.rec (motive:=fun _=>List Nat) [] (fun k ih=>Br ih [k]) n
def cellL (rows cols t:Nat):List Nat:=AP (Aez rows cols t) (upN (rows*cols))
def Ca (l:List Nat):List Value:=AP (fun n=>IV (.ofNat n)) l
def Jc (l:List Nat):Value:=FP 1 (len l) 0 (Ca l)
def triples:List (Nat×Nat×Nat):=[(1,1,0),(1,1,1),(1,1,2),(1,1,3),(1,1,4),(1,1,5),(1,1,6),(1,1,7),(1,2,0),(1,2,2),(1,2,4),(1,2,5),(1,3,0),(1,3,2),(1,3,4),(1,3,5),(1,4,0),(1,4,2),(1,4,4),(1,4,5),(2,1,0),(2,1,2),(2,1,4),(2,1,5),(2,2,0),(2,2,1),(2,2,2),(2,2,3),(2,2,4),(2,2,5),(2,2,6),(2,2,7),(2,3,0),(2,3,2),(2,3,4),(2,3,5),(2,4,0),(2,4,2),(2,4,4),(2,4,5),(3,1,0),(3,1,2),(3,1,4),(3,1,5),(3,2,0),(3,2,2),(3,2,4),(3,2,5),(3,3,0),(3,3,1),(3,3,2),(3,3,3),(3,3,4),(3,3,5),(3,3,6),(3,3,7),(3,4,0),(3,4,2),(3,4,4),(3,4,5),(4,1,0),(4,1,2),(4,1,4),(4,1,5),(4,2,0),(4,2,2),(4,2,4),(4,2,5),(4,3,0),(4,3,2),(4,3,4),(4,3,5),(4,4,0),(4,4,1),(4,4,2),(4,4,3),(4,4,4),(4,4,5),(4,4,6),(4,4,7)]
def VM (l:List (Nat×Nat×Nat)) (r c t:Nat):Bool:=List.rec (motive:=fun _=>Bool) false (fun p _ ih=>Dp (an (Nat.beq p.1 r) (an (Nat.beq p.2.1 c) (Nat.beq p.2.2 t))) ih) l
def cellsM (args : List Value) : Option Value := ll args none fun a r => ll r none fun b r => ll r (oo (Bt a) none fun l => ll l none fun v1 l => ll l none fun v2 l => ll l none fun v3 l => ll l none fun v4 l => ll l
 (oo (Bi .i64 v1) none fun z1 => oo (EA z1) none fun rows => oo (Bi .i64 v2) none fun z2 => oo (EA z2) none fun cols => oo (Bi .i64 b) none fun z3 => oo (EA z3) none fun t =>
   bb (VM triples rows cols t) (some (Jc (cellL rows cols t))) none) fun _ _=>none) fun _ _=>none
def trueF (args:List Value):Option Value:=ll args (some (.bool true)) fun _ _=>none
end
theorem lV {a b:Bool} (h:Dp a b=true):a=true∨b=true:=by
 cases a with
 | true=>exact .inl rfl
 | false=>exact .inr h
theorem eF {l:List (Nat×Nat×Nat)} {r c t:Nat} (h:VM l r c t=true):(r,c,t)∈l:=by
 induction l with
 | nil=>cases h
 | cons p l ih =>
  rcases lV (show Dp (an (Nat.beq p.1 r) (an (Nat.beq p.2.1 c) (Nat.beq p.2.2 t))) (VM l r c t)=true from h) with h | h
  ·obtain ⟨h1, h⟩ := Av h
   obtain⟨h2,h3⟩:=Av h
   obtain⟨p1,p2,p3⟩:=p
   have h1:p1=r:=Nat.eq_of_beq_eq_true h1
   have h2:p2=c:=Nat.eq_of_beq_eq_true h2
   have h3:p3=t:=Nat.eq_of_beq_eq_true h3
   subst h1;subst h2;subst h3
   exact List.mem_cons_self
  ·exact List.mem_cons_of_mem _ (ih h)
theorem VU {args:List Value} {v:Value} (h:cellsM args=some v):∃ r c t v3 v4,args=[.agg ⟨[IV (.ofNat r),IV (.ofNat c),v3,v4]⟩,IV (.ofNat t)]∧(r,c,t)∈triples∧v=Jc (cellL r c t):=by
 replace h:=Ad h;obtain⟨a,r1,rfl,h⟩:=h
 replace h:=Ad h;obtain⟨b,r2,rfl,h⟩:=h
 replace h:=AC h;obtain⟨rfl,h⟩:=h
 replace h:=Ab h;obtain⟨l,hl,h⟩:=h
 replace h:=Ad h;obtain⟨v1,l1,rfl,h⟩:=h
 replace h:=Ad h;obtain⟨v2,l2,rfl,h⟩:=h
 replace h:=Ad h;obtain⟨v3,l3,rfl,h⟩:=h
 replace h:=Ad h;obtain⟨v4,l4,rfl,h⟩:=h
 replace h:=AC h;obtain⟨rfl,h⟩:=h
 replace h:=Ab h;obtain⟨z1,h1,h⟩:=h
 replace h:=Ab h;obtain⟨r,h2,h⟩:=h
 replace h:=Ab h;obtain⟨z2,h3,h⟩:=h
 replace h:=Ab h;obtain⟨c,h4,h⟩:=h
 replace h:=Ab h;obtain⟨z3,h5,h⟩:=h
 replace h:=Ab h;obtain⟨t,h6,h⟩:=h
 replace h:=Ae h;obtain⟨hc,h⟩:=h
 injection h with h
 refine⟨r,c,t,v3,v4,?_,eF hc,h.symm⟩
 rw[BQ hl,Eh h1,Eh h3,Eh h5,AR h2,AR h4,AR h6];rfl
end Go.BkQ
