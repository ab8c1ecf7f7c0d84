/- Made from wip. -/
import Derived.Test.YtflonlkiajhhjaaGreatDoorSpObj3x
import Derived.Test.YtflonlkiajhhjaaGreatDoorSpClox
import Derived.Sort.Grow
import Derived.Lib.SlicesCompact
import Derived.Test.YtflonlkiajhhjaaGreatDoorSpFramex

namespace Go.Sp

theorem Dn {α β:Type} {f:α→Option β} {a:α} {l:List α} {b:β} {r:List β} (h:f a=some b) (hr:CG f l=some r):CG f (a::l)=some (b::r):=by
 show oo (f a) none (fun b=>oo (CG f l) none fun r=>some (b::r))=_
 rw[h,Ac,hr,Ac]
theorem Eb {α β:Type} {f:α→Option β}:CG f ([]:List α)=some []:=rfl
theorem WB {H : Aa} {olds : List (Option Nat)} {id : Nat} {q : List Value} {anc : List Nat} (hc : Au Ah q = true) (hg : H.get id = .cells q false false anc := by kernel_rfl) (ha : Au (fun a => nt (isS (idxOf a olds 0))) anc = true := by kernel_rfl) :
 newObj H [] olds (false,some id)=some (.cells q false false []):=by
 show EE olds false false (H.get id)=_
 rw[hg]
 show bb (an (Au (fun a=>nt (isS (idxOf a olds 0))) anc) (Dp (nt false) _)) (bb false _ (bb (Dp false (Au Ah q)) _ none)) none=_
 rw[ha,hc];rfl
theorem Sd {H:Aa} {olds:List (Option Nat)} {id:Nat} {es:List EO} {c:Nat} (hc:Au F4 es=true) (hg:H.get id = .map es c:=by kernel_rfl):newObj H [] olds (false,some id)=some (.map es c):=by
 show EE olds false false (H.get id)=_
 rw[hg]
 show bb (Dp false (Au F4 es)) _ none=_
 rw[hc];rfl
theorem WC {inv:List (Option Nat)} {q:List Value} (hc:Au Ah q=true):KM inv (false,.cells q false false [])=some (.cells q false false []):=by
 show bb (an true (Dp (nt false) (an (nt false) true))) (bb false (oo (CG (Ry inv) q) none fun xs'=>some (AJ.cells xs' false false [])) (bb (Dp false (Au Ah q)) (some (AJ.cells q false false [])) none)) none=_
 rw[hc];rfl
theorem Pm {inv:List (Option Nat)} {es:List EO} {c:Nat} (hc:Au F4 es=true):KM inv (false,.map es c)=some (.map es c):=by
 show bb (Dp false (Au F4 es)) _ none=_
 rw[hc];rfl
theorem Gq {v:Value} {m:Akd} (h:Fj v=some m):TP v=some (.map m.es m.clock):=by
 unfold Fj at h
 obtain⟨l,hl,h⟩:=Ab h
 rw[EU hl]
 cases l with
 | nil=>cases h
 | cons c r =>
  obtain⟨n,hn,h⟩:=Ab (show oo (MN c) none (fun n=>oo (CG Zl r) none fun es=>some (⟨es,n⟩:Akd))=some m from h)
  obtain⟨es,he,h⟩:=Ab h
  injection h with h;subst h
  show oo (MN c) none (fun n=>oo (CG Zl r) none fun es=>some (AJ.map es n))=_
  rw[hn,Ac,he,Ac]
theorem MG {o:AJ} {m:Akd} (hp:plainO o) (h:Fj (Ef o)=some m):o = .map m.es m.clock:=by
 have:=Gq h
 rw[dF hp] at this
 injection this
theorem Gu {o:AJ} {l:List Value} (hp:plainO o) (h:Bt (Ef o)=some l):o = .cells l false false []:=by
 rcases hp with rfl | ⟨xs,rfl⟩ | ⟨es,c,rfl⟩
 ·cases h
 ·injection h with h;subst h;rfl
 ·cases h
theorem Ha {tabs:List (List Value)} {na:Nat} {rs:List Rt} {BO:List Bool} {f:List Value→Option Value} {args:List Value} {H H2:Aa} {v v':Value} (olds:List (Option Nat)) (ps:List (Bool×Option Nat)) (os:List AJ) (as es:List Value) (os':List AJ) (inv:List (Option Nat)) (qs:List (Bool×AJ)) (ns:List AJ)
 (hr:Na (Fr.made (len args) args) H rs (DY (len tabs))=true) (hos:CG (newObj H [] olds) ps=some os) (hz:f (Br as (AP Ef os))=some (.tuple ⟨v::es⟩)) (hd:CG TP es=some os') (hn:CG (KM inv) qs=some ns)
 (hol:E8 (Fr.made (len args) args) H rs (DY (len tabs))=olds:=by kernel_rfl)
 (hc:an (KL H tabs 0) (an (NS olds olds 0) (an (Nat.beq (len olds) (len tabs+len rs)) (an (Nat.beq (len args) na) (Qn H (Am (len tabs) olds)))))=true:=by kernel_rfl)
 (hps:Gf (AP Rt.deep rs) (Am (len tabs) olds)=ps:=by kernel_rfl) (has:CG (Rz olds) args=some as:=by kernel_rfl)
 (hl:an (Nat.beq (len BO) (len os')) (Nat.ble (len rs) (len os'))=true:=by kernel_rfl) (hinv:Oj olds H.next (len os' - len rs)=inv:=by kernel_rfl) (hqs:Gf BO os'=qs:=by kernel_rfl)
 (hv:Rz inv v=some v':=by kernel_rfl) (hH:Ht (Am (len tabs) olds) ns (H.kill (I6 H (Am (len tabs) olds)))=H2:=by kernel_rfl):VO tabs na rs BO f args H=some (v',H2):=by
 unfold VO
 subst hps;subst hinv;subst hqs;subst hH
 dsimp only
 rw[hol,hc,Ak,hr,Ak,hos,Ac,has,Ac,hz,Ac]
 show oo (CG TP es) none (fun os'=>
  bb (an (Nat.beq (len BO) (len os')) (Nat.ble (len rs) (len os')))
   (oo (CG (KM (Oj olds H.next (len os' - len rs))) (Gf BO os')) none fun ns => oo (Rz (Oj olds H.next (len os' - len rs)) v) none fun v' =>
     some (v',Ht (Am (len tabs) olds) ns (H.kill (I6 H (Am (len tabs) olds))))) none)=_
 rw[hd,Ac,hl,Ak,hn,Ac,hv,Ac]

noncomputable def lT (r:Option (Nat×Value)) (z:Value):Value:=oo r z fun p=>pp p fun _ v=>v
noncomputable def Hw (k v:Value) (c:Nat) (es:List EO) (r:Option (Nat×Value)):List EO:=oo r (Br es [⟨k,v,c⟩]) fun p=>pp p fun j _=>SS (fun e=>⟨k,v,e.born⟩) j es
noncomputable def Jj (c:Nat) (r:Option (Nat×Value)):Nat:=oo r (c+1) fun _=>c
theorem look_ok {H:Aa} {k z:Value} {es:List EO} {r:Option (Nat×Value)} (h:GD k es 0=some r) :
 keep H (oo (GD k es 0) none fun r=>oo r (okV true z false) fun p=>pp p fun _ v=>okV true v true)=some (.tuple ⟨[lT r z,.bool (isS r)]⟩,H):=by
 rw[h];cases r with
 | none=>rfl
 | some p=>rfl
theorem Sg {H:Aa} {k z v:Value} {es:List EO} {r:Option (Nat×Value)} (h:GD k es 0=some r) (hv:lT r z=v) :
 keep H (oo (GD k es 0) none fun r=>oo r (okV true z false) fun p=>pp p fun _ v=>okV true v true)=some (.tuple ⟨[v,.bool (isS r)]⟩,H):=by rw[look_ok h,hv]
theorem Si {H H2 : Aa} {id c : Nat} {k v : Value} {es : List EO} {r : Option (Nat × Value)} (h : GD k es 0 = some r) (hH : H.set id (.map (Hw k v c es r) (Jj c r)) = H2 := by kernel_rfl) :
 done (oo (GD k es 0) none fun r=>oo r (some (H.set id (.map (Br es [⟨k,v,c⟩]) (c+1)))) fun p=>pp p fun j _=>some (H.set id (.map (SS (fun e=>⟨k,v,e.born⟩) j es) c))) undef=some (undef,H2):=by
 subst hH
 rw[h];cases r with
 | none=>rfl
 | some p=>rfl
theorem zU {c2:Nat} {q:List Value} (h:Dp (Nat.ble 2 c2) (MQ q)=true) {b:Bool} (hb:b=true):an (Dp (Nat.ble 2 c2) (MQ q)) b=true:=by rw[h,hb];rfl
theorem Gn {tt:TT} {T k:Nat} {rs:List ResultVar} {z:Value} {F:Fr} {H:Aa} (v:Value) (os:List AJ) (h:DV tt F H rs=some v) (hz:some (Value.tuple ⟨v::os.map Ef⟩)=some z) (hk:k≤os.length) (ho:∀ i o,os[i]?=some o→H.get (T+i)=o∧plainO o):FJ tt T k rs z .ret F H:=by
 injection hz with hz;exact⟨v,os,hz.symm,h,hk,ho⟩
theorem Sj {tt:TT} {T k:Nat} {rs:List ResultVar} {z:Value} {F:Fr} {H:Aa} (v:Value) (os:List AJ) (h:DV tt F H rs=some v) (hz:some (Value.tuple ⟨v::os.map Ef⟩)=some z) (hk:k≤os.length) (ho:∀ i o,os[i]?=some o→H.get (T+i)=o∧plainO o):FJ tt T k rs z .normal F H:=by
 injection hz with hz;exact⟨F,H,.id F H,v,os,hz.symm,h,hk,ho⟩
theorem FN {H:Aa} {T:Nat}:∀ (i:Nat) (o:AJ),([]:List AJ)[i]?=some o→H.get (T+i)=o∧plainO o:=by intro i o h;simp at h
theorem C8 {H:Aa} {T:Nat} {a:AJ} {l:List AJ} (hp:plainO a) (hr:∀ (i:Nat) (o:AJ),l[i]?=some o→H.get (T+1+i)=o∧plainO o) (ha:H.get T=a:=by kernel_rfl):∀ (i:Nat) (o:AJ),(a::l)[i]?=some o→H.get (T+i)=o∧plainO o:=by
 intro i o h
 cases i with
 | zero=>simp at h;subst h;exact⟨ha,hp⟩
 | succ i=>have:=hr i o (by simpa using h);rwa [show T+(i+1)=T+1+i by omega]
theorem Pn (xs:List Value):plainO (.cells xs false false []):=.inr (.inl ⟨_,rfl⟩)
theorem WE (es:List EO) (c:Nat):plainO (.map es c):=.inr (.inr ⟨_,_,rfl⟩)
noncomputable section
def zY (z:Int):Value:=.int .u8 z
def Po (v:Value) (id off:Nat):Bool:=oo (FO v) false fun p=>pp p fun a b=>an (Nat.beq a id) (Nat.beq b off)
def M8 (v:Value) (id:Nat):Bool:=oo (IC v) false fun m=>oo m false fun i=>Nat.beq i id
structure NC where
 n:Nat
 c:Nat
def O5 (id off sz:Nat) (v:Value):Option NC:=oo (IA v) none fun s=>ss s fun i o z n c=>bb (an (Nat.beq i id) (an (Nat.beq o off) (Nat.beq z sz))) (some ⟨n,c⟩) none
end
theorem M9 {v:Value} {id off:Nat} (h:Po v id off=true):v = .pointer (some ⟨id,off,none⟩):=by
 unfold Po at h
 cases hp:FO v with
 | none=>rw[hp] at h;cases h
 | some p =>
  rw[hp,Ac] at h
  obtain⟨h1,h2⟩:=Av (show an (Nat.beq p.1 id) (Nat.beq p.2 off)=true from h)
  rw[Dg hp,Nat.eq_of_beq_eq_true h1,Nat.eq_of_beq_eq_true h2]
theorem Hy {v:Value} {id:Nat} (h:M8 v id=true):v = .map (some id):=by
 unfold M8 at h
 cases hm:IC v with
 | none=>rw[hm] at h;cases h
 | some m =>
  rw[hm,Ac] at h
  cases m with
  | none=>cases h
  | some i=>rw[EW hm,Nat.eq_of_beq_eq_true (show Nat.beq i id=true from h)]
theorem Jf {id off sz:Nat} {v:Value} {x:NC} (h:O5 id off sz v=some x):v = .slice (some ⟨id,off,some sz⟩) x.n x.c:=by
 unfold O5 at h
 obtain⟨s,hs,h⟩:=Ab h
 obtain⟨i,o,z,n,c⟩:=s
 obtain⟨hc,h⟩:=Ae (show bb (an (Nat.beq i id) (an (Nat.beq o off) (Nat.beq z sz))) (some (⟨n,c⟩:NC)) none=some x from h)
 injection h with h;subst h
 obtain⟨h1,hc⟩:=Av hc
 obtain⟨h2,h3⟩:=Av hc
 rw[Ko hs,Nat.eq_of_beq_eq_true h1,Nat.eq_of_beq_eq_true h2,Nat.eq_of_beq_eq_true h3]
theorem Co {α:Type} {l:List α} {n:Nat} (h:l.length=n+1):∃ a r,l=a::r∧r.length=n:=by
 cases l with
 | nil=>simp at h
 | cons a r=>exact⟨a,r,rfl,by simpa using h⟩
theorem len_nil {α:Type} {l:List α} (h:l.length=0):l=[]:=List.eq_nil_of_length_eq_zero h
theorem fH {H:Aa} {o:Option UInt8} {b:UInt8} (h:o=some b):keep H (oo o none fun b=>iv .u8 (.ofNat b.toNat))=some (.int .u8 (Int.ofNat (UInt8.toNat b)),H):=by rw[h];rfl
noncomputable section
def Wz (m:Option Nat) (v:Value) (H:Aa):Option (Value×Aa):=oo m (some (v,H)) fun z=>ER z v H
def WA (ms:List (Option Nat)):List Value→Aa→Option (List Value×Aa):=
 List.rec (motive := fun _ => List Value → Aa → Option (List Value × Aa)) (fun l H => ll l (some ([], H)) fun _ _ => none)
  (fun m _ ih l H=>ll l none fun v r=>oo (Wz m v H) none fun p=>pp p fun v' H1=>oo (ih r H1) none fun q=>pp q fun r' H2=>some (v'::r',H2)) ms
def WF (ms:List (Option Nat)) (v:Value) (H:Aa):Option (Value×Aa):=oo (Bt v) (ll ms none fun m _=>Wz m v H) fun l=>oo (WA ms l H) none fun p=>pp p fun l' H1=>some (.agg ⟨l'⟩,H1)
def Nc (ms:List (List (Option Nat))):List Value→Aa→Option (List Value×Aa):=
 List.rec (motive := fun _ => List Value → Aa → Option (List Value × Aa)) (fun l H => ll l (some ([], H)) fun _ _ => none)
  (fun m _ ih l H=>ll l none fun v r=>oo (WF m v H) none fun p=>pp p fun v' H1=>oo (ih r H1) none fun q=>pp q fun r' H2=>some (v'::r',H2)) ms
def Gs (tabs:List (List Value)) (ms:List (List (Option Nat))) (na:Nat) (rs:List Rt) (BO:List Bool) (f:List Value→Option Value) (args:List Value) (H:Aa):Option (Value×Aa):=
 oo (Nc ms args H) none fun p=>pp p fun as H1=>VO tabs na rs BO f as H1
end
theorem Sk {m:Option Nat} {v v' u:Value} {H H':Aa} {R:Ren} {w:World} (h:Wz m v H=some (v',H')) (hs:Ck H R w) (hx:VR R v u):∃ R',R.le R'∧Ba H R w H' R' w∧VR R' v' u:=by
 cases m with
 | none=>injection h with h;injection h with e1 e2;subst e1;subst e2;exact⟨R,R.le_refl,.refl hs,hx⟩
 | some z=>obtain⟨R',h1,_,h2,h3,_⟩:=TM (show ER z v H=some (v',H') from h) hs hx;exact⟨R',h1,h2,h3⟩
theorem Sm:∀ {ms:List (Option Nat)} {l l' us:List Value} {H H':Aa} {R:Ren} {w:World},WA ms l H=some (l',H')→Ck H R w→Cf R l us→∃ R',R.le R'∧Ba H R w H' R' w∧Cf R' l' us
 | [], l, l', us, H, H', R, w, h, hs, hl => by
  cases l with
  | nil=>injection h with h;injection h with e1 e2;subst e1;subst e2;exact⟨R,R.le_refl,.refl hs,hl⟩
  | cons=>cases h
 | m :: ms, l, l', us, H, H', R, w, h, hs, hl => by
  cases l with
  | nil=>cases h
  | cons v r =>
   obtain⟨⟨v',H1⟩,h1,h2⟩:=Ab (show oo (Wz m v H) none (fun p=>pp p fun v' H1=>oo (WA ms r H1) none fun q=>pp q fun r' H2=>some (v'::r',H2))=some (l',H') from h)
   obtain⟨⟨r',H2⟩,h3,h4⟩:=Ab (show oo (WA ms r H1) none (fun q=>pp q fun r' H2=>some (v'::r',H2))=some (l',H') from h2)
   injection h4 with h4;injection h4 with e1 e2;subst e1;subst e2
   obtain⟨u,us',rfl,hu,hus⟩:=hl.uncons
   obtain⟨R1,k1,k2,k3⟩:=Sk h1 hs hu
   obtain⟨R2,j1,j2,j3⟩:=Sm h3 k2.sim (hus.mono k1)
   exact⟨R2,Ren.le_trans k1 j1,k2.trans j2 hs,.cons (k3.mono j1) j3⟩
theorem lU {ms:List (Option Nat)} {v v' u:Value} {H H':Aa} {R:Ren} {w:World} (h:WF ms v H=some (v',H')) (hs:Ck H R w) (hx:VR R v u):∃ R',R.le R'∧Ba H R w H' R' w∧VR R' v' u:=by
 unfold WF at h
 cases ha:Bt v with
 | none =>
  rw[ha,Az] at h
  cases ms with
  | nil=>cases h
  | cons m r=>exact Sk (show Wz m v H=some (v',H') from h) hs hx
 | some l =>
  rw[ha,Ac] at h
  obtain⟨⟨l',H1⟩,h1,h2⟩:=Ab h
  injection (show some (Value.agg ⟨l'⟩,H1)=some (v',H') from h2) with h2;injection h2 with e1 e2;subst e1;subst e2
  rw[BQ ha] at hx
  obtain⟨us,rfl,hl⟩:=hx.agg_l
  obtain⟨R',k1,k2,k3⟩:=Sm h1 hs hl
  exact⟨R',k1,k2,.agg k3.1 k3.2⟩
theorem Qv:∀ {ms:List (List (Option Nat))} {l l' us:List Value} {H H':Aa} {R:Ren} {w:World},Nc ms l H=some (l',H')→Ck H R w→Cf R l us→∃ R',R.le R'∧Ba H R w H' R' w∧Cf R' l' us
 | [], l, l', us, H, H', R, w, h, hs, hl => by
  cases l with
  | nil=>injection h with h;injection h with e1 e2;subst e1;subst e2;exact⟨R,R.le_refl,.refl hs,hl⟩
  | cons=>cases h
 | m :: ms, l, l', us, H, H', R, w, h, hs, hl => by
  cases l with
  | nil=>cases h
  | cons v r =>
   obtain⟨⟨v',H1⟩,h1,h2⟩:=Ab (show oo (WF m v H) none (fun p=>pp p fun v' H1=>oo (Nc ms r H1) none fun q=>pp q fun r' H2=>some (v'::r',H2))=some (l',H') from h)
   obtain⟨⟨r',H2⟩,h3,h4⟩:=Ab (show oo (Nc ms r H1) none (fun q=>pp q fun r' H2=>some (v'::r',H2))=some (l',H') from h2)
   injection h4 with h4;injection h4 with e1 e2;subst e1;subst e2
   obtain⟨u,us',rfl,hu,hus⟩:=hl.uncons
   obtain⟨R1,k1,k2,k3⟩:=lU h1 hs hu
   obtain⟨R2,j1,j2,j3⟩:=Qv h3 k2.sim (hus.mono k1)
   exact⟨R2,Ren.le_trans k1 j1,k2.trans j2 hs,.cons (k3.mono j1) j3⟩
theorem Hz {P:Program} {tabs:List (List Value)} (hne:∀ t∈tabs,t≠[]) (hpl:∀ t∈tabs,∀ x∈t,BR x=true) {g na:Nat} {ms:List (List (Option Nat))} {rs:List Rt} {BO:List Bool} {f:List Value→Option Value} (hok:Cn P tabs na rs.length g f) {args:List Value} {H H':Aa} {v:Value}
 (h:Gs tabs ms na rs BO f args H=some (v,H')) :
 (∀ (as:Array Value) (w:World),(callFunc g as).run P w = .ok (.enter g as) w) ∧
 ∀ R w args',Ck H R w→JH (List.range tabs.length) R→Cf R args args'→Calls P g ⟨args'⟩ w fun e w'=>∃ u R',e = .returned u∧VR R' v u∧Ba H R w H' R' w':=by
 unfold Gs at h
 obtain⟨⟨as,H1⟩,h1,h2⟩:=Ab h
 have h2:VO tabs na rs BO f as H1=some (v,H'):=h2
 refine⟨hok.1,fun R w args' hs hgl ha=>?_⟩
 obtain⟨R1,k1,k2,k3⟩:=Qv h1 hs ha
 exact((lF hne hpl hok h2).2 R1 w args' k2.sim (hgl.mono k1) k3).mono fun e w' ⟨u,R',q1,q2,q3⟩=>⟨u,R',q1,q2,k2.trans q3 hs⟩
theorem Pp {v:Value} {H:Aa}:Wz none v H=some (v,H):=rfl
theorem WG {z:Nat} {v v':Value} {H H1:Aa} (h:ER z v H=some (v',H1)):Wz (some z) v H=some (v',H1):=h
theorem fI {H:Aa}:WA [] [] H=some ([],H):=rfl
theorem MH {m:Option Nat} {ms:List (Option Nat)} {v v':Value} {r r':List Value} {H H1 H2:Aa} (h:Wz m v H=some (v',H1)) (hr:WA ms r H1=some (r',H2)):WA (m::ms) (v::r) H=some (v'::r',H2):=by
 show oo (Wz m v H) none (fun p=>pp p fun v' H1=>oo (WA ms r H1) none fun q=>pp q fun r' H2=>some (v'::r',H2))=_
 rw[h,Ac,GJ,hr];rfl
theorem O6 {m:Option Nat} {v v':Value} {H H1:Aa} (h:Wz m v H=some (v',H1)) (ha:Bt v=none:=by kernel_rfl):WF [m] v H=some (v',H1):=by
 unfold WF;rw[ha];exact h
theorem fK {ms:List (Option Nat)} {l l':List Value} {H H1:Aa} (h:WA ms l H=some (l',H1)):WF ms (.agg ⟨l⟩) H=some (.agg ⟨l'⟩,H1):=by
 show oo (WA ms l H) none (fun p=>pp p fun l' H1=>some (Value.agg ⟨l'⟩,H1))=_
 rw[h];rfl
theorem KJ {H:Aa}:Nc [] [] H=some ([],H):=rfl
theorem G9 {m:List (Option Nat)} {ms:List (List (Option Nat))} {v v':Value} {r r':List Value} {H H1 H2:Aa} (h:WF m v H=some (v',H1)) (hr:Nc ms r H1=some (r',H2)):Nc (m::ms) (v::r) H=some (v'::r',H2):=by
 show oo (WF m v H) none (fun p=>pp p fun v' H1=>oo (Nc ms r H1) none fun q=>pp q fun r' H2=>some (v'::r',H2))=_
 rw[h,Ac,GJ,hr];rfl
theorem HV {tabs:List (List Value)} {ms:List (List (Option Nat))} {na:Nat} {rs:List Rt} {BO:List Bool} {f:List Value→Option Value} {args as:List Value} {H H1 H2:Aa} {v:Value} (h1:Nc ms args H=some (as,H1)) (h2:VO tabs na rs BO f as H1=some (v,H2)):Gs tabs ms na rs BO f args H=some (v,H2):=by
 unfold Gs;rw[h1,Ac,GJ,h2]

noncomputable def Gm (H:Aa) (sz bytes:Nat) (s:Value) (n:Nat) (X:Value):Option (Value×Aa):=oo (Dt H sz n X) none fun new=>D7 H sz bytes s n new
theorem FD {H : Aa} {id off sz n c bytes : Nat} {s : Value} {q : List Value} {imm sp : Bool} {anc : List Nat} (hc : Nat.ble (off + n * sz) (len q) = true) (hg : H.get id = .cells q imm sp anc := by kernel_rfl) :
 Gm H sz bytes s n (.slice (some ⟨id,off,some sz⟩) n c)=Ql H sz bytes s ⟨n,0,Aq (n*sz) (Am off q)⟩:=by
 unfold Gm Ql
 have e1:Dt H sz n (.slice (some ⟨id,off,some sz⟩) n c)=some (Aq (n*sz) (Am off q)):=by
  show bb (Nat.beq n 0) (some []) (oo (Bv (H.get id)) none fun o=>bb (an (Nat.beq sz sz) (Nat.ble (off+n*sz) (len o.xs))) (some (Aq (n*sz) (Am off o.xs))) none)=_
  cases hb:Nat.beq n 0 with
  | true=>rw[Nat.eq_of_beq_eq_true hb,Ak,Nat.zero_mul];rfl
  | false =>
   rw[AA,hg]
   show bb (an (Nat.beq sz sz) (Nat.ble (off+n*sz) (len q))) _ none=_
   rw[hc,show Nat.beq sz sz=true from Nat.beq_refl _];rfl
 have e2:Dt H sz n (Sl.v sz ⟨n,0,Aq (n*sz) (Am off q)⟩)=some (Aq (n*sz) (Am off q)):=by
  show bb (Nat.beq n 0) (some []) (bb (an (Nat.beq sz sz) (Nat.ble n n)) (some (Aq (n*sz) (Aq (n*sz) (Am off q)))) none)=_
  cases hb:Nat.beq n 0 with
  | true=>rw[Nat.eq_of_beq_eq_true hb,Ak,Nat.zero_mul];rfl
  | false =>
   rw[AA,show Nat.beq sz sz=true from Nat.beq_refl _,Nat.ble_eq_true_of_le (Nat.le_refl _),Cg,Cg,List.take_take,Nat.min_self];rfl
 rw[e1]
 show _=oo (Dt H sz n (Sl.v sz ⟨n,0,Aq (n*sz) (Am off q)⟩)) none _
 rw[e2]
end Go.Sp
namespace Go.Sp
noncomputable section
def zV (es:List EO) (clock:Nat) (seen:List Nat) (st:Nat):Option Value:=oo (Ai6 es clock seen st) none fun e=>some (.tuple ⟨[e.key,e.val]⟩)
end
section
variable {tt:TT} {call:A8} {n0:Nat}
theorem BN.nextK {ops os:List Fs} {F:Fr} {H:Aa} {Q:Ex→Fr→Aa→Prop} {d:Option Nat} {x:Operand} {ty id mid since st clock:Nat} {seen:List Nat} {es:List EO} (hops:ops=⟨d,.next x false,ty,none,[]⟩::os)
 (hx:F.eval x = .pointer (some ⟨id,0,none⟩)) (hi:H.get id = .iter (some mid) since seen st) (hm:H.get mid = .map es clock) (hold:Au (fun e=>Nat.blt e.born since) es=true) (hst:Nat.ble since st=true)
 (e0:isS (BD tt call os (F.put d (.tuple ⟨[.bool false]⟩)) H)=true)
 (e1:∀ e:EO,isS (BD tt call os (F.put d (.tuple ⟨[.bool true,e.key,e.val]⟩)) (H.set id (.iter (some mid) since (Br seen [e.born]) clock)))=true)
 (h0:IY es seen=[]→Q .normal (Oa (BD tt call os (F.put d (.tuple ⟨[.bool false]⟩)) H)) (RI (BD tt call os (F.put d (.tuple ⟨[.bool false]⟩)) H)))
 (h1:∀ e,e∈IY es seen→Q .normal (Oa (BD tt call os (F.put d (.tuple ⟨[.bool true,e.key,e.val]⟩)) (H.set id (.iter (some mid) since (Br seen [e.born]) clock)))) (RI (BD tt call os (F.put d (.tuple ⟨[.bool true,e.key,e.val]⟩)) (H.set id (.iter (some mid) since (Br seen [e.born]) clock))))) :
 BN tt call n0 (.reg [] ops) F H Q:=by
 subst hops
 exact .regN rfl (.nx hx hi hm hold hst (fun hl=>.fin (M6 e0) (h0 hl)) fun e he=>.fin (M6 (e1 e)) (h1 e he))
end
end Go.Sp
namespace Go.Sp
noncomputable section
def allEq (eq:Value→Value→Bool) (xs:List Value):List Value→Bool:=
 List.rec (motive:=fun _=>List Value→Bool) (fun ys=>ll ys true fun _ _=>false) (fun x _ ih ys=>ll ys false fun y ys=>an (eq x y) (ih ys)) xs
def Jg (d:Nat):Value→Value→Bool:=
 Nat.rec (motive:=fun _=>Value→Value→Bool) (fun x y=>Z9 x y) (fun _ ih x y=>oo (CQ x) (oo (Bt x) (Z9 x y) fun xs=>oo (Bt y) false fun ys=>allEq ih xs ys) fun xs=>oo (CQ y) false fun ys=>allEq ih xs ys) d
def Sn (es:List EO) (seen:List Nat) (z:Option Value) (f:EO→Option Value):Option Value:=
 ll (IY es seen) z fun e r=>oo (f e) none fun v=>bb (Au (fun e'=>oo (f e') false fun v'=>Jg 6 v v') r) (some v) none
end
theorem O7 {eq:Value→Value→Bool} (he:∀ x y,eq x y=true→x=y):∀ {xs ys:List Value},allEq eq xs ys=true→xs=ys:=by
 intro xs
 induction xs with
 | nil => intro ys h; cases ys with
  | nil=>rfl
  | cons y ys=>cases h
 | cons x xs ih => intro ys h; cases ys with
  | nil=>cases h
  | cons y ys =>
   obtain⟨h1,h2⟩:=Av (show an (eq x y) (allEq eq xs ys)=true from h)
   rw[he x y h1,ih h2]
theorem R8:∀ (d:Nat) (x y:Value),Jg d x y=true→x=y:=by
 intro d
 induction d with
 | zero=>intro x y h;exact aR h
 | succ d ih =>
  intro x y h
  replace h:oo (CQ x) (oo (Bt x) (Z9 x y) fun xs=>oo (Bt y) false fun ys=>allEq (Jg d) xs ys) (fun xs=>oo (CQ y) false fun ys=>allEq (Jg d) xs ys)=true:=h
  cases hx:CQ x with
  | some xs =>
   rw[hx,Ac] at h
   cases hy:CQ y with
   | some ys =>
    rw[hy,Ac] at h
    rw[EU hx,EU hy,O7 ih h]
   | none=>rw[hy] at h;cases h
  | none =>
   rw[hx] at h
   replace h:oo (Bt x) (Z9 x y) (fun xs=>oo (Bt y) false fun ys=>allEq (Jg d) xs ys)=true:=h
   cases hx:Bt x with
   | some xs =>
    rw[hx,Ac] at h
    cases hy:Bt y with
    | some ys =>
     rw[hy,Ac] at h
     rw[BQ hx,BQ hy,O7 ih h]
    | none=>rw[hy] at h;cases h
   | none=>rw[hx] at h;exact aR h
theorem lV {es:List EO} {seen:List Nat} {z:Option Value} {f:EO→Option Value} {v:Value} (h:Sn es seen z f=some v) (hl:IY es seen=[]):z=some v:=by
 unfold Sn at h
 rw[hl] at h;exact h
theorem lW {es:List EO} {seen:List Nat} {z:Option Value} {f:EO→Option Value} {v:Value} (h:Sn es seen z f=some v) {e:EO} (he:e∈IY es seen):f e=some v:=by
 unfold Sn at h
 cases hl:IY es seen with
 | nil=>rw[hl] at he;cases he
 | cons a r =>
  rw[hl] at he h
  replace h:(oo (f a) none fun v=>bb (Au (fun e'=>oo (f e') false fun v'=>Jg 6 v v') r) (some v) none)=some v:=h
  obtain⟨u,hu,h⟩:=Ab h
  obtain⟨h1,h2⟩:=Ae h
  injection h2 with h2
  subst h2
  rcases List.mem_cons.1 he with rfl | he
  ·exact hu
  ·have:=(List.all_eq_true.1 (by rw[←Bh];exact h1)) e he
   cases hf:f e with
   | none=>rw[hf] at this;cases this
   | some w=>rw[hf,Ac] at this;rw[R8 _ _ _ this]
end Go.Sp
namespace Go.Sp
end Go.Sp
namespace Go.Sp
end Go.Sp
namespace Go.Sp
noncomputable section
end
section
variable {P:Program} {tt:TT} {tabs:List (List Value)}
end
end Go.Sp
namespace Go.Sp
noncomputable section
end
theorem Quiet.refl (n0:Nat) (H:Aa):Quiet n0 H H:=fun _ _ _ R _ _ _ hp=>⟨R,R.le_refl,rfl,hp⟩
theorem Quiet.trans {n0:Nat} {H H1 H2:Aa} (h:Quiet n0 H H1) (h':Quiet n0 H1 H2):Quiet n0 H H2:=fun H0 R0 w0 R w hs hn hp=>by
 obtain⟨R1,a1,a2,a3⟩:=h H0 R0 w0 R w hs hn hp
 obtain⟨R2,b1,b2,b3⟩:=h' H0 R0 w0 R1 w hs hn a3
 exact⟨R2,Ren.le_trans a1 b1,b2.trans a2,b3⟩
theorem Quiet.tell {n0:Nat} {H H1:Aa} (h:Quiet n0 H H1) (v:Value):FU n0 H v H1 v:=fun H0 R0 w0 R w _ hs hn hp hv=>by
 obtain⟨R1,a1,a2,a3⟩:=h H0 R0 w0 R w hs hn hp
 exact⟨R1,a1,a2,a3,hv.mono a1⟩
theorem FU.trans {n0:Nat} {H H1 H2:Aa} {v v1 v2:Value} (h:FU n0 H v H1 v1) (h':FU n0 H1 v1 H2 v2):FU n0 H v H2 v2:=fun H0 R0 w0 R w u hs hn hp hv=>by
 obtain⟨R1,a1,a2,a3,a4⟩:=h H0 R0 w0 R w u hs hn hp hv
 obtain⟨R2,b1,b2,b3,b4⟩:=h' H0 R0 w0 R1 w u hs hn a3 a4
 exact⟨R2,Ren.le_trans a1 b1,b2.trans a2,b3,b4⟩
theorem Mr.len {n0:Nat} {H H1:Aa} {l l':List Value} (h:Mr n0 H l H1 l'):l'.length=l.length:=by
 induction h with
 | nil=>rfl
 | cons _ _ ih=>simp[ih]
structure AdB (n0:Nat) (av:List Nat) (H:Aa) (v:Value) (H':Aa) (v':Value):Prop where
 tell:FU n0 H v H' v'
 quiet:Quiet n0 H H'
 keep:∀ i,ED i av=true→H'.get i=H.get i
section
variable {P:Program} {tt:TT} {tabs:List (List Value)}
end
end Go.Sp
namespace Go.Sp

theorem Quiet.dead {n0:Nat} {H:Aa} {id:Nat} {xs:List Value} {spent:Bool} {anc:List Nat} (h1:H.get id = .cells xs false spent anc):Quiet n0 H (H.set id .dead):=fun H0 R0 w0 R w hs0 _ hp=>by
 have hs:=hp.sim
 have hget:∀ i,(H.set id .dead).get i=if id=i then .dead else H.get i:=fun i=>Aa.get_set _ _ _ _
 have hwr:∀ i,(H.get i).writable=false→((H.set id .dead).get i).writable=false:=fun i h=>by
  rw[hget];split
  ·rfl
  ·exact h
 refine ⟨R, R.le_refl, rfl, hp.le, hp.new, ⟨fun i c β h => by rw [Aa.next_set]; exact hs.dom i c β h, fun i c β h => ?_, fun i c β i' β' h h' hne hw => ?_, fun i a ha => ?_, fun i hi => ?_, fun c C h => ⟨(hs.ro c C h).1, fun i β h' => hwr i ((hs.ro c C h).2 i β h')⟩⟩,
  by rw[Aa.next_set];exact hp.next,hp.grow,hp.frame,fun i hi hr Q c β ob h=>?_,fun i hi h=>?_,hp.fresh,hp.side,hp.rofresh⟩
 ·rw[hget];split
  ·trivial
  ·exact hs.obj i c β h
 ·rw[hget] at hw
  split at hw
  ·cases hw
  ·rename_i he
   rw[hget i']
   split
   ·exact .inl rfl
   ·rw [hget i, if_neg he]; exact hs.sep i c β i' β' h h' hne hw
 ·rw[hget] at ha
  split at ha
  ·cases ha
  ·obtain⟨h1,h2,h3⟩:=hs.anc i a ha
   refine⟨by rw[Aa.next_set];exact h1,?_,hwr a h3⟩
   rw[hget];split
   ·rfl
   ·exact h2
 ·rw[Aa.next_set] at hi
  rw[hget];split
  ·rfl
  ·exact hs.wf i hi
 ·rw[hget];split
  ·trivial
  ·exact hp.calm i hi hr Q c β ob h
 ·rw[hget];split
  ·rename_i he
   subst he
   have:=hp.imm id hi h
   rw[h1] at this
   rw[←this] at h;cases h
  ·exact hp.imm i hi h
theorem Quiet.push {n0:Nat} {H:Aa} {o:AJ} (h:o.ancOf=[]):Quiet n0 H (H.push o):=fun H0 R0 w0 R w _ _ hp=>⟨R,R.le_refl,rfl,hp.absPush h⟩

section
variable {n0:Nat}
end
end Go.Sp
namespace Go.Sp
open Go.Sort

noncomputable section
def O8 (z:Int):Value:=.int .i64 z
end

theorem lX (l:List Int):AP O8 l=l.map O8:=by
 induction l with
 | nil=>rfl
 | cons x l ih=>show O8 x::AP O8 l=_;rw[ih];rfl
section
variable {P:Program} {g:FuncId}

end

end Go.Sp
namespace Go.BkQ
open Go Go.Sp
noncomputable section
def IV (z:Int):Value:=.int .i64 z
def zW (rows cols t r c:Nat):Nat×Nat:=
 bb (Nat.beq t 1) (rows - 1 - c, r) (bb (Nat.beq t 2) (rows - 1 - r, cols - 1 - c) (bb (Nat.beq t 3) (c, cols - 1 - r) (bb (Nat.beq t 4) (r, cols - 1 - c)
  (bb (Nat.beq t 5) (rows - 1 - r,c) (bb (Nat.beq t 6) (c,r) (bb (Nat.beq t 7) (rows - 1 - c,cols - 1 - r) (r,c)))))))
def zX (rows cols t i:Nat):Nat:=Nat.rec (motive:=fun _=>Nat) 0 (fun _ _=>pp (zW rows cols t (i / cols) (i % cols)) fun r c=>r*cols+c) cols
def upN (n:Nat):List Nat:=Nat.rec (motive:=fun _=>List Nat) [] (fun k ih=>Br ih [k]) n
def cellL (rows cols t:Nat):List Nat:=AP (zX rows cols t) (upN (rows*cols))
def nvL (l:List Nat):List Value:=AP (fun n=>IV (.ofNat n)) l
def WH (l:List Nat):Value:=FP 1 (len l) 0 (nvL l)
def triples:List (Nat×Nat×Nat):=[(1,1,0),(1,1,1),(1,1,2),(1,1,3),(1,1,4),(1,1,5),(1,1,6),(1,1,7),(1,2,0),(1,2,2),(1,2,4),(1,2,5),(1,3,0),(1,3,2),(1,3,4),(1,3,5),(1,4,0),(1,4,2),(1,4,4),(1,4,5),(2,1,0),(2,1,2),(2,1,4),(2,1,5),(2,2,0),(2,2,1),(2,2,2),(2,2,3),(2,2,4),(2,2,5),(2,2,6),(2,2,7),(2,3,0),(2,3,2),(2,3,4),(2,3,5),(2,4,0),(2,4,2),(2,4,4),(2,4,5),(3,1,0),(3,1,2),(3,1,4),(3,1,5),(3,2,0),(3,2,2),(3,2,4),(3,2,5),(3,3,0),(3,3,1),(3,3,2),(3,3,3),(3,3,4),(3,3,5),(3,3,6),(3,3,7),(3,4,0),(3,4,2),(3,4,4),(3,4,5),(4,1,0),(4,1,2),(4,1,4),(4,1,5),(4,2,0),(4,2,2),(4,2,4),(4,2,5),(4,3,0),(4,3,2),(4,3,4),(4,3,5),(4,4,0),(4,4,1),(4,4,2),(4,4,3),(4,4,4),(4,4,5),(4,4,6),(4,4,7)]
def lY (l:List (Nat×Nat×Nat)) (r c t:Nat):Bool:=List.rec (motive:=fun _=>Bool) false (fun p _ ih=>Dp (an (Nat.beq p.1 r) (an (Nat.beq p.2.1 c) (Nat.beq p.2.2 t))) ih) l
def cellsM (args : List Value) : Option Value := ll args none fun a r => ll r none fun b r => ll r (oo (Bt a) none fun l => ll l none fun v1 l => ll l none fun v2 l => ll l none fun v3 l => ll l none fun v4 l => ll l
 (oo (Bi .i64 v1) none fun z1 => oo (EA z1) none fun rows => oo (Bi .i64 v2) none fun z2 => oo (EA z2) none fun cols => oo (Bi .i64 b) none fun z3 => oo (EA z3) none fun t =>
   bb (lY triples rows cols t) (some (WH (cellL rows cols t))) none) fun _ _=>none) fun _ _=>none
def Fp (args:List Value):Option Value:=ll args (some (.bool true)) fun _ _=>none
end
theorem WI {a b:Bool} (h:Dp a b=true):a=true∨b=true:=by
 cases a with
 | true=>exact .inl rfl
 | false=>exact .inr h
theorem Sq {l:List (Nat×Nat×Nat)} {r c t:Nat} (h:lY l r c t=true):(r,c,t)∈l:=by
 induction l with
 | nil=>cases h
 | cons p l ih =>
  rcases WI (show Dp (an (Nat.beq p.1 r) (an (Nat.beq p.2.1 c) (Nat.beq p.2.2 t))) (lY l r c t)=true from h) with h | h
  ·obtain⟨h1,h⟩:=Av h
   obtain⟨h2,h3⟩:=Av h
   obtain⟨p1,p2,p3⟩:=p
   have h1:p1=r:=Nat.eq_of_beq_eq_true h1
   have h2:p2=c:=Nat.eq_of_beq_eq_true h2
   have h3:p3=t:=Nat.eq_of_beq_eq_true h3
   subst h1;subst h2;subst h3
   exact List.mem_cons_self
  ·exact List.mem_cons_of_mem _ (ih h)
theorem Pq {args:List Value} {v:Value} (h:cellsM args=some v):∃ r c t v3 v4,args=[.agg ⟨[IV (.ofNat r),IV (.ofNat c),v3,v4]⟩,IV (.ofNat t)]∧(r,c,t)∈triples∧v=WH (cellL r c t):=by
 replace h:=Ad h;obtain⟨a,r1,rfl,h⟩:=h
 replace h:=Ad h;obtain⟨b,r2,rfl,h⟩:=h
 replace h:=AC h;obtain⟨rfl,h⟩:=h
 replace h:=Ab h;obtain⟨l,hl,h⟩:=h
 replace h:=Ad h;obtain⟨v1,l1,rfl,h⟩:=h
 replace h:=Ad h;obtain⟨v2,l2,rfl,h⟩:=h
 replace h:=Ad h;obtain⟨v3,l3,rfl,h⟩:=h
 replace h:=Ad h;obtain⟨v4,l4,rfl,h⟩:=h
 replace h:=AC h;obtain⟨rfl,h⟩:=h
 replace h:=Ab h;obtain⟨z1,h1,h⟩:=h
 replace h:=Ab h;obtain⟨r,h2,h⟩:=h
 replace h:=Ab h;obtain⟨z2,h3,h⟩:=h
 replace h:=Ab h;obtain⟨c,h4,h⟩:=h
 replace h:=Ab h;obtain⟨z3,h5,h⟩:=h
 replace h:=Ab h;obtain⟨t,h6,h⟩:=h
 replace h:=Ae h;obtain⟨hc,h⟩:=h
 injection h with h
 refine⟨r,c,t,v3,v4,?_,Sq hc,h.symm⟩
 rw[BQ hl,Eh h1,Eh h3,Eh h5,AR h2,AR h4,AR h6];rfl
end Go.BkQ
set_option maxRecDepth 100000
namespace Go.TpD
open Go.Sp
def AdC:RC:=.reg [] [Ap 15 0 5,rq 16 (.convert 5 3 (tp 15)) 3,rq 17 (.binOp .rem 3 (tp 16) (ki 5) 3) 3,rq 18 (.binOp .add 3 (ki 1) (tp 17) 3) 3,Ap 19 1 22,rq 20 (cf 10 #[tp 18,tp 19] #[3,22]) 23,AQ 5 20 23]
def AdD:RC:=.reg [] [Ap 21 5 23,EN 22 21 23,rq 23 (.move (ki 0)) 3]
def AdE:RC:=.reg [] [Ap 26 6 23,Ap 27 7 3,rq 28 (.buildSlice 23 1 #[(0,(tp 27))]) 23,rq 29 (cb .append #[tp 26,tp 28] #[23,23]) 23,AQ 6 29 23]
def AdF:RC:=.block 1 (.seq (.reg [] [Ap 25 23 3,AQ 7 25 3]) AdE)
def zZ:RC:=.reg [] [FB 30 23,Ap 23 30 3]
def Aaa:RC:=.seq (.reg [] [L8 24 23 22]) (.seq (.cond (tp 24) .skip (.exit 0)) (.seq AdF zZ))
def Aab:RC:=.reg [] [Ap 31 5 23,EN 32 31 23,Ap 33 5 23,Ap 34 6 23,rq 35 (.build 26 #[(0,(tp 32)),(1,(tp 33)),(2,(tp 34))]) 26,rq 8 (.alloc 26) 0,rn (.store 26 (tp 8) (tp 35)) 0]
def Aac:RC:=.reg [] [Ap 37 5 23,rq 38 (cf 11 #[tp 37] #[23]) 28,Ap 36 38 28,EM 39 36 0 23,EM 40 36 1 27,AQ 9 39 23,AQ 10 40 27]
def Aad:RC:=.reg [] [Ce 42 8 26,rq 43 (cf 12 #[tp 42] #[26]) 30,Ap 41 43 30,EM 44 41 0 3,EM 45 41 1 27,AQ 11 44 3,AQ 12 45 27]
def Aae:RC:=.reg [] [Ce 47 8 26,rq 48 (cf 13 #[tp 47] #[26]) 30,Ap 46 48 30,EM 49 46 0 3,EM 50 46 1 27,AQ 13 49 3,AQ 14 50 27]
def Aaf:RC:=.reg [] [Ap 51 10 27,rq 52 (.binOp .eql 27 (tp 51) (ki 0) 27) 4,Ap 53 52 4,DD 54 12 27 53 true,rg 55 (.binOp .eql 27 (tp 54) (ki 0) 27) 4 53 true,rq 56 (.pick (tp 53) (tp 55) (kb false)) 4,Ap 57 56 4,DD 58 14 27 57 true,rg 59 (.binOp .eql 27 (tp 58) (ki 0) 27) 4 57 true,rq 60 (.pick (tp 57) (tp 59) (kb false)) 4,Ap 61 60 4,DD 62 9 23 61 true,rg 63 (cb .len #[tp 62] #[23]) 3 61 true,DD 64 11 3 61 true,rg 65 (.binOp .leq 3 (tp 63) (tp 64) 3) 4 61 true,rq 66 (.pick (tp 61) (tp 65) (kb false)) 4,Ap 67 66 4,DD 68 9 23 67 true,rg 69 (cb .len #[tp 68] #[23]) 3 67 true,DD 70 13 3 67 true,rg 71 (.binOp .mul 3 (ki 2) (tp 70) 3) 3 67 true,rg 72 (.binOp .leq 3 (tp 69) (tp 71) 3) 4 67 true,rq 73 (.pick (tp 67) (tp 72) (kb false)) 4,Ap 74 73 4,DD 75 9 23 74 true,rg 76 (cb .len #[tp 75] #[23]) 3 74 true,rg 77 (.binOp .eql 3 (tp 76) (ki 0) 3) 4 74 true,DD 78 13 3 74 true,rg 79 (.binOp .eql 3 (tp 78) (ki 0) 3) 4 74 true,rg 80 (.binOp .eql 4 (tp 77) (tp 79) 4) 4 74 true,rq 81 (.pick (tp 74) (tp 80) (kb false)) 4,Ap 82 81 4,rg 83 (cf 14 #[] #[]) 4 82 true,rq 84 (.pick (tp 82) (tp 83) (kb false)) 4,AQ 4 84 4]
def fM:RC:=.seq Aab (.seq Aac (.seq Aad (.seq Aae (.seq Aaf .ret))))
def Aag:RC:=.seq (.reg [] [rq 6 (.assign (.const (.slice none 0 0))) 23]) (.seq (.seq AdD (.block 0 (.loop Aaa))) fM)
def Qw:RC:=.seq (.reg [] [rq 4 (.assign (kb false)) 4]) (.seq AdC Aag)
def Aah:RC:=.reg [] [rq 5 (.assign (.const (.slice none 0 0))) 23,rq 6 (.assign (.const (.slice none 0 0))) 23]
def Aai:RC:=.reg [] [Ap 14 5 23,Ap 15 7 3,rq 16 (.buildSlice 23 1 #[(0,(tp 15))]) 23,rq 17 (cb .append #[tp 14,tp 16] #[23,23]) 23,AQ 5 17 23]
def Aaj:RC:=.seq (.reg [] [Ap 13 11 3,AQ 7 13 3]) Aai
def Aak:RC:=.reg [] [FB 18 11,Ap 11 18 3]
def lZ:RC:=.seq (.reg [] [rq 12 (.binOp .lss 3 (tp 11) (tp 10) 3) 4]) (.seq (.cond (tp 12) .skip (.exit 0)) (.seq (.block 1 Aaj) Aak))
def mD:RC:=.seq (.reg [] [Ap 10 0 3,rq 11 (.move (ki 0)) 3]) (.block 0 (.loop lZ))
def mE:RC:=.reg [] [Ap 19 5 23,EN 20 19 23,rq 21 (.binOp .gtr 3 (tp 20) (ki 0) 3) 4]
def mK:RC:=.reg [] [Ap 24 8 3,Ap 25 1 22,EN 26 25 22,rq 27 (.binOp .lss 3 (tp 24) (tp 26) 3) 4]
def mM:RC:=.reg [] [Ap 28 1 22,Ap 29 8 3,D5 30 22 28 29,Ce 31 30 5,rq 32 (.convert 5 3 (tp 31)) 3,Ap 33 5 23,EN 34 33 23,rq 35 (.binOp .rem 3 (tp 32) (tp 34) 3) 3,AQ 9 35 3]
def mO:RC:=.reg [] [Ap 36 6 23,Ap 37 5 23,Ap 38 9 3,D5 39 23 37 38,Ce 40 39 3,rq 41 (.buildSlice 23 1 #[(0,(tp 40))]) 23,rq 42 (cb .append #[tp 36,tp 41] #[23,23]) 23,AQ 6 42 23]
def mP:RC:=.reg [0,1,2,3,5,6,7,8,4,9,10] [rq 43 (.buildSlice 23 0 #[]) 23,Ap 44 5 23,Ap 45 9 3,rq 46 (.slice 23 (tp 44) none (some (tp 45)) none) 23,Ap 48 5 23,Ap 49 9 3,FB 50 49,rq 51 (.slice 23 (tp 48) (some (tp 50)) none none) 23,⟨(some 47),cb .append #[tp 43,tp 46] #[23,23],23,none,[(tp 48)]⟩,rq 52 (cb .append #[tp 47,tp 51] #[23,23]) 23,AQ 5 52 23]
def mQ:RC:=.seq (.reg [] [Cz 9 0 3]) (.seq (.seq mK (.cond (tp 27) mM .skip)) (.seq mO mP))
def nD:RC:=.reg [] [Ap 22 8 3,FB 23 22,AQ 8 23 3]
def nG:RC:=.seq (.seq mE (.cond (tp 21) .skip (.exit 2))) (.seq (.block 3 mQ) nD)
def Sz:RC:=.seq (.reg [] [Ap 53 6 23,AQ 4 53 23]) .ret
def SA:RC:=.seq (.seq (.reg [] [Cz 8 0 3]) (.block 2 (.loop nG))) Sz
def Nf:RC:=.seq (.reg [] [rq 4 (.assign (.const (.slice none 0 0))) 23]) (.seq Aah (.seq mD SA))
def Aal:RC:=.reg [] [rq 2 (.assign (.const (.slice none 0 0))) 23,Cz 3 0 27]
def Aam:RC:=.reg [] [Ap 17 0 23,rq 18 (cf 45 #[tp 17] #[23]) 27,AQ 4 18 27]
def Aan:RC:=.reg [] [Ap 19 4 27,rq 20 (.binOp .neq 27 (tp 19) (ki 0) 27) 4]
def Aao:RC:=.reg [] [Ap 21 4 27,rq 2 (.assign (.const (.slice none 0 0))) 23,AQ 3 21 27]
def Aap:RC:=.reg [] [Ap 22 0 23,EN 23 22 23,rq 24 (.makeSlice 23 (tp 23) (tp 23)) 23,AQ 5 24 23]
def Aaq:RC:=.reg [] [Ap 25 0 23,EN 26 25 23,rq 27 (.move (ki 0)) 3]
def nH:RC:=.reg [] [Ap 29 27 3,D5 30 23 25 27,Ce 31 30 3,AQ 6 29 3,AQ 7 31 3]
def nI:RC:=.reg [] [Ap 32 5 23,Ap 33 7 3,Ap 34 6 3,D5 35 23 32 33,rn (.store 3 (tp 35) (tp 34)) 0]
def nJ:RC:=.reg [] [FB 36 27,Ap 27 36 3]
def nK:RC:=.seq (.cond (tp 28) .skip (.exit 0)) (.seq (.block 1 (.seq nH nI)) nJ)
def nL:RC:=.loop (.seq (.reg [] [L8 28 27 26]) nK)
def nM:RC:=.reg [] [Ap 37 0 23,EN 38 37 23,rq 39 (.makeSlice 23 (tp 38) (tp 38)) 23,AQ 8 39 23]
def nN:RC:=.reg [] [Ap 40 0 23,EN 41 40 23,rq 42 (.binOp .sub 3 (tp 41) (ki 1) 3) 3,AQ 9 42 3]
def nO:RC:=.reg [] [Ap 43 9 3,rq 44 (.binOp .geq 3 (tp 43) (ki 0) 3) 4]
def nP:RC:=.reg [] [Ap 47 8 23,Ap 48 9 3,D5 49 23 47 48,rn (.store 3 (tp 49) (ki 1)) 0]
def nQ:RC:=.reg [] [Ap 50 9 3,FB 51 50,AQ 10 51 3]
def nR:RC:=.reg [] [Ap 52 10 3,Ap 53 0 23,EN 54 53 23,rq 55 (.binOp .lss 3 (tp 52) (tp 54) 3) 4]
def nS:RC:=.reg [0,1,2,3,4,5,6,7,8] [Ap 58 5 23,Ap 59 9 3,D5 60 23 58 59,Ce 61 60 3,Ap 62 5 23,Ap 63 10 3,D5 64 23 62 63,Ce 65 64 3,rq 66 (.binOp .lss 3 (tp 61) (tp 65) 3) 4]
def nT:RC:=.reg [0,1,2,3,4,5,6,7,8,9,10,11,12,13] [Ap 67 8 23,Ap 68 9 3,Ap 69 8 23,Ap 70 9 3,D5 71 23 69 70,Ce 72 71 3,Ap 73 8 23,Ap 74 10 3,D5 75 23 73 74,Ce 76 75 3,rq 77 (.binOp .add 3 (ki 1) (tp 76) 3) 3,rq 78 (cb .max #[tp 72,tp 77] #[3,3]) 3,D5 79 23 67 68,rn (.store 3 (tp 79) (tp 78)) 0]
def nU:RC:=.reg [] [Ap 56 10 3,FB 57 56,AQ 10 57 3]
def nV:RC:=.seq (.seq nR (.cond (tp 55) .skip (.exit 4))) (.seq (.block 5 (.seq nS (.cond (tp 66) nT .skip))) nU)
def nW:RC:=.reg [] [Ap 45 9 3,rq 46 (.binOp .sub 3 (tp 45) (ki 1) 3) 3,AQ 9 46 3]
def nX:RC:=.seq (.block 3 (.seq nP (.seq nQ (.block 4 (.loop nV))))) nW
def nY:RC:=.block 2 (.loop (.seq (.seq nO (.cond (tp 44) .skip (.exit 2))) nX))
def nZ:RC:=.reg [] [Ap 80 8 23,rq 81 (cf 46 #[tp 80] #[23]) 3,AQ 12 81 3,rq 13 (.assign (ki (-1))) 3]
def oD:RC:=.reg [] [Ap 82 0 23,EN 83 82 23,rq 84 (.move (ki 0)) 3]
def oF:RC:=.reg [] [Ap 87 12 3,rq 88 (.binOp .eql 3 (tp 87) (ki 0) 3) 4,AQ 15 88 4]
def oG:RC:=.reg [] [Ap 89 14 3,FB 90 89,AQ 16 90 3]
def oH:RC:=.reg [] [Ap 91 16 3,Ap 92 0 23,EN 93 92 23,rq 94 (.binOp .lss 3 (tp 91) (tp 93) 3) 4]
def oI:RC:=.reg [] [Ap 97 15 4,Ap 98 97 4,DD 99 8 23 98 false,DD 100 16 3 98 false,rg 101 (.indexAddr 23 (tp 99) (tp 100)) 0 98 false,rg 102 (.load 3 (tp 101)) 3 98 false,DD 103 12 3 98 false,rg 104 (.binOp .eql 3 (tp 102) (tp 103) 3) 4 98 false,DD 105 104 4 98 false,DD 106 5 23 105 true,DD 107 16 3 105 true,rg 108 (.indexAddr 23 (tp 106) (tp 107)) 0 105 true,rg 109 (.load 3 (tp 108)) 3 105 true,DD 110 13 3 105 true,rg 111 (.binOp .gtr 3 (tp 109) (tp 110) 3) 4 105 true,rg 112 (.pick (tp 105) (tp 111) (kb false)) 4 98 false,rq 113 (.pick (tp 98) (kb true) (tp 112)) 4,AQ 15 113 4]
def oJ:RC:=.reg [] [Ap 95 16 3,FB 96 95,AQ 16 96 3]
def oK:RC:=.seq (.seq oH (.cond (tp 94) .skip (.exit 8))) (.seq (.block 9 oI) oJ)
def oL:RC:=.reg [] [Ap 114 15 4,Ap 115 114 4,DD 116 8 23 115 false,DD 117 14 3 115 false,rg 118 (.indexAddr 23 (tp 116) (tp 117)) 0 115 false,rg 119 (.load 3 (tp 118)) 3 115 false,DD 120 12 3 115 false,rg 121 (.binOp .neq 3 (tp 119) (tp 120) 3) 4 115 false,rq 122 (.pick (tp 115) (kb true) (tp 121)) 4,Ap 123 122 4,DD 124 5 23 123 false,DD 125 14 3 123 false,rg 126 (.indexAddr 23 (tp 124) (tp 125)) 0 123 false,rg 127 (.load 3 (tp 126)) 3 123 false,DD 128 13 3 123 false,rg 129 (.binOp .lss 3 (tp 127) (tp 128) 3) 4 123 false,rq 130 (.pick (tp 123) (kb true) (tp 129)) 4]
def oM:RC:=.reg [] [Ap 131 11 23,Ap 132 14 3,rq 133 (.buildSlice 23 1 #[(0,(tp 132))]) 23,rq 134 (cb .append #[tp 131,tp 133] #[23,23]) 23,AQ 11 134 23]
def oN:RC:=.reg [0,1,2,3,4,5,6,7] [Ap 135 12 3,rq 136 (.binOp .sub 3 (tp 135) (ki 1) 3) 3,Ap 137 5 23,Ap 138 14 3,D5 139 23 137 138,Ce 140 139 3,AQ 12 136 3,AQ 13 140 3]
def oO:RC:=.seq (.seq oL (.cond (tp 130) (.seq oM (.exit 7)) .skip)) oN
def oP:RC:=.seq (.reg [] [Ap 86 84 3,AQ 14 86 3]) (.seq oF (.seq (.seq oG (.block 8 (.loop oK))) oO))
def oQ:RC:=.reg [] [FB 141 84,Ap 84 141 3]
def oU:RC:=.seq (.reg [] [L8 85 84 83]) (.seq (.cond (tp 85) .skip (.exit 6)) (.seq (.block 7 oP) oQ))
def oV:RC:=.reg [] [Ap 142 11 23,AQ 2 142 23,Cz 3 0 27]
def SB:RC:=.seq oV .ret
def SC:RC:=.seq (.reg [] [rq 11 (.assign (.const (.slice none 0 0))) 23]) (.seq nZ (.seq (.seq oD (.block 6 (.loop oU))) SB))
def SE:RC:=.seq nM (.seq (.seq nN nY) SC)
def oW:RC:=.seq (.seq Aam (.seq Aan (.cond (tp 20) (.seq Aao .ret) .skip))) (.seq Aap (.seq (.seq Aaq (.block 0 nL)) SE))
def Ng:RC:=.seq Aal oW
def Aar:RC:=.reg [] [rq 1 (.box 26 (tp 0)) 0,Cz 2 0 3,Cz 3 0 27]
def Aas:RC:=.reg [] [Ce 5 1 26,rq 6 (cf 47 #[tp 5] #[26]) 27,AQ 4 6 27]
def Aat:RC:=.reg [] [Ap 7 4 27,rq 8 (.binOp .neq 27 (tp 7) (ki 0) 27) 4]
def Aau:RC:=.reg [] [Ap 9 4 27,Cz 2 0 3,AQ 3 9 27]
def Aav:RC:=.reg [] [Ce 10 1 26,rq 11 (cf 49 #[tp 10] #[26]) 3,AQ 2 11 3,Cz 3 0 27]
def oZ:RC:=.seq (.seq Aas (.seq Aat (.cond (tp 8) (.seq Aau .ret) .skip))) (.seq Aav .ret)
def Nh:RC:=.seq Aar oZ
def Aaw:RC:=.reg [] [Ap 4 0 23,EN 5 4 23,rq 6 (.binOp .eql 3 (tp 5) (ki 0) 3) 4,AQ 3 6 4]
def Aax:RC:=.reg [] [Ap 8 0 23,EN 9 8 23,rq 10 (.binOp .gtr 3 (tp 9) (ki 9) 3) 4,AQ 7 10 4]
def Aay:RC:=.seq Aax (.cond (tp 7) (.seq (.reg [] [Cz 2 3 27]) .ret) .skip)
def pE:RC:=.seq Aaw (.cond (tp 3) (.seq (.reg [] [Cz 2 4 27]) .ret) Aay)
def pF:RC:=.reg [] [Ap 11 0 23,rq 12 (cf 104 #[tp 11] #[23]) 27,AQ 2 12 27]
def Ni:RC:=.seq (.reg [] [Cz 2 0 27]) (.seq (.block 0 pE) (.seq pF .ret))
def Aaz:RC:=.reg [] [DR 8 26 1 0,Ce 9 8 3,rq 10 (cf 105 #[ki 1,tp 9,ki 5] #[3,3,3]) 4,rq 11 (.unOp .not 4 (tp 10)) 4,AQ 7 11 4]
def AaA:RC:=.reg [] [DR 13 26 1 1,Ce 14 13 23,EN 15 14 23,rq 16 (.binOp .eql 3 (tp 15) (ki 0) 3) 4,AQ 12 16 4]
def AaB:RC:=.reg [] [DR 18 26 1 1,Ce 19 18 23,EN 20 19 23,rq 21 (.binOp .gtr 3 (tp 20) (ki 10) 3) 4,AQ 17 21 4]
def pG:RC:=.reg [] [DR 23 26 1 2,Ce 24 23 23,EN 25 24 23,DR 26 26 1 1,Ce 27 26 23,EN 28 27 23,rq 29 (.binOp .neq 3 (tp 25) (tp 28) 3) 4,AQ 22 29 4]
def pI:RC:=.seq pG (.cond (tp 22) (.seq (.reg [] [Cz 2 5 27]) .ret) .skip)
def pJ:RC:=.seq AaB (.cond (tp 17) (.seq (.reg [] [Cz 2 3 27]) .ret) pI)
def pK:RC:=.seq AaA (.cond (tp 12) (.seq (.reg [] [Cz 2 4 27]) .ret) pJ)
def pM:RC:=.seq Aaz (.cond (tp 7) (.seq (.reg [] [Cz 2 1 27]) .ret) pK)
def pO:RC:=.reg [] [DR 30 26 1 1,Ce 31 30 23,EN 32 31 23,rq 33 (.move (ki 0)) 3]
def pQ:RC:=.reg [] [Ap 35 33 3,D5 36 23 31 33,Ce 37 36 3,AQ 4 35 3,AQ 5 37 3]
def pR:RC:=.reg [] [DR 38 26 1 2,Ce 39 38 23,Ap 40 4 3,D5 41 23 39 40,Ce 42 41 3,AQ 6 42 3]
def pV:RC:=.reg [] [Ap 43 5 3,Ap 44 6 3,rq 45 (cb .min #[tp 43,tp 44] #[3,3]) 3,DR 46 26 1 0,Ce 47 46 3,rq 48 (.binOp .sub 3 (tp 47) (ki 1) 3) 3,rq 49 (cf 105 #[ki 0,tp 45,tp 48] #[3,3,3]) 4,rq 50 (.unOp .not 4 (tp 49)) 4,Ap 51 50 4,DD 52 5 3 51 false,DD 53 6 3 51 false,rg 54 (cb .max #[tp 52,tp 53] #[3,3]) 3 51 false,rg 55 (.fieldAddr 26 (tp 1) 0) 0 51 false,rg 56 (.load 3 (tp 55)) 3 51 false,rg 57 (.binOp .geq 3 (tp 54) (tp 56) 3) 4 51 false,rq 58 (.pick (tp 51) (kb true) (tp 57)) 4]
def pW:RC:=.seq pV (.cond (tp 58) (.seq (.reg [] [Cz 2 2 27]) .ret) .skip)
def pX:RC:=.reg [] [Ap 59 5 3,D5 60 152 3 59,Ce 61 60 3,FB 62 61,D5 63 152 3 59,rn (.store 3 (tp 63) (tp 62)) 0]
def pY:RC:=.reg [] [Ap 64 6 3,D5 65 152 3 64,Ce 66 65 3,rq 67 (.binOp .sub 3 (tp 66) (ki 1) 3) 3,D5 68 152 3 64,rn (.store 3 (tp 68) (tp 67)) 0]
def qB:RC:=.block 2 (.seq pQ (.seq pR (.seq pW (.seq pX pY))))
def qC:RC:=.reg [] [FB 69 33,Ap 33 69 3]
def qR:RC:=.seq (.reg [] [L8 34 33 32]) (.seq (.cond (tp 34) .skip (.exit 1)) (.seq qB qC))
def qU:RC:=.reg [] [Ce 70 3 152,rq 71 (.build 152 #[]) 152,rq 72 (.binOp .neq 152 (tp 70) (tp 71) 152) 4]
def qV:RC:=.seq qU (.cond (tp 72) (.seq (.reg [] [Cz 2 17 27]) .ret) .skip)
def SF:RC:=.seq qV (.seq (.reg [] [Cz 2 0 27]) .ret)
def qW:RC:=.seq (.reg [] [rq 3 (.alloc 152) 0]) (.seq (.seq pO (.block 1 (.loop qR))) SF)
def Oi:RC:=.seq (.reg [] [rq 1 (.box 26 (tp 0)) 0,Cz 2 0 27]) (.seq (.block 0 pM) qW)
def AaC:RC:=.reg [] [rq 1 (.box 26 (tp 0)) 0,rq 2 (.assign (.const (.slice none 0 0))) 23]
def AaD:RC:=.reg [] [DR 9 26 1 1,Ce 10 9 23,EN 11 10 23,rq 12 (.move (ki 0)) 3]
def AaE:RC:=.reg [] [Ap 14 12 3,D5 15 23 10 12,Ce 16 15 3,AQ 4 14 3,AQ 5 16 3]
def AaF:RC:=.reg [] [Ap 17 5 3,Ap 18 5 3,D5 19 153 3 18,Ce 20 19 23,Ap 21 4 3,rq 22 (.buildSlice 23 1 #[(0,(tp 21))]) 23,rq 23 (cb .append #[tp 20,tp 22] #[23,23]) 23,D5 24 153 3 17,rn (.store 23 (tp 24) (tp 23)) 0]
def AaG:RC:=.reg [] [FB 25 12,Ap 12 25 3]
def qX:RC:=.seq (.cond (tp 13) .skip (.exit 0)) (.seq (.block 1 (.seq AaE AaF)) AaG)
def rA:RC:=.loop (.seq (.reg [] [L8 13 12 11]) qX)
def rC:RC:=.reg [] [DR 26 26 1 2,Ce 27 26 23,EN 28 27 23,rq 29 (.move (ki 0)) 3]
def rD:RC:=.reg [] [D5 31 23 27 29,Ce 32 31 3,AQ 8 32 3]
def rE:RC:=.reg [0,1,2,3,4,5,6,7,9,10,11,12,8,13,14,15] [Ap 33 8 3,Ap 34 6 23,Ap 35 8 3,D5 36 153 3 35,Ce 37 36 23,rq 38 (.indexAddr 23 (tp 37) (ki 0)) 0,Ce 39 38 3,rq 40 (.buildSlice 23 1 #[(0,(tp 39))]) 23,Ap 42 8 3,D5 43 153 3 42,Ce 44 43 23,rq 45 (.slice 23 (tp 44) (some (ki 1)) none none) 23,⟨(some 41),cb .append #[tp 34,tp 40] #[23,23],23,none,[(tp 44),(tp 43)]⟩,AQ 6 41 23,D5 46 153 3 33,rn (.store 23 (tp 46) (tp 45)) 0]
def rF:RC:=.reg [] [FB 47 29,Ap 29 47 3]
def rG:RC:=.seq (.cond (tp 30) .skip (.exit 2)) (.seq (.block 3 (.seq rD rE)) rF)
def rH:RC:=.loop (.seq (.reg [] [L8 30 29 28]) rG)
def SG:RC:=.seq (.reg [] [Ap 48 6 23,AQ 2 48 23]) .ret
def SK:RC:=.seq (.reg [] [rq 6 (.assign (.const (.slice none 0 0))) 23]) (.seq (.seq rC (.block 2 rH)) SG)
def rJ:RC:=.seq (.reg [] [rq 3 (.alloc 153) 0]) (.seq (.seq AaD (.block 0 rA)) SK)
def Ov:RC:=.seq AaC rJ
def AaH:RC:=.reg [] [Ce 4 1 26,rq 5 (cf 106 #[tp 4] #[26]) 154,AQ 3 5 154]
def AaI:RC:=.reg [0,2,4,1,3,5,6,7] [Ap 6 3 154,Ce 8 1 26,Ap 10 3 154,⟨(some 7),cf 107 #[tp 6] #[53],3,none,[(tp 1)]⟩,rq 9 (cf 108 #[tp 8] #[26]) 156,rq 11 (cf 109 #[tp 9,tp 10] #[156,154]) 3,rq 12 (.binOp .sub 3 (tp 7) (tp 11) 3) 3,AQ 2 12 3]
def Qz:RC:=.seq (.reg [] [rq 1 (.box 26 (tp 0)) 0,Cz 2 0 3]) (.seq AaH (.seq AaI .ret))
def AaJ:RC:=.reg [] [Ap 7 0 3,Ap 8 1 3,rq 9 (.binOp .leq 3 (tp 7) (tp 8) 3) 4,Ap 10 9 4,DD 11 1 3 10 true,DD 12 2 3 10 true,rg 13 (.binOp .leq 3 (tp 11) (tp 12) 3) 4 10 true,rq 14 (.pick (tp 10) (tp 13) (kb false)) 4,AQ 6 14 4]
def QA:RC:=.seq (.reg [] [rq 6 (.assign (kb false)) 4]) (.seq AaJ .ret)
def AaK:RC:=.reg [] [Ap 3 0 53,rq 4 (.binOp .eql 53 (tp 3) (.const (.int .u16 0)) 53) 4]
def AaL:RC:=.seq AaK (.cond (tp 4) (.seq (.reg [] [Cz 2 16 3]) .ret) .skip)
def AaM:RC:=.reg [] [Ap 5 0 53,Ap 6 0 53,rq 7 (.unOp .neg 53 (tp 6)) 53,rq 8 (.binOp .and 53 (tp 5) (tp 7) 53) 53,rq 9 (.convert 53 38 (tp 8)) 38,rq 10 (.binOp .mul 38 (tp 9) (.const (.int .u32 125613361)) 38) 38,rq 11 (.binOp .shr 38 (tp 10) (.const (.int .u64 27)) 130) 38,rq 12 (.indexAddr 181 (.global 0) (tp 11)) 0,Ce 13 12 5,rq 14 (.convert 5 3 (tp 13)) 3,AQ 2 14 3]
def QB:RC:=.seq (.reg [] [Cz 2 0 3]) (.seq AaL (.seq AaM .ret))
def rM:RC:=.reg [] [Ap 6 0 23,EN 7 6 23,rq 8 (.move (ki 0)) 3]
def rO:RC:=.reg [] [D5 10 23 6 8,Ce 11 10 3,AQ 5 11 3]
def rP:RC:=.reg [] [Ap 13 5 3,Ap 14 0 23,EN 15 14 23,rq 16 (.binOp .sub 3 (tp 15) (ki 1) 3) 3,rq 17 (cf 80 #[ki 0,tp 13,tp 16] #[3,3,3]) 4,rq 18 (.unOp .not 4 (tp 17)) 4,AQ 12 18 4]
def rQ:RC:=.reg [] [Ap 20 3 53,Ap 21 5 3,rq 22 (.binOp .shr 53 (tp 20) (tp 21) 3) 53,rq 23 (.binOp .and 53 (tp 22) (.const (.int .u16 1)) 53) 53,rq 24 (.binOp .eql 53 (tp 23) (.const (.int .u16 1)) 53) 4,AQ 19 24 4]
def WJ:RC:=.seq rQ (.cond (tp 19) (.seq (.reg [] [Cz 2 6 27]) .ret) .skip)
def WK:RC:=.seq rP (.cond (tp 12) (.seq (.reg [] [Cz 2 2 27]) .ret) WJ)
def WL:RC:=.reg [] [Ap 25 3 53,Ap 26 5 3,rq 27 (.binOp .shl 53 (.const (.int .u16 1)) (tp 26) 3) 53,rq 28 (.binOp .or 53 (tp 25) (tp 27) 53) 53,AQ 3 28 53]
def WM:RC:=.reg [] [FB 29 8,Ap 8 29 3]
def WN:RC:=.seq (.block 1 (.seq rO (.seq (.block 2 WK) WL))) WM
def WO:RC:=.seq (.reg [] [L8 9 8 7]) (.seq (.cond (tp 9) .skip (.exit 0)) WN)
def QC:RC:=.seq (.reg [] [Cz 2 0 27]) .ret
def WP:RC:=.seq (.reg [] [rq 3 (.assign (.const (.int .u16 0))) 53]) (.seq (.seq rM (.block 0 (.loop WO))) QC)
def Jw:RC:=.seq (.reg [] [Cz 2 0 27]) WP
def rR:RC:=.reg [] [Ap 7 0 3,Ap 8 1 3,rq 9 (.binOp .leq 3 (tp 7) (tp 8) 3) 4,Ap 10 9 4,DD 11 1 3 10 true,DD 12 2 3 10 true,rg 13 (.binOp .leq 3 (tp 11) (tp 12) 3) 4 10 true,rq 14 (.pick (tp 10) (tp 13) (kb false)) 4,AQ 6 14 4]
def Ow:RC:=.seq (.reg [] [rq 6 (.assign (kb false)) 4]) (.seq rR .ret)
def rT:RC:=.reg [] [rq 1 (.box 26 (tp 0)) 0,rq 2 (.assign (.const (.int .u16 0))) 154]
def rU:RC:=.reg [] [DR 6 26 1 1,Ce 7 6 23,EN 8 7 23,rq 9 (.move (ki 0)) 3]
def rV:RC:=.reg [] [Ap 11 9 3,D5 12 23 7 9,Ce 13 12 3,AQ 4 11 3,AQ 5 13 3]
def rW:RC:=.reg [] [Ap 14 5 3,DR 15 26 1 2,Ce 16 15 23,Ap 17 4 3,D5 18 23 16 17,Ce 19 18 3,rq 20 (.binOp .neq 3 (tp 14) (tp 19) 3) 4]
def rX:RC:=.reg [] [Ap 21 3 154,Ap 22 4 3,rq 23 (.binOp .shl 154 (.const (.int .u16 1)) (tp 22) 3) 154,rq 24 (.binOp .or 154 (tp 21) (tp 23) 154) 154,AQ 3 24 154]
def WQ:RC:=.reg [] [FB 25 9,Ap 9 25 3]
def WR:RC:=.seq (.block 1 (.seq rV (.seq rW (.cond (tp 20) rX .skip)))) WQ
def WS:RC:=.seq (.reg [] [L8 10 9 8]) (.seq (.cond (tp 10) .skip (.exit 0)) WR)
def QE:RC:=.seq (.reg [] [Ap 26 3 154,AQ 2 26 154]) .ret
def WT:RC:=.seq (.reg [] [rq 3 (.assign (.const (.int .u16 0))) 154]) (.seq (.seq rU (.block 0 (.loop WS))) QE)
def JN:RC:=.seq rT WT
def rY:RC:=.reg [0,1,2,3,4,5,6,7,8] [Ap 3 0 53,rq 4 (.binOp .shr 53 (tp 3) (.const (.int .u64 8)) 130) 53,rq 5 (.index 9 (.const (.string ⟨#[0,1,1,2,1,2,2,3,1,2,2,3,2,3,3,4,1,2,2,3,2,3,3,4,2,3,3,4,3,4,4,5,1,2,2,3,2,3,3,4,2,3,3,4,3,4,4,5,2,3,3,4,3,4,4,5,3,4,4,5,4,5,5,6,1,2,2,3,2,3,3,4,2,3,3,4,3,4,4,5,2,3,3,4,3,4,4,5,3,4,4,5,4,5,5,6,2,3,3,4,3,4,4,5,3,4,4,5,4,5,5,6,3,4,4,5,4,5,5,6,4,5,5,6,5,6,6,7,1,2,2,3,2,3,3,4,2,3,3,4,3,4,4,5,2,3,3,4,3,4,4,5,3,4,4,5,4,5,5,6,2,3,3,4,3,4,4,5,3,4,4,5,4,5,5,6,3,4,4,5,4,5,5,6,4,5,5,6,5,6,6,7,2,3,3,4,3,4,4,5,3,4,4,5,4,5,5,6,3,4,4,5,4,5,5,6,4,5,5,6,5,6,6,7,3,4,4,5,4,5,5,6,4,5,5,6,5,6,6,7,4,5,5,6,5,6,6,7,5,6,6,7,6,7,7,8]⟩)) (tp 4)) 5,Ap 6 0 53,rq 7 (.binOp .and 53 (tp 6) (.const (.int .u16 255)) 53) 53,rq 8 (.index 9 (.const (.string ⟨#[0,1,1,2,1,2,2,3,1,2,2,3,2,3,3,4,1,2,2,3,2,3,3,4,2,3,3,4,3,4,4,5,1,2,2,3,2,3,3,4,2,3,3,4,3,4,4,5,2,3,3,4,3,4,4,5,3,4,4,5,4,5,5,6,1,2,2,3,2,3,3,4,2,3,3,4,3,4,4,5,2,3,3,4,3,4,4,5,3,4,4,5,4,5,5,6,2,3,3,4,3,4,4,5,3,4,4,5,4,5,5,6,3,4,4,5,4,5,5,6,4,5,5,6,5,6,6,7,1,2,2,3,2,3,3,4,2,3,3,4,3,4,4,5,2,3,3,4,3,4,4,5,3,4,4,5,4,5,5,6,2,3,3,4,3,4,4,5,3,4,4,5,4,5,5,6,3,4,4,5,4,5,5,6,4,5,5,6,5,6,6,7,2,3,3,4,3,4,4,5,3,4,4,5,4,5,5,6,3,4,4,5,4,5,5,6,4,5,5,6,5,6,6,7,3,4,4,5,4,5,5,6,4,5,5,6,5,6,6,7,4,5,5,6,5,6,6,7,5,6,6,7,6,7,7,8]⟩)) (tp 7)) 5,rq 9 (.binOp .add 5 (tp 5) (tp 8) 5) 5,rq 10 (.convert 5 3 (tp 9)) 3,AQ 2 10 3]
def Oy:RC:=.seq (.reg [] [Cz 2 0 3]) (.seq rY .ret)
def rZ:RC:=.reg [] [Ap 4 0 154,rq 5 (.binOp .neq 154 (tp 4) (.const (.int .u16 0)) 154) 4]
def sD:RC:=.reg [] [Ap 10 3 23,Ap 11 0 154,rq 12 (cf 90 #[tp 11] #[53]) 3,rq 13 (.buildSlice 23 1 #[(0,(tp 12))]) 23,rq 14 (cb .append #[tp 10,tp 13] #[23,23]) 23,AQ 3 14 23]
def sG:RC:=.reg [] [Ap 6 0 154,Ap 7 0 154,rq 8 (.binOp .sub 154 (tp 7) (.const (.int .u16 1)) 154) 154,rq 9 (.binOp .and 154 (tp 6) (tp 8) 154) 154,AQ 0 9 154]
def sH:RC:=.seq (.seq rZ (.cond (tp 5) .skip (.exit 0))) (.seq (.block 1 sD) sG)
def QF:RC:=.seq (.reg [] [Ap 15 3 23,AQ 2 15 23]) .ret
def WU:RC:=.seq (.reg [] [rq 3 (.assign (.const (.slice none 0 0))) 23]) (.seq (.block 0 (.loop sH)) QF)
def JO:RC:=.seq (.reg [] [rq 2 (.assign (.const (.slice none 0 0))) 23]) WU
def sI:RC:=.reg [] [DR 7 26 2 1,Ce 8 7 23,EN 9 8 23,rq 10 (.move (ki 0)) 3]
def sJ:RC:=.reg [] [Ap 13 1 154,Ap 14 6 3,rq 15 (cf 197 #[tp 13,tp 14] #[154,3]) 4]
def sK:RC:=.reg [] [DR 16 26 2 1,Ce 17 16 23,Ap 18 6 3,D5 19 23 17 18,Ce 20 19 3,D5 21 152 5 20,Ce 22 21 3,FB 23 22,D5 24 152 5 20,rn (.store 3 (tp 24) (tp 23)) 0]
def sM:RC:=.reg [] [DR 25 26 2 2,Ce 26 25 23,Ap 27 6 3,D5 28 23 26 27,Ce 29 28 3,D5 30 152 5 29,Ce 31 30 3,rq 32 (.binOp .sub 3 (tp 31) (ki 1) 3) 3,D5 33 152 5 29,rn (.store 3 (tp 33) (tp 32)) 0]
def WV:RC:=.seq (.reg [] [Ap 12 10 3,AQ 6 12 3]) (.seq sJ (.cond (tp 15) (.seq sK sM) .skip))
def WW:RC:=.reg [] [FB 34 10,Ap 10 34 3]
def WX:RC:=.seq (.reg [] [L8 11 10 9]) (.seq (.cond (tp 11) .skip (.exit 0)) (.seq (.block 1 WV) WW))
def WY:RC:=.reg [] [Ce 35 5 152,rq 36 (.build 152 #[]) 152,rq 37 (.binOp .eql 152 (tp 35) (tp 36) 152) 4,AQ 4 37 4]
def QG:RC:=.seq WY .ret
def WZ:RC:=.seq (.reg [] [rq 5 (.alloc 152) 0]) (.seq (.seq sI (.block 0 (.loop WX))) QG)
def JP:RC:=.seq (.reg [] [rq 2 (.box 26 (tp 0)) 0,rq 4 (.assign (kb false)) 4]) WZ
def sN:RC:=.reg [] [Ap 5 0 154,Ap 6 1 3,rq 7 (.binOp .shr 154 (tp 5) (tp 6) 3) 154,rq 8 (.binOp .and 154 (tp 7) (.const (.int .u16 1)) 154) 154,rq 9 (.binOp .eql 154 (tp 8) (.const (.int .u16 1)) 154) 4,AQ 4 9 4]
def Oz:RC:=.seq (.reg [] [rq 4 (.assign (kb false)) 4]) (.seq sN .ret)
def AaN:RC:=.reg [] [rq 1 (.box 26 (tp 0)) 0,Cz 2 0 3,Cz 3 0 27]
def AaO:RC:=.reg [] [Ce 12 1 26,rq 13 (cf 47 #[tp 12] #[26]) 27,AQ 4 13 27]
def AaP:RC:=.reg [] [Ap 14 4 27,rq 15 (.binOp .neq 27 (tp 14) (ki 0) 27) 4]
def AaQ:RC:=.reg [] [Ap 16 4 27,Cz 2 0 3,AQ 3 16 27]
def AaR:RC:=.reg [] [Ap 17 5 90,Ce 18 1 26,rq 19 (.call ⟨.value (tp 17),#[tp 18],#[26]⟩) 23,AQ 6 19 23]
def sO:RC:=.reg [] [Ap 20 6 23,EN 21 20 23,rq 22 (.move (ki 0)) 3]
def sP:RC:=.reg [] [Ap 24 22 3,D5 25 23 20 22,Ce 26 25 3,AQ 8 24 3,AQ 9 26 3]
def sQ:RC:=.reg [] [Ap 27 6 23,Ap 28 8 3,FB 29 28,rq 30 (.slice 23 (tp 27) (some (tp 29)) none none) 23,EN 31 30 23,rq 32 (.move (ki 0)) 3]
def sS:RC:=.reg [] [D5 34 23 30 32,Ce 35 34 3,AQ 11 35 3]
def sU:RC:=.reg [] [Ap 36 9 3,Ap 37 11 3,rq 38 (.binOp .gtr 3 (tp 36) (tp 37) 3) 4]
def sV:RC:=.reg [] [Ap 39 7 3,FB 40 39,AQ 7 40 3]
def sW:RC:=.reg [] [FB 41 32,Ap 32 41 3]
def sZ:RC:=.seq (.block 3 (.seq sS (.seq sU (.cond (tp 38) sV .skip)))) sW
def tC:RC:=.seq (.reg [] [L8 33 32 31]) (.seq (.cond (tp 33) .skip (.exit 2)) sZ)
def tF:RC:=.reg [] [FB 42 22,Ap 22 42 3]
def tH:RC:=.seq (.block 1 (.seq sP (.seq sQ (.block 2 (.loop tC))))) tF
def tJ:RC:=.seq (.reg [] [L8 23 22 21]) (.seq (.cond (tp 23) .skip (.exit 0)) tH)
def tK:RC:=.reg [] [Ap 43 7 3,AQ 2 43 3,Cz 3 0 27]
def SQ:RC:=.seq tK .ret
def tL:RC:=.seq (.reg [] [Cz 7 0 3]) (.seq (.seq sO (.block 0 (.loop tJ))) SQ)
def tN:RC:=.seq (.seq AaO (.seq AaP (.cond (tp 15) (.seq AaQ .ret) .skip))) (.seq (.reg [] [rq 5 (.assign (.func 48)) 90]) (.seq AaR tL))
def KS:RC:=.seq AaN tN
def AaS:RC:=.reg [] [Ap 5 0 23,EN 6 5 23,rq 7 (.binOp .lss 3 (tp 6) (ki 1) 3) 4]
def AaT:RC:=.reg [] [rq 8 (.makeInterface 9 (.const (.string ⟨#[115,108,105,99,101,115,46,77,97,120,58,32,101,109,112,116,121,32,108,105,115,116]⟩))) 20,rn (.panic (tp 8)) 0]
def AaZ:RC:=.reg [] [Ap 9 0 23,rq 10 (.indexAddr 23 (tp 9) (ki 0)) 0,Ce 11 10 3,AQ 3 11 3]
def Aa0:RC:=.reg [] [Ap 12 4 3,Ap 13 0 23,EN 14 13 23,rq 15 (.binOp .lss 3 (tp 12) (tp 14) 3) 4]
def tO:RC:=.reg [] [Ap 18 3 3,Ap 19 0 23,Ap 20 4 3,D5 21 23 19 20,Ce 22 21 3,rq 23 (cb .max #[tp 18,tp 22] #[3,3]) 3,AQ 3 23 3]
def tQ:RC:=.reg [] [Ap 16 4 3,FB 17 16,AQ 4 17 3]
def tT:RC:=.seq (.seq Aa0 (.cond (tp 15) .skip (.exit 0))) (.seq (.block 1 tO) tQ)
def TV:RC:=.seq (.reg [] [Ap 24 3 3,AQ 2 24 3]) .ret
def tV:RC:=.seq (.seq (.reg [] [Cz 4 1 3]) (.block 0 (.loop tT))) TV
def TW:RC:=.seq AaZ tV
def KT:RC:=.seq (.reg [] [Cz 2 0 3]) (.seq (.seq AaS (.cond (tp 7) AaT .skip)) TW)
def tX:RC:=.reg [] [rq 1 (.box 26 (tp 0)) 0,rq 2 (.assign (.const (.pointer none))) 156]
def tY:RC:=.reg [] [Ce 3 1 26,rq 4 (.makeMap 199 none) 199,rn (.insert 199 (tp 4) (.const (.int .u16 0)) (ki 0)) 0,Ap 5 4 199,rq 6 (.build 201 #[(0,(tp 3)),(1,(tp 5))]) 201,rq 7 (.box 201 (tp 6)) 156,AQ 2 7 156]
def KU:RC:=.seq tX (.seq tY .ret)
def tZ:RC:=.reg [] [Ap 11 0 156,rq 12 (.nilCheck (tp 11)) 0,DR 13 201 12 1,Ce 14 13 199,Ap 15 1 154,rq 16 (.lookup 199 (tp 14) (tp 15) true) 107,Ap 10 16 107,EM 17 10 0 3,EM 18 10 1 4,AQ 5 17 3,AQ 6 18 4]
def uA:RC:=.cond (tp 19) (.seq (.reg [] [Ap 20 5 3,AQ 4 20 3]) .ret) .skip
def uB:RC:=.reg [] [Ap 21 1 154,rq 22 (cf 157 #[tp 21] #[154]) 23,EN 23 22 23,rq 24 (.move (ki 0)) 3]
def W9:RC:=.reg [] [D5 26 23 22 24,Ce 27 26 3,AQ 9 27 3]
def Xa:RC:=.reg [] [Ap 28 7 3,Ap 29 0 156,Ap 30 1 154,Ap 31 9 3,rq 32 (.binOp .shl 154 (.const (.int .u16 1)) (tp 31) 3) 154,rq 33 (.binOp .andNot 154 (tp 30) (tp 32) 154) 154,rq 34 (cf 109 #[tp 29,tp 33] #[156,154]) 3,rq 35 (cb .max #[tp 28,tp 34] #[3,3]) 3,AQ 7 35 3]
def Xb:RC:=.reg [] [FB 36 24,Ap 24 36 3]
def Xc:RC:=.seq (.cond (tp 25) .skip (.exit 0)) (.seq (.block 1 (.seq W9 Xa)) Xb)
def Xd:RC:=.loop (.seq (.reg [] [L8 25 24 23]) Xc)
def Xe:RC:=.reg [] [Ap 37 0 156,rq 38 (.nilCheck (tp 37)) 0,DR 39 201 38 0,Ce 40 39 26,Ap 41 1 154,rq 42 (cf 158 #[tp 40,tp 41] #[26,154]) 4]
def Xf:RC:=.reg [] [Ap 43 7 3,FB 44 43,AQ 7 44 3]
def XL:RC:=.reg [] [Ap 45 0 156,rq 46 (.nilCheck (tp 45)) 0,DR 47 201 46 1,Ce 48 47 199,Ap 49 1 154,Ap 50 7 3,rn (.mapUpdate 199 (tp 48) (tp 49) (tp 50)) 0]
def QJ:RC:=.seq XL (.seq (.reg [] [Ap 51 7 3,AQ 4 51 3]) .ret)
def QK:RC:=.seq (.seq Xe (.cond (tp 42) Xf .skip)) QJ
def XM:RC:=.seq (.reg [] [Cz 7 0 3]) (.seq (.seq uB (.block 0 Xd)) QK)
def XN:RC:=.seq (.seq tZ (.seq (.reg [] [Ap 19 6 4]) uA)) XM
def HY:RC:=.seq (.reg [] [Cz 4 0 3]) XN
def uC:RC:=.reg [] [rq 10 (.entry (tp 7)) 0,EM 11 10 0 3,EM 12 10 1 4,AQ 4 11 3,AQ 5 12 4]
def uD:RC:=.reg [] [Ap 14 0 279,rq 15 (.nilCheck (tp 14)) 0,DR 16 284 15 1,Ce 17 16 23,Ap 18 4 3,D5 19 23 17 18,Ce 20 19 3,FB 21 20,D5 22 23 17 18,rn (.store 3 (tp 22) (tp 21)) 0]
def uE:RC:=.reg [] [Ap 23 0 279,rq 24 (.nilCheck (tp 23)) 0,DR 25 284 24 1,Ce 26 25 23,Ap 27 4 3,D5 28 23 26 27,Ce 29 28 3,rq 30 (.binOp .sub 3 (tp 29) (ki 1) 3) 3,D5 31 23 26 27,rn (.store 3 (tp 31) (tp 30)) 0]
def uF:RC:=.seq uC (.seq (.reg [] [Ap 13 5 4]) (.cond (tp 13) uD uE))
def XO:RC:=.seq (.reg [] [rq 8 (.next (tp 7) false) 0,EM 9 8 0 4]) (.seq (.cond (tp 9) .skip (.exit 0)) (.block 1 uF))
def Iq:RC:=.seq (.reg [] [Ap 6 1 309,rq 7 (.range 309 (tp 6)) 0]) (.block 0 (.loop XO))
end Go.TpD
