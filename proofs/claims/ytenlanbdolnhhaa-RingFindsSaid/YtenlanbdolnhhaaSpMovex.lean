/- Made from wip. -/
import Derived.Test.YtenlanbdolnhhaaSpObj3x
import Derived.Test.YtenlanbdolnhhaaSpClox

namespace Go.Sp

theorem mapO_c {α β:Type} {f:α→Option β} {a:α} {l:List α} {b:β} {r:List β} (h:f a=some b) (hr:mapO f l=some r):mapO f (a::l)=some (b::r):=by
 show oo (f a) none (fun b=>oo (mapO f l) none fun r=>some (b::r))=_
 rw[h,oo_some,hr,oo_some]
theorem mapO_n {α β:Type} {f:α→Option β}:mapO f ([]:List α)=some []:=rfl
theorem nO_list {H : AHeap} {olds : List (Option Nat)} {id : Nat} {q : List Value} {anc : List Nat} (hc : allL closed1 q = true) (hg : H.get id = .cells q false false anc := by kernel_rfl) (ha : allL (fun a => nt (isS (idxOf a olds 0))) anc = true := by kernel_rfl) :
 newObj H [] olds (false,some id)=some (.cells q false false []):=by
 show renObj olds false false (H.get id)=_
 rw[hg]
 show bb (an (allL (fun a=>nt (isS (idxOf a olds 0))) anc) (orr (nt false) _)) (bb false _ (bb (orr false (allL closed1 q)) _ none)) none=_
 rw[ha,hc];rfl
theorem bO_list {inv:List (Option Nat)} {q:List Value} (hc:allL closed1 q=true):backObj inv (false,.cells q false false [])=some (.cells q false false []):=by
 show bb (an true (orr (nt false) (an (nt false) true))) (bb false (oo (mapO (renF inv) q) none fun xs'=>some (AObj.cells xs' false false [])) (bb (orr false (allL closed1 q)) (some (AObj.cells q false false [])) none)) none=_
 rw[hc];rfl
theorem bO_map {inv:List (Option Nat)} {es:List Ent} {c:Nat} (hc:allL entClosed es=true):backObj inv (false,.map es c)=some (.map es c):=by
 show bb (orr false (allL entClosed es)) _ none=_
 rw[hc];rfl
theorem vMapO_some {v:Value} {m:MapV} (h:vMapO v=some m):decO v=some (.map m.es m.clock):=by
 unfold vMapO at h
 obtain⟨l,hl,h⟩:=oo_inv h
 rw[vTup_some hl]
 cases l with
 | nil=>cases h
 | cons c r =>
  obtain⟨n,hn,h⟩:=oo_inv (show oo (vNat c) none (fun n=>oo (mapO decE r) none fun es=>some (⟨es,n⟩:MapV))=some m from h)
  obtain⟨es,he,h⟩:=oo_inv h
  injection h with h;subst h
  show oo (vNat c) none (fun n=>oo (mapO decE r) none fun es=>some (AObj.map es n))=_
  rw[hn,oo_some,he,oo_some]
theorem vAgg_enc {o:AObj} {l:List Value} (hp:plainO o) (h:vAgg (encO o)=some l):o = .cells l false false []:=by
 rcases hp with rfl | ⟨xs,rfl⟩ | ⟨es,c,rfl⟩
 ·cases h
 ·injection h with h;subst h;rfl
 ·cases h
theorem vMapO_mk (es:List Ent) (c:Nat):vMapO (encO (.map es c))=some ⟨es,c⟩:=by
 show oo (mapO decE (mapL encE es)) none (fun es=>some (⟨es,c⟩:MapV))=_
 rw[mapL_eq,decEs_enc];rfl
theorem objF_eq {tabs:List (List Value)} {na:Nat} {rs:List Rt} {outs:List Bool} {f:List Value→Option Value} {args:List Value} {H H2:AHeap} {v v':Value} (olds:List (Option Nat)) (ps:List (Bool×Option Nat)) (os:List AObj) (as es:List Value) (os':List AObj) (inv:List (Option Nat)) (qs:List (Bool×AObj)) (ns:List AObj)
 (hr:rootsOk (Fr.made (len args) args) H rs (idents (len tabs))=true) (hos:mapO (newObj H [] olds) ps=some os) (hz:f (appL as (mapL encO os))=some (.tuple ⟨v::es⟩)) (hd:mapO decO es=some os') (hn:mapO (backObj inv) qs=some ns)
 (hol:oldsOf (Fr.made (len args) args) H rs (idents (len tabs))=olds:=by kernel_rfl)
 (hc:an (tabsOk2 H tabs 0) (an (idxChk olds olds 0) (an (Nat.beq (len olds) (len tabs+len rs)) (an (Nat.beq (len args) na) (wrAll H (dropL (len tabs) olds)))))=true:=by kernel_rfl)
 (hps:zipL (mapL Rt.deep rs) (dropL (len tabs) olds)=ps:=by kernel_rfl) (has:mapO (ren2 olds) args=some as:=by kernel_rfl)
 (hl:an (Nat.beq (len outs) (len os')) (Nat.ble (len rs) (len os'))=true:=by kernel_rfl) (hinv:invL olds H.next (len os' - len rs)=inv:=by kernel_rfl) (hqs:zipL outs os'=qs:=by kernel_rfl)
 (hv:ren2 inv v=some v':=by kernel_rfl) (hH:setJs (dropL (len tabs) olds) ns (H.kill (ancsOf H (dropL (len tabs) olds)))=H2:=by kernel_rfl):objF tabs na rs outs f args H=some (v',H2):=by
 unfold objF
 subst hps;subst hinv;subst hqs;subst hH
 dsimp only
 rw[hol,hc,bb_true,hr,bb_true,hos,oo_some,has,oo_some,hz,oo_some]
 show oo (mapO decO es) none (fun os'=>
  bb (an (Nat.beq (len outs) (len os')) (Nat.ble (len rs) (len os')))
   (oo (mapO (backObj (invL olds H.next (len os' - len rs))) (zipL outs os')) none fun ns => oo (ren2 (invL olds H.next (len os' - len rs)) v) none fun v' =>
     some (v',setJs (dropL (len tabs) olds) ns (H.kill (ancsOf H (dropL (len tabs) olds))))) none)=_
 rw[hd,oo_some,hl,bb_true,hn,oo_some,hv,oo_some]

noncomputable def getE (r:Option (Nat×Value)) (z:Value):Value:=oo r z fun p=>pp p fun _ v=>v
noncomputable def updE (k v:Value) (c:Nat) (es:List Ent) (r:Option (Nat×Value)):List Ent:=oo r (appL es [⟨k,v,c⟩]) fun p=>pp p fun j _=>modL (fun e=>⟨k,v,e.born⟩) j es
noncomputable def updC (c:Nat) (r:Option (Nat×Value)):Nat:=oo r (c+1) fun _=>c
theorem look_v {H:AHeap} {k z:Value} {es:List Ent} {r:Option (Nat×Value)} (h:findE k es 0=some r) :
 keep H (oo (findE k es 0) none fun r=>oo r (okV false z false) fun p=>pp p fun _ v=>okV false v true)=some (getE r z,H):=by
 rw[h];cases r with
 | none=>rfl
 | some p=>rfl
theorem look_vv {H:AHeap} {k z v:Value} {es:List Ent} {r:Option (Nat×Value)} (h:findE k es 0=some r) (hv:getE r z=v) :
 keep H (oo (findE k es 0) none fun r=>oo r (okV false z false) fun p=>pp p fun _ v=>okV false v true)=some (v,H):=by rw[look_v h,hv]
theorem upd_eq {H H2 : AHeap} {id c : Nat} {k v : Value} {es : List Ent} {r : Option (Nat × Value)} (h : findE k es 0 = some r) (hH : H.set id (.map (updE k v c es r) (updC c r)) = H2 := by kernel_rfl) :
 done (oo (findE k es 0) none fun r=>oo r (some (H.set id (.map (appL es [⟨k,v,c⟩]) (c+1)))) fun p=>pp p fun j _=>some (H.set id (.map (modL (fun e=>⟨k,v,e.born⟩) j es) c))) undef=some (undef,H2):=by
 subst hH
 rw[h];cases r with
 | none=>rfl
 | some p=>rfl
theorem rootL {c2:Nat} {q:List Value} (h:orr (Nat.ble 2 c2) (nilL q)=true) {b:Bool} (hb:b=true):an (orr (Nat.ble 2 c2) (nilL q)) b=true:=by rw[h,hb];rfl
theorem finO_ret {tt:TT} {T k:Nat} {rs:List ResultVar} {z:Value} {F:Fr} {H:AHeap} (v:Value) (os:List AObj) (h:aresults tt F H rs=some v) (hz:some (Value.tuple ⟨v::os.map encO⟩)=some z) (hk:k≤os.length) (ho:∀ i o,os[i]?=some o→H.get (T+i)=o∧plainO o):FinO tt T k rs z .ret F H:=by
 injection hz with hz;exact⟨v,os,hz.symm,h,hk,ho⟩
theorem ooAt_nil {H:AHeap} {T:Nat}:∀ (i:Nat) (o:AObj),([]:List AObj)[i]?=some o→H.get (T+i)=o∧plainO o:=by intro i o h;simp at h
theorem ooAt_cons {H:AHeap} {T:Nat} {a:AObj} {l:List AObj} (hp:plainO a) (hr:∀ (i:Nat) (o:AObj),l[i]?=some o→H.get (T+1+i)=o∧plainO o) (ha:H.get T=a:=by kernel_rfl):∀ (i:Nat) (o:AObj),(a::l)[i]?=some o→H.get (T+i)=o∧plainO o:=by
 intro i o h
 cases i with
 | zero=>simp at h;subst h;exact⟨ha,hp⟩
 | succ i=>have:=hr i o (by simpa using h);rwa [show T+(i+1)=T+1+i by omega]
theorem pO_c (xs:List Value):plainO (.cells xs false false []):=.inr (.inl ⟨_,rfl⟩)
theorem pO_m (es:List Ent) (c:Nat):plainO (.map es c):=.inr (.inr ⟨_,_,rfl⟩)
theorem pO_d:plainO .dead:=.inl rfl

noncomputable section
def isPt (v:Value) (id off:Nat):Bool:=oo (vPtr v) false fun p=>pp p fun a b=>an (Nat.beq a id) (Nat.beq b off)
def isMp (v:Value) (id:Nat):Bool:=oo (vMap v) false fun m=>oo m false fun i=>Nat.beq i id
structure NC where
 n:Nat
 c:Nat
def toSc (id off sz:Nat) (v:Value):Option NC:=oo (vSl v) none fun s=>ss s fun i o z n c=>bb (an (Nat.beq i id) (an (Nat.beq o off) (Nat.beq z sz))) (some ⟨n,c⟩) none
def toFn (g:FuncId) (nf:Nat) (v:Value):Option (List Value):=oo (vFunc v) none fun x=>FnV.rec (motive:=fun _=>Option (List Value)) (fun f a b=>bb (an (Nat.beq f g) (Nat.beq (len a) nf)) (some (appL a b)) none) x
end
theorem isPt_ok {v:Value} {id off:Nat} (h:isPt v id off=true):v = .pointer (some ⟨id,off,none⟩):=by
 unfold isPt at h
 cases hp:vPtr v with
 | none=>rw[hp] at h;cases h
 | some p =>
  rw[hp,oo_some] at h
  obtain⟨h1,h2⟩:=an_inv (show an (Nat.beq p.1 id) (Nat.beq p.2 off)=true from h)
  rw[vPtr_some hp,Nat.eq_of_beq_eq_true h1,Nat.eq_of_beq_eq_true h2]
theorem isMp_ok {v:Value} {id:Nat} (h:isMp v id=true):v = .map (some id):=by
 unfold isMp at h
 cases hm:vMap v with
 | none=>rw[hm] at h;cases h
 | some m =>
  rw[hm,oo_some] at h
  cases m with
  | none=>cases h
  | some i=>rw[vMap_some hm,Nat.eq_of_beq_eq_true (show Nat.beq i id=true from h)]
theorem toSc_some {id off sz:Nat} {v:Value} {x:NC} (h:toSc id off sz v=some x):v = .slice (some ⟨id,off,some sz⟩) x.n x.c:=by
 unfold toSc at h
 obtain⟨s,hs,h⟩:=oo_inv h
 obtain⟨i,o,z,n,c⟩:=s
 obtain⟨hc,h⟩:=bb_inv (show bb (an (Nat.beq i id) (an (Nat.beq o off) (Nat.beq z sz))) (some (⟨n,c⟩:NC)) none=some x from h)
 injection h with h;subst h
 obtain⟨h1,hc⟩:=an_inv hc
 obtain⟨h2,h3⟩:=an_inv hc
 rw[vSl_some hs,Nat.eq_of_beq_eq_true h1,Nat.eq_of_beq_eq_true h2,Nat.eq_of_beq_eq_true h3]
theorem toFn_some {g:FuncId} {nf:Nat} {v:Value} {l:List Value} (h:toFn g nf v=some l):v = .func (.func g) ⟨takeL nf l⟩ ⟨dropL nf l⟩:=by
 unfold toFn at h
 obtain⟨y,hy,h⟩:=oo_inv h
 obtain⟨f,a,b⟩:=y
 obtain⟨hc,h⟩:=bb_inv (show bb (an (Nat.beq f g) (Nat.beq (len a) nf)) (some (appL a b)) none=some l from h)
 injection h with h;subst h
 obtain⟨h1,h2⟩:=an_inv hc
 have h2:=Nat.eq_of_beq_eq_true h2
 rw[vFunc_some hy,Nat.eq_of_beq_eq_true h1,takeL_eq,dropL_eq,appL_eq,←h2,len_eq,List.take_left,List.drop_left]
theorem dead_dec {v:Value} (h:isDead v=true):decO v=some .dead:=by
 have h1:vAgg v=none:=by cases v <;> first | rfl | cases h
 have h2:vTup v=none:=by cases v <;> first | rfl | cases h
 unfold decO
 rw[h1,oo_none,h2,oo_none,h,bb_true]
theorem len_cons {α:Type} {l:List α} {n:Nat} (h:l.length=n+1):∃ a r,l=a::r∧r.length=n:=by
 cases l with
 | nil=>simp at h
 | cons a r=>exact⟨a,r,rfl,by simpa using h⟩
theorem len_nil {α:Type} {l:List α} (h:l.length=0):l=[]:=List.eq_nil_of_length_eq_zero h
theorem bb_any {β:Type} {c:Bool} {a b:Option β} {v:β} (h:bb c a b=some v):a=some v∨b=some v:=by
 cases c
 ·exact .inr h
 ·exact .inl h
noncomputable section
def gv1 (m:Option Nat) (v:Value) (H:AHeap):Option (Value×AHeap):=oo m (some (v,H)) fun z=>giveV z v H
def gvL (ms:List (Option Nat)):List Value→AHeap→Option (List Value×AHeap):=
 List.rec (motive := fun _ => List Value → AHeap → Option (List Value × AHeap)) (fun l H => ll l (some ([], H)) fun _ _ => none)
  (fun m _ ih l H=>ll l none fun v r=>oo (gv1 m v H) none fun p=>pp p fun v' H1=>oo (ih r H1) none fun q=>pp q fun r' H2=>some (v'::r',H2)) ms
def gvA (ms:List (Option Nat)) (v:Value) (H:AHeap):Option (Value×AHeap):=oo (vAgg v) (ll ms none fun m _=>gv1 m v H) fun l=>oo (gvL ms l H) none fun p=>pp p fun l' H1=>some (.agg ⟨l'⟩,H1)
def gvAL (ms:List (List (Option Nat))):List Value→AHeap→Option (List Value×AHeap):=
 List.rec (motive := fun _ => List Value → AHeap → Option (List Value × AHeap)) (fun l H => ll l (some ([], H)) fun _ _ => none)
  (fun m _ ih l H=>ll l none fun v r=>oo (gvA m v H) none fun p=>pp p fun v' H1=>oo (ih r H1) none fun q=>pp q fun r' H2=>some (v'::r',H2)) ms
def objG (tabs:List (List Value)) (ms:List (List (Option Nat))) (na:Nat) (rs:List Rt) (outs:List Bool) (f:List Value→Option Value) (args:List Value) (H:AHeap):Option (Value×AHeap):=
 oo (gvAL ms args H) none fun p=>pp p fun as H1=>objF tabs na rs outs f as H1
end
theorem gv1_ok {m:Option Nat} {v v' u:Value} {H H':AHeap} {R:Ren} {w:World} (h:gv1 m v H=some (v',H')) (hs:Sim H R w) (hx:VR R v u):∃ R',R.le R'∧Post H R w H' R' w∧VR R' v' u:=by
 cases m with
 | none=>injection h with h;injection h with e1 e2;subst e1;subst e2;exact⟨R,R.le_refl,.refl hs,hx⟩
 | some z=>obtain⟨R',h1,_,h2,h3,_⟩:=giveV_ok (show giveV z v H=some (v',H') from h) hs hx;exact⟨R',h1,h2,h3⟩
theorem gvL_ok:∀ {ms:List (Option Nat)} {l l' us:List Value} {H H':AHeap} {R:Ren} {w:World},gvL ms l H=some (l',H')→Sim H R w→VRL R l us→∃ R',R.le R'∧Post H R w H' R' w∧VRL R' l' us
 | [], l, l', us, H, H', R, w, h, hs, hl => by
  cases l with
  | nil=>injection h with h;injection h with e1 e2;subst e1;subst e2;exact⟨R,R.le_refl,.refl hs,hl⟩
  | cons=>cases h
 | m :: ms, l, l', us, H, H', R, w, h, hs, hl => by
  cases l with
  | nil=>cases h
  | cons v r =>
   obtain⟨⟨v',H1⟩,h1,h2⟩:=oo_inv (show oo (gv1 m v H) none (fun p=>pp p fun v' H1=>oo (gvL ms r H1) none fun q=>pp q fun r' H2=>some (v'::r',H2))=some (l',H') from h)
   obtain⟨⟨r',H2⟩,h3,h4⟩:=oo_inv (show oo (gvL ms r H1) none (fun q=>pp q fun r' H2=>some (v'::r',H2))=some (l',H') from h2)
   injection h4 with h4;injection h4 with e1 e2;subst e1;subst e2
   obtain⟨u,us',rfl,hu,hus⟩:=hl.uncons
   obtain⟨R1,k1,k2,k3⟩:=gv1_ok h1 hs hu
   obtain⟨R2,j1,j2,j3⟩:=gvL_ok h3 k2.sim (hus.mono k1)
   exact⟨R2,Ren.le_trans k1 j1,k2.trans j2 hs,.cons (k3.mono j1) j3⟩
theorem gvA_ok {ms:List (Option Nat)} {v v' u:Value} {H H':AHeap} {R:Ren} {w:World} (h:gvA ms v H=some (v',H')) (hs:Sim H R w) (hx:VR R v u):∃ R',R.le R'∧Post H R w H' R' w∧VR R' v' u:=by
 unfold gvA at h
 cases ha:vAgg v with
 | none =>
  rw[ha,oo_none] at h
  cases ms with
  | nil=>cases h
  | cons m r=>exact gv1_ok (show gv1 m v H=some (v',H') from h) hs hx
 | some l =>
  rw[ha,oo_some] at h
  obtain⟨⟨l',H1⟩,h1,h2⟩:=oo_inv h
  injection (show some (Value.agg ⟨l'⟩,H1)=some (v',H') from h2) with h2;injection h2 with e1 e2;subst e1;subst e2
  rw[vAgg_some ha] at hx
  obtain⟨us,rfl,hl⟩:=hx.agg_l
  obtain⟨R',k1,k2,k3⟩:=gvL_ok h1 hs hl
  exact⟨R',k1,k2,.agg k3.1 k3.2⟩
theorem gvAL_ok:∀ {ms:List (List (Option Nat))} {l l' us:List Value} {H H':AHeap} {R:Ren} {w:World},gvAL ms l H=some (l',H')→Sim H R w→VRL R l us→∃ R',R.le R'∧Post H R w H' R' w∧VRL R' l' us
 | [], l, l', us, H, H', R, w, h, hs, hl => by
  cases l with
  | nil=>injection h with h;injection h with e1 e2;subst e1;subst e2;exact⟨R,R.le_refl,.refl hs,hl⟩
  | cons=>cases h
 | m :: ms, l, l', us, H, H', R, w, h, hs, hl => by
  cases l with
  | nil=>cases h
  | cons v r =>
   obtain⟨⟨v',H1⟩,h1,h2⟩:=oo_inv (show oo (gvA m v H) none (fun p=>pp p fun v' H1=>oo (gvAL ms r H1) none fun q=>pp q fun r' H2=>some (v'::r',H2))=some (l',H') from h)
   obtain⟨⟨r',H2⟩,h3,h4⟩:=oo_inv (show oo (gvAL ms r H1) none (fun q=>pp q fun r' H2=>some (v'::r',H2))=some (l',H') from h2)
   injection h4 with h4;injection h4 with e1 e2;subst e1;subst e2
   obtain⟨u,us',rfl,hu,hus⟩:=hl.uncons
   obtain⟨R1,k1,k2,k3⟩:=gvA_ok h1 hs hu
   obtain⟨R2,j1,j2,j3⟩:=gvAL_ok h3 k2.sim (hus.mono k1)
   exact⟨R2,Ren.le_trans k1 j1,k2.trans j2 hs,.cons (k3.mono j1) j3⟩
theorem objG_ok {P:Program} {tabs:List (List Value)} (hne:∀ t∈tabs,t≠[]) (hpl:∀ t∈tabs,∀ x∈t,plain1 x=true) {g na:Nat} {ms:List (List (Option Nat))} {rs:List Rt} {outs:List Bool} {f:List Value→Option Value} (hok:ObjOk P tabs na rs.length g f) {args:List Value} {H H':AHeap} {v:Value}
 (h:objG tabs ms na rs outs f args H=some (v,H')) :
 (∀ (as:Array Value) (w:World),(callFunc g as).run P w = .ok (.enter g as) w) ∧
 ∀ R w args',Sim H R w→GlR (List.range tabs.length) R→VRL R args args'→Calls P g ⟨args'⟩ w fun e w'=>∃ u R',e = .returned u∧VR R' v u∧Post H R w H' R' w':=by
 unfold objG at h
 obtain⟨⟨as,H1⟩,h1,h2⟩:=oo_inv h
 have h2:objF tabs na rs outs f as H1=some (v,H'):=h2
 refine⟨hok.1,fun R w args' hs hgl ha=>?_⟩
 obtain⟨R1,k1,k2,k3⟩:=gvAL_ok h1 hs ha
 exact((objF_ok hne hpl hok h2).2 R1 w args' k2.sim (hgl.mono k1) k3).mono fun e w' ⟨u,R',q1,q2,q3⟩=>⟨u,R',q1,q2,k2.trans q3 hs⟩
theorem gv_n {v:Value} {H:AHeap}:gv1 none v H=some (v,H):=rfl
theorem gv_s {z:Nat} {v v':Value} {H H1:AHeap} (h:giveV z v H=some (v',H1)):gv1 (some z) v H=some (v',H1):=h
theorem gvL_n {H:AHeap}:gvL [] [] H=some ([],H):=rfl
theorem gvL_c {m:Option Nat} {ms:List (Option Nat)} {v v':Value} {r r':List Value} {H H1 H2:AHeap} (h:gv1 m v H=some (v',H1)) (hr:gvL ms r H1=some (r',H2)):gvL (m::ms) (v::r) H=some (v'::r',H2):=by
 show oo (gv1 m v H) none (fun p=>pp p fun v' H1=>oo (gvL ms r H1) none fun q=>pp q fun r' H2=>some (v'::r',H2))=_
 rw[h,oo_some,pp_mk,hr];rfl
theorem gvA_1 {m:Option Nat} {v v':Value} {H H1:AHeap} (h:gv1 m v H=some (v',H1)) (ha:vAgg v=none:=by kernel_rfl):gvA [m] v H=some (v',H1):=by
 unfold gvA;rw[ha];exact h
theorem gvA_a {ms:List (Option Nat)} {l l':List Value} {H H1:AHeap} (h:gvL ms l H=some (l',H1)):gvA ms (.agg ⟨l⟩) H=some (.agg ⟨l'⟩,H1):=by
 show oo (gvL ms l H) none (fun p=>pp p fun l' H1=>some (Value.agg ⟨l'⟩,H1))=_
 rw[h];rfl
theorem gvAL_n {H:AHeap}:gvAL [] [] H=some ([],H):=rfl
theorem gvAL_c {m:List (Option Nat)} {ms:List (List (Option Nat))} {v v':Value} {r r':List Value} {H H1 H2:AHeap} (h:gvA m v H=some (v',H1)) (hr:gvAL ms r H1=some (r',H2)):gvAL (m::ms) (v::r) H=some (v'::r',H2):=by
 show oo (gvA m v H) none (fun p=>pp p fun v' H1=>oo (gvAL ms r H1) none fun q=>pp q fun r' H2=>some (v'::r',H2))=_
 rw[h,oo_some,pp_mk,hr];rfl
theorem objG_eq {tabs:List (List Value)} {ms:List (List (Option Nat))} {na:Nat} {rs:List Rt} {outs:List Bool} {f:List Value→Option Value} {args as:List Value} {H H1 H2:AHeap} {v:Value} (h1:gvAL ms args H=some (as,H1)) (h2:objF tabs na rs outs f as H1=some (v,H2)):objG tabs ms na rs outs f args H=some (v,H2):=by
 unfold objG;rw[h1,oo_some,pp_mk,h2]

end Go.Sp
namespace Go.Sp
noncomputable section
def nxt (es:List Ent) (seen:List Nat) (z:Option Value) (f:Ent→Option Value):Option Value:=
 @ite _ (leftE es seen=[]) (Classical.propDecidable _) z (@dite _ (∃ v,∀ e∈leftE es seen,f e=some v) (Classical.propDecidable _) (fun h=>some (Classical.choose h)) fun _=>none)
def entT (es:List Ent) (clock:Nat) (seen:List Nat) (st:Nat):Option Value:=oo (entF es clock seen st) none fun e=>some (.tuple ⟨[e.key,e.val]⟩)
end
theorem nxt_0 {es:List Ent} {seen:List Nat} {z:Option Value} {f:Ent→Option Value} {v:Value} (h:nxt es seen z f=some v) (hl:leftE es seen=[]):z=some v:=by
 unfold nxt at h
 rw[if_pos hl] at h;exact h
theorem nxt_1 {es:List Ent} {seen:List Nat} {z:Option Value} {f:Ent→Option Value} {v:Value} (h:nxt es seen z f=some v) {e:Ent} (he:e∈leftE es seen):f e=some v:=by
 unfold nxt at h
 rw[if_neg (fun hl=>by rw[hl] at he;cases he)] at h
 split at h
 ·rename_i hx
  injection h with h
  rw[←h];exact Classical.choose_spec hx e he
 ·cases h
theorem nxt_some {es:List Ent} {seen:List Nat} {z:Option Value} {f:Ent→Option Value} {v:Value} (h0:leftE es seen=[]→z=some v) (h1:∀ e∈leftE es seen,f e=some v):nxt es seen z f=some v:=by
 unfold nxt
 by_cases hl:leftE es seen=[]
 ·rw[if_pos hl];exact h0 hl
 ·rw[if_neg hl]
  have hx:∃ v,∀ e∈leftE es seen,f e=some v:=⟨v,h1⟩
  rw[dif_pos hx]
  obtain⟨e,he⟩:=List.exists_mem_of_ne_nil _ hl
  rw[←h1 e he];exact(Classical.choose_spec hx e he).symm
section
variable {tt:TT} {call:CallF} {n0:Nat}
theorem Run.nextK {ops os:List ROp} {F:Fr} {H:AHeap} {Q:Ex→Fr→AHeap→Prop} {d:Option Nat} {x:Operand} {ty id mid since st clock:Nat} {seen:List Nat} {es:List Ent} (hops:ops=⟨d,.next x false,ty,none,[]⟩::os)
 (hx:F.eval x = .pointer (some ⟨id,0,none⟩)) (hi:H.get id = .iter (some mid) since seen st) (hm:H.get mid = .map es clock) (hold:allL (fun e=>Nat.blt e.born since) es=true) (hst:Nat.ble since st=true)
 (e0:isS (evOps tt call os (F.put d (.tuple ⟨[.bool false]⟩)) H)=true)
 (e1:∀ e:Ent,isS (evOps tt call os (F.put d (.tuple ⟨[.bool true,e.key,e.val]⟩)) (H.set id (.iter (some mid) since (appL seen [e.born]) clock)))=true)
 (h0:leftE es seen=[]→Q .normal (frOf (evOps tt call os (F.put d (.tuple ⟨[.bool false]⟩)) H)) (hpOf (evOps tt call os (F.put d (.tuple ⟨[.bool false]⟩)) H)))
 (h1:∀ e,e∈leftE es seen→Q .normal (frOf (evOps tt call os (F.put d (.tuple ⟨[.bool true,e.key,e.val]⟩)) (H.set id (.iter (some mid) since (appL seen [e.born]) clock)))) (hpOf (evOps tt call os (F.put d (.tuple ⟨[.bool true,e.key,e.val]⟩)) (H.set id (.iter (some mid) since (appL seen [e.born]) clock))))) :
 Run tt call n0 (.reg [] ops) F H Q:=by
 subst hops
 exact .regN rfl (.nx hx hi hm hold hst (fun hl=>.fin (some_of e0) (h0 hl)) fun e he=>.fin (some_of (e1 e)) (h1 e he))
end
end Go.Sp
namespace Go.Sp
end Go.Sp
namespace Go.Sp
end Go.Sp
namespace Go.Sp
noncomputable section
end
section
variable {P:Program} {tt:TT} {tabs:List (List Value)}
end
end Go.Sp
namespace Go.Sp
noncomputable section
end
theorem Quiet.refl (n0:Nat) (H:AHeap):Quiet n0 H H:=fun _ _ _ R _ _ _ hp=>⟨R,R.le_refl,rfl,hp⟩
theorem Quiet.trans {n0:Nat} {H H1 H2:AHeap} (h:Quiet n0 H H1) (h':Quiet n0 H1 H2):Quiet n0 H H2:=fun H0 R0 w0 R w hs hn hp=>by
 obtain⟨R1,a1,a2,a3⟩:=h H0 R0 w0 R w hs hn hp
 obtain⟨R2,b1,b2,b3⟩:=h' H0 R0 w0 R1 w hs hn a3
 exact⟨R2,Ren.le_trans a1 b1,b2.trans a2,b3⟩
theorem Quiet.tell {n0:Nat} {H H1:AHeap} (h:Quiet n0 H H1) (v:Value):Tell n0 H v H1 v:=fun H0 R0 w0 R w _ hs hn hp hv=>by
 obtain⟨R1,a1,a2,a3⟩:=h H0 R0 w0 R w hs hn hp
 exact⟨R1,a1,a2,a3,hv.mono a1⟩
theorem Tell.trans {n0:Nat} {H H1 H2:AHeap} {v v1 v2:Value} (h:Tell n0 H v H1 v1) (h':Tell n0 H1 v1 H2 v2):Tell n0 H v H2 v2:=fun H0 R0 w0 R w u hs hn hp hv=>by
 obtain⟨R1,a1,a2,a3,a4⟩:=h H0 R0 w0 R w u hs hn hp hv
 obtain⟨R2,b1,b2,b3,b4⟩:=h' H0 R0 w0 R1 w u hs hn a3 a4
 exact⟨R2,Ren.le_trans a1 b1,b2.trans a2,b3,b4⟩
theorem TellL.len {n0:Nat} {H H1:AHeap} {l l':List Value} (h:TellL n0 H l H1 l'):l'.length=l.length:=by
 induction h with
 | nil=>rfl
 | cons _ _ ih=>simp[ih]
structure DeepOk (n0:Nat) (av:List Nat) (H:AHeap) (v:Value) (H':AHeap) (v':Value):Prop where
 tell:Tell n0 H v H' v'
 quiet:Quiet n0 H H'
 keep:∀ i,memN i av=true→H'.get i=H.get i
section
variable {P:Program} {tt:TT} {tabs:List (List Value)}
end
end Go.Sp
namespace Go.Sp

theorem Quiet.dead {n0:Nat} {H:AHeap} {id:Nat} {xs:List Value} {spent:Bool} {anc:List Nat} (h1:H.get id = .cells xs false spent anc):Quiet n0 H (H.set id .dead):=fun H0 R0 w0 R w hs0 _ hp=>by
 have hs:=hp.sim
 have hget:∀ i,(H.set id .dead).get i=if id=i then .dead else H.get i:=fun i=>AHeap.get_set _ _ _ _
 have hwr:∀ i,(H.get i).writable=false→((H.set id .dead).get i).writable=false:=fun i h=>by
  rw[hget];split
  ·rfl
  ·exact h
 refine ⟨R, R.le_refl, rfl, hp.le, hp.new, ⟨fun i c β h => by rw [AHeap.next_set]; exact hs.dom i c β h, fun i c β h => ?_, fun i c β i' β' h h' hne hw => ?_, fun i a ha => ?_, fun i hi => ?_, fun c C h => ⟨(hs.ro c C h).1, fun i β h' => hwr i ((hs.ro c C h).2 i β h')⟩⟩,
  by rw[AHeap.next_set];exact hp.next,hp.grow,hp.frame,fun i hi hr Q c β ob h=>?_,fun i hi h=>?_,hp.fresh,hp.side,hp.rofresh⟩
 ·rw[hget];split
  ·trivial
  ·exact hs.obj i c β h
 ·rw[hget] at hw
  split at hw
  ·cases hw
  ·rename_i he
   rw[hget i']
   split
   ·exact .inl rfl
   ·rw [hget i, if_neg he]; exact hs.sep i c β i' β' h h' hne hw
 ·rw[hget] at ha
  split at ha
  ·cases ha
  ·obtain⟨h1,h2,h3⟩:=hs.anc i a ha
   refine⟨by rw[AHeap.next_set];exact h1,?_,hwr a h3⟩
   rw[hget];split
   ·rfl
   ·exact h2
 ·rw[AHeap.next_set] at hi
  rw[hget];split
  ·rfl
  ·exact hs.wf i hi
 ·rw[hget];split
  ·trivial
  ·exact hp.calm i hi hr Q c β ob h
 ·rw[hget];split
  ·rename_i he
   subst he
   have:=hp.imm id hi h
   rw[h1] at this
   rw[←this] at h;cases h
  ·exact hp.imm i hi h
theorem Quiet.push {n0:Nat} {H:AHeap} {o:AObj} (h:o.ancOf=[]):Quiet n0 H (H.push o):=fun H0 R0 w0 R w _ _ hp=>⟨R,R.le_refl,rfl,hp.absPush h⟩

section
variable {n0:Nat}
end
end Go.Sp
namespace Go.Sp

def Leads (a:Nat) (v:Value):Prop:=∀ (R:Ren) (u:Value),VR R v u→∃ p,R.f a=some p
theorem leads_ptr {a off:Nat}:Leads a (.pointer (some ⟨a,off,none⟩)):=fun R u h=>by
 obtain⟨c,β,h1,_⟩:=h.ptr_l
 exact⟨_,h1⟩
theorem leads_fn {a:Nat} (i:Nat) {fn:Fn} {xs zs:List Value} {x:Value} (hi:nthL zs i=some x) (h:Leads a x):Leads a (.func fn ⟨xs⟩ ⟨zs⟩):=fun R u hv=>by
 rw[nthL_eq] at hi
 cases hv with
 | func fn hl hh hl' hh' =>
  rename_i ys us
  have hlt:i < us.length:=by
   rw[←hl']
   exact(List.getElem?_eq_some_iff.1 hi).1
  exact h R _ (hh' i x us[i] hi (List.getElem?_eq_getElem hlt))
theorem Upd.move {n0:Nat} {F:Fr} {H:AHeap} {t a j b off sz n c2:Nat} {xs ys:List Value} {spA:Bool} {ancA ancB:List Nat} (hl:Leads a (F.get t)) (ha:H.get a = .cells xs false spA ancA) (hj:xs[j]?=some (.slice (some ⟨b,off,some sz⟩) n c2))
 (hb:H.get b = .cells ys false false ancB) (hab:a≠b) :
 Upd n0 F H (((H.push (.cells ys false false ancB)).set b .dead).set a (.cells (xs.set j (.slice (some ⟨H.next,off,some sz⟩) n c2)) false spA ancA)):=fun H0 R0 w0 R w hs0 _ hp ht=>by
 have hs:=hp.sim
 obtain⟨u0,hu0⟩:=ht t
 obtain⟨⟨ca,βa⟩,hfa⟩:=hl R u0 hu0
 have hbn:b < H.next:=hs.wf.lt (by rw[hb];exact fun h=>by cases h)
 have han:a < H.next:=hs.wf.lt (by rw[ha];exact fun h=>by cases h)
 generalize hH':((H.push (.cells ys false false ancB)).set b .dead).set a (.cells (xs.set j (.slice (some ⟨H.next,off,some sz⟩) n c2)) false spA ancA)=H'
 have hnext:H'.next=H.next+1:=by rw[←hH',AHeap.next_set,AHeap.next_set,AHeap.next_push]
 have gA:H'.get a = .cells (xs.set j (.slice (some ⟨H.next,off,some sz⟩) n c2)) false spA ancA:=by rw[←hH',AHeap.get_set,if_pos rfl]
 have gB:H'.get b = .dead:=by rw[←hH',AHeap.get_set,if_neg hab,AHeap.get_set,if_pos rfl]
 have gN:H'.get H.next = .cells ys false false ancB:=by rw[←hH',AHeap.get_set,if_neg (by omega),AHeap.get_set,if_neg (by omega),AHeap.get_push,if_pos rfl]
 have gO:∀ i,i≠a→i≠b→i≠H.next→H'.get i=H.get i:=fun i h1 h2 h3=>by
  rw[←hH',AHeap.get_set,if_neg (Ne.symm h1),AHeap.get_set,if_neg (Ne.symm h2),AHeap.get_push,if_neg (Ne.symm h3)]
 have himm:∀ i,i≠b→i≠H.next→(H'.get i).immB=(H.get i).immB:=fun i h2 h3=>by
  by_cases h1:i=a
  ·subst h1;rw[gA,ha];rfl
  ·rw[gO i h1 h2 h3]
 have hwr:∀ i,i≠b→i≠H.next→(H'.get i).writable=(H.get i).writable:=fun i h2 h3=>by
  by_cases h1:i=a
  ·subst h1;rw[gA,ha];rfl
  ·rw[gO i h1 h2 h3]
 have hanc:∀ i,i≠b→i≠H.next→(H'.get i).ancOf=(H.get i).ancOf:=fun i h2 h3=>by
  by_cases h1:i=a
  ·subst h1;rw[gA,ha];rfl
  ·rw[gO i h1 h2 h3]
 have hsize:∀ i,i≠b→i≠H.next→(H'.get i).size=(H.get i).size:=fun i h2 h3=>by
  by_cases h1:i=a
  ·subst h1;rw[gA,ha];simp[AObj.size]
  ·rw[gO i h1 h2 h3]
 have bw:(H.get b).writable=true:=by rw[hb];rfl
 have b0:∀ x,H0.get b=x→x.immB=true→b < H0.next→False:=fun x hx hi hlt=>by
  have:=hp.imm b hlt (by rw[hx];exact hi)
  rw[hb,hx] at this
  subst this;cases hi
 have a0:∀ x,H0.get a=x→x.immB=true→a < H0.next→False:=fun x hx hi hlt=>by
  have:=hp.imm a hlt (by rw[hx];exact hi)
  rw[ha,hx] at this
  subst this;cases hi
 let R':Ren:=⟨fun i=>if i=H.next then R.f b else R.f i,R.sz,R.ro⟩
 have fN:R'.f H.next=R.f b:=by show (if H.next=H.next then R.f b else R.f H.next)=_;rw[if_pos rfl]
 have fO:∀ i,i≠H.next→R'.f i=R.f i:=fun i h=>by show (if i=H.next then R.f b else R.f i)=_;rw[if_neg h]
 have hle:R.le R':=⟨fun i c β h=>⟨by rw[fO i (fun e=>by have:=(hs.dom i c β h).1;omega)];exact h,rfl⟩,fun _ _ h=>h⟩
 -- what stands behind a number of the new heap
 have wO:∀ i c β,R'.f i=some (c,β)→i≠b→∃ k,R.f k=some (c,β)∧(k=i∧i≠H.next∨k=b∧i=H.next)∧(H'.get i).writable=(H.get k).writable∧(H'.get i).ancOf=(H.get k).ancOf∧(H'.get i).size=(H.get k).size:=fun i c β h hib=>by
  by_cases hi:i=H.next
  ·subst hi
   rw[fN] at h
   exact⟨b,h,.inr ⟨rfl,rfl⟩,by rw[gN,hb],by rw[gN,hb],by rw[gN,hb]⟩
  ·rw[fO i hi] at h
   exact⟨i,h,.inl ⟨rfl,hi⟩,hwr i hib hi,hanc i hib hi,hsize i hib hi⟩
 have nb:∀ i x,x∈(H.get i).ancOf→x≠b:=fun i x hx e=>by
  have:=(hs.anc i x hx).2.2
  rw[e,bw] at this;cases this
 refine ⟨R', hle, Ren.le_trans hp.le hle, fun i p h => ?_, ⟨fun i c β h => ?_, fun i c β h => ?_, fun i c β i' β' h h' hne hw => ?_, fun i x hx => ?_, fun i hi => ?_, fun c C h => ⟨(hs.ro c C h).1, fun i β h' => ?_⟩⟩, ?_, hp.grow, hp.frame, fun i hi hr Q c β ob h => ?_, fun i hi h => ?_, fun i c β h h0 => ?_, hp.side, hp.rofresh⟩
 ·by_cases hi:i=H.next
  ·subst hi
   right
   refine⟨?_,hp.next⟩
   cases h0:R0.f H.next with
   | none=>rfl
   | some q=>have:=(hs0.dom H.next q.1 q.2 h0).1;have:=hp.next;omega
  ·rw[fO i hi] at h;exact hp.new i p h
 ·rw[hnext]
  by_cases hi:i=H.next
  ·subst hi
   rw[fN] at h
   exact⟨by omega,(hs.dom b c β h).2⟩
  ·rw[fO i hi] at h
   have:=hs.dom i c β h
   exact⟨by omega,this.2⟩
 ·by_cases hi:i=H.next
  ·subst hi
   rw[fN] at h
   have:=hs.obj b c β h
   rw[hb] at this
   rw[gN]
   exact this.mono hle rfl
  ·rw[fO i hi] at h
   have ho:=hs.obj i c β h
   by_cases h1:i=a
   ·subst h1
    rw[ha] at ho
    obtain⟨C,t,fz,k1,k2,k3,k4,k5⟩:=ho
    rw[gA]
    refine⟨C,t,fz,k1,k2,by simpa using k3,fun q x hx=>?_,k5⟩
    rw[List.getElem?_set] at hx
    split at hx
    ·rename_i hq
     split at hx
     ·injection hx with hx;subst hx
      obtain⟨y,y1,y2⟩:=k4 j _ hj
      rw[←hq]
      refine⟨y,y1,?_⟩
      cases y2 with
      | sl e1 e2 e3 e4 e5=>exact .sl (by rw[fN];exact e1) e2 e3 e4 e5
      | slE e1=>exact .slE e1
      | slN e1=>exact .slN e1
     ·cases hx
    ·obtain⟨y,y1,y2⟩:=k4 q x hx
     exact⟨y,y1,y2.mono hle⟩
   ·by_cases h2:i=b
    ·subst h2;rw[gB];trivial
    ·rw[gO i h1 h2 hi];exact ho.mono hle rfl
 ·by_cases hib:i'=b
  ·left;rw[hib];exact gB
  ·by_cases hb2:i=b
   ·rw[hb2,gB] at hw;cases hw
   ·obtain⟨k,k1,k2,k3,k4,k5⟩:=wO i c β h hb2
    obtain ⟨k', l1, l2, l3, l4, l5⟩ := wO i' c β' h' hib
    rw[k3] at hw
    have hkk:k≠k':=by
     rcases k2 with⟨rfl,_⟩ | ⟨rfl,rfl⟩ <;> rcases l2 with⟨rfl,_⟩ | ⟨rfl,rfl⟩
     ·exact hne
     ·exact hb2
     ·exact fun e=>hib e.symm
     ·exact absurd rfl hne
    rcases hs.sep k c β k' β' k1 l1 hkk hw with h9 | ⟨h9, h8⟩
    ·left
     rcases l2 with⟨rfl,h7⟩ | ⟨rfl,rfl⟩
     ·rw[gO k' (fun e=>by rw[e,ha] at h9;cases h9) hib h7];exact h9
     ·rw[hb] at h9;cases h9
    ·right
     have:=nb k k' h9
     rcases l2 with⟨rfl,h7⟩ | ⟨rfl,rfl⟩
     ·rw[k4,k5,l5];exact⟨h9,h8⟩
     ·exact absurd rfl this
 ·have key : ∀ k, x ∈ (H.get k).ancOf → x < H'.next ∧ (H'.get x).immB = false ∧ (H'.get x).writable = false := fun k hx => by
   have h3:=nb k x hx
   obtain⟨e1,e2,e3⟩:=hs.anc k x hx
   rw[hnext,himm x h3 (by omega),hwr x h3 (by omega)]
   exact⟨by omega,e2,e3⟩
  by_cases hib:i=b
  ·rw[hib,gB] at hx;cases hx
  ·by_cases hi:i=H.next
   ·rw[hi,gN] at hx
    exact key b (by rw[hb];exact hx)
   ·rw[hanc i hib hi] at hx;exact key i hx
 ·rw[hnext] at hi
  rw[gO i (by omega) (by omega) (by omega)]
  exact hs.wf i (by omega)
 ·by_cases hib:i=b
  ·rw[hib,gB];rfl
  ·obtain⟨k,k1,_,k3,_⟩:=wO i c β h' hib
   rw[k3];exact(hs.ro c C h).2 k β k1
 ·rw[hnext];have:=hp.next;omega
 ·by_cases h2:i=b
  ·rw[h2,gB];trivial
  ·by_cases h1:i=a
   ·subst h1
    rcases hp.new i _ hfa with h9 | ⟨_,h9⟩
    ·rw[hr] at h9;cases h9
    ·omega
   ·rw[gO i h1 h2 (by have:=hp.next;omega)];exact hp.calm i hi hr Q c β ob h
 ·by_cases h2:i=b
  ·subst h2;exact(b0 _ rfl h hi).elim
  ·by_cases h1:i=a
   ·subst h1;exact(a0 _ rfl h hi).elim
   ·rw[gO i h1 h2 (by have:=hp.next;omega)];exact hp.imm i hi h
 ·by_cases hi:i=H.next
  ·subst hi
   rw[fN] at h
   cases h1:R0.f b with
   | none=>exact hp.fresh b c β h h1
   | some q =>
    right
    have:=(hp.le.1 b q.1 q.2 h1).1
    rw[h] at this
    injection this with this
    refine⟨b,β,by rw[h1,this],?_⟩
    cases h4:(H0.get b).immB with
    | false=>rfl
    | true=>exact(b0 _ rfl h4 (hs0.dom b q.1 q.2 h1).1).elim
  ·rw[fO i hi] at h;exact hp.fresh i c β h h0

theorem GhS.mv {n0:Nat} (t a j b off sz n c2:Nat) (xs ys:List Value) {F F':Fr} {H H':AHeap} {spA:Bool} {ancA ancB:List Nat} {v:Value} (hv:F.get t=v) (hl:Leads a v)
 (r:GhS n0 F (((H.push (.cells ys false false ancB)).set b .dead).set a (.cells (xs.set j (.slice (some ⟨H.next,off,some sz⟩) n c2)) false spA ancA)) F' H') (ha:H.get a = .cells xs false spA ancA:=by kernel_rfl)
 (hj:nthL xs j=some (.slice (some ⟨b,off,some sz⟩) n c2):=by kernel_rfl) (hb:H.get b = .cells ys false false ancB:=by kernel_rfl) (hab:Nat.beq a b=false:=by kernel_rfl):GhS n0 F H F' H':=
 .step (.upd (.move (t:=t) (by rw[hv];exact hl) ha (by rw[←nthL_eq];exact hj) hb (fun e=>by rw[e] at hab;have:Nat.beq b b=true:=Nat.beq_refl b;rw[this] at hab;cases hab))) r
end Go.Sp
