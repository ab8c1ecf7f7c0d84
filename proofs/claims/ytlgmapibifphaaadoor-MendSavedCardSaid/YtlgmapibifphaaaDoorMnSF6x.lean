import Derived.Test.YtlgmapibifphaaaDoorMnSHx
set_option maxRecDepth 100000
set_option maxHeartbeats 4000000
namespace Go.MnSM
open Go Go.Sp Go.MnS Go.MdM Go.RgP
theorem ZQ:MC (.tuple ⟨[]⟩)=true:=rfl
theorem jA:FC (.map (some 7)) 7=true:=rfl
theorem jC:FC (.map (some 8)) 8=true:=rfl
theorem jD:MK (.pointer (some ⟨1,0,none⟩)) 1 0=true:=rfl
theorem jE:MK (.pointer (some ⟨2,0,none⟩)) 2 0=true:=rfl
theorem jJ:MK (.pointer (some ⟨3,0,none⟩)) 3 0=true:=rfl
theorem jK:MK (.pointer (some ⟨4,0,none⟩)) 4 0=true:=rfl
theorem jL:MK (.pointer (some ⟨5,0,none⟩)) 5 0=true:=rfl
theorem kQ:MK (.pointer (some ⟨6,0,none⟩)) 6 0=true:=rfl
theorem Yh:Om 60 0 (.func (.func 60) ⟨[]⟩ ⟨[.pointer (some ⟨1,0,none⟩),.pointer (some ⟨2,0,none⟩),.pointer (some ⟨3,0,none⟩),.pointer (some ⟨4,0,none⟩),.pointer (some ⟨5,0,none⟩),.pointer (some ⟨6,0,none⟩)]⟩) =
 some [.pointer (some ⟨1,0,none⟩),.pointer (some ⟨2,0,none⟩),.pointer (some ⟨3,0,none⟩),.pointer (some ⟨4,0,none⟩),.pointer (some ⟨5,0,none⟩),.pointer (some ⟨6,0,none⟩)]:=rfl
section
variable (f1 f2:Nat) (K:Int) (h w:List Int) (s0:Nat) (G:List (List Nat))
def UX (X:List Nat) (u:List (Nat×Bool)) (x:List (Nat×Nat)):Prop:=Dy u X∧∀ j (hj:j < X.length) (hp:j < (PL h s0).length),Dr (PL h s0)[j] x=some X[j]
noncomputable def DL (z:Int) (b:Sl) (u:List (Nat×Bool)) (x:List (Nat×Nat)):List Value:=.int .i64 z :: .pointer (some ⟨1,0,none⟩) :: .pointer (some ⟨2,0,none⟩) :: .pointer (some ⟨3,0,none⟩) :: .pointer (some ⟨4,0,none⟩) :: .pointer (some ⟨5,0,none⟩) :: .pointer (some ⟨6,0,none⟩)::OBS f1 f2 K h w s0 b u x
def Pt (n d:Nat):Prop:=∀ (X:List Nat) (b:Sl) (u:List (Nat×Bool)) (x:List (Nat×Nat)),(PL h s0).length≤X.length+d→OkX h w s0 X→mF h w s0 b→UX h s0 X u x →
 ∃ o u' x',FK n 10600 (DL f1 f2 K h w s0 (Int.ofNat X.length) b u x)=oK f1 f2 K h w s0 o u' x'∧UX h s0 X u' x'∧mF h w s0 o∧(b=LL 0 G→o=LL 0 G)∧(Go2 h w s0 G X→o=LL 0 G)
variable (hN:h.length≤10) (hw:w.length=h.length) (hG:ZM h w s0 G) (hP0:PL h s0≠[])
include hN in
theorem Um (hG:ZM h w s0 G) (hP0:PL h s0≠[]) (n:Nat) (X:List Nat) (b:Sl) (u:List (Nat×Bool)) (x:List (Nat×Nat)) (hl:X.length=(PL h s0).length) (hX:OkX h w s0 X) (hb:mF h w s0 b) (hux:UX h s0 X u x) :
 ∃ o,KU (FK (n+1)) 1000000 (sl 0 (nI (PL h s0))) K (sl f1 h) (sl f2 w) b (eG bV u) u.length (eG nV x) x.length=oK f1 f2 K h w s0 o u x∧mF h w s0 o∧(b=LL 0 G→o=LL 0 G)∧(Go2 h w s0 G X→o=LL 0 G):=by
 have hex : ∃ s, BO h.length (fn h) (fn w) (tb s0) s ∧ (∀ i (hi : i < (PL h s0).length), s (PL h s0)[i] = X[i]'(by omega)) ∧ (Go2 h w s0 G X → nl s 11 (PL h s0) [] = G) := by
  by_cases hg:Go2 h w s0 G X
  ·obtain⟨s,g1,g2,g3⟩:=hg
   exact⟨s,g1,λi hi=>g2 i (by omega) hi,λ_=>g3⟩
  ·obtain⟨s,g1,g2⟩:=Acs h w s0 hX hl
   exact⟨s,g1,g2,λg=>absurd g hg⟩
 obtain⟨s,hv,hs,hgo⟩:=hex
 have hDv:=nX hv (show h.length < 11 by omega)
 change BI h.length (fn h) (fn w) (tb s0) (nl s 11 (PL h s0) []) at hDv
 have h10:=cK h s0 hN
 have hx:∀ p∈PL h s0,Dr p x=some (s p):=by
  intro p hp
  obtain⟨i,hi,rfl⟩:=List.getElem_of_mem hp
  rw[hux.2 i (by omega) hi,hs i hi]
 have q:=iZ f1 f2 K h w s0 s hv hN (FK (n+1)) b u x hx 1000000 0 [] [] [] (by omega) (by omega) (by simp) (by simp) (λ_ _ _=>by simp) (λ_=>rfl)
 rw[List.drop_zero,List.nil_append] at q
 have hL0:nl s 11 (PL h s0) []≠[]:=by
  intro e
  rw[e] at hDv
  obtain⟨y,hy⟩:=List.exists_mem_of_ne_nil _ hP0
  obtain⟨y1,y2⟩:=Fh.1 hy
  rw[hDv y y1] at y2;cases y2
 generalize nl s 11 (PL h s0) []=L at *
 obtain⟨hG0,hGl,hGb⟩:=hG
 have e0:KU (FK (n+1)) 1000000 (sl 0 (nI (PL h s0))) K (sl f1 h) (sl f2 w) b (eG bV u) u.length (eG nV x) x.length=KJ (FK (n+1)) 1000000 L.length (2*L.length) (sl 0 (nI (PL h s0))) K (sl f1 h) (sl f2 w) b (eG bV u) u.length (eG nV x) x.length (L.map rv):=by
  unfold KU
  rw[HY,Ak,Jj,Ak,show Au F4 ([]:List EO)=true from rfl,Ak,I4,Gp]
  exact q
 rw[e0]
 have sL:Sl.mk L.length 0 (L.map rv)=LL 0 L:=rfl
 have hLn:(LL 0 L).n=L.length:=rfl
 have hLok:mF h w s0 (LL 0 L):=.inr ⟨L,rfl,hL0,hDv⟩
 have hL1:1≤L.length:=by cases L with | nil=>exact absurd rfl hL0 | cons a r=>simp
 unfold KJ
 rw[iL,Ak,iM,sL,hLn,HY,Jj]
 simp only[Ak]
 rcases hb with rfl | ⟨B,rfl,hB0,hBD⟩
 ·refine⟨LL 0 L,?_,hLok,?_,λg=>by rw[hgo g]⟩
  ·rw[show AY (Int.ofNat iO.n) (Int.ofNat L.length)=true from FM (show 0 < L.length by omega),Ak,XL];rfl
  ·intro e
   have e2:(2:Nat)=(LL 0 G).fl:=by rw[←e];rfl
   cases e2
 ·have hBn:(LL 0 B).n=B.length:=rfl
  rw[hBn]
  have K4 : ∀ c : Bool, (L.length < M h.length (fn h) (fn w) (tb s0) → B = G → c = false) → (L = G → B ≠ G → c = true) → (L.length = M h.length (fn h) (fn w) (tb s0) → mD G L → B = G → c = false) →
   ∃ o,Jf (FK (n+1)) 1000000 (LL 0 L) c (sl 0 (nI (PL h s0))) K (sl f1 h) (sl f2 w) (LL 0 B) (eG bV u) u.length (eG nV x) x.length=oK f1 f2 K h w s0 o u x∧mF h w s0 o∧(LL 0 B=LL 0 G→o=LL 0 G)∧(Go2 h w s0 G X→o=LL 0 G):=by
   intro c k1 k2 k3
   refine⟨_,XL f1 f2 K h w s0 _ _ (LL 0 B) (LL 0 L) c u x,?_,?_,?_⟩
   ·cases c
    ·exact .inr ⟨B,rfl,hB0,hBD⟩
    ·exact hLok
   ·intro e
    have eB:=Acp e
    rcases hGb L hDv with g | g | ⟨g,g'⟩
    ·cases c
     ·exact e
     ·show LL 0 L=_;rw[g]
    ·rw[k1 g eB];exact e
    ·rw[k3 g g' eB];exact e
   ·intro g
    have eL:=hgo g
    by_cases eB:B=G
    ·cases c
     ·show LL 0 B=_;rw[eB]
     ·show LL 0 L=_;rw[eL]
    ·rw[k2 eL eB];show LL 0 L=_;rw[eL]
  by_cases h1:B.length < L.length
  ·rw[FM h1,Ak]
   have hLM:=(Xd L _ hDv).2
   refine K4 true (λg e=>?_) (λ_ _=>rfl) (λg g' e=>?_)
   ·subst e;omega
   ·subst e;omega
  ·rw[FL h1,AA]
   by_cases h2:L.length=B.length
   ·have e2:Bd (Int.ofNat L.length) (Int.ofNat B.length)=true:=by simp[Lr,h2]
    obtain⟨v,q1,q2⟩:=p61 n L B h2 (λr hr=>by have:=Yf L _ hDv r hr;omega) (by have:=iR hDv;omega)
    rw[e2,Ak,q1]
    simp only[Ac,BU]
    refine K4 v (λg e=>?_) (λe e'=>?_) (λg g' e=>?_)
    ·subst e;omega
    ·subst e
     rcases hGb B hBD with g | g | ⟨g,g'⟩
     ·exact absurd g e'
     ·omega
     ·exact q2.2 g'
    ·subst e
     cases v with
     | false=>rfl
     | true=>exact absurd (q2.1 rfl) (Xc _ _ g')
   ·have e2:Bd (Int.ofNat L.length) (Int.ofNat B.length)=false:=by simp[Lr];omega
    rw[e2,AA]
    refine K4 false (λ_ _=>rfl) (λe e'=>?_) (λ_ _ _=>rfl)
    subst e
    rcases hGb B hBD with g | g | ⟨g,g'⟩
    ·exact absurd g e'
    ·omega
    ·omega
theorem oL {X:List Nat} {u:List (Nat×Bool)} {x:List (Nat×Nat)} (hux:UX h s0 X u x) (hl:X.length < (PL h s0).length) (p:Nat):UX h s0 (X++[p]) (pT p true u) (pT (PL h s0)[X.length] p x):=by
 refine⟨iY hux.1 p,λj hj hp=>?_⟩
 rw[ZP]
 by_cases hjx:j < X.length
 ·have hne : ¬ (PL h s0)[j] = (PL h s0)[X.length] := fun e => by
   have:=(List.getElem_inj (Acr h s0)).1 e;omega
  rw[if_neg hne,List.getElem_append_left hjx];exact hux.2 j hjx hp
 ·have:j=X.length:=by simp at hj;omega
  subst this
  rw[if_pos rfl,List.getElem_append_right (Nat.le_refl _)];simp
theorem oM {X:List Nat} {u:List (Nat×Bool)} {x:List (Nat×Nat)} {p:Nat} (hp:p ∉ X) (hl:X.length < (PL h s0).length) (hux:UX h s0 (X++[p]) u x):UX h s0 X (pT p false u) x:=by
 refine⟨λq=>?_,λj hj hp=>?_⟩
 ·rw[ZP]
  by_cases e:q=p
  ·subst e;rw[if_pos rfl,Option.getD_some,(G5 X q).2 hp]
  ·rw[if_neg e,hux.1 q,Bool.eq_iff_iff,Gt,Gt];simp[e]
 ·have:=hux.2 j (by simp;omega) hp
  rw[this,List.getElem_append_left hj]
include hN hw
theorem Aiv (n d:Nat) (X:List Nat) (hd:(PL h s0).length≤X.length+(d+1)) (hl:X.length < (PL h s0).length) (hX:OkX h w s0 X) (hPt:Pt f1 f2 K h w s0 G n d) :
 ∀ (f i : Nat) (b : Sl) (u : List (Nat × Bool)) (x : List (Nat × Nat)), (PL h s0).length - i < f → i ≤ (PL h s0).length → mF h w s0 b → UX h s0 X u x →
  ∃ o u' x', IB (FK n) 1000000 f (Int.ofNat X.length) (sl 0 (nI (PL h s0))) (Int.ofNat (PL h s0).length) (Int.ofNat i) (sl 0 (nI (PL h s0))) K (sl f1 h) (sl f2 w) b (eG bV u) u.length (eG nV x) x.length = oK f1 f2 K h w s0 o u' x' ∧
   UX h s0 X u' x'∧mF h w s0 o∧(b=LL 0 G→o=LL 0 G)∧(Go3 h w s0 G X i→o=LL 0 G):=by
 have h10:=cK h s0 hN
 intro f
 induction f with
 | zero=>intro i b u x hi;omega
 | succ f ih =>
  intro i b u x hi hil hb hux
  have e1:IB (FK n) 1000000 (f+1)=MI (FK n) 1000000 (IB (FK n) 1000000 f):=rfl
  rw[e1]
  unfold MI
  rw[HY,Ak,Jj,Ak]
  by_cases hlt:i < (PL h s0).length
  ·obtain⟨p1,p2⟩:=Xh h s0 hlt
   obtain⟨q1,q2⟩:=Xh h s0 hl
   have hpw:(PL h s0)[X.length] < w.length:=by omega
   have fu:=Oz bV (PL h s0)[i] u
   have gu:=Yg (PL h s0)[i] u
   rw[hux.1] at gu
   rw[FM hlt]
   simp only[Ak,Cx,Ac,I4,GX,Gp,blt_eq,hlt,hl,decide_true,CF,Bool.true_and,BZ,Nat.mul_one,O0 (PL h s0) i hlt,O0 (PL h s0) X.length hl,BP,p1,hpw,Aja h _ p1,Aja w _ hpw]
   rw[fu,Ac,gu,BU,Ac]
   have skip : ∀ b' u' x', mF h w s0 b' → UX h s0 X u' x' → (b = LL 0 G → b' = LL 0 G) → ((∃ s, BO h.length (fn h) (fn w) (tb s0) s ∧ Ext h s0 X s ∧ nl s 11 (PL h s0) [] = G ∧ s (PL h s0)[X.length] = (PL h s0)[i]) → b' = LL 0 G) →
    ∃ o u'' x'', KV (FK n) 1000000 (IB (FK n) 1000000 f) (Int.ofNat X.length) (sl 0 (nI (PL h s0))) (Int.ofNat (PL h s0).length) (Int.ofNat i) (sl 0 (nI (PL h s0))) K (sl f1 h) (sl f2 w) b' (eG bV u') u'.length (eG nV x') x'.length = oK f1 f2 K h w s0 o u'' x'' ∧
     UX h s0 X u'' x''∧mF h w s0 o∧(b=LL 0 G→o=LL 0 G)∧(Go3 h w s0 G X i→o=LL 0 G):=by
    intro b' u' x' k1 kx k2 k3
    unfold KV
    rw[HY,Ak,Jj,Ak,DC i (by omega)]
    obtain⟨o,u'',x'',e1,e0,e2,e3,e4⟩:=ih (i+1) b' u' x' (by omega) (by omega) k1 kx
    refine⟨o,u'',x'',e1,e0,e2,λg=>e3 (k2 g),λ⟨s,g1,g2,g3,j,hj,hx,g4,g5⟩=>?_⟩
    by_cases hij:j=i
    ·subst hij;exact e3 (k3 ⟨s,g1,g2,g3,g5⟩)
    ·exact e4 ⟨s,g1,g2,g3,j,hj,hx,by omega,g5⟩
   cases hc:X.contains (PL h s0)[i] with
   | true =>
    rw[show nt true=false from rfl,AA]
    unfold Je
    rw[AA,HY,Ak,Jj,Ak]
    refine skip b u x hb hux (λg=>g) (λ⟨s,g1,g2,g3,g5⟩=>?_)
    exfalso
    obtain⟨j,hj,hje⟩:=List.getElem_of_mem ((Gt X _).1 hc)
    have g6:=g2 j hj (by omega)
    rw[hje,←g5] at g6
    obtain⟨r1,r2⟩:=Xh h s0 (show j < (PL h s0).length by omega)
    have:=g1.2 _ _ r1 q1 r2 q2 g6
    have:=(List.getElem_inj (Acr h s0)).1 this
    omega
   | false =>
    have hnX:=(G5 X _).1 hc
    rw[show nt false=true from rfl,Ak]
    by_cases c1:h[(PL h s0)[i]]=w[(PL h s0)[X.length]]
    ·have:Bd h[(PL h s0)[i]] w[(PL h s0)[X.length]]=true:=by rw[Lr,c1];simp
     rw[this]
     have hXs:=iT h w s0 hX hl (List.getElem_mem hlt) hnX (by rw[Gv p1,Gv hpw,c1])
     obtain⟨o,u',x',e1,e0,e2,e3,e4⟩:=hPt (X++[(PL h s0)[i]]) b (pT (PL h s0)[i] true u) (pT (PL h s0)[X.length] (PL h s0)[i] x) (by simp;omega) hXs hb (oL h s0 hux hl _)
     have hcall : Je (FK n) 1000000 (IB (FK n) 1000000 f) (Int.ofNat X.length) (Int.ofNat (PL h s0)[i]) (sl 0 (nI (PL h s0))) (Int.ofNat (PL h s0).length) (Int.ofNat i) true (sl 0 (nI (PL h s0))) K (sl f1 h) (sl f2 w) b (eG bV u) u.length (eG nV x) x.length =
      KV (FK n) 1000000 (IB (FK n) 1000000 f) (Int.ofNat X.length) (sl 0 (nI (PL h s0))) (Int.ofNat (PL h s0).length) (Int.ofNat i) (sl 0 (nI (PL h s0))) K (sl f1 h) (sl f2 w) o (eG bV (pT (PL h s0)[i] false u')) (pT (PL h s0)[i] false u').length (eG nV x') x'.length:=by
      unfold Je
      have fx:=Oz nV (PL h s0)[X.length] x
      have gx:=iX (PL h s0)[X.length] x
      obtain⟨u1,u2⟩:=Sa bV (PL h s0)[i] true u
      have x2:=(Sa nV (PL h s0)[X.length] (PL h s0)[i] x).2
      obtain⟨j,j1,j2⟩:=Acu nV (PL h s0)[X.length] 0 (PL h s0)[i] x
      have j1:U2 (Sr x.length (eG nV x) (rG nV (PL h s0)[X.length] x)) (LP (.int .i64 (Int.ofNat (PL h s0)[X.length])) (.int .i64 (0:Int)) x.length (eG nV x) (rG nV (PL h s0)[X.length] x)) 0=some j:=j1
      have j2:QH (.int .i64 (Int.ofNat (PL h s0)[i])) j (LP (.int .i64 (Int.ofNat (PL h s0)[X.length])) (.int .i64 (0:Int)) x.length (eG nV x) (rG nV (PL h s0)[X.length] x))=eG nV (pT (PL h s0)[X.length] (PL h s0)[i] x):=j2
      have u1:Gr (.int .i64 (Int.ofNat (PL h s0)[i])) (.bool true) u.length (eG bV u) (rG bV (PL h s0)[i] u)=eG bV (pT (PL h s0)[i] true u):=u1
      have hla:(X++[(PL h s0)[i]]).length=X.length+1:=by simp
      rw[hla] at e1
      have e1' : FK n 10600 [.int .i64 (Int.ofNat (X.length + 1)), .pointer (some ⟨1, 0, none⟩), .pointer (some ⟨2, 0, none⟩), .pointer (some ⟨3, 0, none⟩), .pointer (some ⟨4, 0, none⟩), .pointer (some ⟨5, 0, none⟩), .pointer (some ⟨6, 0, none⟩), .agg ⟨[Sl.v 1 (sl 0 (nI (PL h s0)))]⟩, .agg ⟨[.map (some 7)]⟩, .agg ⟨[.int .i64 K, Sl.v 1 (sl f1 h), Sl.v 1 (sl f2 w)]⟩, .agg ⟨[.map (some 8)]⟩,
       .agg ⟨[.func (.func 60) ⟨[]⟩ ⟨[.pointer (some ⟨1,0,none⟩),.pointer (some ⟨2,0,none⟩),.pointer (some ⟨3,0,none⟩),.pointer (some ⟨4,0,none⟩),.pointer (some ⟨5,0,none⟩),.pointer (some ⟨6,0,none⟩)]⟩]⟩,.agg ⟨[Sl.v 1 b]⟩,Ef (.map (eG bV (pT (PL h s0)[i] true u)) (pT (PL h s0)[i] true u).length),Ef (.map (eG nV (pT (PL h s0)[X.length] (PL h s0)[i] x)) (pT (PL h s0)[X.length] (PL h s0)[i] x).length)] =
       some (.tuple ⟨[.tuple ⟨[]⟩, .agg ⟨[Sl.v 1 (sl 0 (nI (PL h s0)))]⟩, .agg ⟨[.map (some 7)]⟩, .agg ⟨[.int .i64 K, Sl.v 1 (sl f1 h), Sl.v 1 (sl f2 w)]⟩, .agg ⟨[.map (some 8)]⟩,
        .agg ⟨[.func (.func 60) ⟨[]⟩ ⟨[.pointer (some ⟨1,0,none⟩),.pointer (some ⟨2,0,none⟩),.pointer (some ⟨3,0,none⟩),.pointer (some ⟨4,0,none⟩),.pointer (some ⟨5,0,none⟩),.pointer (some ⟨6,0,none⟩)]⟩]⟩,.agg ⟨[Sl.v 1 o]⟩,Ef (.map (eG bV u') u'.length),Ef (.map (eG nV x') x'.length)]⟩):=e1
      rw[Ak,Cx,Ac]
      simp only[I4,GX,Gp,blt_eq,hl,decide_true,CF,Bool.true_and,Ak,BZ,Nat.mul_one,O0 (PL h s0) X.length hl,Ac,BP]
      rw[fu,Ac,fx,Ac,gx,BP,Ac,j1,Ac,u1,HY,Ak,j2,Jj,Ak,Ak,Ak,DC X.length (by omega),u2,x2,e1']
      simp only[Ac,FW,Dj,EG,RL,BP,Dc,CX,ZQ,jA,jC,jD,jE,jJ,jK,jL,kQ,Yh,Ak,HY,Jj]
      obtain⟨w1,w2⟩:=Sa bV (PL h s0)[i] false u'
      have w1:Gr (.int .i64 (Int.ofNat (PL h s0)[i])) (.bool false) u'.length (eG bV u') (rG bV (PL h s0)[i] u')=eG bV (pT (PL h s0)[i] false u'):=w1
      rw[Oz bV (PL h s0)[i] u',Ac,w1,w2,HY,Ak]
     rw[hcall]
     refine skip o _ x' e2 (oM h s0 hnX hl e0) e3 (λ⟨s,g1,g2,g3,g5⟩=>e4 ⟨s,g1,λa ha hp=>?_,g3⟩)
     by_cases hax:a < X.length
     ·rw[List.getElem_append_left hax];exact g2 a hax hp
     ·have:a=X.length:=by simp at ha;omega
      subst this
      rw[List.getElem_append_right (Nat.le_refl _)]
      simpa using g5
    ·have:Bd h[(PL h s0)[i]] w[(PL h s0)[X.length]]=false:=by simp[Lr,c1]
     rw[this]
     unfold Je
     rw[AA,HY,Ak,Jj,Ak]
     refine skip b u x hb hux (λg=>g) (λ⟨s,g1,g2,g3,g5⟩=>?_)
     exfalso
     have:=(g1.1 _ q1 q2).2.2
     rw[g5,Gv p1,Gv hpw] at this
     exact c1 this
  ·have:i=(PL h s0).length:=by omega
   subst this
   rw[FL hlt,AA]
   refine⟨b,u,x,iW f1 f2 K h w s0 (FK n) 1000000 b u x,hux,hb,λg=>g,λ⟨s,_,_,_,j,hj,_,g4,_⟩=>?_⟩
   omega
omit hN hw in
theorem Pm (n:Nat) (z:Int) (b:Sl) (u:List (Nat×Bool)) (x:List (Nat×Nat)):FK (n+1) 10600 (DL f1 f2 K h w s0 z b u x)=LQ (FK n) 1000000 z (sl 0 (nI (PL h s0))) K (sl f1 h) (sl f2 w) b (eG bV u) u.length (eG nV x) x.length:=by
 have e0:FK (n+1) 10600 (DL f1 f2 K h w s0 z b u x)=OD (FK n) 1000000 (DL f1 f2 K h w s0 z b u x):=by kernel_rfl
 rw[e0]
 unfold OD DL OBS FNv
 simp only[Ac,Dj,EG,RL,BP,Dc,CX,jA,jC,jD,jE,jJ,jK,jL,kQ,Yh,Ak]
include hG hP0
theorem oN:∀ (d n:Nat),Pt f1 f2 K h w s0 G (n+d+2) d:=by
 intro d
 induction d with
 | zero =>
  intro n X b u x hd hX hb hux
  have hl:X.length=(PL h s0).length:=by have:=hX.1;omega
  obtain⟨o,e,r⟩:=Um f1 f2 K h w s0 G hN hG hP0 n X b u x hl hX hb hux
  refine⟨o,u,x,?_,hux,r⟩
  rw[show n+0+2=n+1+1 by omega,Pm]
  unfold LQ
  rw[HY,Ak,Jj,Ak,I4,Gp,hl,FL (by omega),AA]
  exact e
 | succ d ih =>
  intro n X b u x hd hX hb hux
  rw[show n+(d+1)+2=n+d+2+1 by omega,Pm]
  unfold LQ
  rw[HY,Ak,Jj,Ak,I4,Gp]
  by_cases hl:X.length=(PL h s0).length
  ·obtain⟨o,e,r⟩:=Um f1 f2 K h w s0 G hN hG hP0 (n+d+1) X b u x hl hX hb hux
   refine⟨o,u,x,?_,hux,r⟩
   rw[hl,FL (by omega),AA]
   exact e
  ·have hl:X.length < (PL h s0).length:=by have:=hX.1;omega
   obtain⟨o,u',x',a1,a2,a3,a4,a5⟩:=Aiv f1 f2 K h w s0 G hN hw (n+d+2) d X (by omega) hl hX (ih n) 1000000 0 b u x (by have:=cK h s0 hN;omega) (by omega) hb hux
   refine⟨o,u',x',?_,a2,a3,a4,λ⟨s,g1,g2,g3⟩=>?_⟩
   ·rw[FM hl,Ak];exact a1
   ·obtain⟨r1,r2⟩:=Xh h s0 hl
    obtain⟨t1,t2,t3⟩:=g1.1 _ r1 r2
    obtain⟨j,hj,hje⟩:=List.getElem_of_mem (show s (PL h s0)[X.length]∈PL h s0 from Fh.2 ⟨t1,t2⟩)
    exact a5 ⟨s,g1,g2,g3,j,hj,hl,Nat.zero_le _,hje.symm⟩
end
end Go.MnSM
set_option maxRecDepth 100000
set_option maxHeartbeats 4000000
namespace Go.MnSM
open Go Go.Sp Go.MnS Go.MdM Go.RgP
section
variable (f1 f2:Nat) (k:Int) (h w:List Int)
def wl (i:Nat):List Nat:=(List.range i).filter (tb (bv h w))
theorem ZR (i:Nat):wl h w (i+1)=wl h w i++(if (bv h w).testBit i then [i] else []):=by
 unfold wl
 rw[List.range_succ,List.filter_append]
 congr 1
 show List.filter (tb (bv h w)) [i]=_
 by_cases c:(bv h w).testBit i=true
 ·rw[if_pos c];simp[tb,c]
 ·rw[if_neg c];simp[tb,c]
theorem kR (i:Nat):(wl h w i).length≤i:=by
 unfold wl;have:=List.length_filter_le (tb (bv h w)) (List.range i);simpa using this
variable (hN:h.length≤10) (hw:w.length=h.length)
include hN hw
theorem l36 (pu:Af):∀ (f i:Nat),h.length - i < f→i≤h.length →
 OP pu 1000000 f (Int.ofNat h.length) (Int.ofNat i) k (sl f1 h) (sl f2 w) (wl h w i).length (2 * (wl h w i).length) ((nI (wl h w i)).map I) =
  RO pu 1000000 k (sl f1 h) (sl f2 w) (wl h w h.length).length (2*(wl h w h.length).length) ((nI (wl h w h.length)).map I):=by
 intro f
 induction f with
 | zero=>intro i hi;omega
 | succ f ih =>
  intro i hi hil
  have e1:OP pu 1000000 (f+1)=WG pu 1000000 (OP pu 1000000 f):=rfl
  rw[e1]
  unfold WG
  rw[sS,Ak]
  have hlw:=kR h w i
  by_cases hlt:i < h.length
  ·have hiw:i < w.length:=by omega
   have hbit:=Nc h w i hlt hiw
   have hs:=ZR h w i
   rw[FM hlt]
   simp only[Ak,Cx,Ac,I4,GX,blt_eq,hlt,hiw,decide_true,CF,Bool.true_and,BZ,Nat.mul_one,Aja h i hlt,Aja w i hiw,BP]
   have next : TY pu 1000000 (OP pu 1000000 f) (Int.ofNat h.length) (Int.ofNat i) k (sl f1 h) (sl f2 w) (wl h w (i + 1)).length (2 * (wl h w (i + 1)).length) ((nI (wl h w (i + 1))).map I) =
    RO pu 1000000 k (sl f1 h) (sl f2 w) (wl h w h.length).length (2*(wl h w h.length).length) ((nI (wl h w h.length)).map I):=by
    unfold TY
    rw[sS,Ak,DC i (by omega)]
    exact ih (i+1) (by omega) (by omega)
   by_cases c:h[i]=w[i]
   ·have q:nt (Bd h[i] w[i])=false:=by rw[Lr,c];simp
    have hb:(bv h w).testBit i=false:=by rw[hbit,c];simp
    rw[q,AA]
    rw[hs,hb,if_neg (by simp),List.append_nil] at next
    exact next
   ·have q:nt (Bd h[i] w[i])=true:=by rw[Lr];simp[c]
    have hb:(bv h w).testBit i=true:=by rw[hbit];simp[c]
    have hg:=Uj 1 8 (wl h w i).length 1 ((nI (wl h w i)).map I) (Pj (by omega) (by omega)) (by omega) (by rw[List.length_map,Gp,Nat.mul_one])
    rw[q,Ak,hg,Ak,sU,sS,Ak]
    rw[hs,hb,if_pos rfl,List.length_append,List.length_singleton] at next
    exact next
  ·have:i=h.length:=by omega
   subst this
   rw[FL hlt,AA]
end
theorem p36 (n f1 f2:Nat) {k:Int} {h w:List Int} (hc:chk k h w=0):∃ f,FK (n+20) 36 [tr f1 f2 k h w]=some (Sl.v 1 (LL f (Dn h w))):=by
 have ho:=ZN hc
 have h10:=cK h (bv h w) ho.n10
 have e0:FK (n+20) 36 [tr f1 f2 k h w]=OP (FK (n+19)) 1000000 1000000 (Int.ofNat h.length) (Int.ofNat 0) k (sl f1 h) (sl f2 w) (wl h w 0).length (2*(wl h w 0).length) ((nI (wl h w 0)).map I):=by
  refine Eq.trans (b:=nJ (FK (n+19)) 1000000 k (sl f1 h) (sl f2 w)) (by kernel_rfl) ?_
  unfold nJ
  rw[I4];rfl
 have hP:wl h w h.length=PL h (bv h w):=rfl
 rw[e0,l36 f1 f2 k h w ho.n10 ho.len (FK (n+19)) 1000000 0 (by have:=ho.n10;omega) (by omega),hP]
 have sP:Sl.mk (PL h (bv h w)).length 0 ((nI (PL h (bv h w))).map I)=sl 0 (nI (PL h (bv h w))):=by unfold sl;rw[Gp]
 have key:∃ o u x f,FK (n+19) 10600 (DL f1 f2 k h w (bv h w) (Int.ofNat 0) iO [] [])=oK f1 f2 k h w (bv h w) o u x∧o=LL f (Dn h w):=by
  by_cases hP0:PL h (bv h w)=[]
  ·have hG : Dn h w = [] := by
    have hD:=ho.dv
    cases hg:Dn h w with
    | nil=>rfl
    | cons r L =>
     rw[hg] at hD
     obtain⟨f,e,_,⟨d1,d2,_⟩,_⟩:=hD
     have:f∈PL h (bv h w):=Fh.2 ⟨d1,d2⟩
     rw[hP0] at this;cases this
   refine⟨iO,[],[],2,?_,by rw[hG];rfl⟩
   rw[show n+19=(n+18)+1 by omega,Pm]
   unfold oK OBS
   rw[hP0]
   kernel_rfl
  ·have hF : ZM h w (bv h w) (Dn h w) := by
    refine⟨?_,ho.ln,ho.fst⟩
    intro hg
    have hD:=ho.dv
    rw[hg] at hD
    obtain⟨y,hy⟩:=List.exists_mem_of_ne_nil _ hP0
    obtain⟨y1,y2⟩:=Fh.1 hy
    rw[hD y y1] at y2;cases y2
   obtain⟨s,g1,g2⟩:=nY ho.dv (show h.length < 11 by have:=ho.n10;omega)
   have hp:=oN f1 f2 k h w (bv h w) (Dn h w) ho.n10 ho.len hF hP0 (PL h (bv h w)).length (n+17 - (PL h (bv h w)).length)
   rw[show n+17 - (PL h (bv h w)).length+(PL h (bv h w)).length+2=n+19 by omega] at hp
   obtain⟨o,u,x,a1,_,_,_,a5⟩:=hp [] iO [] [] (by simp) ⟨by simp,by simp,by simp,λi hi=>by simp at hi⟩ (.inl rfl) ⟨λ_=>rfl,λj hj=>by simp at hj⟩
   exact⟨o,u,x,0,a1,a5 ⟨s,g1,λi hi=>by simp at hi,g2⟩⟩
 obtain⟨o,u,x,f,a1,rfl⟩:=key
 refine⟨f,?_⟩
 have a1' : FK (n + 19) 10600 [.int .i64 (0 : Int), .pointer (some ⟨1, 0, none⟩), .pointer (some ⟨2, 0, none⟩), .pointer (some ⟨3, 0, none⟩), .pointer (some ⟨4, 0, none⟩), .pointer (some ⟨5, 0, none⟩), .pointer (some ⟨6, 0, none⟩), .agg ⟨[Sl.v 1 (sl 0 (nI (PL h (bv h w))))]⟩, .agg ⟨[.map (some 7)]⟩, .agg ⟨[.int .i64 k, Sl.v 1 (sl f1 h), Sl.v 1 (sl f2 w)]⟩, .agg ⟨[.map (some 8)]⟩,
  .agg ⟨[.func (.func 60) ⟨[]⟩ ⟨[.pointer (some ⟨1,0,none⟩),.pointer (some ⟨2,0,none⟩),.pointer (some ⟨3,0,none⟩),.pointer (some ⟨4,0,none⟩),.pointer (some ⟨5,0,none⟩),.pointer (some ⟨6,0,none⟩)]⟩]⟩,.agg ⟨[Sl.v 1 (Sl.mk 0 2 [])]⟩,Ef (.map ([]:List EO) 0),Ef (.map ([]:List EO) 0)] =
  some (.tuple ⟨[.tuple ⟨[]⟩, .agg ⟨[Sl.v 1 (sl 0 (nI (PL h (bv h w))))]⟩, .agg ⟨[.map (some 7)]⟩, .agg ⟨[.int .i64 k, Sl.v 1 (sl f1 h), Sl.v 1 (sl f2 w)]⟩, .agg ⟨[.map (some 8)]⟩,
   .agg ⟨[.func (.func 60) ⟨[]⟩ ⟨[.pointer (some ⟨1,0,none⟩),.pointer (some ⟨2,0,none⟩),.pointer (some ⟨3,0,none⟩),.pointer (some ⟨4,0,none⟩),.pointer (some ⟨5,0,none⟩),.pointer (some ⟨6,0,none⟩)]⟩]⟩,.agg ⟨[Sl.v 1 (LL f (Dn h w))]⟩,Ef (.map (eG bV u) u.length),Ef (.map (eG nV x) x.length)]⟩):=a1
 unfold RO
 rw[sS,Ak,show Au F4 ([]:List EO)=true from rfl,Ak,Ye,Ak,Ak,Ak,takeN,sP,a1']
 simp only[Ac,FW,Dj,EG,RL,BP,Dc,CX,ZQ,jA,jC,jD,jE,jJ,jK,jL,kQ,Yh,Ak,HY,Jj]
end Go.MnSM
set_option maxRecDepth 100000
namespace Go.MnSM
open Go.Sp Go.MnS Go.MdM
noncomputable def hb (h w:List Int) (a b:Nat):Bool:=AY (C8 (swp h a b) w) (C8 h w)
noncomputable def Un (h w:List Int) (a:Nat):Nat→Nat→List (Nat×Nat)
 | 0,_=>[]
 | f+1,b=>(bif hb h w a b then [(a,b)] else [])++Un h w a f (b+1)
def pq (P:List (Nat×Nat)):List Value:=P.flatMap λp=>[I (Int.ofNat p.1),I (Int.ofNat p.2)]
theorem VW (P:List (Nat×Nat)):(pq P).length=P.length*2:=by
 induction P with
 | nil=>rfl
 | cons p C ih=>simp only[pq,List.flatMap_cons,List.length_append,List.length_cons,List.length_nil] at ih ⊢;omega
theorem Acx (C D:List (Nat×Nat)):pq (C++D)=pq C++pq D:=by simp[pq]
theorem cZ (C:List (Nat×Nat)):Au Ah (pq C)=true:=by
 rw[Bh,List.all_eq_true];intro x hx
 simp[pq] at hx
 obtain⟨a,b,_,h | h⟩:=hx <;> subst h <;> rfl
theorem Acy (C:List (Nat×Nat)) (a b:Nat):Br (Am 0 (pq C)) [I (Int.ofNat a),I (Int.ofNat b)]=pq (C++[(a,b)]):=by
 rw[BH,Bz,List.drop_zero,Acx];rfl
theorem kS:∀ (C:List (Nat×Nat)) (i:Nat) (h:i < C.length),(pq C)[i*2]?=some (I (Int.ofNat C[i].1))∧(pq C)[i*2+1]?=some (I (Int.ofNat C[i].2))
 | [],i,h=>by simp at h
 | p::C,0,_=>⟨rfl,rfl⟩
 | p :: C, i + 1, h => by
  have ih:=kS C i (by simpa using h)
  have e:pq (p::C)=I (Int.ofNat p.1)::I (Int.ofNat p.2)::pq C:=rfl
  have e2:(i+1)*2=i*2+1+1:=by omega
  rw[e,e2]
  simp only[List.getElem?_cons_succ,List.getElem_cons_succ]
  exact ih
def ps (P:List (Nat×Nat)):Sl:=⟨P.length,0,pq P⟩
theorem Acz (P:List (Nat×Nat)):an (Nat.ble (0+P.length*2) (len (pq P))) (Au Ah (Aq (P.length*2) (Am 0 (pq P))))=true:=by
 rw[Nat.zero_add,←VW,Bz,List.drop_zero,Cg,List.take_length,cZ,AV,ble_eq]
 simp
theorem Ag0 (P:List (Nat×Nat)):Aq (P.length*2) (Am 0 (pq P))=pq P:=by
 rw[←VW,Bz,List.drop_zero,Cg,List.take_length]
section
variable (n f1 f2:Nat) (k:Int) (h w:List Int) (ho:Ok k h w)
include ho
end
theorem AcA {x:Int} (h:x≠0):nt (Bd x 0)=true:=by simp[Lr,h]
theorem oO:nt (Bd (0:Int) 0)=false:=rfl
theorem Yi (x:Int):Bd x x=true:=by simp[Lr]
theorem p29 (n f1 f2:Nat) (k:Int) (h w:List Int) (ho:Ok k h w) (hc:chk k h w=0):FK (n+17) 29 [tr f1 f2 k h w]=some (.tuple ⟨[I (C8 h w),I 0]⟩):=by
 refine Eq.trans (b:=nD (FK (n+16)) 1000000 k (sl f1 h) (sl f2 w)) (by kernel_rfl) ?_
 unfold nD
 have e1:=p47 (n+14) f1 f2 k h w
 have e2:=p44 (n+2) f1 f2 k h w ho.n10 ho.len ho.kh ho.kw
 unfold tr S at e1 e2
 rw[e1,Ac,BP,Ac,hc,oO,AA,e2];rfl
section
variable (pu:Af) (n:Nat) (k:Int) (s t:Sl) (e12:pu 12 []=some (Value.bool true))
include e12
end
theorem e12 (n:Nat):FK (n+1) 12 []=some (Value.bool true):=by kernel_rfl
end Go.MnSM
set_option maxRecDepth 100000
namespace Go.MdM
theorem Yj {α β:Type} {f g:α→Option β}:∀ (l:List α),(∀ a∈l,f a=g a)→l.findSome? f=l.findSome? g
 | [],_=>rfl
 | a::l,h=>by rw[List.findSome?_cons,List.findSome?_cons,h a (by simp),Yj l (λb hb=>h b (by simp[hb]))]
variable {N:Nat} {H W:Nat→Int}
theorem OA {Q:Bn→Prop} (hQ:∀ A B:Bn,(∀ i,i < N→A i=B i)→(Q A↔Q B)) (f:Nat):∀ (k:Nat) (A B:Bn) (last:Nat),(∀ i,i < N→A i=B i)→Pi N H W Q f k A last=Pi N H W Q f k B last
 | 0,_,_,_,_=>rfl
 | k + 1, A, B, last, h => by
  unfold Pi
  have this:(W last=H f∧Q A)↔(W last=H f∧Q B):=and_congr Iff.rfl (hQ A B h)
  have hf:(els N B).findSome? (λi=>if H i=W last then (Pi N H W Q f k (del A i) i).map (i :: ·) else none)=(els N B).findSome? (λi=>if H i=W last then (Pi N H W Q f k (del B i) i).map (i :: ·) else none):=Yj _ (λi _=>by rw[OA hQ f k _ _ i (Pg h i)])
  rw[Ox h,hf]
  by_cases hc:W last=H f∧Q A
  ·rw[if_pos hc,if_pos (this.1 hc)]
  ·rw[if_neg hc,if_neg (λg=>hc (this.2 g))]
theorem XM {Q:Bn→Prop} (f:Nat):∀ (k k':Nat) (R:Bn) (last:Nat),card N R < k→card N R < k'→Pi N H W Q f k R last=Pi N H W Q f k' R last
 | 0,_,_,_,h,_=>by omega
 | _+1,0,_,_,_,h=>by omega
 | k + 1, k' + 1, R, last, h1, h2 => by
  unfold Pi
  have hf:(els N R).findSome? (fun i=>if H i=W last then (Pi N H W Q f k (del R i) i).map (i :: ·) else none)=(els N R).findSome? (fun i=>if H i=W last then (Pi N H W Q f k' (del R i) i).map (i :: ·) else none):=Yj _ (fun i hi=>by
   obtain⟨a,b⟩:=Fh.1 hi
   have:=Gn a b
   rw[XM f k k' (del R i) i (by omega) (by omega)])
  rw[hf]
end Go.MdM
namespace Go.MnSM
open Go.Sp Go.MnS Go.MdM
theorem p72 (n:Nat) (bg:List Nat):FK (n+1) 72 [S 0 (nI bg)]=some (S 1 (nI bg)):=by
 have e:KY 1 (sl 0 (nI bg))=sl 1 (nI bg):=by
  unfold KY
  rw[show Nat.beq (sl 0 (nI bg)).fl 2=false from rfl,AA]
  have t:=takeN bg
  rw[I4,GX,Gp,Nat.zero_mul,Nat.sub_zero,t];unfold sl;rw[Gp]
 refine Eq.trans (b:=nR (FK n) 1000000 (sl 0 (nI bg))) (by kernel_rfl) ?_
 unfold nR
 rw[e];rfl
theorem AcB (r:List Nat) (a:Nat):Br ((nI r).map I) [I (Int.ofNat a)]=(nI (r++[a])).map I:=by
 rw[BH,iK,List.map_append];rfl
def Qr (h w:List Int) (r:Nat):Bn→Prop:=λR=>Bp h.length (fn h) (fn w) R∧M h.length (fn h) (fn w) R=r
theorem XN (h w:List Int) (r:Nat) (A B:Bn) (g:∀ i,i < h.length→A i=B i):Qr h w r A↔Qr h w r B:=by
 unfold Qr;rw[OW g,Kg g]
def VY (bg:List Nat):Option (List Nat)→Value
 | some e=>S 0 (nI (bg++e))
 | none=>Sl.v 1 ⟨0,2,[]⟩
noncomputable def fd (h w:List Int) (r f d:Nat) (R:Bn) (last:Nat):Nat→Option (List Nat):=λi=>if fn h i=fn w last then (Pi h.length (fn h) (fn w) (Qr h w r) f d (del R i) i).map (i :: ·) else none
section
variable (fl fl':Nat) (k:Int) (h w:List Int) (hN:h.length≤10) (hw:w.length=h.length) (hk:X6 h) (hkw:X6 w)
def DT (r n d:Nat):Prop:=∀ s bg f last es c,card h.length (tb s) < d→s < 2 ^ h.length→Gm h w es→bg.length+d≤900→f < h.length→last < h.length→bg[0]?=some f→bg[bg.length - 1]?=some last →
 ∃ es' c',FK n 10680 [ptr,S 0 (nI bg),U s,I (Int.ofNat r),PN fl fl' k h w,mp es c]=some (.tuple ⟨[VY bg (Pi h.length (fn h) (fn w) (Qr h w r) f d (tb s) last),PN fl fl' k h w,mp es' c']⟩)∧Gm h w es'
include hN hw
theorem AcC (r n d s:Nat) (bg:List Nat) (f last:Nat) (hs:s < 2 ^ h.length) (hd:card h.length (tb s) < d+1) (hbg:bg.length+d < 900) (hf:f < h.length) (hl:last < h.length) (hb0:bg[0]?=some f) (ih0:DT fl fl' k h w r (n+1) d):∀ (g i c:Nat) (es:List EO),(eL s).length - i < g→i≤(eL s).length→Gm h w es →
 ∃ es' c', KX (FK (n + 1)) 1000000 g (sl 0 (nI bg)) (Int.ofNat s) (Int.ofNat r) (Int.ofNat last) (sl 0 (eL s)) (Int.ofNat (eL s).length) (Int.ofNat i) k (sl fl h) (sl fl' w) es c =
  some (.tuple ⟨[VY bg (((els h.length (tb s)).drop i).findSome? (fd h w r f d (tb s) last)),PN fl fl' k h w,mp es' c']⟩)∧Gm h w es':=by
 intro g
 have heL:=iH hN hs
 have hlen:(eL s).length=(els h.length (tb s)).length:=by rw[heL,List.length_map]
 have hcd:(els h.length (tb s)).length≤10:=by
  rw[Ha];unfold card;exact Nat.le_trans List.countP_le_length (by simpa using hN)
 induction g with
 | zero=>intro i c es hi;omega
 | succ g ih =>
  intro i c es hi hil hg
  show ∃ es' c',M8 (FK (n+1)) 1000000 (KX (FK (n+1)) 1000000 g) _ _ _ _ _ _ _ _ _ _ _ _=_∧_
  unfold M8
  rw[FY hg.1,Ak]
  by_cases hlt:i < (eL s).length
  ·have hlt':i < (els h.length (tb s)).length:=by omega
   have hx:(eL s)[i]=Int.ofNat ((els h.length (tb s))[i]):=by simp only[heL,List.getElem_map]
   obtain⟨x1,x2⟩:=Fh.1 (List.getElem_mem hlt')
   rw[List.drop_eq_getElem_cons hlt',List.findSome?_cons]
   generalize hxe:(els h.length (tb s))[i]=x at *
   have hcl:=Xe s x h.length hs
   have hdel:∀ j,j < h.length→tb (cl s x) j=del (tb s) x j:=VV hN
   have hcd2:card h.length (tb (cl s x)) < d:=by
    rw[Hy hdel];have:=Gn x1 x2;omega
   have next : ∀ (c1 : Nat) (es1 : List EO), Gm h w es1 → ∃ es' c', LM (FK (n + 1)) 1000000 (KX (FK (n + 1)) 1000000 g) (sl 0 (nI bg)) (Int.ofNat s) (Int.ofNat r) (Int.ofNat last) (sl 0 (eL s)) (Int.ofNat (eL s).length) (Int.ofNat i) k (sl fl h) (sl fl' w) es1 c1 =
    some (.tuple ⟨[VY bg (((els h.length (tb s)).drop (i+1)).findSome? (fd h w r f d (tb s) last)),PN fl fl' k h w,mp es' c']⟩)∧Gm h w es':=by
    intro c1 es1 g1
    unfold LM
    rw[FY g1.1,Ak,DC i (by omega)]
    exact ih (i+1) c1 es1 (by omega) (by omega) g1
   rw[FM hlt]
   have hgx:((eL s).map I)[i]?=some (I (Int.ofNat x)):=by rw[Aja _ i hlt,hx]
   have hlw:last < w.length:=by omega
   simp only[Ak,Cx,Ac,I4,GX,blt_eq,hlt,x1,hlw,decide_true,CF,Bool.true_and,BZ,Nat.mul_one,hgx,BP,Aja h x x1,Aja w last hlw,OY s x (Nat.lt_of_lt_of_le hs (Sq hN)) (by omega)]
   by_cases hc:h[x]=w[last]
   ·have q:Bd h[x] w[last]=true:=by simp[Lr,hc]
    have hfd:fd h w r f d (tb s) last x=(Pi h.length (fn h) (fn w) (Qr h w r) f d (tb (cl s x)) x).map (x :: ·):=by
     unfold fd
     rw[if_pos (by rw[Gv x1,Gv hlw,hc]),OA (XN h w r) f d _ _ x hdel]
    have hla:(bg++[x]).length=bg.length+1:=by simp
    obtain ⟨es1, c1, e1, g1⟩ := ih0 (cl s x) (bg ++ [x]) f x es c hcd2 hcl hg (by rw [hla]; omega) hf x1 (by
     rw[List.getElem?_append_left];exact hb0
     exact(List.getElem?_eq_some_iff.1 hb0).1) (by rw[hla];simp)
    have p:=p72 n bg
    unfold S at p
    rw[q,Ak,p,Ac,Dc,Ac]
    have w1:=Ye (bg++[x])
    have t1:=takeN (bg++[x])
    rw[hla] at w1 t1
    have r1:=Pj (n:=bg.length+1) (b:=8) (by omega) (by omega)
    rw[show Nat.beq (sl 1 (nI bg)).fl 1=true from rfl]
    simp only[I4,GX,Gp,Ed,Bool.true_or,r1,CF,Bool.and_true,Ak,AcB,Nat.mul_one] at w1 t1 ⊢
    rw[w1,Ak,t1]
    have sR:Sl.v 1 (Sl.mk (bg.length+1) 0 ((nI (bg++[x])).map I))=S 0 (nI (bg++[x])):=by
     unfold S sl;rw[Gp,hla]
    rw[sR]
    unfold PN mp ptr at e1
    have e1':FK (n+1) 10680 [.pointer (some ⟨1,0,none⟩),S 0 (nI (bg++[x])),.int .u16 (Int.ofNat (cl s x)),.int .i64 (Int.ofNat r),.agg ⟨[.int .i64 k,Sl.v 1 (sl fl h),Sl.v 1 (sl fl' w),.map (some 2)]⟩,Ef (.map es c)]=some (.tuple ⟨[VY (bg++[x]) (Pi h.length (fn h) (fn w) (Qr h w r) f d (tb (cl s x)) x),.agg ⟨[.int .i64 k,Sl.v 1 (sl fl h),Sl.v 1 (sl fl' w),.map (some 2)]⟩,Ef (.map es1 c1)]⟩):=e1
    rw[e1',hfd]
    cases hD:Pi h.length (fn h) (fn w) (Qr h w r) f d (tb (cl s x)) x with
    | none =>
     obtain⟨es2,c2,e2,g2⟩:=next c1 es1 g1
     refine⟨es2,c2,?_,g2⟩
     simp only[VY,Ac,FW,Dj,EG,RL,BP,Dc,CX,FY g1.1,Ak]
     rw[show FC (Value.map (some 2)) 2=true from rfl,Ak,show Nat.beq 2 2=true from rfl,show bq false true=false from rfl,AA,Bool.true_or,Ak]
     exact e2
    | some e =>
     refine⟨es1,c1,?_,g1⟩
     have hne:Nat.ble 1 (bg++[x]++e).length=true:=by rw[Nat.ble_eq];simp only[List.length_append,List.length_singleton];omega
     simp only[VY,S,Ac,FW,Dj,EG,RL,BP,Dc,CX,FY g1.1,Ak,Option.map_some,I4,Gp,hne]
     rw[show FC (Value.map (some 2)) 2=true from rfl,Ak,show Nat.beq (sl 0 (nI (bg++[x]++e))).fl 2=false from rfl,show bq false false=true from rfl,Ak,Bool.or_true,Bool.or_true,Ak]
     rw[List.append_assoc];rfl
   ·have q:Bd h[x] w[last]=false:=by simp[Lr,hc]
    have hfd:fd h w r f d (tb s) last x=none:=by
     unfold fd
     rw[if_neg (by rw[Gv x1,Gv hlw];exact hc)]
    rw[q,AA,hfd]
    exact next c es hg
  ·have hi':i=(eL s).length:=by omega
   subst hi'
   rw[FL hlt,AA,List.drop_of_length_le (by omega)]
   unfold MU
   rw[FY hg.1,Ak]
   exact⟨es,c,rfl,hg⟩
include hk hkw
theorem AcD (r:Nat):∀ (d n:Nat),DT fl fl' k h w r (n+d+15) d:=by
 intro d
 induction d with
 | zero=>intro n s bg f last es c hd;omega
 | succ d ih =>
  intro n s bg f last es c hd hs hg hbg hf hl hb0 hbl
  have e0:FK (n+(d+1)+15) 10680 [ptr,S 0 (nI bg),U s,I (Int.ofNat r),PN fl fl' k h w,mp es c]=Ni (FK (n+(d+1)+14)) 1000000 (sl 0 (nI bg)) (Int.ofNat s) (Int.ofNat r) k (sl fl h) (sl fl' w) es c:=by
   show OE _ _ [ptr,S 0 (nI bg),U s,I (Int.ofNat r),PN fl fl' k h w,mp es c]=_
   unfold OE PN S mp ptr
   simp only[Dj,EG,CX,Ab7,BP,RL,Dc,Ac]
   rfl
  rw[e0]
  have h0:0 < bg.length:=(List.getElem?_eq_some_iff.1 hb0).1
  have hs10:=Nat.lt_of_lt_of_le hs (Sq hN)
  have loop : ∀ (b : Bool) (es1 : List EO) (c1 : Nat), Gm h w es1 → (b = true → ¬ (fn w last = fn h f ∧ Qr h w r (tb s)) → False) → (b = false → (fn w last = fn h f ∧ Qr h w r (tb s)) → False) →
   ∃ es' c',KZ (FK (n+(d+1)+14)) 1000000 (sl 0 (nI bg)) (Int.ofNat s) (Int.ofNat r) (Int.ofNat last) b k (sl fl h) (sl fl' w) es1 c1=some (.tuple ⟨[VY bg (Pi h.length (fn h) (fn w) (Qr h w r) f (d+1) (tb s) last),PN fl fl' k h w,mp es' c']⟩)∧Gm h w es':=by
   intro b es1 c1 g1 hb1 hb2
   unfold KZ Pi
   rw[FY g1.1,Ak]
   by_cases hc:fn w last=fn h f∧Qr h w r (tb s)
   ·cases b with
    | false=>exact(hb2 rfl hc).elim
    | true =>
     refine⟨es1,c1,?_,g1⟩
     have e:VY bg (some [])=S 0 (nI bg):=by show S 0 (nI (bg++[]))=_;rw[List.append_nil]
     rw[if_pos hc,Ak,e];rfl
   ·cases b with
    | true=>exact(hb1 rfl hc).elim
    | false =>
     rw[if_neg hc,AA]
     have p:=p62 (n+d+13) s hs10
     rw[sO s hs10] at p
     have p':FK (n+(d+1)+14) 62 [.int .u16 (Int.ofNat s)]=some (S 0 (eL s)):=by
      rw[show n+(d+1)+14=n+d+13+2 by omega];exact p
     rw[p',Ac]
     unfold S
     rw[Dc,Ac,I4]
     have:=AcC fl fl' k h w hN hw r (n+d+14) d s bg f last hs hd (by omega) hf hl hb0 (ih n) 1000000 0 c1 es1 (by rw[iH hN hs,List.length_map,Ha];unfold card;have:=List.countP_le_length (l:=List.range h.length) (p:=tb s);rw[List.length_range] at this;omega) (by omega) g1
     rw[List.drop_zero] at this
     rw[show n+(d+1)+14=n+d+14+1 by omega]
     exact this
  unfold Ni
  have hlw:last < w.length:=by omega
  have hb1:bg.length - 1 < bg.length:=by omega
  have hgl:((nI bg).map I)[bg.length - 1]?=some (I (Int.ofNat last)):=by
   rw[O0 bg _ hb1];rw[List.getElem?_eq_getElem hb1] at hbl;injection hbl with hbl;rw[hbl]
  have hgf:((nI bg).map I)[0]?=some (I (Int.ofNat f)):=by
   rw[O0 bg _ h0];rw[List.getElem?_eq_getElem h0] at hb0;injection hb0 with hb0;rw[hb0]
  have hsub:Aj .i64 (Int.sub (Int.ofNat bg.length) 1)=Int.ofNat (bg.length - 1):=by
   have e:Int.sub (Int.ofNat bg.length) 1=Int.ofNat (bg.length - 1):=by show (bg.length:Int) - 1=((bg.length - 1:Nat):Int);omega
   rw[e]
   exact Oe _ (by show _≤((bg.length - 1:Nat):Int);omega) (by show ((bg.length - 1:Nat):Int)≤_;omega)
  rw[FY hg.1,Ak,I4,Gp,hsub]
  simp only[Ak,Cx,Ac,I4,GX,Gp,blt_eq,hb1,h0,hf,hlw,decide_true,CF,Bool.true_and,BZ,Nat.mul_one,Nat.zero_mul,hgl,hgf,BP,Aja h f hf,Aja w last hlw]
  by_cases hc:w[last]=h[f]
  ·have q:Bd w[last] h[f]=true:=by simp[Lr,hc]
   rw[q,Ak]
   obtain⟨b,e,hb⟩:=p71 (n+d+13) fl fl' s k h w hN hw hs10 hk hkw
   unfold tr S at e
   rw[show n+(d+1)+14=n+d+13+2 by omega,e,Ac,BU,Ac]
   rw[show n+(d+1)+14=n+d+13+2 by omega] at loop
   cases b with
   | false =>
    rw[AA]
    exact loop false es c hg (λx=>by cases x) (λ_ g=>by simpa using hb.2 g.2.1)
   | true =>
    rw[Ak]
    try rw[Ak]
    have hMo:=Yd fl fl' k h w hN hw hk hkw 10 (n+d+2)
    rw[show n+d+2+10+3=n+d+13+2 by omega] at hMo
    obtain⟨es1,c1,e1,g1⟩:=hMo s es c (Nat.le_trans (Ji _ _) hN) hs hg
    unfold PN S mp ptr at e1
    have e1':FK (n+d+13+2) 10660 [.pointer (some ⟨1,0,none⟩),.int .u16 (Int.ofNat s),.agg ⟨[.int .i64 k,Sl.v 1 (sl fl h),Sl.v 1 (sl fl' w),.map (some 2)]⟩,Ef (.map es c)]=some (.tuple ⟨[I (Cs h w s),.agg ⟨[.int .i64 k,Sl.v 1 (sl fl h),Sl.v 1 (sl fl' w),.map (some 2)]⟩,Ef (.map es1 c1)]⟩):=e1
    rw[e1']
    simp only[Ac,FW,Dj,EG,RL,BP,Dc,CX,FY g1.1,Ak]
    rw[show FC (Value.map (some 2)) 2=true from rfl,Ak]
    refine loop _ es1 c1 g1 (λx y=>y ⟨by rw[Gv hlw,Gv hf,hc],hb.1 rfl,?_⟩) (λx y=>?_)
    ·rw[Lr] at x
     have x:=of_decide_eq_true x
     unfold Cs at x
     exact Int.ofNat.inj x
    ·have z:=y.2.2
     unfold Cs at x
     rw[z,Lr] at x
     simp at x
  ·have q:Bd w[last] h[f]=false:=by simp[Lr,hc]
   rw[q,AA]
   exact loop false es c hg (λx=>by cases x) (λ_ g=>hc (by have:=g.1;rwa [Gv hlw,Gv hf] at this))
end
end Go.MnSM
set_option maxRecDepth 100000
namespace Go.MdM
variable {N:Nat} {H W:Nat→Int}
theorem kT {A B:Bn} (h:∀ i,i < N→A i=B i):Qs N H W A=Qs N H W B:=by
 funext R;unfold Qs;rw[Kg h]
theorem Uo {A B:Bn} (h:∀ i,i < N→A i=B i) (r:List Nat):∀ i,i < N→rem A r i=rem B r i:=λi hi=>by unfold rem;rw[h i hi]
theorem AcE (S:Bn) (A B:Bn) (h:∀ i,i < N→A i=B i):Qs N H W S A↔Qs N H W S B:=by
 unfold Qs;rw[OW h,Kg h]
theorem XO:∀ (k:Nat) (A B:Bn),(∀ i,i < N→A i=B i)→gr N H W k A=gr N H W k B
 | 0,_,_,_=>rfl
 | k + 1, A, B, h => by
  unfold gr
  rw[Ox h]
  cases els N B with
  | nil=>rfl
  | cons f l =>
   dsimp only
   rw[kT (H:=H) (W:=W) h,Hy h,OA (AcE B) f _ _ _ f (Pg h f),XO k _ _ (Uo h _)]
theorem VZ {Q:Bn→Prop} {f:Nat}:∀ (e:List Nat) (R:Bn) (last:Nat),BB N H W Q f R last e→e.length≤card N R
 | [],_,_,_=>Nat.zero_le _
 | i :: e, R, last, hr => by
  obtain⟨h1,h2,_,h4⟩:=hr
  have:=VZ e _ _ h4
  have:=Gn h1 h2
  rw[List.length_cons];omega
end Go.MdM
namespace Go.MnSM
open Go.Sp Go.MnS Go.MdM
theorem q48 (k:Nat) (args:List Value):FK (k+1) 48 args=m48 (FK k) L args:=by kernel_rfl
theorem Aiw (pu:Af) (fl fl':Nat) (k:Int) (h w:List Int):m48 pu L [tr fl fl' k h w]=nN pu L k (sl fl h) (sl fl' w):=by kernel_rfl
theorem Ag1 (pu:Af):NL (λs=>nZ (nQ pu 1000000 (Int.ofNat s)) (Int.ofNat ((els 10 (tb s)).headD 16))) 1024=true:=by kernel_rfl
theorem p67 (n s:Nat) (hs:s < 1024):FK (n+1) 67 [.int .u16 (Int.ofNat s)]=some (I (Int.ofNat ((els 10 (tb s)).headD 16))):=by
 refine Eq.trans (b:=nQ (FK n) 1000000 (Int.ofNat s)) (by kernel_rfl) ?_
 exact ZH (Rp (Ag1 _) s hs)
theorem Ag2 {s m:Nat} (hm:m≤10) (hs:s < 2 ^ m):els 10 (tb s)=els m (tb s):=by
 have:=iH hm hs
 unfold eL at this
 have inj:∀ (a b:List Nat),a.map Int.ofNat=b.map Int.ofNat→a=b:=by
  intro a
  induction a with
  | nil=>intro b h;cases b with | nil=>rfl | cons=>simp at h
  | cons x a ih => intro b h; cases b with
   | nil=>simp at h
   | cons y b=>rw[List.map_cons,List.map_cons] at h;injection h with h1 h2;rw[Int.ofNat.inj h1,ih b h2]
 exact inj _ _ this
def clA:Nat→List Nat→Nat
 | s,[]=>s
 | s,i::r=>clA (cl s i) r
theorem kU (m:Nat):∀ (r:List Nat) (s:Nat),s < 2 ^ m→clA s r < 2 ^ m
 | [],_,h=>h
 | i::r,s,h=>kU m r _ (Xe s i m h)
theorem ZT {m:Nat} (hm:m≤10):∀ (r:List Nat) (s:Nat),∀ i,i < m→tb (clA s r) i=rem (tb s) r i
 | [],s,i,_=>by rw[Jv];rfl
 | j :: r, s, i, hi => by
  rw[HV]
  exact(ZT hm r (cl s j) i hi).trans (Uo (N:=m) (VV hm) r i hi)
section
variable (fl fl':Nat) (k:Int) (h w:List Int) (hN:h.length≤10) (hw:w.length=h.length) (hk:X6 h) (hkw:X6 w)
theorem oP (pu:Af) (m:Nat) (ih0:Nat→Nat→Int→Int→Sl→Sl→List Value→List EO→Nat→Option Value) (a b c:Nat) (L:List (List Nat)) (es:List EO) (hg:Gm h w es) (r:List Nat) (hr:∀ i∈r,i < 10) (hrl:r.length≤900) :
 ∀ (g i s:Nat),r.length - i < g→i≤r.length→s < 1024→WN pu m ih0 g a b (Int.ofNat s) (sl 0 (nI r)) (Int.ofNat r.length) (Int.ofNat i) k (sl fl h) (sl fl' w) (L.map rv) es c=ih0 a b (Int.ofNat (clA s (r.drop i))) k (sl fl h) (sl fl' w) (L.map rv) es c:=by
 intro g
 induction g with
 | zero=>intro i s hi;omega
 | succ g ih =>
  intro i s hi hil hs
  show WM pu m ih0 (WN pu m ih0 g) _ _ _ _ _ _ _ _ _ _ _ _=_
  unfold WM
  rw[cB,Ak,FY hg.1,Ak]
  by_cases hlt:i < r.length
  ·rw[FM hlt,List.drop_eq_getElem_cons hlt]
   have hx:=hr r[i] (List.getElem_mem hlt)
   simp only[Ak,Cx,Ac,I4,GX,Gp,blt_eq,hlt,decide_true,CF,Bool.true_and,BZ,Nat.mul_one,O0 r i hlt,BP,OY s r[i] hs hx,DC i (by omega)]
   rw[ih (i+1) (cl s r[i]) (by omega) (by omega) (Xe s _ 10 hs)]
   rfl
  ·have:i=r.length:=by omega
   subst this
   rw[FL hlt,AA,List.drop_length]
   rfl
include hN hw hk hkw
theorem l48 (n:Nat):∀ (kk g s c:Nat) (es:List EO) (L:List (List Nat)),card h.length (tb s)≤kk→kk < g→s < 2 ^ h.length→Bp h.length (fn h) (fn w) (tb s)→Gm h w es→L.length+kk≤100 →
 OQ (FK (n+26)) 1000000 g L.length (2*L.length) (Int.ofNat s) k (sl fl h) (sl fl' w) (L.map rv) es c=some (Sl.v 1 (LL 0 (L++gr h.length (fn h) (fn w) kk (tb s)))):=by
 intro kk
 have K4:∀ (g c:Nat) (es:List EO) (L:List (List Nat)),Gm h w es→0 < g→OQ (FK (n+26)) 1000000 g L.length (2*L.length) (Int.ofNat 0) k (sl fl h) (sl fl' w) (L.map rv) es c=some (Sl.v 1 (LL 0 L)):=by
  intro g c es L hg h0
  cases g with
  | zero=>omega
  | succ g =>
   show RQ _ _ _ _ _ _ _ _ _ _ _ _=_
   unfold RQ
   rw[cB,Ak,FY hg.1,Ak,show nt (Bd (Int.ofNat 0) 0)=false from rfl,AA]
   unfold WL
   rw[cB,Ak,iL,Ak,iM]
   rfl
 have zer:∀ s,s < 2 ^ h.length→els h.length (tb s)=[]→s=0:=by
  intro s hs he
  have hz:card h.length (tb s)=0:=by rw[←Ha,he];rfl
  apply Nat.eq_of_testBit_eq
  intro i
  rw[Nat.zero_testBit]
  by_cases hi:i < h.length
  ·exact Jb hz i hi
  ·exact Jw hs (by omega)
 induction kk with
 | zero =>
  intro g s c es L hc hg0 hs hE hg hL
  have:s=0:=zer s hs (by apply List.length_eq_zero_iff.1;rw[Ha];omega)
  subst this
  rw[show gr h.length (fn h) (fn w) 0 (tb 0)=[] from rfl,List.append_nil]
  exact K4 g c es L hg hg0
 | succ kk ih =>
  intro g s c es L hc hg0 hs hE hg hL
  cases he:els h.length (tb s) with
  | nil =>
   have:=zer s hs he
   subst this
   unfold gr
   rw[he]
   dsimp only
   rw[List.append_nil]
   exact K4 g c es L hg (by omega)
  | cons f l =>
   obtain⟨f1,f2,f3⟩:=Uh he
   have hcd:=Gn f1 f2
   have hs10:=Nat.lt_of_lt_of_le hs (Sq hN)
   obtain⟨d1,d2⟩:=gZ (N:=h.length) (H:=fn h) (W:=fn w) (Q:=Qs h.length (fn h) (fn w) (tb s)) (f:=f) (card h.length (tb s)+1) (del (tb s) f) f (by omega)
   unfold gr
   rw[he]
   dsimp only
   cases hd:Pi h.length (fn h) (fn w) (Qs h.length (fn h) (fn w) (tb s)) f (card h.length (tb s)+1) (del (tb s) f) f with
   | none =>
    obtain⟨e,he⟩:=Ug (H:=fn h) (W:=fn w) (card h.length (tb s)) (tb s) f (Nat.le_refl _) hE f1 f2
    exact absurd he (d2 hd e)
   | some e =>
    obtain⟨g1,g2⟩:=d1 e hd
    obtain⟨g3,g4⟩:=(R6 e _ _).1 g1
    obtain⟨g5,g6⟩:=g4
    simp only[Option.getD_some]
    rw[←HV] at g5 g6
    have hsub:Pe h.length (rem (tb s) (f::e)) (del (tb s) f):=by intro j hj h;simp[rem,del] at h ⊢;exact⟨h.1,h.2.1⟩
    have hcl:card h.length (rem (tb s) (f::e))≤kk:=by
     have:card h.length (del (tb s) f)=card h.length (rem (tb s) (f::e))+_:=hsub.card
     omega
    have hr:∀ i∈f::e,i < h.length:=by
     intro i hi
     rcases List.mem_cons.1 hi with rfl | hi
     ·exact f1
     ·exact(Jc e _ _ g3 i hi).1
    have hrl:(f::e).length≤11:=by
     have:=VZ e _ _ g3
     have:=Ji h.length (del (tb s) f)
     rw[List.length_cons];omega
    obtain⟨g,rfl⟩:∃ g',g=g'+1:=⟨g - 1,by omega⟩
    show RQ _ _ _ _ _ _ _ _ _ _ _ _=_
    unfold RQ
    have hs0:s≠0:=by
     rintro rfl
     simp[tb] at f2
    have q0:nt (Bd (Int.ofNat s) 0)=true:=by
     rw[Lr,Km];simp;omega
    rw[cB,Ak,FY hg.1,Ak,q0,Ak]
    have p:=p67 (n+25) s hs10
    rw[Ag2 hN hs,he] at p
    rw[p]
    have hMo:=Yd fl fl' k h w hN hw hk hkw 10 (n+13)
    rw[show n+13+10+3=n+26 by omega] at hMo
    obtain⟨es1,c1,e1,q1⟩:=hMo s es c (Nat.le_trans (Ji _ _) hN) hs hg
    unfold PN S mp ptr at e1
    have e1':FK (n+26) 10660 [.pointer (some ⟨1,0,none⟩),.int .u16 (Int.ofNat s),.agg ⟨[.int .i64 k,Sl.v 1 (sl fl h),Sl.v 1 (sl fl' w),.map (some 2)]⟩,Ef (.map es c)]=some (.tuple ⟨[I (Cs h w s),.agg ⟨[.int .i64 k,Sl.v 1 (sl fl h),Sl.v 1 (sl fl' w),.map (some 2)]⟩,Ef (.map es1 c1)]⟩):=e1
    have hM:=bZ h.length (fn h) (fn w) (tb s)
    have hsub:Aj .i64 (Int.sub (Cs h w s) 1)=Int.ofNat (M h.length (fn h) (fn w) (tb s) - 1):=by
     unfold Cs
     have e:Int.sub (Int.ofNat (M h.length (fn h) (fn w) (tb s))) 1=Int.ofNat (M h.length (fn h) (fn w) (tb s) - 1):=by show (M h.length (fn h) (fn w) (tb s):Int) - 1=((M h.length (fn h) (fn w) (tb s) - 1:Nat):Int);omega
     rw[e]
     exact Oe _ (by show _≤((M h.length (fn h) (fn w) (tb s) - 1:Nat):Int);omega) (by show ((M h.length (fn h) (fn w) (tb s) - 1:Nat):Int)≤_;omega)
    simp only[Ac,BP,Cx,List.headD_cons]
    rw[e1']
    simp only[Ac,FW,Dj,EG,RL,BP,Dc,CX,FY q1.1,Ak]
    rw[show FC (Value.map (some 2)) 2=true from rfl,Ak,hsub,OY s f hs10 (by omega)]
    have hRi:=AcD fl fl' k h w hN hw hk hkw (M h.length (fn h) (fn w) (tb s) - 1) 11 n
    obtain⟨es2,c2,e2,q2⟩:=hRi (cl s f) [f] f f es1 c1 (Nat.lt_of_le_of_lt (Ji _ _) (by omega)) (Xe s f _ hs) q1 (by simp) f1 f1 rfl rfl
    have hdf:Pi h.length (fn h) (fn w) (Qr h w (M h.length (fn h) (fn w) (tb s) - 1)) f 11 (tb (cl s f)) f=some e:=by
     rw[←hd,OA (XN h w _) f 11 _ _ f (VV hN),XM f 11 (card h.length (tb s)+1) (del (tb s) f) f (Nat.lt_of_le_of_lt (Ji _ _) (by omega)) (by omega)]
     congr 1
     funext R
     unfold Qr Qs
     exact propext (and_congr Iff.rfl ⟨λx=>by omega,λx=>by omega⟩)
    rw[hdf] at e2
    unfold PN S mp ptr VY at e2
    have e2':FK (n+26) 10680 [.pointer (some ⟨1,0,none⟩),Sl.v 1 (Sl.mk 1 0 (Aq (1*1) (Am 0 ([I (Int.ofNat f)]:List Value)))),.int .u16 (Int.ofNat (cl s f)),.int .i64 (Int.ofNat (M h.length (fn h) (fn w) (tb s) - 1)),.agg ⟨[.int .i64 k,Sl.v 1 (sl fl h),Sl.v 1 (sl fl' w),.map (some 2)]⟩,Ef (.map es1 c1)]=some (.tuple ⟨[Sl.v 1 (sl 0 (nI (f::e))),.agg ⟨[.int .i64 k,Sl.v 1 (sl fl h),Sl.v 1 (sl fl' w),.map (some 2)]⟩,Ef (.map es2 c2)]⟩):=e2
    rw[e2']
    simp only[Ac,FW,Dj,EG,RL,BP,Dc,CX,FY q2.1,Ak]
    rw[show FC (Value.map (some 2)) 2=true from rfl,Ak]
    have gw:=Uj 1 24 L.length 1 (L.map rv) (Pj (by omega) (by omega)) (by omega) (by simp)
    have sn:=sV L (f::e)
    unfold S at sn
    rw[gw,Ak,sn,cB,Ak,I4,Gp]
    have cap:2*(L.length+1)+bb false 1 0=2*(L.length+1):=rfl
    rw[cap]
    have hlen:(L++[f::e]).length=L.length+1:=by simp
    have q3:=oP fl fl' k h w (FK (n+26)) 1000000 (OQ (FK (n+26)) 1000000 g) (L.length+1) (2*(L.length+1)) c2 (L++[f::e]) es2 q2 (f::e) (λi hi=>by have:=hr i hi;omega) (by omega) 1000000 0 s (by omega) (by omega) hs10
    rw[List.drop_zero] at q3
    have hrm:=ZT (m:=h.length) hN (f::e) s
    have q4:=ih g (clA s (f::e)) c2 es2 (L++[f::e]) (by rw[Hy hrm];exact hcl) (by omega) (kU _ _ _ hs) ((OW hrm).2 g5) q2 (by rw[hlen];omega)
    rw[hlen] at q4
    refine Eq.trans q3 (q4.trans ?_)
    rw[XO kk _ _ hrm,List.append_assoc]
    rfl
theorem p48 (n:Nat) (hE:Bp h.length (fn h) (fn w) (tb (bv h w))):FK (n+27) 48 [tr fl fl' k h w]=some (Sl.v 1 (LL 0 (Dn h w))):=by
 rw[q48,Aiw,show L=1000000 from rfl]
 unfold nN
 have e2:=p51 (n+25) fl fl' k h w hN hw
 have e4:=iJ (n+25) fl fl' k h w
 unfold tr S at e2 e4
 unfold PN S mp ptr at e4
 rw[e4]
 simp -implicitDefEqProofs only [Ac,FW,Dj,EG,RL,BP,Dc,CX,FY (gm0 h w).1,Ak]
 rw[show MK (Value.pointer (some ⟨1,0,none⟩)) 1 0=true from rfl,show FC (Value.map (some 2)) 2=true from rfl]
 simp -implicitDefEqProofs only [Ak]
 rw[e2]
 simp -implicitDefEqProofs only [Ac,Ab7]
 have e9:=l48 fl fl' k h w hN hw hk hkw n h.length 1000000 (bv h w) 1 _ [] (Ji _ _) (by omega) (R3 h w) hE (gm0 h w) (by simp;omega)
 exact e9
end
end Go.MnSM
set_option maxRecDepth 100000
namespace Go.MnSM
open Go.Sp Go.MnS Go.MdM
theorem l20 (n f1 f2:Nat) (L:List (List Nat)) (hL:L.length≤10) (hr:∀ r∈L,r.length < 50):∀ (g i:Nat),L.length - i < g→i≤L.length→Wy (FK (n+1)) 1000000 g (LL f1 L) (LL f2 L) (Int.ofNat i)=some (.bool true):=by
 intro g
 induction g with
 | zero=>intro i h;omega
 | succ g ih =>
  intro i h hi
  show Wx _ _ (Wy _ _ g) _ _ _=_
  unfold Wx
  by_cases hlt:i < L.length
  ·rw[show (LL f1 L).n=L.length from rfl,FM hlt]
   have p:=p26 n 0 0 (nI L[i]) (by rw[Gp];exact hr _ (List.getElem_mem hlt))
   unfold S at p
   simp only[Ak,Cx,Ac,LL,blt_eq,hlt,decide_true,CF,Bool.true_and,BZ,Nat.mul_one,PO L i hlt,Dc,p,BU,Km,Bool.not_true,AA,DC i (by omega)]
   exact ih (i+1) (by omega) (by omega)
  ·rw[show (LL f1 L).n=L.length from rfl,FL hlt];rfl
theorem p20 (n f1 f2:Nat) (L:List (List Nat)) (hL:L.length≤10) (hr:∀ r∈L,r.length < 50):FK (n+2) 20 [Sl.v 1 (LL f1 L),Sl.v 1 (LL f2 L)]=some (.bool true):=by
 refine Eq.trans (b:=mP (FK (n+1)) 1000000 (LL f1 L) (LL f2 L)) (by kernel_rfl) ?_
 unfold mP
 have:nt (Bd (Int.ofNat (LL f1 L).n) (Int.ofNat (LL f2 L).n))=false:=by
  rw[show (LL f1 L).n=L.length from rfl,show (LL f2 L).n=L.length from rfl,Yi];rfl
 rw[this,AA]
 exact l20 n f1 f2 L hL hr 1000000 0 (by omega) (by omega)
def st (s k:Nat):Nat:=s ||| 2 ^ k
theorem AcF:NL (λs=>NL (λk=>Bd (jF .u16 (Int.ofNat s) (QW .u16 1 k)) (Int.ofNat (st s k))) 10) 1024=true:=by kernel_rfl
theorem AcG (s k:Nat) (hs:s < 1024) (hk:k < 10):jF .u16 (Int.ofNat s) (QW .u16 1 k)=Int.ofNat (st s k):=by
 have:=Rp (Rp AcF s hs) k hk
 rw[Lr] at this
 exact eq_of_beq this
theorem AcH (s k i:Nat):(st s k).testBit i=(s.testBit i || (i == k)):=by
 unfold st
 rw[Nat.testBit_or,Nat.testBit_two_pow]
 by_cases h:k=i
 ·subst h;simp
 ·have:¬ i=k:=λe=>h e.symm
  simp[h,this]
theorem Ag4 (s k m:Nat) (hs:s < 2 ^ m) (hk:k < m):st s k < 2 ^ m:=Nat.or_lt_two_pow hs (Nat.pow_lt_pow_right (by decide) hk)
structure Eb (h w:List Int) (m:Nat) (X:List Nat):Prop where
 lt:m < 2 ^ h.length
 nd:X.Nodup
 wr:∀ i∈X,i < h.length∧(bv h w).testBit i=true
 iff:∀ i,i < h.length→(m.testBit i=true↔i∈X)
theorem Eb.len {h w:List Int} {m:Nat} {X:List Nat} (a:Eb h w m X):X.length=card h.length (tb m):=by
 rw[←Ha]
 have hp:X.Perm (els h.length (tb m)):=by
  rw[List.perm_ext_iff_of_nodup a.nd]
  ·intro i
   rw[Fh]
   exact⟨λg=>⟨(a.wr i g).1,(a.iff i (a.wr i g).1).2 g⟩,λg=>(a.iff i g.1).1 g.2⟩
  ·exact(R7 _).imp (λh=>Nat.ne_of_lt h)
 exact hp.length_eq
theorem Eb.le {h w:List Int} {m:Nat} {X:List Nat} (a:Eb h w m X):X.length≤h.length:=by
 rw[a.len];exact Ji _ _
theorem Eb.sub {h w:List Int} {m:Nat} {X:List Nat} (a:Eb h w m X):Pe h.length (tb m) (tb (bv h w)):=λi hi g=>(a.wr i ((a.iff i hi).1 g)).2
theorem Eb.full {h w:List Int} {m:Nat} {X:List Nat} (a:Eb h w m X):m=bv h w↔¬ X.length < card h.length (tb (bv h w)):=by
 rw[a.len]
 constructor
 ·intro e;rw[e];omega
 ·intro e
  apply Nat.eq_of_testBit_eq
  intro i
  by_cases hi:i < h.length
  ·exact a.sub.eq (by omega) i hi
  ·rw[Jw a.lt (by omega),Jw (R3 h w) (by omega)]
theorem Eb.add {h w:List Int} {m:Nat} {X:List Nat} (a:Eb h w m X) {x:Nat} (hx:x < h.length) (hn:x ∉ X) (hw:(bv h w).testBit x=true):Eb h w (st m x) (X++[x]) where
 lt:=Ag4 m x _ a.lt hx
 nd:=by
  rw[List.nodup_append]
  exact⟨a.nd,by simp,λb hb c hc=>by rw[List.mem_singleton.1 hc];rintro rfl;exact hn hb⟩
 wr:=fun i hi=>by
  rcases List.mem_append.1 hi with hi | hi
  ·exact a.wr i hi
  ·rw[List.mem_singleton.1 hi];exact⟨hx,hw⟩
 iff:=fun i hi=>by
  rw[AcH,Bool.or_eq_true,List.mem_append,List.mem_singleton,beq_iff_eq,a.iff i hi]
theorem Eb.nil (h w:List Int):Eb h w 0 [] where
 lt:=Nat.two_pow_pos _
 nd:=List.nodup_nil
 wr:=λi hi=>by cases hi
 iff:=λi _=>by simp
end Go.MnSM
set_option maxRecDepth 100000
namespace Go.MnSM
open Go.Sp Go.MnS Go.MdM
def lk (h w:List Int):Nat→List Nat→Prop
 | _,[]=>True
 | l,x::t=>fn w l=fn h x∧lk h w x t
def err (e:Int):Option Value:=some (.tuple ⟨[I 0,I e]⟩)
def Same (x y:Option Value):Prop:=∃ a b:Int,x=some (.tuple ⟨[I a,I b]⟩)∧y=some (.tuple ⟨[I a,I b]⟩)
section
variable (f1 f2:Nat) (k:Int) (h w:List Int) (hN:h.length≤10) (hw:w.length=h.length)
include hw
theorem AcI (pu:Af) (m0:Nat) (ih0:Sl→Int→Int→Sl→Int→Int→Int→Sl→Sl→Option Value) (A B:Sl) (z1 z2 z3 z4:Int) (fr:Nat) (r:List Nat) (hr:∀ x∈r,x < h.length) (hrl:r.length < 1000):∀ (g i last:Nat),r.length - i < g→i≤r.length→last < h.length →
 (lk h w last (r.drop i)→QL pu m0 ih0 g A z1 z2 (Int.ofNat last) B z3 z4 (sl fr (nI r)) (Int.ofNat r.length) (Int.ofNat i) k (sl f1 h) (sl f2 w)=Ws pu m0 ih0 A z1 z2 B z3 z4 k (sl f1 h) (sl f2 w)) ∧
 (¬ lk h w last (r.drop i)→QL pu m0 ih0 g A z1 z2 (Int.ofNat last) B z3 z4 (sl fr (nI r)) (Int.ofNat r.length) (Int.ofNat i) k (sl f1 h) (sl f2 w)=err 14):=by
 intro g
 induction g with
 | zero=>intro i last hi;omega
 | succ g ih =>
  intro i last hi hil hl
  have e:QL pu m0 ih0 (g+1) A z1 z2 (Int.ofNat last) B z3 z4 (sl fr (nI r)) (Int.ofNat r.length) (Int.ofNat i) k (sl f1 h) (sl f2 w)=Wt pu m0 ih0 (QL pu m0 ih0 g) A z1 z2 (Int.ofNat last) B z3 z4 (sl fr (nI r)) (Int.ofNat r.length) (Int.ofNat i) k (sl f1 h) (sl f2 w):=rfl
  rw[e]
  unfold Wt
  by_cases hlt:i < r.length
  ·have hx:=hr r[i] (List.getElem_mem hlt)
   have hlw:last < w.length:=by omega
   rw[FM hlt,List.drop_eq_getElem_cons hlt]
   simp only[Ak,Cx,Ac,I4,GX,Gp,blt_eq,hlt,hlw,hx,decide_true,CF,Bool.true_and,BZ,Nat.mul_one,O0 r i hlt,Aja w last hlw,Aja h _ hx,BP,DC i (by omega)]
   obtain⟨i1,i2⟩:=ih (i+1) r[i] (by omega) (by omega) hx
   unfold lk
   by_cases hc:w[last]=h[r[i]]
   ·have q:nt (Bd w[last] h[r[i]])=false:=by rw[hc,Yi];rfl
    rw[q,AA]
    have hc':fn w last=fn h r[i]:=by rw[Gv hlw,Gv hx,hc]
    exact⟨λx=>i1 x.2,λx=>i2 (λy=>x ⟨hc',y⟩)⟩
   ·have q:nt (Bd w[last] h[r[i]])=true:=by simp[Lr,hc]
    rw[q,Ak]
    have hc':¬ fn w last=fn h r[i]:=by rw[Gv hlw,Gv hx];exact hc
    exact⟨λx=>absurd x.1 hc',λ_=>rfl⟩
  ·have:i=r.length:=by omega
   subst this
   rw[FL hlt,AA,List.drop_length]
   exact⟨λ_=>rfl,λx=>absurd trivial x⟩
end
end Go.MnSM
set_option maxRecDepth 100000
namespace Go.MnSM
open Go.Sp Go.MnS Go.MdM
section
variable (f1 f2:Nat) (k:Int) (h w:List Int) (hN:h.length≤10) (hN1:1≤h.length) (hw:w.length=h.length)
include hN hN1 hw
end
end Go.MnSM
set_option maxRecDepth 100000
set_option maxHeartbeats 4000000
namespace Go.MnSM
open Go.Sp Go.MnS Go.MdM
theorem sW {N : Nat} {h w : List Int} {Q : Bn → Prop} {f : Nat} : ∀ (e : List Nat) (R : Bn) (last : Nat), BB N (fn h) (fn w) Q f R last e → lk h w last e ∧ fn w ((last :: e).getLast (by simp)) = fn h f
 | [],_,_,g=>⟨trivial,g.1⟩
 | i :: e, _, _, g => by
  obtain⟨a,b⟩:=sW e _ _ g.2.2.2
  exact⟨⟨g.2.2.1.symm,a⟩,by rw[List.getLast_cons (by simp)];exact b⟩
section
variable (f1 f2:Nat) (k:Int) (h w:List Int) (hN:h.length≤10) (hN1:1≤h.length) (hw:w.length=h.length)
include hN hN1 hw
theorem Aix (n:Nat) (A B:Sl) (z1 z2:Int) (i0:Sl→Int→Int→Sl→Int→Int→Int→Sl→Sl→Option Value) (fr:Nat) (r:List Nat) (hr:∀ x∈r,x < h.length∧(bv h w).testBit x=true) (hrl:r.length≤40) :
 ∀ (g j m : Nat) (X : List Nat), r.length - j < g → j ≤ r.length → Eb h w m X → (r.drop j).Nodup → (∀ x ∈ r.drop j, x ∉ X) →
  ∃ m', Eb h w m' (X ++ r.drop j) ∧ SE (FK (n + 2)) 1000000 i0 g A (Int.ofNat (bv h w)) (Int.ofNat m) (sl fr (nI r)) B z1 z2 (sl fr (nI r)) (Int.ofNat r.length) (Int.ofNat j) k (sl f1 h) (sl f2 w) =
   Wu (FK (n+2)) 1000000 i0 A (Int.ofNat (bv h w)) (Int.ofNat m') (sl fr (nI r)) B z1 z2 k (sl f1 h) (sl f2 w):=by
 intro g
 induction g with
 | zero=>intro j m X hj;omega
 | succ g ih =>
  intro j m X hj hjl hM hnd hX
  have e1:∀ a b c d e f g' h' i' j' k' l' m',SE (FK (n+2)) 1000000 i0 (g+1) a b c d e f g' h' i' j' k' l' m'=Wv (FK (n+2)) 1000000 i0 (SE (FK (n+2)) 1000000 i0 g) a b c d e f g' h' i' j' k' l' m':=λ_ _ _ _ _ _ _ _ _ _ _ _ _=>rfl
  rw[e1]
  unfold Wv
  by_cases hlt:j < r.length
  ·have ed:r.drop j=r[j]::r.drop (j+1):=List.drop_eq_getElem_cons hlt
   obtain⟨hx1,hx2⟩:=hr r[j] (List.getElem_mem hlt)
   rw[ed] at hnd hX ⊢
   have hsub:Aj .i64 (Int.sub (Int.ofNat h.length) 1)=(h.length:Int) - 1:=Oe _ (by show _≤(h.length:Int) - 1;omega) (by show (h.length:Int) - 1≤_;omega)
   have q52:=p52 (n+1) 0 (Int.ofNat r[j]) ((h.length:Int) - 1)
   have hm10:m < 1024:=Nat.lt_of_lt_of_le hM.lt (Sq hN)
   have hb10:bv h w < 1024:=Nat.lt_of_lt_of_le (R3 h w) (Sq hN)
   have q53:=p53 (n+1) m r[j] hm10 (by omega)
   have q53b:=p53 (n+1) (bv h w) r[j] hb10 (by omega)
   have hnX:r[j] ∉ X:=hX r[j] List.mem_cons_self
   have hmf:m.testBit r[j]=false:=by
    cases c:m.testBit r[j] with
    | false=>rfl
    | true=>exact absurd ((hM.iff _ hx1).1 c) hnX
   have q:nt (decide (0≤Int.ofNat r[j]) && decide (Int.ofNat r[j]≤(h.length:Int) - 1))=false:=by
    rw[decide_eq_true (show (0:Int)≤Int.ofNat r[j] by simp only[Int.ofNat_eq_natCast];omega),decide_eq_true (show Int.ofNat r[j]≤(h.length:Int) - 1 by simp only[Int.ofNat_eq_natCast];omega)];rfl
   rw[FM hlt]
   simp only[Ak,Cx,Ac,I4,GX,Gp,blt_eq,hlt,decide_true,CF,Bool.true_and,BZ,Nat.mul_one,O0 r j hlt,BP,hsub]
   rw[q52,Ac,BU,Ac,q,AA,q53,Ac,BU,Ac,hmf,AA,q53b,Ac,BU,Ac,hx2,show nt true=false from rfl,AA,AcG m r[j] hm10 (by omega),DC j (by omega)]
   obtain ⟨m', a, b⟩ := ih (j + 1) (st m r[j]) (X ++ [r[j]]) (by omega) (by omega) (hM.add hx1 hnX hx2) (List.nodup_cons.1 hnd).2 (by
    intro x hx c
    rcases List.mem_append.1 c with c | c
    ·exact hX x (List.mem_cons_of_mem _ hx) c
    ·rw[List.mem_singleton.1 c] at hx;exact(List.nodup_cons.1 hnd).1 hx)
   refine⟨m',?_,b⟩
   rw[List.append_assoc] at a;exact a
  ·have:j=r.length:=by omega
   subst this
   rw[FL hlt,AA,List.drop_length,List.append_nil]
   exact⟨m,hM,rfl⟩
theorem Ag5 (n fo:Nat) (L:List (List Nat)) (hL:L.length≤10):∀ (g i m:Nat) (X:List Nat) (S:Bn),L.length - i < g→i≤L.length→Eb h w m X→BI h.length (fn h) (fn w) S (L.drop i) →
 (∀ x,x < h.length→(S x=true↔(bv h w).testBit x=true∧x ∉ X)) →
 Ke (FK (n+2)) 1000000 g (LL fo L) (Int.ofNat (bv h w)) (Int.ofNat m) (LL fo L) (Int.ofNat L.length) (Int.ofNat i) k (sl f1 h) (sl f2 w)=some (.tuple ⟨[I (Int.ofNat L.length),I 0]⟩):=by
 intro g
 induction g with
 | zero=>intro i m X S hi;omega
 | succ g ih =>
  intro i m X S hi hil hM hD hS
  have e1:∀ a b c d e f g' h' i',Ke (FK (n+2)) 1000000 (g+1) a b c d e f g' h' i'=Ww (FK (n+2)) 1000000 (Ke (FK (n+2)) 1000000 g) a b c d e f g' h' i':=λ_ _ _ _ _ _ _ _ _=>rfl
  rw[e1]
  unfold Ww
  by_cases hlt:i < L.length
  ·rw[List.drop_eq_getElem_cons hlt] at hD
   obtain⟨f,e,hr,⟨d1,d2,_⟩,d3,d4⟩:=hD
   rw[hr] at d4
   have hm:=Jc e _ _ d3
   have hnd:=Kb e _ _ d3
   have hel:=VZ e _ _ d3
   have hcd:=Ji h.length (del S f)
   have he:∀ x∈e,S x=true∧x≠f:=fun x hx=>by
    have:=(hm x hx).2
    simpa [del] using this
   have hlk:=sW e _ _ d3
   rw[FM hlt]
   simp only[Ak,Cx,Ac,LL,blt_eq,hlt,decide_true,CF,Bool.true_and,BZ,Nat.mul_one,PO L i hlt,O1,I4,Gp]
   rw[hr]
   have q:Bd (Int.ofNat (f::e).length) 0=false:=by rw[Lr];simp only[Int.ofNat_eq_natCast];exact decide_eq_false (by simp;omega)
   rw[q,AA]
   obtain ⟨m', a, b⟩ := Aix f1 f2 k h w hN hN1 hw n (LL fo L) (LL fo L) (Int.ofNat L.length) (Int.ofNat i) (Ke (FK (n + 2)) 1000000 g) 0 (f :: e) (by
    intro x hx
    rcases List.mem_cons.1 hx with rfl | hx
    ·exact⟨d1,((hS x d1).1 d2).1⟩
    ·exact⟨(hm x hx).1,((hS x (hm x hx).1).1 (he x hx).1).1⟩) (by simp;omega) 1000000 0 m X (by simp;omega) (by omega) hM (by
    rw[List.drop_zero];exact List.nodup_cons.2 ⟨λg=>(he f g).2 rfl,hnd⟩) (by
    rw[List.drop_zero]
    intro x hx
    rcases List.mem_cons.1 hx with rfl | hx
    ·exact((hS x d1).1 d2).2
    ·exact((hS x (hm x hx).1).1 (he x hx).1).2)
   rw[List.drop_zero] at a
   unfold LL at b
   rw[show (0:Int)=Int.ofNat 0 from rfl,b]
   unfold Wu
   have h1:(f::e).length - 1 < (f::e).length:=by simp
   have hsub:Aj .i64 (Int.sub (Int.ofNat (f::e).length) 1)=Int.ofNat ((f::e).length - 1):=by
    have e:Int.sub (Int.ofNat (f::e).length) 1=Int.ofNat ((f::e).length - 1):=by simp only[List.length_cons];show ((e.length+1:Nat):Int) - 1=((e.length+1 - 1:Nat):Int);omega
    rw[e]
    exact Oe _ (by show _≤(((f::_).length - 1:Nat):Int);omega) (by show (((f::_).length - 1:Nat):Int)≤_;simp;omega)
   simp only[I4,Gp,hsub,Cx,Ac,GX,blt_eq,h1,decide_true,CF,Bool.true_and,Ak,BZ,Nat.mul_one,O0 (f::e) _ h1,BP]
   have hall:∀ x∈f::e,x < h.length:=by
    intro x hx
    rcases List.mem_cons.1 hx with rfl | hx
    ·exact d1
    ·exact(hm x hx).1
   have hgl:(f::e)[(f::e).length - 1]=(f::e).getLast (by simp):=(List.getLast_eq_getElem _).symm
   obtain⟨a1,_⟩:=AcI f1 f2 k h w hw (FK (n+2)) 1000000 (Ke (FK (n+2)) 1000000 g) (LL fo L) (LL fo L) (Int.ofNat (bv h w)) (Int.ofNat m') (Int.ofNat L.length) (Int.ofNat i) 0 (f::e) hall (by simp;omega) 1000000 0 ((f::e)[(f::e).length - 1]) (by simp;omega) (by omega) (hall _ (List.getElem_mem _))
   rw[List.drop_zero] at a1
   have a1:=a1 ⟨by rw[hgl];exact hlk.2,hlk.1⟩
   unfold LL at a1
   rw[show (0:Int)=Int.ofNat 0 from rfl,a1]
   unfold Ws
   rw[DC i (by omega)]
   exact ih (i + 1) m' (X ++ f :: e) (rem S (f :: e)) (by omega) (by omega) a d4 (by
    intro x hx
    rw[Gu,hS x hx,List.mem_append,not_or,and_assoc])
  ·have:i=L.length:=by omega
   subst this
   rw[List.drop_length] at hD
   have hD:∀ i,i < h.length→S i=false:=hD
   rw[FL hlt,AA]
   unfold Wq
   have hb:∀ x,x < h.length→((bv h w).testBit x=true↔m.testBit x=true):=fun x hx=>by
    constructor
    ·intro c
     refine(hM.iff x hx).2 (Classical.byContradiction λd=>?_)
     have:=(hS x hx).2 ⟨c,d⟩
     rw[hD x hx] at this;cases this
    ·intro c
     exact(hM.wr x ((hM.iff x hx).1 c)).2
   have hme:m=bv h w:=by
    apply Nat.eq_of_testBit_eq
    intro x
    by_cases hx:x < h.length
    ·have:=hb x hx
     cases c:m.testBit x <;> cases d:(bv h w).testBit x <;> simp_all
    ·rw[Jw hM.lt (by omega),Jw (R3 h w) (by omega)]
   rw[hme,Yi]
   rfl
end
theorem p18 (n f1 f2 fo:Nat) {k:Int} {h w:List Int} (hc:chk k h w=0) {L:List (List Nat)} (hL:L.length≤10) (hD:BI h.length (fn h) (fn w) (tb (bv h w)) L) :
 FK (n+3) 18 [tr f1 f2 k h w,Sl.v 1 (LL fo L)]=some (.tuple ⟨[I (Int.ofNat L.length),I 0]⟩):=by
 refine Eq.trans (b:=mO (FK (n+2)) 1000000 k (sl f1 h) (sl f2 w) (LL fo L)) (by kernel_rfl) ?_
 have c1:=p47 n f1 f2 k h w
 have ho:=ZN hc
 have p:=p51 (n+1) f1 f2 k h w ho.n10 ho.len
 unfold tr S at c1 p
 unfold mO
 rw[c1,Ac,BP,Ac,hc,show nt (Bd 0 0)=false from rfl,AA,p,Ac,Ab7,Ac]
 exact Ag5 f1 f2 k h w ho.n10 ho.n1 ho.len n fo L hL 1000000 0 0 [] _ (by omega) (by omega) (Eb.nil h w) hD (λx _=>⟨λc=>⟨c,by simp⟩,λc=>c.1⟩)
end Go.MnSM
set_option maxRecDepth 100000
namespace Go.MnSM
open Go.Sp Go.MnS Go.MdM
def pz (C:List (Int×Int)):List Value:=C.flatMap λp=>[I p.1,I p.2]
theorem AcJ (C:List (Int×Int)):(pz C).length=C.length*2:=by
 induction C with
 | nil=>rfl
 | cons p C ih=>simp only[pz,List.flatMap_cons,List.length_append,List.length_cons,List.length_nil] at ih ⊢;omega
theorem kV:∀ (C:List (Int×Int)) (i:Nat) (h:i < C.length),(pz C)[i*2]?=some (I C[i].1)∧(pz C)[i*2+1]?=some (I C[i].2)
 | [],i,h=>by simp at h
 | p::C,0,_=>⟨rfl,rfl⟩
 | p :: C, i + 1, h => by
  have ih:=kV C i (by simpa using h)
  have e:pz (p::C)=I p.1::I p.2::pz C:=rfl
  have e2:(i+1)*2=i*2+1+1:=by omega
  rw[e,e2]
  simp only[List.getElem?_cons_succ,List.getElem_cons_succ]
  exact ih
def zz (P:List (Nat×Nat)):List (Int×Int):=P.map λp=>(Int.ofNat p.1,Int.ofNat p.2)
theorem Ag6 (P:List (Nat×Nat)):pz (zz P)=pq P:=by
 unfold pz zz pq
 rw[List.flatMap_map]
noncomputable def K4 (h w:List Int):Int:=Sn (bv h w=0) 0 14
noncomputable def kW (w:List Int):List Int→List (Int×Int)→Int
 | h,[]=>K4 h w
 | h,p::C=>Sn (ZA p.1 p.2 h.length=0) (kW w (swp h p.1.toNat p.2.toNat) C) (ZA p.1 p.2 h.length)
theorem kX {a b:Int} {N:Nat} (h:ZA a b N=0):0≤a∧a < N∧0≤b∧b < N∧a < b:=by
 unfold ZA at h
 by_cases c:0≤a∧a < N∧0≤b∧b < N
 ·rw[Hz c] at h
  by_cases d:a < b
  ·exact⟨c.1,c.2.1,c.2.2.1,c.2.2.2,d⟩
  ·rw[I8 d] at h;cases h
 ·rw[I8 c] at h;cases h
section
variable (k:Int) (w:List Int)
theorem Ag7 (n f1 f2:Nat) (h:List Int) (hN:h.length≤10) (hw:w.length=h.length):TW (FK (n+1)) 1000000 k (sl f1 h) (sl f2 w)=some (I (K4 h w)):=by
 unfold TW
 have e:=p51 n f1 f2 k h w hN hw
 unfold tr S at e
 rw[e,Ac,Ab7,Ac]
 unfold K4
 by_cases c:bv h w=0
 ·rw[Hz c,c];rfl
 ·rw[I8 c,AcA (by intro e;exact c (Int.ofNat.inj e))];rfl
theorem l34 (n fC:Nat) (C:List (Int×Int)) (hC:C.length≤1000):∀ (g i f1 f2:Nat) (h:List Int),C.length - i < g→i≤C.length→h.length≤10→w.length=h.length →
 WF (FK (n+2)) 1000000 g (Sl.mk C.length fC (pz C)) (Int.ofNat C.length) (Int.ofNat i) k (sl f1 h) (sl f2 w)=some (I (kW w h (C.drop i))):=by
 intro g
 induction g with
 | zero=>intro i f1 f2 h hi;omega
 | succ g ih =>
  intro i f1 f2 h hi hil hN hw
  show WE (FK (n+2)) 1000000 (WF (FK (n+2)) 1000000 g) _ _ _ _ _ _=_
  unfold WE
  by_cases hlt:i < C.length
  ·obtain⟨g1,g2⟩:=kV C i hlt
   have hb:decide (i*2+2≤(pz C).length)=true:=by rw[AcJ];simp;omega
   have q1:=p57 (n+1) f1 f2 k C[i].1 C[i].2 h w
   unfold tr S at q1
   rw[FM hlt,List.drop_eq_getElem_cons hlt]
   simp only[Ak,Cx,Ac,blt_eq,hlt,decide_true,CF,Bool.true_and,ble_eq,AV,hb,BZ,g1,g2,BP]
   rw[q1,Ac,BP,Ac]
   unfold kW
   by_cases he:ZA C[i].1 C[i].2 h.length=0
   ·obtain⟨a1,a2,a3,a4,a5⟩:=kX he
    have ea:C[i].1=Int.ofNat C[i].1.toNat:=by simp only[Int.ofNat_eq_natCast];omega
    have eb:C[i].2=Int.ofNat C[i].2.toNat:=by simp only[Int.ofNat_eq_natCast];omega
    have q2:=p43 (n+1) f1 f2 C[i].1.toNat C[i].2.toNat k h w (by omega) (by omega) (by omega) (by omega)
    rw[←ea,←eb] at q2
    unfold tr S at q2
    rw[Hz he,he,oO,AA,q2]
    simp only[Ac,RL,Dj,EG,BP,Dc,DC i (by omega)]
    exact ih (i+1) 0 0 _ (by omega) (by omega) (by rw[Ow];exact hN) (by rw[Ow];exact hw)
   ·rw[I8 he,AcA he,Ak]
  ·have:i=C.length:=by omega
   subst this
   rw[FL hlt,AA,List.drop_length]
   exact Ag7 k w (n+1) f1 f2 h hN hw
end
noncomputable def men (k:Int) (h w:List Int) (C:List (Int×Int)):Int:=Sn (chk k h w=0) (kW w h C) (chk k h w)
theorem p34 (n f1 f2 fC:Nat) (k:Int) (h w:List Int) (C:List (Int×Int)) (hC:C.length≤1000):FK (n+3) 34 [tr f1 f2 k h w,Sl.v 2 (Sl.mk C.length fC (pz C))]=some (I (men k h w C)):=by
 refine Eq.trans (b:=nH (FK (n+2)) 1000000 k (sl f1 h) (sl f2 w) (Sl.mk C.length fC (pz C))) (by kernel_rfl) ?_
 unfold nH
 have e1:=p47 n f1 f2 k h w
 unfold tr S at e1
 rw[e1,Ac,BP,Ac]
 unfold men
 by_cases hc:chk k h w=0
 ·have ho:=ZN hc
  rw[Hz hc,hc,oO,AA]
  exact l34 k w n fC C hC 1000000 0 f1 f2 h (by omega) (by omega) ho.n10 ho.len
 ·rw[I8 hc,AcA hc,Ak]
end Go.MnSM
