/- Made from wip. -/
import Derived.Test.YtlgmapibifphaaaDoorMnOLaw8x
import Derived.Test.YtlgmapibifphaaaDoorRgMapx

namespace Go.MdM
variable {N:Nat} {H W:Nat→Int}
def Pk (N:Nat) (H W:Nat→Int) (S:Bn) (L:List Bn):Prop:=
 L.Pairwise (fun A B=>∀ i,i < N→¬ (A i=true∧B i=true))∧∀ D∈L,Nf N D S∧Bp N H W D∧∃ i,i < N∧D i=true
def un (L:List Bn):Bn:=fun i=>L.any fun D=>D i
theorem WT (D:Bn) (L:List Bn) (i:Nat):un (D::L) i=(D i || un L i):=rfl
theorem MR {L:List Bn} {i:Nat}:un L i=true↔∃ D∈L,D i=true:=by unfold un;rw[List.any_eq_true]
theorem iK {A B:Bn} (ha:Bp N H W A) (hb:Bp N H W B) (hd:∀ i,i < N→¬ (A i=true∧B i=true)):Bp N H W (fun i=>A i || B i):=fun x=>by
 rw[Jg (S:=fun i=>A i || B i) (A:=A) (B:=B) H x (fun _ _=>rfl) hd,Jg (S:=fun i=>A i || B i) (A:=A) (B:=B) W x (fun _ _=>rfl) hd,ha x,hb x]
theorem SC {S:Bn} (h:∀ i,i < N→S i=false) (f:Nat→Int) (x:Int):cn N S f x=0:=by
 unfold cn
 rw[List.countP_eq_zero]
 intro i hi
 rw[h i (List.mem_range.1 hi)];simp
theorem dU {S:Bn} (h:∀ i,i < N→S i=false):Bp N H W S:=fun x=>by rw[SC h,SC h]
theorem SE {S D:Bn} {L:List Bn} (h:Pk N H W S (D::L)):Pk N H W S L:=⟨(List.pairwise_cons.1 h.1).2,fun E hE=>h.2 E (by simp[hE])⟩
theorem WU:∀ {L:List Bn} {S:Bn},Pk N H W S L→Bp N H W (un L)
 | [],_,_=>dU fun _ _=>rfl
 | D :: L, S, h => by
  have ih:=WU (SE h)
  have hd:∀ i,i < N→¬ (D i=true∧un L i=true):=fun i hi ⟨h1,h2⟩=>by
   obtain⟨E,hE,h3⟩:=MR.1 h2
   exact(List.pairwise_cons.1 h.1).1 E hE i hi ⟨h1,h3⟩
  exact iK (h.2 D (by simp)).2.1 ih hd
theorem SF {L:List Bn} {S:Bn} (h:Pk N H W S L):Nf N (un L) S:=fun i hi hu=>by
 obtain⟨D,hD,h1⟩:=MR.1 hu
 exact(h.2 D hD).1 i hi h1
theorem AcI {L:List Bn} {S:Bn} (h:Pk N H W S L):Pk N H W (un L) L:=⟨h.1,fun D hD=>⟨fun i _ h1=>MR.2 ⟨D,hD,h1⟩,(h.2 D hD).2⟩⟩
theorem OY:∀ {L:List Bn} {S:Bn},Pk N H W S L→L.length≤M N H W S
 | [],_,_=>Nat.zero_le _
 | D :: L, S, h => by
  have ih:=OY (AcI (SE h))
  obtain⟨i,hi,hD⟩:=(h.2 D (by simp)).2.2
  have hn:un L i=false:=by
   cases hu:un L i with
   | false=>rfl
   | true =>
    obtain⟨E,hE,h3⟩:=MR.1 hu
    exact absurd ⟨hD,h3⟩ ((List.pairwise_cons.1 h.1).1 E hE i hi)
  have h1:=OG (A:=un L) (B:=un (D::L)) (i:=i) (fun j _ hj=>by rw[WT,hj,Bool.or_true]) hi (by rw[WT,hD];rfl) hn (WU h)
  have h2:=(SF h).M (H:=H) (W:=W)
  simp only[List.length_cons]
  omega
theorem iL:∀ (k:Nat) (S:Bn),card N S≤k→∃ L,Pk N H W S L∧L.length=M N H W S
 | 0,S,h=>⟨[],⟨List.Pairwise.nil,fun D hD=>by cases hD⟩,(I8 (by omega)).symm⟩
 | k + 1, S, h => by
  by_cases hc:card N S=0
  ·exact⟨[],⟨List.Pairwise.nil,fun D hD=>by cases hD⟩,(I8 hc).symm⟩
  have hM:=Sq (H:=H) (W:=W) S hc
  -- a place whose loss costs least
  have hex:∃ i,i < N∧S i=true∧mx ((els N S).map fun i=>M N H W (del S i))=M N H W (del S i):=by
   by_cases h0:mx ((els N S).map fun i=>M N H W (del S i))=0
   ·have hl:(els N S).length≠0:=by rw[Gs];exact hc
    obtain⟨i,l,hil⟩:∃ i l,els N S=i::l:=by
     cases he:els N S with
     | nil=>rw[he] at hl;simp at hl
     | cons i l=>exact⟨i,l,rfl⟩
    have hi:i∈els N S:=by rw[hil];simp
    have:=WJ (l:=(els N S).map fun i=>M N H W (del S i)) (List.mem_map.2 ⟨i,hi,rfl⟩)
    exact⟨i,(Eo.1 hi).1,(Eo.1 hi).2,by omega⟩
   ·obtain⟨i,hi,e⟩:=List.mem_map.1 (Sn h0)
    exact⟨i,(Eo.1 hi).1,(Eo.1 hi).2,e.symm⟩
  obtain⟨i,hi,hs,e⟩:=hex
  have hcd:=FM hi hs
  obtain⟨L,hL,hlen⟩:=iL k (del S i) (by omega)
  have hsub:Nf N (del S i) S:=fun j _ hj=>by unfold del at hj;simp at hj;exact hj.1
  have hL':Pk N H W S L:=⟨hL.1,fun D hD=>⟨fun j hj h1=>hsub j hj ((hL.2 D hD).1 j hj h1),(hL.2 D hD).2⟩⟩
  by_cases he:Bp N H W S
  ·rw[UB he] at hM
   have hu:=WU hL
   refine⟨(fun j=>S j && !un L j)::L,⟨List.pairwise_cons.2 ⟨fun E hE j hj ⟨h1,h2⟩=>?_,hL.1⟩,fun D hD=>?_⟩,?_⟩
   ·simp only[Bool.and_eq_true,Bool.not_eq_true'] at h1
    rw[MR.2 ⟨E,hE,h2⟩] at h1;exact absurd h1.2 (by decide)
   ·rcases List.mem_cons.1 hD with rfl | hD
    ·refine⟨fun j _ h1=>?_,Ng (SF hL') hu he,i,hi,?_⟩
     ·simp only[Bool.and_eq_true] at h1;exact h1.1
     ·have : un L i = false := by
       cases hq:un L i with
       | false=>rfl
       | true =>
        have:=SF hL i hi hq
        unfold del at this;simp at this
      show (S i && !un L i)=true
      rw[hs,this];rfl
    ·exact hL'.2 D hD
   ·rw[List.length_cons,hlen,hM,e]
  ·rw[UC he] at hM
   exact⟨L,hL',by rw[hlen,hM,e];rfl⟩
theorem SG (S:Bn):∃ L,Pk N H W S L∧L.length=M N H W S:=iL (card N S) S (Nat.le_refl _)

theorem RU {i:Nat} (hr:H i=W i):Bp N H W (fun j=>j == i):=fun x=>by
 unfold cn
 apply List.countP_congr
 intro j _
 by_cases e:j=i
 ·subst e;rw[hr]
 ·simp[e]
theorem uJ {S:Bn} {i:Nat} (hi:i < N) (hr:H i=W i) (hs:S i=true):Bp N H W S↔Bp N H W (del S i):=by
 constructor
 ·intro h x
  have:=h x
  rw[Gv hi hs,Gv hi hs,hr] at this
  omega
 ·intro h x
  rw[Gv hi hs,Gv hi hs,hr,h x]
theorem WV {S:Bn} {i:Nat} (hi:i < N) (hr:H i=W i) (hs:S i=true):M N H W S=M N H W (del S i)+1:=by
 apply Nat.le_antisymm
 ·obtain⟨L,hL,hlen⟩:=SG (N:=N) (H:=H) (W:=W) S
  rw[←hlen]
  -- at most one of the sets has the place
  have key:∀ (L:List Bn),Pk N H W S L→∃ L',Pk N H W (del S i) L'∧L.length≤L'.length+1∧(∀ D∈L',∃ E∈L,Nf N D E)∧((∀ D∈L,D i=false)→L.length≤L'.length):=by
   intro L
   induction L with
   | nil=>exact fun _=>⟨[],⟨List.Pairwise.nil,fun D hD=>by cases hD⟩,by simp,fun D hD=>(by cases hD),fun _=>Nat.le_refl _⟩
   | cons D L ih =>
    intro h
    obtain⟨L',h1,h2,h3,h4⟩:=ih (SE h)
    have hp:=(List.pairwise_cons.1 h.1).1
    obtain⟨hDs,hDe,j,hj,hDj⟩:=h.2 D (by simp)
    have hdis:∀ A:Bn,Nf N A D→∀ E∈L',∀ k,k < N→¬ (A k=true∧E k=true):=fun A hA E hE k hk ⟨q1,q2⟩=>by
     obtain⟨E2,hE2,hs2⟩:=h3 E hE
     exact hp E2 hE2 k hk ⟨hA k hk q1,hs2 k hk q2⟩
    have h3':∀ E∈L',∃ F∈D::L,Nf N E F:=fun E hE=>by
     obtain⟨F,hF,hs⟩:=h3 E hE
     exact⟨F,by simp[hF],hs⟩
    cases hDi:D i with
    | false =>
     refine⟨D::L',⟨List.pairwise_cons.2 ⟨hdis D (fun _ _ h=>h),h1.1⟩,fun E hE=>?_⟩,by simp;omega,fun E hE=>?_,fun hall=>?_⟩
     ·rcases List.mem_cons.1 hE with rfl | hE
      ·refine⟨fun k hk h5=>?_,hDe,j,hj,hDj⟩
       unfold del
       rw[hDs k hk h5]
       by_cases e:k=i
       ·subst e;rw[hDi] at h5;cases h5
       ·simp[e]
      ·exact h1.2 E hE
     ·rcases List.mem_cons.1 hE with rfl | hE
      ·exact⟨E,by simp,fun _ _ h=>h⟩
      ·exact h3' E hE
     ·have:=h4 fun E hE=>hall E (by simp[hE])
      simp;exact this
    | true =>
     have hrest:∀ E∈L,E i=false:=fun E hE=>by
      cases q:E i with
      | false=>rfl
      | true=>exact absurd ⟨hDi,q⟩ (hp E hE i hi)
     have h5:=h4 hrest
     exact⟨L',h1,by simp;omega,h3',fun hall=>by rw[hall D (by simp)] at hDi;cases hDi⟩
  obtain⟨L',h1,h2,_,_⟩:=key L hL
  have:=OY h1
  omega
 ·obtain⟨L,hL,hlen⟩:=SG (N:=N) (H:=H) (W:=W) (del S i)
  have hnew:Pk N H W S ((fun j=>j == i)::L):=by
   refine⟨List.pairwise_cons.2 ⟨fun E hE j hj ⟨q1,q2⟩=>?_,hL.1⟩,fun D hD=>?_⟩
   ·have e:j=i:=by simpa using q1
    subst e
    have:=(hL.2 E hE).1 j hj q2
    unfold del at this;simp at this
   ·rcases List.mem_cons.1 hD with rfl | hD
    ·exact⟨fun j _ q=>by have e:j=i:=(by simpa using q);subst e;exact hs,RU hr,i,hi,by simp⟩
    ·exact⟨fun j hj q=>by have:=(hL.2 D hD).1 j hj q;unfold del at this;simp at this;exact this.1,(hL.2 D hD).2⟩
  have:=OY hnew
  rw[List.length_cons,hlen] at this
  exact this

def Ke (f:Nat→Int) (a b:Nat):Nat→Int:=fun i=>if i=a then f b else if i=b then f a else f i
theorem WW (f:Nat→Int) (a b:Nat):Ke (Ke f a b) a b=f:=by
 funext i
 unfold Ke
 by_cases h1:i=a
 ·subst h1
  rw[if_pos rfl]
  by_cases h2:b=i
  ·subst h2;simp
  ·rw[if_neg h2,if_pos rfl]
 ·rw[if_neg h1]
  by_cases h2:i=b
  ·subst h2;simp
  ·rw[if_neg h2,if_neg h1,if_neg h2]
theorem ZE {S:Bn} {f g:Nat→Int} (h:∀ i,i < N→S i=true→f i=g i) (x:Int):cn N S f x=cn N S g x:=by
 unfold cn
 apply List.countP_congr
 intro i hi
 by_cases hs:S i=true
 ·rw[h i (List.mem_range.1 hi) hs]
 ·simp[hs]
theorem ZF {S:Bn} {a b:Nat} (ha:a < N) (hb:b < N) (hab:a≠b) (hsa:S a=true) (hsb:S b=true) (f:Nat→Int) (x:Int):cn N S (Ke f a b) x=cn N S f x:=by
 have hsb':del S a b=true:=by unfold del;rw[hsb];simp;exact fun e=>hab e.symm
 rw[Gv ha hsa,Gv hb hsb',Gv ha hsa f,Gv hb hsb' f]
 rw[ZE (S:=del (del S a) b) (f:=Ke f a b) (g:=f) fun i _ hi=>by
  unfold del at hi;simp at hi
  unfold Ke;rw[if_neg hi.1.2,if_neg hi.2]]
 have e1:Ke f a b a=f b:=by unfold Ke;rw[if_pos rfl]
 have e2:Ke f a b b=f a:=by unfold Ke;rw[if_neg (fun e=>hab e.symm),if_pos rfl]
 rw[e1,e2];omega
theorem OL {S:Bn} {a b:Nat} (ha:a < N) (hb:b < N) (hab:a≠b) (h:(S a=true∧S b=true)∨(S a=false∧S b=false)) (he:Bp N H W S):Bp N (Ke H a b) W S:=fun x=>by
 rw[←he x]
 rcases h with⟨h1,h2⟩ | ⟨h1,h2⟩
 ·exact ZF ha hb hab h1 h2 H x
 ·apply ZE
  intro i _ hi
  unfold Ke
  rw[if_neg (fun e=>by subst e;rw[h1] at hi;cases hi),if_neg (fun e=>by subst e;rw[h2] at hi;cases hi)]
theorem LY {S:Bn} {L:List Bn} (h:Pk N H W S L) (q:Bn→Bool):Pk N H W S (L.filter q):=⟨h.1.filter q,fun D hD=>h.2 D (List.mem_filter.1 hD).1⟩
theorem one_has {L:List Bn} {S:Bn} (h:Pk N H W S L) {i:Nat} (hi:i < N):(L.filter fun D=>D i).length≤1:=by
 have:=(LY h fun D=>D i)
 cases hl:L.filter (fun D=>D i) with
 | nil=>simp
 | cons A L1 =>
  cases L1 with
  | nil=>simp
  | cons B L2 =>
   rw[hl] at this
   have hA:A i=true:=(List.mem_filter.1 (show A∈L.filter (fun D=>D i) by rw[hl];simp)).2
   have hB:B i=true:=(List.mem_filter.1 (show B∈L.filter (fun D=>D i) by rw[hl];simp)).2
   exact absurd ⟨hA,hB⟩ ((List.pairwise_cons.1 this.1).1 B (by simp) i hi)
theorem OM (L:List Bn) (q:Bn→Bool):L.length=(L.filter q).length+(L.filter fun D=>!q D).length:=by
 induction L with
 | nil=>rfl
 | cons A L ih =>
  simp only[List.filter_cons,List.length_cons]
  cases q A <;> simp <;> omega
theorem iM {a b:Nat} (ha:a < N) (hb:b < N) (hab:a≠b) (S:Bn) (hsa:S a=true) (hsb:S b=true):M N H W S≤M N (Ke H a b) W S+1:=by
 obtain⟨L,hL,hlen⟩:=SG (N:=N) (H:=H) (W:=W) S
 -- the sets with neither
 have h0:=LY hL fun D=>!(D a || D b)
 have hn:Pk N (Ke H a b) W S (L.filter fun D=>!(D a || D b)):=⟨h0.1,fun D hD=>by
  obtain⟨q1,q2,q3⟩:=h0.2 D hD
  have:=(List.mem_filter.1 hD).2
  simp at this
  exact⟨q1,OL ha hb hab (.inr this) q2,q3⟩⟩
 have hs:=OM L fun D=>D a || D b
 have hA:=one_has hL ha
 have hB:=one_has hL hb
 have hsum:(L.filter fun D=>D a || D b).length≤(L.filter fun D=>D a).length+(L.filter fun D=>D b).length:=by
  clear hL hlen h0 hn hs hA hB
  induction L with
  | nil=>exact Nat.zero_le _
  | cons A L ih =>
   simp only[List.filter_cons]
   cases A a <;> cases A b <;> simp <;> omega
 have hle:=OY hn
 by_cases h2:(L.filter fun D=>D a || D b).length≤1
 ·omega
 ·-- two sets: together they are even
  have eA:(L.filter fun D=>D a).length=1:=by omega
  have eB:(L.filter fun D=>D b).length=1:=by omega
  obtain⟨A,hA1⟩:=List.length_eq_one_iff.1 eA
  obtain⟨B,hB1⟩:=List.length_eq_one_iff.1 eB
  have mA:A∈L∧A a=true:=List.mem_filter.1 (show A∈L.filter (fun D=>D a) by rw[hA1];simp)
  have mB:B∈L∧B b=true:=List.mem_filter.1 (show B∈L.filter (fun D=>D b) by rw[hB1];simp)
  have hun:∀ (L:List Bn),Pk N H W S L→A∈L→B∈L→(∀ i,i < N→¬ (A i=true∧B i=true))∨A=B:=by
   intro L hL hA hB
   by_cases e:A=B
   ·exact .inr e
   ·left
    have:=hL.1
    clear hL
    induction L with
    | nil=>cases hA
    | cons C L ih =>
     obtain⟨p1,p2⟩:=List.pairwise_cons.1 this
     rcases List.mem_cons.1 hA with rfl | hA' <;> rcases List.mem_cons.1 hB with rfl | hB'
     ·exact absurd rfl e
     ·exact p1 B hB'
     ·exact fun i hi ⟨h1,h2⟩=>p1 A hA' i hi ⟨h2,h1⟩
     ·exact ih hA' hB' p2
  have hdis:∀ i,i < N→¬ (A i=true∧B i=true):=by
   rcases hun L hL mA.1 mB.1 with h | h
   ·exact h
   ·exfalso
    subst h
    -- one set has both: then the first count is 1
    apply h2
    have:∀ D∈L,(D a || D b)=true→D a=true:=fun D hD h=>by
     cases hDa:D a with
     | true=>rfl
     | false =>
      rw[hDa,Bool.false_or] at h
      have hDm:D∈L.filter (fun D=>D b):=List.mem_filter.2 ⟨hD,h⟩
      rw[hB1] at hDm
      rw[List.mem_singleton.1 hDm,mA.2] at hDa;cases hDa
    have e:(L.filter fun D=>D a || D b)=L.filter fun D=>D a:=by
     apply List.filter_congr
     intro D hD
     cases hDa:D a with
     | true=>rfl
     | false =>
      cases hDb:D b with
      | false=>rfl
      | true=>have:=this D hD (by rw[hDb,Bool.or_true]);rw[hDa] at this;cases this
    rw[e,eA];exact Nat.le_refl _
  obtain⟨sA,vA,iA,hiA,tA⟩:=hL.2 A mA.1
  obtain⟨sB,vB,_⟩:=hL.2 B mB.1
  have hnew:Pk N (Ke H a b) W S ((fun i=>A i || B i)::L.filter fun D=>!(D a || D b)):=by
   refine⟨List.pairwise_cons.2 ⟨fun E hE i hi ⟨q1,q2⟩=>?_,hn.1⟩,fun D hD=>?_⟩
   ·obtain⟨mE,nE⟩:=List.mem_filter.1 hE
    simp at nE
    have hne:∀ C∈L,(∃ x,C x=true∧E x=false)→∀ j,j < N→¬ (C j=true∧E j=true):=fun C hC hx=>by
     intro j hj ⟨w1,w2⟩
     obtain⟨x,x1,x2⟩:=hx
     have hCE:C≠E:=fun e=>by subst e;rw[x1] at x2;cases x2
     have hp:=hL.1
     have:∀ (L:List Bn),L.Pairwise (fun A B=>∀ i,i < N→¬ (A i=true∧B i=true))→C∈L→E∈L→False:=by
      intro L
      induction L with
      | nil=>intro _ h;cases h
      | cons F L ih =>
       intro hp h1 h2
       obtain⟨p1,p2⟩:=List.pairwise_cons.1 hp
       rcases List.mem_cons.1 h1 with rfl | h1' <;> rcases List.mem_cons.1 h2 with rfl | h2'
       ·exact hCE rfl
       ·exact p1 E h2' j hj ⟨w1,w2⟩
       ·exact p1 C h1' j hj ⟨w2,w1⟩
       ·exact ih p2 h1' h2'
     exact this L hp hC mE
    simp only[Bool.or_eq_true] at q1
    rcases q1 with q1 | q1
    ·exact hne A mA.1 ⟨a,mA.2,nE.1⟩ i hi ⟨q1,q2⟩
    ·exact hne B mB.1 ⟨b,mB.2,nE.2⟩ i hi ⟨q1,q2⟩
   ·rcases List.mem_cons.1 hD with rfl | hD
    ·refine⟨fun i hi h=>?_,OL ha hb hab (.inl ⟨by rw[mA.2];rfl,by rw[mB.2,Bool.or_true]⟩) (iK vA vB hdis),iA,hiA,by show (A iA || B iA)=true;rw[tA];rfl⟩
     simp only[Bool.or_eq_true] at h
     rcases h with h | h
     ·exact sA i hi h
     ·exact sB i hi h
    ·exact hn.2 D hD
  have:=OY hnew
  rw[List.length_cons] at this
  omega
theorem UN {a b:Nat} (ha:a < N) (hb:b < N) (hab:a≠b) (S:Bn) (hsa:S a=true) (hsb:S b=true):M N (Ke H a b) W S≤M N H W S+1:=by
 have:=iM (H:=Ke H a b) (W:=W) ha hb hab S hsa hsb
 rwa [WW] at this
theorem uK {S:Bn} (he:Bp N H W S) {w:Nat} (hw:w < N) (hs:S w=true) (hne:H w≠W w):∃ b,b < N∧b≠w∧S b=true∧M N (Ke H w b) W S=M N H W S+1:=by
 obtain⟨L,hL,hlen⟩:=SG (N:=N) (H:=H) (W:=W) S
 have hu:=WU hL
 -- every place is in a set
 have hall:un L w=true:=by
  cases hq:un L w with
  | true=>rfl
  | false =>
   have hnew:Pk N H W S ((fun j=>S j && !un L j)::L):=by
    refine⟨List.pairwise_cons.2 ⟨fun E hE j hj ⟨h1,h2⟩=>?_,hL.1⟩,fun D hD=>?_⟩
    ·simp only[Bool.and_eq_true,Bool.not_eq_true'] at h1
     rw[MR.2 ⟨E,hE,h2⟩] at h1;exact absurd h1.2 (by decide)
    ·rcases List.mem_cons.1 hD with rfl | hD
     ·refine⟨fun j _ h1=>?_,Ng (SF hL) hu he,w,hw,by show (S w && !un L w)=true;rw[hs,hq];rfl⟩
      simp only[Bool.and_eq_true] at h1;exact h1.1
     ·exact hL.2 D hD
   have:=OY hnew
   rw[List.length_cons] at this
   omega
 obtain⟨D,hD,hDw⟩:=MR.1 hall
 obtain⟨sD,vD,_⟩:=hL.2 D hD
 -- who has what the place wants
 have hc:cn N D H (W w)≠0:=by
  rw[vD (W w),Gv hw hDw,if_pos rfl];omega
 have:∃ b,b < N∧D b=true∧H b=W w:=by
  apply Classical.byContradiction
  intro hno
  apply hc
  unfold cn
  rw[List.countP_eq_zero]
  intro b hb
  simp only[Bool.and_eq_true,beq_iff_eq]
  exact fun ⟨q1,q2⟩=>hno ⟨b,List.mem_range.1 hb,q1,q2⟩
 obtain⟨b,hb,hDb,hHb⟩:=this
 have hbw:b≠w:=fun e=>hne (by rw[←e] at hne ⊢;rw[e] at hHb ⊢;exact hHb)
 refine⟨b,hb,hbw,sD b hb hDb,Nat.le_antisymm (UN hw hb (fun e=>hbw e.symm) S hs (sD b hb hDb)) ?_⟩
 have hr:Ke H w b w=W w:=by unfold Ke;rw[if_pos rfl];exact hHb
 have vD':Bp N (Ke H w b) W D:=OL hw hb (fun e=>hbw e.symm) (.inl ⟨hDw,hDb⟩) vD
 have vD2:=(uJ hw hr hDw).1 vD'
 -- the other sets
 have hother:∀ E∈L,E≠D→E w=false∧E b=false:=fun E hE hne=>by
  have:∀ (L:List Bn),L.Pairwise (fun A B=>∀ i,i < N→¬ (A i=true∧B i=true))→D∈L→E∈L→∀ i,i < N→D i=true→E i=false:=by
   intro L
   induction L with
   | nil=>intro _ h;cases h
   | cons F L ih =>
    intro hp h1 h2 i hi hDi
    obtain⟨p1,p2⟩:=List.pairwise_cons.1 hp
    cases hEi:E i with
    | false=>rfl
    | true =>
     exfalso
     rcases List.mem_cons.1 h1 with rfl | h1' <;> rcases List.mem_cons.1 h2 with rfl | h2'
     ·exact hne rfl
     ·exact p1 E h2' i hi ⟨hDi,hEi⟩
     ·exact p1 D h1' i hi ⟨hEi,hDi⟩
     ·have:=ih p2 h1' h2' i hi hDi;rw[this] at hEi;cases hEi
  exact⟨this L hL.1 hD hE w hw hDw,this L hL.1 hD hE b hb hDb⟩
 have hone:(L.filter fun E=>!(E w)).length+1=L.length:=by
  have h1:=OM L fun E=>E w
  have h2:=one_has hL hw
  have h3:(L.filter fun E=>E w).length≠0:=fun e=>by
   have:=List.length_eq_zero_iff.1 e
   have hm:D∈L.filter (fun E=>E w):=List.mem_filter.2 ⟨hD,hDw⟩
   rw[this] at hm;cases hm
  omega
 have hrest:=LY hL fun E=>!(E w)
 have hnew:Pk N (Ke H w b) W S ((fun j=>j == w)::del D w::L.filter fun E=>!(E w)):=by
  have hdd:∀ j,del D w j=true→D j=true∧j≠w:=fun j h=>by unfold del at h;simpa using h
  refine⟨List.pairwise_cons.2 ⟨fun E hE j hj ⟨q1,q2⟩=>?_,List.pairwise_cons.2 ⟨fun E hE j hj ⟨q1,q2⟩=>?_,hrest.1⟩⟩,fun E hE=>?_⟩
  ·have e:j=w:=by simpa using q1
   subst e
   rcases List.mem_cons.1 hE with rfl | hE
   ·exact(hdd _ q2).2 rfl
   ·have:=(List.mem_filter.1 hE).2
    rw[q2] at this;cases this
  ·obtain⟨hE1,hE2⟩:=List.mem_filter.1 hE
   have hED:E≠D:=fun e=>by subst e;rw[hDw] at hE2;cases hE2
   have:∀ (L:List Bn),L.Pairwise (fun A B=>∀ i,i < N→¬ (A i=true∧B i=true))→D∈L→E∈L→False:=by
    intro L
    induction L with
    | nil=>intro _ h;cases h
    | cons F L ih =>
     intro hp h1 h2
     obtain⟨p1,p2⟩:=List.pairwise_cons.1 hp
     rcases List.mem_cons.1 h1 with rfl | h1' <;> rcases List.mem_cons.1 h2 with rfl | h2'
     ·exact hED rfl
     ·exact p1 E h2' j hj ⟨(hdd _ q1).1,q2⟩
     ·exact p1 D h1' j hj ⟨q2,(hdd _ q1).1⟩
     ·exact ih p2 h1' h2'
   exact this L hL.1 hD hE1
  ·rcases List.mem_cons.1 hE with rfl | hE
   ·exact⟨fun j _ q=>by have e:j=w:=(by simpa using q);subst e;exact hs,RU hr,w,hw,by simp⟩
   ·rcases List.mem_cons.1 hE with rfl | hE
    ·exact⟨fun j hj q=>sD j hj (hdd j q).1,vD2,b,hb,by unfold del;rw[hDb];simp;exact hbw⟩
    ·obtain⟨hE1,hE2⟩:=List.mem_filter.1 hE
     obtain⟨q1,q2,q3⟩:=hL.2 E hE1
     have hED:E≠D:=fun e=>by subst e;rw[hDw] at hE2;cases hE2
     exact⟨q1,OL hw hb (fun e=>hbw e.symm) (.inr (hother E hE1 hED)) q2,q3⟩
 have:=OY hnew
 simp only[List.length_cons] at this
 omega
theorem RX:∀ (k:Nat) (S:Bn),card N S≤k→M N H W S≤card N S
 | 0,S,h=>by rw[I8 (by omega)];exact Nat.zero_le _
 | k + 1, S, h => by
  by_cases hc:card N S=0
  ·rw[I8 hc];exact Nat.zero_le _
  rw[Sq S hc]
  have h1:=V4 (Bp N H W S)
  have h2:mx ((els N S).map fun i=>M N H W (del S i))≤card N S - 1:=by
   apply iC
   intro a ha
   obtain⟨i,hi,rfl⟩:=List.mem_map.1 ha
   obtain⟨hi,hs⟩:=Eo.1 hi
   have hcd:=FM hi hs
   have:=RX k (del S i) (by omega)
   omega
  omega
theorem dV (S:Bn):M N H W S≤card N S:=RX (card N S) S (Nat.le_refl _)
theorem SI : ∀ (k : Nat) (S : Bn), card N S ≤ k → card N S - M N H W S = card N (fun i => S i && !decide (H i = W i)) - M N H W (fun i => S i && !decide (H i = W i))
 | 0, S, h => by
  have hz:=Gu (N:=N) (S:=S) (by omega)
  have e:∀ i,i < N→(fun i=>S i && !decide (H i=W i)) i=S i:=fun i hi=>by show (S i && !decide (H i=W i))=S i;rw[hz i hi];rfl
  rw[FN e,G5 e]
 | k + 1, S, h => by
  by_cases hr:∃ i,i < N∧S i=true∧H i=W i
  ·obtain⟨i,hi,hs,hr⟩:=hr
   have h1:=WV (S:=S) hi hr hs
   have h2:=FM hi hs
   have ih:=SI k (del S i) (by omega)
   have e:∀ j,j < N→(fun j=>del S i j && !decide (H j=W j)) j=(fun j=>S j && !decide (H j=W j)) j:=fun j hj=>by
    show ((S j && !(j == i)) && !decide (H j=W j))=(S j && !decide (H j=W j))
    by_cases c:j=i
    ·rw[c,decide_eq_true hr];cases S i <;> simp
    ·have:(j == i)=false:=by simpa using c
     rw[this];cases S j <;> simp
   rw[FN e,G5 e] at ih
   omega
  ·have e : ∀ i, i < N → (fun i => S i && !decide (H i = W i)) i = S i := fun i hi => by
    show (S i && !decide (H i=W i))=S i
    cases hs:S i with
    | false=>rfl
    | true=>rw[decide_eq_false (fun c=>hr ⟨i,hi,hs,c⟩)];rfl
   rw[FN e,G5 e]
end Go.MdM
namespace Go.Bfs
section
variable {α:Type} [DecidableEq α]
def news:List α→List α→List α
 | L,[]=>L
 | L,x::xs=>news (if x∈L then L else L++[x]) xs
theorem news_ext:∀ (xs L:List α),∃ E,news L xs=L++E∧(∀ z∈E,z∈xs∧z ∉ L)∧E.Nodup
 | [],L=>⟨[],by simp[news],by simp,List.nodup_nil⟩
 | x :: xs, L => by
  by_cases h:x∈L
  ·obtain⟨E,e,h1,h2⟩:=news_ext xs L
   refine⟨E,?_,fun z hz=>⟨List.mem_cons_of_mem _ (h1 z hz).1,(h1 z hz).2⟩,h2⟩
   show news (if x∈L then L else L++[x]) xs=_
   rw[if_pos h,e]
  ·obtain⟨E,e,h1,h2⟩:=news_ext xs (L++[x])
   refine⟨x::E,?_,fun z hz=>?_,List.nodup_cons.2 ⟨fun hx=>(h1 x hx).2 (by simp),h2⟩⟩
   ·show news (if x∈L then L else L++[x]) xs=_
    rw[if_neg h,e];simp
   ·rcases List.mem_cons.1 hz with rfl | hz
    ·exact⟨by simp,h⟩
    ·exact⟨List.mem_cons_of_mem _ (h1 z hz).1,fun hL=>(h1 z hz).2 (by simp[hL])⟩
theorem news_has:∀ (xs L:List α),(∀ z∈xs,z∈news L xs)∧∀ z∈L,z∈news L xs
 | [],L=>⟨fun z h=>(by cases h),fun z h=>h⟩
 | x :: xs, L => by
  obtain⟨h1,h2⟩:=news_has xs (if x∈L then L else L++[x])
  have hL:∀ z∈L,z∈(if x∈L then L else L++[x]):=fun z hz=>by
   split
   ·exact hz
   ·simp[hz]
  refine⟨fun z hz=>?_,fun z hz=>h2 z (hL z hz)⟩
  rcases List.mem_cons.1 hz with rfl | hz
  ·apply h2
   split
   ·assumption
   ·simp
  ·exact h1 z hz
variable (nb:α→List α) (U:α→Prop) (F:α→Nat) (w:α)
structure World:Prop where
 hw:U w
 h0:F w=0
 hU:∀ x,U x→∀ y∈nb x,U y
 up:∀ x,U x→∀ y∈nb x,F y≤F x+1
 sym:∀ x,U x→∀ y∈nb x,x∈nb y
 dn:∀ x,U x→x≠w→∃ y∈nb x,F y+1=F x
structure Inv (L:List α) (i:Nat):Prop where
 le:i≤L.length
 mem:∀ x∈L,U x
 nd:L.Nodup
 has:w∈L
 done:∀ j (h:j < L.length),j < i→∀ y∈nb L[j],y∈L
 srt:∀ j k (hj:j < L.length) (hk:k < L.length),j≤k→F L[j]≤F L[k]
 top:∀ (h:i < L.length),∀ x∈L,F x≤F L[i]+1
variable {nb U F w}
theorem inv_start (W:World nb U F w):Inv nb U F w [w] 0:=
 ⟨by simp,fun x hx=>by rw[List.mem_singleton.1 hx];exact W.hw,by simp,by simp,fun j _ h=>by omega,fun j k hj hk _=>by
   have e1:j=0:=by simp at hj;omega
   have e2:k=0:=by simp at hk;omega
   subst e1;subst e2;exact Nat.le_refl _,fun _ x hx=>by rw[List.mem_singleton.1 hx,W.h0];omega⟩
theorem low (W:World nb U F w) {L:List α} {i:Nat} (I:Inv nb U F w L i) (h:i < L.length):∀ (n:Nat) (x:α),F x=n→U x→F x≤F L[i]→x∈L:=by
 intro n
 induction n with
 | zero =>
  intro x hx hU _
  by_cases e:x=w
  ·rw[e];exact I.has
  ·obtain⟨y,_,hy⟩:=W.dn x hU e;omega
 | succ n ih =>
  intro x hx hU hle
  by_cases e:x=w
  ·rw[e];exact I.has
  obtain⟨y,hy,hF⟩:=W.dn x hU e
  have hyL:=ih y (by omega) (W.hU x hU y hy) (by omega)
  obtain⟨j,hj,rfl⟩:=List.getElem_of_mem hyL
  have hji:j < i:=by
   apply Classical.byContradiction
   intro c
   have:=I.srt i j h hj (by omega)
   omega
  exact I.done j hj hji x (W.sym x hU _ hy)
theorem new_val (W:World nb U F w) {L:List α} {i:Nat} (I:Inv nb U F w L i) (h:i < L.length) {z:α} (hz:z∈nb L[i]) (hn:z ∉ L):F z=F L[i]+1:=by
 have hx:=I.mem _ (List.getElem_mem h)
 have h1:=W.up _ hx z hz
 by_cases c:F z≤F L[i]
 ·exact absurd (low W I h (F z) z rfl (W.hU _ hx z hz) c) hn
 ·omega
theorem inv_step (W:World nb U F w) {L:List α} {i:Nat} (I:Inv nb U F w L i) (h:i < L.length):Inv nb U F w (news L (nb L[i])) (i+1):=by
 obtain⟨E,e,h1,h2⟩:=news_ext (nb L[i]) L
 obtain⟨k1,k2⟩:=news_has (nb L[i]) L
 have hx:=I.mem _ (List.getElem_mem h)
 have hE:∀ z∈E,F z=F L[i]+1:=fun z hz=>new_val W I h (h1 z hz).1 (h1 z hz).2
 rw[e] at k1 k2 ⊢
 have hget:∀ j (hj:j < (L++E).length),(∃ h:j < L.length,(L++E)[j]=L[j])∨(L.length≤j∧(L++E)[j]∈E):=fun j hj=>by
  by_cases c:j < L.length
  ·exact .inl ⟨c,List.getElem_append_left c⟩
  ·right
   refine⟨by omega,?_⟩
   rw[List.getElem_append_right (by omega)]
   exact List.getElem_mem _
 have htop:∀ x∈L++E,F x≤F L[i]+1:=fun x hx=>by
  rcases List.mem_append.1 hx with hx | hx
  ·exact I.top h x hx
  ·rw[hE x hx];exact Nat.le_refl _
 refine⟨by simp;omega,fun x hxm=>?_,?_,by simp[I.has],fun j hj hji y hy=>?_,fun j k hj hk hjk=>?_,fun hi x hxm=>?_⟩
 ·rcases List.mem_append.1 hxm with hxm | hxm
  ·exact I.mem x hxm
  ·exact W.hU _ hx x (h1 x hxm).1
 ·rw[List.nodup_append]
  exact⟨I.nd,h2,fun a ha b hb hab=>(h1 b hb).2 (hab ▸ ha)⟩
 ·have hjL:j < L.length:=by omega
  rw[List.getElem_append_left hjL] at hy
  by_cases c:j=i
  ·subst c;exact k1 y hy
  ·exact k2 y (I.done j hjL (by omega) y hy)
 ·rcases hget j hj with⟨a,ea⟩ | ⟨a,ma⟩
  ·rcases hget k hk with⟨b,eb⟩ | ⟨b,mb⟩
   ·rw[ea,eb];exact I.srt j k a b hjk
   ·rw[ea,hE _ mb];exact I.top h _ (List.getElem_mem a)
  ·rcases hget k hk with⟨b,eb⟩ | ⟨b,mb⟩
   ·omega
   ·rw[hE _ ma,hE _ mb];exact Nat.le_refl _
 ·have:=htop x hxm
  rcases hget (i+1) hi with⟨a,ea⟩ | ⟨a,ma⟩
  ·rw[ea]
   have:=I.srt i (i+1) h a (by omega)
   omega
  ·rw[hE _ ma];omega
theorem inv_end (W:World nb U F w) {L:List α} (I:Inv nb U F w L L.length):∀ (n:Nat) (x:α),F x=n→U x→x∈L:=by
 intro n
 induction n with
 | zero =>
  intro x hx hU
  by_cases e:x=w
  ·rw[e];exact I.has
  ·obtain⟨y,_,hy⟩:=W.dn x hU e;omega
 | succ n ih =>
  intro x hx hU
  by_cases e:x=w
  ·rw[e];exact I.has
  obtain⟨y,hy,hF⟩:=W.dn x hU e
  have hyL:=ih y (by omega) (W.hU x hU y hy)
  obtain⟨j,hj,rfl⟩:=List.getElem_of_mem hyL
  exact I.done j hj hj x (W.sym x hU _ hy)
end
end Go.Bfs
namespace Go.MdM
def al:Bn:=fun _=>true
def fl (l:List Int):Nat→Int:=fun i=>l.getD i 0
def sw (l:List Int) (a b:Nat):List Int:=(l.set a (l.getD b 0)).set b (l.getD a 0)
theorem Gt (l:List Int) (a b:Nat):(sw l a b).length=l.length:=by simp[sw]
theorem RY (r:List Int) (i j:Nat) (v:Int) (hi:i < r.length):(r.set i v).getD j 0=if j=i then v else r.getD j 0:=by
 simp only[List.getD_eq_getElem?_getD,List.getElem?_set]
 by_cases h:i=j
 ·subst h;simp[hi]
 ·have h':¬ j=i:=fun e=>h e.symm
  simp[h,h']
theorem OZ {l:List Int} {a b:Nat} (ha:a < l.length) (hb:b < l.length) (hab:a≠b):fl (sw l a b)=Ke (fl l) a b:=by
 funext i
 unfold fl sw Ke
 rw[RY _ _ _ _ (by simpa using hb),RY _ _ _ _ ha]
 by_cases h1:i=a
 ·subst h1
  rw[if_neg hab,if_pos rfl,if_pos rfl]
 ·rw[if_neg h1,if_neg h1]
theorem Wm {x y:List Int} (h:x.length=y.length) (e:∀ i,i < x.length→fl x i=fl y i):x=y:=by
 apply List.ext_getElem h
 intro j h1 h2
 have:=e j h1
 simp only[fl,List.getD_eq_getElem?_getD,List.getElem?_eq_getElem h1,List.getElem?_eq_getElem h2,Option.getD_some] at this
 exact this
theorem AcJ {l:List Int} {a b:Nat} (ha:a < l.length) (hb:b < l.length) (hab:a≠b):sw (sw l a b) a b=l:=by
 apply Wm (by rw[Gt,Gt])
 intro i _
 rw[OZ (by rw[Gt];exact ha) (by rw[Gt];exact hb) hab,OZ ha hb hab,WW]
theorem WX {l:List Int} {a b:Nat} (ha:a < l.length) (hb:b < l.length) (hab:a≠b):sw l a b=sw l b a:=by
 apply Wm (by rw[Gt,Gt])
 intro i _
 rw[OZ ha hb hab,OZ hb ha (fun e=>hab e.symm)]
 unfold Ke
 by_cases h1:i=a
 ·subst h1
  rw[if_pos rfl,if_neg hab,if_pos rfl]
 ·rw[if_neg h1]
  by_cases h2:i=b
  ·rw[if_pos h2,if_pos h2]
  ·rw[if_neg h2,if_neg h2,if_neg h1]
theorem Jv (N:Nat):card N al=N:=by unfold card al;simp
theorem OA (x:List Int) (v:Int):cn x.length al (fl x) v=x.count v:=by
 have e:x=(List.range x.length).map (fl x):=by
  apply List.ext_getElem (by simp)
  intro i h1 h2
  simp[fl,List.getD_eq_getElem?_getD,h1]
 unfold cn
 conv=>rhs;rw[e]
 rw[List.count,List.countP_map]
 apply List.countP_congr
 intro i _
 simp[al]
def prs (n:Nat):List (Nat×Nat):=(List.range n).flatMap fun a=>((List.range n).drop (a+1)).map fun b=>(a,b)
theorem O6 {n:Nat} {p:Nat×Nat}:p∈prs n↔p.1 < p.2∧p.2 < n:=by
 unfold prs
 rw[List.mem_flatMap]
 constructor
 ·rintro⟨a,ha,h⟩
  obtain⟨b,hb,rfl⟩:=List.mem_map.1 h
  obtain⟨k,hk,e⟩:=List.getElem_of_mem hb
  simp at e hk
  show a < b∧b < n
  omega
 ·rintro⟨h1,h2⟩
  refine⟨p.1,List.mem_range.2 (by omega),List.mem_map.2 ⟨p.2,?_,rfl⟩⟩
  rw[List.mem_iff_getElem]
  refine⟨p.2 - (p.1+1),by simp;omega,?_⟩
  simp;omega
def nbx (l:List Int):List (List Int):=(prs l.length).map fun p=>sw l p.1 p.2
noncomputable def Hz (w x:List Int):Nat:=w.length - M w.length (fl x) (fl w) al
def MU (w x:List Int):Prop:=x.length=w.length∧∀ v,x.count v=w.count v
theorem uL {w x:List Int} (h:MU w x):Bp w.length (fl x) (fl w) al:=fun v=>by
 rw[OA w v]
 have:=OA x v
 rw[h.1] at this
 rw[this,h.2 v]
theorem OO {w x:List Int} (h:MU w x) {a b:Nat} (ha:a < x.length) (hb:b < x.length) (hab:a≠b):MU w (sw x a b):=by
 refine⟨by rw[Gt];exact h.1,fun v=>?_⟩
 rw[←OA (sw x a b) v,Gt,OZ ha hb hab,ZF ha hb hab rfl rfl,OA,h.2 v]
theorem ZG {w x:List Int} (h:MU w x) {a b:Nat} (ha:a < x.length) (hb:b < x.length) (hab:a≠b):Hz w (sw x a b)≤Hz w x+1∧Hz w x≤Hz w (sw x a b)+1:=by
 unfold Hz
 rw[h.1] at ha hb
 rw[OZ (by rw[h.1];exact ha) (by rw[h.1];exact hb) hab]
 have h1:=iM (H:=fl x) (W:=fl w) ha hb hab al rfl rfl
 have h2:=UN (H:=fl x) (W:=fl w) ha hb hab al rfl rfl
 omega
theorem UO (w:List Int):Hz w w=0:=by
 unfold Hz
 have h:=SI (N:=w.length) (H:=fl w) (W:=fl w) w.length al (by rw[Jv];exact Nat.le_refl _)
 rw[Jv] at h
 have e:card w.length (fun i=>al i && !decide (fl w i=fl w i))=0:=by unfold card;rw[List.countP_eq_zero];intro i _;simp
 omega
theorem UQ {w x:List Int} (h:MU w x) (hne:x≠w):∃ a b,a < b∧b < x.length∧Hz w (sw x a b)+1=Hz w x:=by
 have:∃ i,i < x.length∧fl x i≠fl w i:=Classical.byContradiction fun k=>hne (Wm h.1 fun i hi=>Classical.byContradiction fun k2=>k ⟨i,hi,k2⟩)
 obtain⟨i,hi,hne⟩:=this
 rw[h.1] at hi
 obtain⟨b,hb,hbi,_,hM⟩:=uK (uL h) hi (show al i=true from rfl) hne
 have hle:=dV (N:=w.length) (H:=Ke (fl x) i b) (W:=fl w) al
 rw[Jv] at hle
 have hib:i≠b:=fun e=>hbi e.symm
 have e1:Hz w (sw x i b)+1=Hz w x:=by
  unfold Hz
  rw[OZ (by rw[h.1];exact hi) (by rw[h.1];exact hb) hib]
  omega
 rcases Nat.lt_or_gt_of_ne hib with c | c
 ·exact⟨i,b,c,by rw[h.1];exact hb,e1⟩
 ·exact⟨b,i,c,by rw[h.1];exact hi,by rw[←WX (by rw[h.1];exact hi) (by rw[h.1];exact hb) hib];exact e1⟩
theorem uM (w:List Int):Bfs.World nbx (MU w) (Hz w) w where
 hw:=⟨rfl,fun _=>rfl⟩
 h0:=UO w
 hU:=fun x hx y hy=>by
  obtain⟨p,hp,rfl⟩:=List.mem_map.1 hy
  obtain⟨h1,h2⟩:=O6.1 hp
  exact OO hx (by omega) h2 (by omega)
 up:=fun x hx y hy=>by
  obtain⟨p,hp,rfl⟩:=List.mem_map.1 hy
  obtain⟨h1,h2⟩:=O6.1 hp
  exact(ZG hx (by omega) h2 (by omega)).1
 sym:=fun x hx y hy=>by
  obtain⟨p,hp,rfl⟩:=List.mem_map.1 hy
  obtain⟨h1,h2⟩:=O6.1 hp
  refine List.mem_map.2 ⟨p,by rw[Gt];exact hp,?_⟩
  exact AcJ (by omega) h2 (by omega)
 dn:=fun x hx hne=>by
  obtain⟨a,b,h1,h2,h3⟩:=UQ hx hne
  exact⟨sw x a b,List.mem_map.2 ⟨(a,b),O6.2 ⟨h1,h2⟩,rfl⟩,h3⟩
end Go.MdM
namespace Go.MdM
def vG (v:Int):List Int→Nat→Nat→Nat
 | [],_,i=>i
 | x::h,c,i=>if x=v then (match c with | 0=>i | c+1=>vG v h c (i+1)) else vG v h c (i+1)
def sr (h:List Int):List Int→List Int→List Nat
 | [],_=>[]
 | v::w,pre=>vG v h (pre.count v) 0::sr h w (pre++[v])
end Go.MdM
namespace Go.MdM
theorem ZH:∀ (l m:List Nat),l.Nodup→(∀ y∈l,y∈m)→l.length≤m.length
 | [],_,_,_=>Nat.zero_le _
 | a :: l, m, hn, h => by
  obtain⟨h1,h2⟩:=List.nodup_cons.1 hn
  have ha:=h a (by simp)
  have:=ZH l (m.erase a) h2 fun y hy=>(List.mem_erase_of_ne (fun e=>h1 (by rw[←e];exact hy))).2 (h y (by simp[hy]))
  rw[List.length_erase_of_mem ha] at this
  have:=List.length_pos_of_mem ha
  rw[List.length_cons];omega
section
variable {w x:List Int} (h:MU w x)
include h
end
end Go.MdM
set_option maxRecDepth 100000
namespace Go.MdM
open Go Go.Sp Go.RgP
def Dr:List Int→Nat→Nat
 | [],a=>a
 | x::l,a=>Dr l (8*a+x.toNat)
def UT (l:List Int):Prop:=∀ x∈l,0≤x∧x < 8
theorem SK:∀ (l m:List Int) (a b:Nat),l.length=m.length→UT l→UT m→Dr l a=Dr m b→l=m∧a=b
 | [],[],_,_,_,_,_,h=>⟨rfl,h⟩
 | [],y::m,_,_,h,_,_,_=>by simp at h
 | x::l,[],_,_,h,_,_,_=>by simp at h
 | x :: l, y :: m, a, b, h, h1, h2, e => by
  obtain⟨rfl,e2⟩:=SK l m _ _ (by simpa using h) (fun z hz=>h1 z (by simp[hz])) (fun z hz=>h2 z (by simp[hz])) e
  have hx:=h1 x (by simp)
  have hy:=h2 y (by simp)
  have:x.toNat=y.toNat∧a=b:=by omega
  have hxy:x=y:=by omega
  exact⟨by rw[hxy],this.2⟩
theorem iN:∀ (l:List Int) (a k:Nat),UT l→a < k→Dr l a < k*8 ^ l.length
 | [],a,k,_,h=>by simpa [Dr] using h
 | x :: l, a, k, h1, h => by
  have hx:=h1 x (by simp)
  have:=iN l (8*a+x.toNat) (8*k) (fun z hz=>h1 z (by simp[hz])) (by omega)
  show Dr l (8*a+x.toNat) < k*8 ^ (l.length+1)
  rw[Nat.pow_succ]
  have e:k*(8 ^ l.length*8)=8*k*8 ^ l.length:=by rw[Nat.mul_comm (8 ^ l.length) 8,←Nat.mul_assoc,Nat.mul_comm k 8]
  omega
def KJ (F:List Int→Nat) (L:List (List Int)):List (Nat×Nat):=L.map fun x=>(Dr x 0,F x)
theorem ZI (F:List Int→Nat) (L:List (List Int)) (x:List Int):KJ F (L++[x])=KJ F L++[(Dr x 0,F x)]:=by unfold KJ;simp
theorem WY (F:List Int→Nat) (L:List (List Int)):(KJ F L).length=L.length:=by unfold KJ;simp
theorem OB {F:List Int→Nat} {n:Nat} {x:List Int} (hx:x.length=n) (h8:UT x):∀ (L:List (List Int)),(∀ y∈L,y.length=n∧UT y)→x∈L→∃ j,place (Dr x 0) (KJ F L)=some (j,F x)
 | [],_,h=>by cases h
 | y :: L, hL, h => by
  show ∃ j,(bif Nat.beq (Dr x 0) (Dr y 0) then some (0,F y) else (place (Dr x 0) (KJ F L)).map fun p=>(p.1+1,p.2))=some (j,F x)
  cases hb:Nat.beq (Dr x 0) (Dr y 0) with
  | true =>
   obtain⟨rfl,_⟩:=SK x y 0 0 (by rw[hx,(hL y (by simp)).1]) h8 (hL y (by simp)).2 (Nat.eq_of_beq_eq_true hb)
   exact⟨0,rfl⟩
  | false =>
   rcases List.mem_cons.1 h with rfl | h
   ·rw[Nat.beq_refl] at hb;cases hb
   ·obtain⟨j,e⟩:=OB hx h8 L (fun z hz=>hL z (by simp[hz])) h
    rw[e];exact⟨j+1,rfl⟩
theorem RZ {F:List Int→Nat} {n:Nat} {x:List Int} (hx:x.length=n) (h8:UT x):∀ (L:List (List Int)),(∀ y∈L,y.length=n∧UT y)→x ∉ L→place (Dr x 0) (KJ F L)=none
 | [],_,_=>rfl
 | y :: L, hL, h => by
  show (bif Nat.beq (Dr x 0) (Dr y 0) then some (0,F y) else (place (Dr x 0) (KJ F L)).map fun p=>(p.1+1,p.2))=none
  cases hb:Nat.beq (Dr x 0) (Dr y 0) with
  | true =>
   obtain⟨rfl,_⟩:=SK x y 0 0 (by rw[hx,(hL y (by simp)).1]) h8 (hL y (by simp)).2 (Nat.eq_of_beq_eq_true hb)
   exact absurd (by simp) h
  | false =>
   rw[RZ hx h8 L (fun z hz=>hL z (by simp[hz])) (fun k=>h (by simp[k]))];rfl
theorem Qq (d c:Nat):∀ (ps:List (Nat×Nat)) (i:Nat),Oy (ps++[(d,c)]) i=Oy ps i++[⟨IV (Int.ofNat d),IV (Int.ofNat c),i+ps.length⟩]
 | [],i=>rfl
 | (k, b) :: r, i => by
  show _::Oy (r++[(d,c)]) (i+1)=_
  rw[Qq d c r (i+1),show i+1+r.length=i+(r.length+1) by omega];rfl
theorem dX (d c:Nat) (ps:List (Nat×Nat)):Gr (IV (Int.ofNat d)) (IV (Int.ofNat c)) ps.length (FK ps) none=FK (ps++[(d,c)])∧Ja ps.length (none:Option (Nat×Value))=(ps++[(d,c)]).length:=by
 constructor
 ·show Br (FK ps) [⟨IV (Int.ofNat d),IV (Int.ofNat c),ps.length⟩]=_
  unfold FK
  rw[BH,Qq,Nat.zero_add]
 ·show ps.length+1=_
  simp
end Go.MdM
set_option maxRecDepth 100000
set_option maxHeartbeats 4000000
namespace Go.MnOM
open Go Go.Sp Go.MnO Go.MdM Go.MdV Go.RgP
theorem q23 (k:Nat) (args:List Value):Eb (k+1) 23 args=m23 (Eb k) L args:=by kernel_rfl
theorem uN:∀ (l:List Int) (a:Nat),UT l→Dr l a < (a+1)*8 ^ l.length:=fun l a h=>iN l a (a+1) h (by omega)
theorem AcK (a b:Nat) (h:8*a+b < 1000000000):Aj .i64 (Int.add (Aj .i64 (Int.mul 8 (Int.ofNat a))) (Int.ofNat b))=Int.ofNat (8*a+b):=by
 have e1:Int.mul 8 (Int.ofNat a)=((8*a:Nat):Int):=by show (8:Int)*(a:Int)=_;omega
 rw[e1,show Aj .i64 ((8*a:Nat):Int)=((8*a:Nat):Int) from Oe _ (by omega) (by omega)]
 have e2:Int.add ((8*a:Nat):Int) (Int.ofNat b)=((8*a+b:Nat):Int):=by show ((8*a:Nat):Int)+(b:Int)=_;omega
 rw[e2];exact Oe _ (by omega) (by omega)
theorem ZJ (pu:Af) (M fl:Nat) (l:List Int) (h8:UT l) (hl:l.length≤6):∀ (d w i a:Nat),i+d=l.length→d < w→a < 8 ^ i →
 Pj pu M w (Int.ofNat a) (sl fl l) (Int.ofNat l.length) (Int.ofNat i)=some (I (Int.ofNat (Dr (l.drop i) a)))
 | _,0,_,_,_,h,_=>by omega
 | 0, w + 1, i, a, hd, _, _ => by
  show Pi pu M (Pj pu M w) _ _ _ _=_
  unfold Pi
  rw[FD (by omega),AA,List.drop_eq_nil_of_le (by omega)];rfl
 | d + 1, w + 1, i, a, hd, hw, ha => by
  have hlt:i < l.length:=by omega
  have e:l.drop i=l[i]::l.drop (i+1):=List.drop_eq_getElem_cons hlt
  have hx:=h8 l[i] (List.getElem_mem hlt)
  have hp:(8:Nat) ^ (i+1)≤8 ^ 6:=Nat.pow_le_pow_right (by decide) (by omega)
  have hps:(8:Nat) ^ (i+1)=8*8 ^ i:=by rw[Nat.pow_succ,Nat.mul_comm]
  have h6:(8:Nat) ^ 6=262144:=rfl
  have ex:l[i]=Int.ofNat l[i].toNat:=(Int.toNat_of_nonneg hx.1).symm
  have ih:=ZJ pu M fl l h8 hl d w (i+1) (8*a+l[i].toNat) (by omega) (by omega) (by omega)
  rw[e]
  show Pi pu M (Pj pu M w) _ _ _ _=some (I (Int.ofNat (Dr (l.drop (i+1)) (8*a+l[i].toNat))))
  rw[←ih]
  unfold Pi
  rw[FL hlt]
  simp only[Ak,Cx,Ac,I4,GX,blt_eq,hlt,decide_true,CF,Bool.true_and,BZ,Nat.mul_one,Aja l i hlt,BP,DC i (by omega:i < 1000000)]
  have hw2:Aj .i64 (Int.add (Aj .i64 (Int.mul 8 (Int.ofNat a))) l[i])=Int.ofNat (8*a+l[i].toNat):=by
   conv=>lhs;rw[ex]
   exact AcK a l[i].toNat (by omega)
  rw[hw2]
theorem p23 (n fl:Nat) (l:List Int) (h8:UT l) (hl:l.length≤6):Eb (n+1) 23 [S fl l]=some (I (Int.ofNat (Dr l 0))):=by
 rw[q23]
 have h:=ZJ (Eb n) L fl l h8 hl l.length L 0 0 (by omega) (by show _ < 1000000;omega) (by decide)
 rw[List.drop_zero] at h
 exact h
theorem q24 (k:Nat) (args:List Value):Eb (k+1) 24 args=uY (Eb k) L args:=by kernel_rfl
theorem AdY (pu:Af) (fl:Nat) (l:List Int) (a b:Int):uY pu L [S fl l,I a,I b]=bK pu L (sl fl l) a b:=by kernel_rfl
theorem p24 (n fl:Nat) (l:List Int) {a b:Nat} (hl:l.length≤6) (ha:a < l.length) (hb:b < l.length):Eb (n+1) 24 [S fl l,I (Int.ofNat a),I (Int.ofNat b)]=some (S 0 (sw l a b)):=by
 rw[q24,AdY]
 unfold bK
 have hn:Nat.beq (sl fl l).n 0=false:=ZC (show l.length≠0 by omega)
 have rm:EQ (0+l.length) 8=true:=by rw[Nat.zero_add];exact JN (by omega)
 have ht:Aq (l.length*1) (l.map I)=l.map I:=by rw[Cg,Nat.mul_one];exact List.take_of_length_le (by simp)
 have ga:AL (l.map I) (0+a*1)=some (I (l.getD a 0)):=by rw[BZ,Nat.zero_add,Nat.mul_one,Aja l a ha];simp[ha]
 have gb:AL (l.map I) (0+b*1)=some (I (l.getD b 0)):=by rw[BZ,Nat.zero_add,Nat.mul_one,Aja l b hb];simp[hb]
 have s1:BM ([I (l.getD b 0)]:List Value) (0+a*1) (l.map I)=(l.set a (l.getD b 0)).map I:=by rw[Nat.zero_add,Nat.mul_one,HY _ _ _ (by simpa using ha),List.map_set]
 have s2:BM ([I (l.getD a 0)]:List Value) (0+b*1) ((l.set a (l.getD b 0)).map I)=(sw l a b).map I:=by rw[Nat.zero_add,Nat.mul_one,HY _ _ _ (by simpa using hb),←List.map_set];rfl
 have c1:an (Nat.ble (0+a*1+1) (len (l.map I))) true=true:=by rw[CF,Bool.and_true,AV,List.length_map];exact Nat.ble_eq_true_of_le (by omega)
 have c2:an (Nat.ble (0+b*1+1) (len ((l.set a (l.getD b 0)).map I))) true=true:=by rw[CF,Bool.and_true,AV,List.length_map,List.length_set];exact Nat.ble_eq_true_of_le (by omega)
 have c3:an (Nat.ble (0+(0+l.length)*1) (len ((sw l a b).map I))) (Au Ah ((sw l a b).map I))=true:=by
  rw[XN,AV,List.length_map,Gt,Nat.ble_eq_true_of_le (by omega)];rfl
 have c4:Aq ((0+l.length)*1) (Am 0 ((sw l a b).map I))=(sw l a b).map I:=by rw[Cg,Bz,List.drop_zero];exact List.take_of_length_le (by rw[List.length_map,Gt];omega)
 have c5:Au Ah (Aq ((0+l.length)*1) (Am 0 ((sw l a b).map I)))=true:=by rw[c4,XN]
 rw[hn,AA]
 simp only[I4,GX,rm,Ak,ht,XN,Cx,Ac,dQ (show a < 0+l.length by omega),dQ (show b < 0+l.length by omega),ga,gb,BP,c1,s1,c2,s2,c4]
 have c6:an (Nat.ble (0+(0+l.length)*1) (len ((sw l a b).map I))) true=true:=by rw[CF,Bool.and_true,AV,List.length_map,Gt];exact Nat.ble_eq_true_of_le (by omega)
 rw[c6,Ak]
 unfold S sl
 rw[Gt,Nat.zero_add]
theorem WZ {M:List (List Int)} {x:List Int} (h:x∈M):Bfs.news M [x]=M:=by unfold Bfs.news;rw[if_pos h];rfl
theorem UU {M:List (List Int)} {x:List Int} (h:x ∉ M):Bfs.news M [x]=M++[x]:=by unfold Bfs.news;rw[if_neg h];rfl
theorem uO:Bi .i64 (Wd (none:Option (Nat×Value)) (.int .i64 (0:Int)))=some 0:=rfl
theorem SQ (j:Nat) (v:Int):Bi .i64 (Wd (some (j,IV v)) (.int .i64 (0:Int)))=some v:=rfl
theorem uP:nt (isS (none:Option (Nat×Value)))=true:=rfl
theorem uQ (p:Nat×Value):nt (isS (some p))=false:=rfl
def QS (M:List (List Int)) (i off n c:Nat) (q:List Value):Prop:=n+i=M.length∧c / 2=n∧c % 2=0∧off+n=len q∧Am off q=(M.drop i).map (S 0)∧Au Ah q=true
theorem AdZ (l:List (List Int)):Au Ah (l.map (S 0))=true:=by
 rw[Bh,List.all_eq_true]
 intro v hv
 obtain⟨z,_,rfl⟩:=List.mem_map.1 hv
 rfl
theorem dY {M:List (List Int)} {i off n c:Nat} {q:List Value} (h:QS M i off n c q) (hM:M.length≤300000):Ou 1 24 off n c 1 q=true:=by
 obtain⟨h1,h2,h3,h4,_,_⟩:=h
 unfold Ou
 have k1:EQ (n+1) 24=true:=by
  unfold EQ
  exact Nat.ble_eq_true_of_le (by show (4*(n+1)+4096)*24≤281474976710656;omega)
 have k2:nt (Nat.ble (n+1) (c / 2))=true:=by
  rw[h2]
  cases h:Nat.ble (n+1) n with
  | false=>rfl
  | true=>have:=Nat.le_of_ble_eq_true h;omega
 have k3:Nat.ble (off+n*1) (len q)=true:=Nat.ble_eq_true_of_le (by omega)
 have k4:Nat.beq (off+n*1) (len q)=true:=by rw[Nat.mul_one,h4];exact Nat.beq_refl _
 rw[k1,k2,k3,k4,h3];rfl
theorem W9 {M:List (List Int)} {i off n c:Nat} {q:List Value} (h:QS M i off n c q) (x:List Int):QS (M++[x]) i 0 (n+1) (2*(n+1)+bb false 1 0) (Br (Am off q) [S 0 x]):=by
 obtain⟨h1,h2,h3,h4,h5,h6⟩:=h
 have e:Br (Am off q) [S 0 x]=((M++[x]).drop i).map (S 0):=by
  rw[h5,BH,List.drop_append_of_le_length (by omega)];simp
 refine⟨by rw[List.length_append,List.length_singleton];omega,by show (2*(n+1)+0) / 2=n+1;omega,by show (2*(n+1)+0) % 2=0;omega,?_,?_,?_⟩
 ·rw[e,AV,List.length_map,List.length_drop,List.length_append,List.length_singleton];omega
 ·rw[e,Bz,List.drop_zero]
 ·rw[e];exact AdZ _
theorem uR {M:List (List Int)} {i off n c:Nat} {q:List Value} (h:QS M i off n c q) (hi:i < M.length):QS M (i+1) (off+1*1) (n - 1) (2*(c / 2 - 1)+bb (Dp false (Nat.beq (c % 2) 1)) 1 0) q:=by
 obtain⟨h1,h2,h3,h4,h5,h6⟩:=h
 have e:bb (Dp false (Nat.beq (c % 2) 1)) 1 0=0:=by rw[h3];rfl
 refine⟨by omega,by rw[e,h2];omega,by rw[e];omega,by omega,?_,h6⟩
 have:Am (off+1*1) q=(Am off q).drop 1:=by rw[Bz,Bz,List.drop_drop]
 rw[this,h5,←List.map_drop,List.drop_drop]
theorem dZ {M:List (List Int)} {i off n c:Nat} {q:List Value} (h:QS M i off n c q) (hi:i < M.length):AL q (off+0*1)=some (S 0 M[i]):=by
 obtain⟨h1,h2,h3,h4,h5,h6⟩:=h
 rw[BZ,Nat.zero_mul,Nat.add_zero]
 have:q[off]?=(q.drop off)[0]?:=by rw[List.getElem?_drop,Nat.add_zero]
 rw[this,←Bz,h5,List.getElem?_map,List.getElem?_drop,Nat.add_zero,List.getElem?_eq_getElem hi];rfl
section
variable {w:List Int} {F:List Int→Nat} (h8:UT w) (hl:w.length≤6) (near:Bool) (n:Nat)
theorem Iq {x : List Int} (h8 : UT w) (h : MU w x) : UT x := fun z hz => h8 z (by
 have:=h.2 z
 rw[←List.count_pos_iff,←this,List.count_pos_iff];exact hz)
include h8 hl
theorem AcM (ih0:Bool→Nat→Nat→Nat→List EO→Nat→List Value→Option Value) (ih1:Bool→Nat→Nat→Nat→Sl→Int→Int→List EO→Nat→List Value→Option Value) (ih2:Bool→Nat→Nat→Nat→Sl→Int→Int→Int→Int→List EO→Nat→List Value→Option Value)
 {M:List (List Int)} (hM:∀ x∈M,MU w x) (hMl:M.length≤300000) {l:List Int} (hlM:l∈M) {a b:Nat} (ha:a < l.length) (hb:b < l.length) (hab:a≠b) (hF:sw l a b ∉ M→F (sw l a b)=F l+1) (hFl:F l≤1000) {i off nn c:Nat} {q:List Value} (hq:QS M i off nn c q) :
 ∃ off' nn' c' q', QS (Bfs.news M [sw l a b]) i off' nn' c' q' ∧ G9 (Eb (n + 1)) L ih0 ih1 ih2 near off nn c (sl 0 l) (Int.ofNat a) (Int.ofNat b) (Int.ofNat l.length) (Int.ofNat a) true (FK (KJ F M)) M.length q =
  JO (Eb (n+1)) L ih0 ih1 ih2 near off' nn' c' (sl 0 l) (Int.ofNat a) (Int.ofNat b) (Int.ofNat l.length) (Int.ofNat a) (FK (KJ F (Bfs.news M [sw l a b]))) (Bfs.news M [sw l a b]).length q':=by
 have ol:=hM l hlM
 have ox:=OO ol ha hb hab
 have ln:l.length≤6:=by rw[ol.1];exact hl
 have e24:Eb (n+1) 24 [Sl.v 1 (sl 0 l),.int .i64 (Int.ofNat a),.int .i64 (Int.ofNat b)]=some (Sl.v 1 (sl 0 (sw l a b))):=p24 n 0 l ln ha hb
 have e23x:Eb (n+1) 23 [Sl.v 1 (sl 0 (sw l a b))]=some (.int .i64 (Int.ofNat (Dr (sw l a b) 0))):=p23 n 0 _ (Iq h8 ox) (by rw[Gt];exact ln)
 have e23l:Eb (n+1) 23 [Sl.v 1 (sl 0 l)]=some (.int .i64 (Int.ofNat (Dr l 0))):=p23 n 0 l (Iq h8 ol) ln
 have hall:∀ y∈M,y.length=w.length∧UT y:=fun y hy=>⟨(hM y hy).1,Iq h8 (hM y hy)⟩
 have fx:=ML (Dr (sw l a b) 0) (KJ F M)
 have flk:=ML (Dr l 0) (KJ F M)
 obtain⟨j,pl⟩:=OB (F:=F) ol.1 (Iq h8 ol) M hall hlM
 rw[pl] at flk
 have flk:GD (.int .i64 (Int.ofNat (Dr l 0))) (FK (KJ F M)) 0=some (some (j,IV (Int.ofNat (F l)))):=flk
 have hc:=hq.2.2.2.2.2
 by_cases hx:sw l a b∈M
 ·obtain⟨j2,px⟩:=OB (F:=F) ox.1 (Iq h8 ox) M hall hx
  rw[px] at fx
  have fx:GD (.int .i64 (Int.ofNat (Dr (sw l a b) 0))) (FK (KJ F M)) 0=some (some (j2,IV (Int.ofNat (F (sw l a b))))):=fx
  have en:=WZ hx
  refine⟨off,nn,c,q,by rw[en];exact hq,?_⟩
  rw[en]
  unfold G9
  rw[Ak,DL,Ak,hc,Ak,e24,Ac,Dc,Ac,e23x,Ac,BP,Ac,fx,Ac,SQ,Ac,uQ,AA]
 ·have px:=RZ (F:=F) ox.1 (Iq h8 ox) M hall hx
  rw[px] at fx
  have fx:GD (.int .i64 (Int.ofNat (Dr (sw l a b) 0))) (FK (KJ F M)) 0=some none:=fx
  have en:=UU hx
  refine⟨0,nn+1,2*(nn+1)+bb false 1 0,Br (Am off q) [S 0 (sw l a b)],by rw[en];exact W9 hq _,?_⟩
  rw[en]
  have hv:=hF hx
  obtain⟨u1,u2⟩:=dX (Dr (sw l a b) 0) (F l+1) (KJ F M)
  rw[WY] at u1 u2
  have hps:KJ F M++[(Dr (sw l a b) 0,F l+1)]=KJ F (M++[sw l a b]):=by rw[ZI,hv]
  rw[hps] at u1 u2
  rw[WY] at u2
  have hw1:Aj .i64 (Int.add (Int.ofNat (F l)) 1)=Int.ofNat (F l+1):=DC (F l) (by omega)
  have hcl:Au Ah (Br (Am off q) [Sl.v 1 (sl 0 (sw l a b))])=true:=(W9 hq (sw l a b)).2.2.2.2.2
  unfold G9
  rw[Ak,DL,Ak,hc,Ak,e24,Ac,Dc,Ac,e23x,Ac,BP,Ac,fx,Ac,uO,Ac,uP,Ak,Ac,BP,Ac,e23l,Ac,BP,Ac,flk,Ac,SQ,Ac,fx,Ac,hw1,u1,u2,DL,Ak,dY hq hMl,Ak,hcl,Ak]
  rfl
end
end Go.MnOM
set_option maxRecDepth 100000
set_option maxHeartbeats 4000000
namespace Go.MnOM
open Go Go.Sp Go.MnO Go.MdM Go.MdV Go.RgP
theorem UV {α:Type} [DecidableEq α] (xs ys:List α):∀ (M:List α),Bfs.news M (xs++ys)=Bfs.news (Bfs.news M xs) ys:=by
 induction xs with
 | nil=>intro M;rfl
 | cons x xs ih =>
  intro M
  show Bfs.news (if x∈M then M else M++[x]) (xs++ys)=Bfs.news (Bfs.news (if x∈M then M else M++[x]) xs) ys
  exact ih _
theorem Qt (x:Int):Bd x x=true:=by rw[Lr];simp
theorem UW {α β:Type} {f g:α→List β}:∀ {l:List α},(∀ a∈l,f a=g a)→l.flatMap f=l.flatMap g
 | [],_=>rfl
 | a::l,h=>by rw[List.flatMap_cons,List.flatMap_cons,h a (by simp),UW fun b hb=>h b (by simp[hb])]
theorem XJ (x:List Int) (ys M:List (List Int)):Bfs.news M (x::ys)=Bfs.news (Bfs.news M [x]) ys:=UV [x] ys M
def OC (near:Bool) (n a:Nat):List Nat:=if near then (if a+1 < n then [a+1] else []) else (List.range n).drop (a+1)
def VL (near:Bool) (l:List Int):List (List Int):=(List.range l.length).flatMap fun a=>(OC near l.length a).map fun b=>sw l a b
theorem AcN (l:List Int):VL false l=nbx l:=by
 unfold VL nbx prs OC
 rw[List.map_flatMap]
 apply UW
 intro a _
 show ((if (false:Bool)=true then _ else (List.range l.length).drop (a+1)).map fun b=>sw l a b)=(((List.range l.length).drop (a+1)).map fun b=>(a,b)).map fun p=>sw l p.1 p.2
 rw[if_neg (by decide),List.map_map];rfl
section
variable {w:List Int} {F:List Int→Nat} (h8:UT w) (hl:w.length≤6) (near:Bool) (n:Nat)
include h8 hl
theorem iO (ih0:Bool→Nat→Nat→Nat→List EO→Nat→List Value→Option Value) (ih1:Bool→Nat→Nat→Nat→Sl→Int→Int→List EO→Nat→List Value→Option Value)
 {L0:List (List Int)} {l:List Int} (hlL:l∈L0) (hol:MU w l) {a:Nat} (ha:a < l.length) (hFl:F l≤1000) (hF:∀ b,a < b→b < l.length→(near=true→b=a+1)→sw l a b ∉ L0→F (sw l a b)=F l+1) (hL0:L0.length≤270000) {i:Nat}:∀ (d ww b:Nat) (M:List (List Int)) (off nn c:Nat) (q:List Value),b+d=l.length→d < ww→a < b→(∀ x∈L0,x∈M)→(∀ x∈M,MU w x)→M.length≤280000+b→QS M i off nn c q →
 ∃ off' nn' c' q', QS (Bfs.news M ((if near then (if b = a + 1 ∧ b < l.length then [b] else []) else (List.range l.length).drop b).map fun b => sw l a b)) i off' nn' c' q' ∧
  Ha (Eb (n+1)) L ih0 ih1 ww near off nn c (sl 0 l) (Int.ofNat a) (Int.ofNat b) (Int.ofNat l.length) (Int.ofNat a) (FK (KJ F M)) M.length q=KW (Eb (n+1)) L ih0 ih1 near off' nn' c' (sl 0 l) (Int.ofNat l.length) (Int.ofNat a) (FK (KJ F (Bfs.news M ((if near then (if b=a+1∧b < l.length then [b] else []) else (List.range l.length).drop b).map fun b=>sw l a b)))) (Bfs.news M ((if near then (if b=a+1∧b < l.length then [b] else []) else (List.range l.length).drop b).map fun b=>sw l a b)).length q'
 | _,0,_,_,_,_,_,_,_,h,_,_,_,_,_=>by omega
 | 0, ww + 1, b, M, off, nn, c, q, hd, _, hab, hLM, hM, hMl, hq => by
  have hc:=hq.2.2.2.2.2
  have e:(if near then (if b=a+1∧b < l.length then [b] else []) else (List.range l.length).drop b)=[]:=by
   cases near with
   | true=>rw[if_pos rfl,if_neg (by omega)]
   | false=>rw[if_neg (by decide),List.drop_eq_nil_of_le (by simp;omega)]
  rw[e,List.map_nil]
  refine⟨off,nn,c,q,hq,?_⟩
  show Iz (Eb (n+1)) L ih0 ih1 (Ha (Eb (n+1)) L ih0 ih1 ww) _ _ _ _ _ _ _ _ _ _ _ _=_
  unfold Iz
  rw[I4,FD (by omega),AA,DL,hc,Ak,Ak]
  unfold G9
  rw[AA,DL,hc,Ak,Ak]
  rfl
 | d + 1, ww + 1, b, M, off, nn, c, q, hd, hw, hab, hLM, hM, hMl, hq => by
  have hc:=hq.2.2.2.2.2
  have hb:b < l.length:=by omega
  have hll:l.length≤6:=by rw[hol.1];exact hl
  show ∃ off' nn' c' q',_∧Iz (Eb (n+1)) L ih0 ih1 (Ha (Eb (n+1)) L ih0 ih1 ww) _ _ _ _ _ _ _ _ _ _ _ _=_
  by_cases hgo:near=true∧b≠a+1
  ·-- no neighbour
   obtain⟨rfl,hne⟩:=hgo
   rw[if_pos rfl,if_neg (fun k=>hne k.1),List.map_nil]
   refine⟨off,nn,c,q,hq,?_⟩
   unfold Iz
   have e1:Bd (Int.ofNat b) (Aj .i64 (Int.add (Int.ofNat a) 1))=false:=by rw[DC a (by omega),Lr];exact decide_eq_false (fun k=>hne (Int.ofNat.inj k))
   rw[I4,FL hb,Ak,show nt true=false from rfl,AA,DL,hc,Ak,Ak,e1]
   unfold G9
   rw[AA,DL,hc,Ak,Ak]
   rfl
  ·have hok:near=true→b=a+1:=fun k=>Classical.byContradiction fun k2=>hgo ⟨k,k2⟩
   obtain⟨off1,nn1,c1,q1,hq1,e1⟩:=AcM h8 hl near n ih0 ih1 (Ha (Eb (n+1)) L ih0 ih1 ww) hM (by omega) (hLM l hlL) ha hb (by omega) (fun k=>hF b hab hb hok fun k2=>k (hLM _ k2)) hFl hq
   have hM1:∀ x∈Bfs.news M [sw l a b],MU w x:=fun x hx=>by
    obtain⟨E,e,h1,_⟩:=Bfs.news_ext [sw l a b] M
    rw[e] at hx
    rcases List.mem_append.1 hx with hx | hx
    ·exact hM x hx
    ·rw[List.mem_singleton.1 (h1 x hx).1];exact OO hol ha hb (by omega)
   have hlen1:(Bfs.news M [sw l a b]).length≤M.length+1:=by
    by_cases hx:sw l a b∈M
    ·rw[WZ hx];omega
    ·rw[UU hx];simp
   have hc1:=hq1.2.2.2.2.2
   obtain⟨off2,nn2,c2,q2,hq2,e2⟩:=iO ih0 ih1 hlL hol ha hFl hF hL0 (i:=i) d ww (b+1) (Bfs.news M [sw l a b]) off1 nn1 c1 q1 (by omega) (by omega) (by omega) (fun x hx=>(Bfs.news_has [sw l a b] M).2 x (hLM x hx)) hM1 (by omega) hq1
   have el:Bfs.news M ((if near then (if b=a+1∧b < l.length then [b] else []) else (List.range l.length).drop b).map fun b=>sw l a b)=Bfs.news (Bfs.news M [sw l a b]) ((if near then (if b+1=a+1∧b+1 < l.length then [b+1] else []) else (List.range l.length).drop (b+1)).map fun b=>sw l a b):=by
    cases hn:near with
    | true =>
     have:=hok hn
     rw[if_pos rfl,if_pos rfl,if_pos ⟨this,hb⟩,if_neg (by omega)]
     rfl
    | false =>
     rw[if_neg (by decide),if_neg (by decide)]
     have yY:(List.range l.length).drop b=b::(List.range l.length).drop (b+1):=by
      rw[List.drop_eq_getElem_cons (by simpa using hb)];simp
     rw[yY,List.map_cons,XJ]
   rw[el]
   refine⟨off2,nn2,c2,q2,hq2,?_⟩
   rw[←e2]
   unfold Iz
   have fin:G9 (Eb (n+1)) L ih0 ih1 (Ha (Eb (n+1)) L ih0 ih1 ww) near off nn c (sl 0 l) (Int.ofNat a) (Int.ofNat b) (Int.ofNat l.length) (Int.ofNat a) true (FK (KJ F M)) M.length q=Ha (Eb (n+1)) L ih0 ih1 ww near off1 nn1 c1 (sl 0 l) (Int.ofNat a) (Int.ofNat (b+1)) (Int.ofNat l.length) (Int.ofNat a) (FK (KJ F (Bfs.news M [sw l a b]))) (Bfs.news M [sw l a b]).length q1:=by
    rw[e1]
    unfold JO
    rw[DL,hc1,Ak,Ak,DC b (by omega)]
   rw[I4,FL hb,Ak]
   cases hn:near with
   | true =>
    have hba:=hok hn
    have e3:Bd (Int.ofNat b) (Aj .i64 (Int.add (Int.ofNat a) 1))=true:=by rw[DC a (by omega),hba];exact Qt _
    rw[show nt true=false from rfl,AA,DL,hc,Ak,Ak,e3]
    rw[hn] at fin
    exact fin
   | false =>
    rw[show nt false=true from rfl,Ak,DL,hc,Ak,Ak]
    rw[hn] at fin
    exact fin
omit h8 hl in
theorem AcO (near:Bool) (n a:Nat):(if near then (if a+1=a+1∧a+1 < n then [a+1] else []) else (List.range n).drop (a+1))=OC near n a:=by
 unfold OC
 cases near with
 | true =>
  rw[if_pos rfl,if_pos rfl]
  by_cases c:a+1 < n
  ·rw[if_pos ⟨rfl,c⟩,if_pos c]
  ·rw[if_neg (fun k=>c k.2),if_neg c]
 | false=>rfl
def KS (near:Bool) (l:List Int) (a:Nat):List (List Int):=((List.range l.length).drop a).flatMap fun a=>(OC near l.length a).map fun b=>sw l a b
omit h8 hl in
theorem Wn {near:Bool} {l:List Int} {a b:Nat} (hab:a < b) (hb:b < l.length) (hn:near=true→b=a+1):sw l a b∈VL near l:=by
 unfold VL
 refine List.mem_flatMap.2 ⟨a,List.mem_range.2 (by omega),List.mem_map.2 ⟨b,?_,rfl⟩⟩
 unfold OC
 cases near with
 | true=>rw[if_pos rfl,hn rfl,if_pos (by have:=hn rfl;omega)];simp
 | false =>
  rw[if_neg (by decide),List.mem_iff_getElem]
  refine⟨b - (a+1),by simp;omega,?_⟩
  simp;omega
omit h8 hl in
theorem ZK {α:Type} [DecidableEq α] (xs:List α):∀ (M:List α),(Bfs.news M xs).length≤M.length+xs.length:=by
 induction xs with
 | nil=>intro M;exact Nat.le_refl _
 | cons x xs ih =>
  intro M
  have:=ih (if x∈M then M else M++[x])
  show (Bfs.news (if x∈M then M else M++[x]) xs).length≤_
  have h2:(if x∈M then M else M++[x]).length≤M.length+1:=by split <;> simp
  rw[List.length_cons];omega
omit h8 hl in
theorem uS (near:Bool) (n a:Nat):(OC near n a).length≤n:=by
 unfold OC
 split
 ·split
  ·simp;omega
  ·simp
 ·simp
omit h8 hl in
theorem uT {near:Bool} {n a b:Nat} (h:b∈OC near n a):a < b∧b < n∧(near=true→b=a+1):=by
 unfold OC at h
 cases near with
 | true =>
  rw[if_pos rfl] at h
  split at h
  ·have:=List.mem_singleton.1 h;exact⟨by omega,by omega,fun _=>this⟩
  ·cases h
 | false =>
  rw[if_neg (by decide)] at h
  obtain⟨k,hk,e⟩:=List.getElem_of_mem h
  simp at e hk
  exact⟨by omega,by omega,fun k=>by cases k⟩
theorem iR (ih0:Bool→Nat→Nat→Nat→List EO→Nat→List Value→Option Value)
 {L0:List (List Int)} {l:List Int} (hlL:l∈L0) (hol:MU w l) (hFl:F l≤1000) (hF:∀ z∈VL near l,z ∉ L0→F z=F l+1) (hL0:L0.length≤262144) {i:Nat}:∀ (d ww a:Nat) (M:List (List Int)) (off nn c:Nat) (q:List Value),a+d=l.length→d < ww→(∀ x∈L0,x∈M)→(∀ x∈M,MU w x)→M.length≤270000+6*a→QS M i off nn c q →
 ∃ off' nn' c' q', QS (Bfs.news M (KS near l a)) i off' nn' c' q' ∧
  Gn (Eb (n+1)) L ih0 ww near off nn c (sl 0 l) (Int.ofNat l.length) (Int.ofNat a) (FK (KJ F M)) M.length q=KV (Eb (n+1)) L ih0 near off' nn' c' (FK (KJ F (Bfs.news M (KS near l a)))) (Bfs.news M (KS near l a)).length q'
 | _,0,_,_,_,_,_,_,_,h,_,_,_,_=>by omega
 | 0, ww + 1, a, M, off, nn, c, q, hd, _, hLM, hM, hMl, hq => by
  have hc:=hq.2.2.2.2.2
  have e:KS near l a=[]:=by unfold KS;rw[List.drop_eq_nil_of_le (by simp;omega)];rfl
  rw[e]
  refine⟨off,nn,c,q,hq,?_⟩
  show Jb (Eb (n+1)) L ih0 (Gn (Eb (n+1)) L ih0 ww) _ _ _ _ _ _ _ _ _ _=_
  unfold Jb
  rw[DL,hc,Ak,Ak,FD (by omega),AA]
  rfl
 | d + 1, ww + 1, a, M, off, nn, c, q, hd, hw, hLM, hM, hMl, hq => by
  have hc:=hq.2.2.2.2.2
  have ha:a < l.length:=by omega
  have hll:l.length≤6:=by rw[hol.1];exact hl
  obtain⟨off1,nn1,c1,q1,hq1,e1⟩:=iO h8 hl near n ih0 (Gn (Eb (n+1)) L ih0 ww) (L0:=L0) hlL hol ha hFl (fun b hab hb hn k=>hF _ (Wn hab hb hn) k) (by omega) (i:=i) (l.length - (a+1)) L (a+1) M off nn c q (by omega) (by show _ < 1000000;omega) (by omega) hLM hM (by omega) hq
  rw[AcO] at e1 hq1
  have hc1:=hq1.2.2.2.2.2
  have hM1:∀ x∈Bfs.news M ((OC near l.length a).map fun b=>sw l a b),MU w x:=fun x hx=>by
   obtain⟨E,e,h1,_⟩:=Bfs.news_ext ((OC near l.length a).map fun b=>sw l a b) M
   rw[e] at hx
   rcases List.mem_append.1 hx with hx | hx
   ·exact hM x hx
   ·obtain⟨b,hb,rfl⟩:=List.mem_map.1 (h1 x hx).1
    obtain⟨k1,k2,_⟩:=uT hb
    exact OO hol (by omega) k2 (by omega)
  have hlen:=ZK ((OC near l.length a).map fun b=>sw l a b) M
  rw[List.length_map] at hlen
  have hbl:=uS near l.length a
  obtain⟨off2,nn2,c2,q2,hq2,e2⟩:=iR ih0 hlL hol hFl hF hL0 (i:=i) d ww (a+1) _ off1 nn1 c1 q1 (by omega) (by omega) (fun x hx=>(Bfs.news_has _ M).2 x (hLM x hx)) hM1 (by omega) hq1
  have el:KS near l a=((OC near l.length a).map fun b=>sw l a b)++KS near l (a+1):=by
   unfold KS
   have yY:(List.range l.length).drop a=a::(List.range l.length).drop (a+1):=by
    rw[List.drop_eq_getElem_cons (by simpa using ha)];simp
   rw[yY,List.flatMap_cons]
  rw[el,UV]
  refine⟨off2,nn2,c2,q2,hq2,?_⟩
  rw[←e2]
  show Jb (Eb (n+1)) L ih0 (Gn (Eb (n+1)) L ih0 ww) _ _ _ _ _ _ _ _ _ _=_
  unfold Jb
  rw[DL,hc,Ak,Ak,FL ha,Ak,DC a (by omega),e1]
  unfold KW
  rw[DL,hc1,Ak,Ak,DC a (by omega)]
theorem XK {M:List (List Int)} (hn:M.Nodup) (hM:∀ x∈M,MU w x):M.length≤262144:=by
 have h1:(M.map fun x=>Dr x 0).Nodup:=by
  rw[List.Nodup,List.pairwise_map]
  refine(List.Pairwise.and_mem.1 hn).imp ?_
  rintro a b ⟨ha,hb,hne⟩ e
  exact hne (SK a b 0 0 (by rw[(hM a ha).1,(hM b hb).1]) (Iq h8 (hM a ha)) (Iq h8 (hM b hb)) e).1
 have:=ZH (M.map fun x=>Dr x 0) (List.range 262144) h1 fun y hy=>by
  obtain⟨x,hx,rfl⟩:=List.mem_map.1 hy
  have h2:=uN x 0 (Iq h8 (hM x hx))
  have h3:(8:Nat) ^ x.length≤8 ^ 6:=Nat.pow_le_pow_right (by decide) (by rw[(hM x hx).1];exact hl)
  rw[List.mem_range]
  have:(8:Nat) ^ 6=262144:=rfl
  omega
 rw[List.length_map,List.length_range] at this
 exact this
theorem iT (W:Bfs.World (VL near) (MU w) F w) (hFb:∀ x,MU w x→F x≤1000):∀ (d ww i:Nat) (M:List (List Int)) (off nn c:Nat) (q:List Value),Bfs.Inv (VL near) (MU w) F w M i→262145≤i+d→d < ww→QS M i off nn c q →
 ∃ L',Bfs.Inv (VL near) (MU w) F w L' L'.length∧Fb (Eb (n+1)) L ww near off nn c (FK (KJ F M)) M.length q=some (.tuple ⟨[.map (some 1),Ef (.map (FK (KJ F L')) L'.length)]⟩)
 | _,0,_,_,_,_,_,_,_,_,h,_=>by omega
 | d, ww + 1, i, M, off, nn, c, q, hI, hd, hw, hq => by
  have hc:=hq.2.2.2.2.2
  have hb:=XK h8 hl hI.nd hI.mem
  by_cases hi:i < M.length
  ·have hol:=hI.mem _ (List.getElem_mem hi)
   have hn:nn≠0:=by have:=hq.1;omega
   have hnn:0 < nn:=by omega
   have hd0:0 < d:=by omega
   obtain⟨d',rfl⟩:∃ d',d=d'+1:=⟨d - 1,by omega⟩
   obtain⟨off1,nn1,c1,q1,hq1,e1⟩:=iR h8 hl near n (Fb (Eb (n+1)) L ww) (L0:=M) (List.getElem_mem hi) hol (hFb _ hol) (fun z hz k=>Bfs.new_val W hI hi hz k) (by omega) (i:=i) M[i].length L 0 M off nn c q (by omega) (by show _ < 1000000;have:=hol.1;omega) (fun x hx=>hx) hI.mem (by omega) hq
   have hf:KS near M[i] 0=VL near M[i]:=rfl
   rw[hf] at hq1 e1
   have hI1:=Bfs.inv_step W hI hi
   have hc1:=hq1.2.2.2.2.2
   have hi1:i < (Bfs.news M (VL near M[i])).length:=by
    obtain⟨E,e,_,_⟩:=Bfs.news_ext (VL near M[i]) M
    rw[e,List.length_append];omega
   obtain⟨L',hL',e2⟩:=iT W hFb d' ww (i+1) _ _ _ _ q1 hI1 (by omega) (by omega) (uR hq1 hi1)
   refine⟨L',hL',?_⟩
   rw[←e2]
   show Jc (Eb (n+1)) L (Fb (Eb (n+1)) L ww) _ _ _ _ _ _ _=_
   unfold Jc
   have hlt:AY (0:Int) (Int.ofNat nn)=true:=by rw[tC];show (0:Int) < (nn:Int);omega
   rw[DL,hc,Ak,Ak,hlt,Ak,dQ hnn,Ak,dZ hq hi,Ac,show Bj 1 (S 0 M[i])=some (sl 0 M[i]) from rfl,Ac,I4]
   refine Eq.trans e1 ?_
   unfold KV
   have h1n:Nat.ble 1 nn1=true:=Nat.ble_eq_true_of_le (by have:=hq1.1;omega)
   rw[h1n,DL,hc1,Ak,Ak,Ak]
  ·have hle:=hI.le
   have hiM:i=M.length:=by omega
   subst hiM
   have hn:nn=0:=by have:=hq.1;omega
   refine⟨M,hI,?_⟩
   show Jc (Eb (n+1)) L (Fb (Eb (n+1)) L ww) _ _ _ _ _ _ _=_
   unfold Jc
   rw[DL,hc,Ak,Ak,hn,show AY (0:Int) (Int.ofNat 0)=false from rfl,AA]
   unfold KU
   rw[DL,Ak]
theorem uU (W:Bfs.World (VL near) (MU w) F w) (hFb:∀ x,MU w x→F x≤1000):∃ L',Bfs.Inv (VL near) (MU w) F w L' L'.length∧Eb (n+2) 10220 [S 0 w,.bool near]=some (.tuple ⟨[.map (some 1),Ef (.map (FK (KJ F L')) L'.length)]⟩):=by
 have e:Eb (n+2) 10220 [S 0 w,.bool near]=LK (Eb (n+1)) L (sl 0 w) near:=by kernel_rfl
 have e23:Eb (n+1) 23 [Sl.v 1 (sl 0 w)]=some (.int .i64 (Int.ofNat (Dr w 0))):=p23 n 0 w h8 hl
 obtain⟨L',hL',e1⟩:=iT h8 hl near n W hFb 262145 L 0 [w] 0 1 2 [S 0 w] (Bfs.inv_start W) (by omega) (by show _ < 1000000;omega) ⟨rfl,rfl,rfl,rfl,rfl,rfl⟩
 refine⟨L',hL',?_⟩
 rw[e];unfold LK
 have hps:KJ F [w]=[(Dr w 0,0)]:=by unfold KJ;rw[List.map_cons,List.map_nil,W.h0]
 rw[hps] at e1
 rw[e23,Ac,BP,Ac,show GD (.int .i64 (Int.ofNat (Dr w 0))) ([]:List EO) 0=some none from rfl,Ac]
 exact e1
end
end Go.MnOM
namespace Go.MdM
variable {N:Nat} {H W:Nat→Int}
theorem Qu : ∀ (k : Nat) (q : Nat → Bool) (_ : ∀ i, i < N → q i = true → H i = W i) (S : Bn), card N S ≤ k → card N S - M N H W S = card N (fun i => S i && !q i) - M N H W (fun i => S i && !q i)
 | 0, q, _, S, h => by
  have hz:=Gu (N:=N) (S:=S) (by omega)
  have e:∀ i,i < N→(fun i=>S i && !q i) i=S i:=fun i hi=>by show (S i && !q i)=S i;rw[hz i hi];rfl
  rw[FN e,G5 e]
 | k + 1, q, hq, S, h => by
  by_cases hr:∃ i,i < N∧S i=true∧q i=true
  ·obtain⟨i,hi,hs,hqi⟩:=hr
   have h1:=WV (S:=S) hi (hq i hi hqi) hs
   have h2:=FM hi hs
   have ih:=Qu k q hq (del S i) (by omega)
   have e:∀ j,j < N→(fun j=>del S i j && !q j) j=(fun j=>S j && !q j) j:=fun j hj=>by
    show ((S j && !(j == i)) && !q j)=(S j && !q j)
    by_cases c:j=i
    ·rw[c,hqi];cases S i <;> simp
    ·have:(j == i)=false:=by simpa using c
     rw[this];cases S j <;> simp
   rw[FN e,G5 e] at ih
   omega
  ·have e : ∀ i, i < N → (fun i => S i && !q i) i = S i := fun i hi => by
    show (S i && !q i)=S i
    cases hs:S i with
    | false=>rfl
    | true =>
     cases hqi:q i with
     | false=>rfl
     | true=>exact absurd ⟨i,hi,hs,hqi⟩ hr
   rw[FN e,G5 e]
theorem Qv {S:Bn} {L:List Bn} (hL:Pk N H W S L) {D E:Bn} (hD:D∈L) (hE:E∈L) (hne:E≠D):∀ i,i < N→¬ (D i=true∧E i=true):=by
 have:=hL.1
 clear hL
 induction L with
 | nil=>cases hD
 | cons F L ih =>
  obtain⟨p1,p2⟩:=List.pairwise_cons.1 this
  intro i hi ⟨q1,q2⟩
  rcases List.mem_cons.1 hD with rfl | h1' <;> rcases List.mem_cons.1 hE with rfl | h2'
  ·exact hne rfl
  ·exact p1 E h2' i hi ⟨q1,q2⟩
  ·exact p1 D h1' i hi ⟨q2,q1⟩
  ·exact ih h1' h2' p2 i hi ⟨q1,q2⟩
theorem eF {S:Bn} {L:List Bn} (hL:Pk N H W S L) {D D1:Bn} (hD:D∈L) {a b:Nat} (ha:a < N) (hb:b < N) (hab:a≠b) (hDa:D a=true) (hDb:D b=true) (h1:Nf N D1 D) (h1a:D1 a=true) (h1b:D1 b=false) (he:Bp N (Ke H a b) W D1):L.length+1≤M N (Ke H a b) W S:=by
 obtain⟨sD,vD,_⟩:=hL.2 D hD
 have vD':Bp N (Ke H a b) W D:=OL ha hb hab (.inl ⟨hDa,hDb⟩) vD
 have v2:=Ng h1 he vD'
 have hone:(L.filter fun E=>!(E a)).length+1=L.length:=by
  have k1:=OM L fun E=>E a
  have k2:=one_has hL ha
  have k3:(L.filter fun E=>E a).length≠0:=fun e=>by
   have:=List.length_eq_zero_iff.1 e
   have hm:D∈L.filter (fun E=>E a):=List.mem_filter.2 ⟨hD,hDa⟩
   rw[this] at hm;cases hm
  omega
 have hrest:=LY hL fun E=>!(E a)
 have hne:∀ E∈L.filter (fun E=>!(E a)),E≠D:=fun E hE e=>by
  have:=(List.mem_filter.1 hE).2
  rw[e,hDa] at this;cases this
 have hnew:Pk N (Ke H a b) W S (D1::(fun j=>D j && !D1 j)::L.filter fun E=>!(E a)):=by
  refine⟨List.pairwise_cons.2 ⟨fun E hE j hj ⟨q1,q2⟩=>?_,List.pairwise_cons.2 ⟨fun E hE j hj ⟨q1,q2⟩=>?_,hrest.1⟩⟩,fun E hE=>?_⟩
  ·rcases List.mem_cons.1 hE with rfl | hE
   ·simp only[Bool.and_eq_true,Bool.not_eq_true'] at q2
    rw[q1] at q2;exact absurd q2.2 (by decide)
   ·exact Qv hL hD (List.mem_filter.1 hE).1 (hne E hE) j hj ⟨h1 j hj q1,q2⟩
  ·simp only[Bool.and_eq_true] at q1
   exact Qv hL hD (List.mem_filter.1 hE).1 (hne E hE) j hj ⟨q1.1,q2⟩
  ·rcases List.mem_cons.1 hE with rfl | hE
   ·exact⟨fun j hj q=>sD j hj (h1 j hj q),he,a,ha,h1a⟩
   ·rcases List.mem_cons.1 hE with rfl | hE
    ·refine⟨fun j hj q=>?_,v2,b,hb,by show (D b && !D1 b)=true;rw[hDb,h1b];rfl⟩
     simp only[Bool.and_eq_true] at q
     exact sD j hj q.1
    ·obtain⟨q1,q2,q3⟩:=hrest.2 E hE
     have o:=Qv hL hD (List.mem_filter.1 hE).1 (hne E hE)
     refine⟨q1,OL ha hb hab (.inr ⟨?_,?_⟩) q2,q3⟩
     ·cases k:E a with
      | false=>rfl
      | true=>exact absurd ⟨hDa,k⟩ (o a ha)
     ·cases k:E b with
      | false=>rfl
      | true=>exact absurd ⟨hDb,k⟩ (o b hb)
 have:=OY hnew
 simp only[List.length_cons] at this
 omega
def LZ (r:List Nat):Bn:=fun i=>r.contains i
theorem Ir {r:List Nat} {i:Nat}:LZ r i=true↔i∈r:=by unfold LZ;simp
theorem Dv_mem:∀ (L:List (List Nat)) (S:Bn),BI N H W S L→∀ r∈L,(∀ i∈r,i < N∧S i=true)∧r.Nodup∧∀ j,j+1 < r.length→H (r.getD (j+1) 0)=W (r.getD j 0)
 | [],_,_,r,hr=>by cases hr
 | r0 :: L, S, h, r, hr => by
  obtain⟨f,e,rfl,⟨a1,a2,a3⟩,a4,a5⟩:=h
  rcases List.mem_cons.1 hr with rfl | hr
  ·have hm:=PN _ _ _ a4
   have hd:∀ i∈e,i≠f∧i < N∧S i=true:=fun i hi=>by
    obtain⟨b1,b2⟩:=hm i hi
    unfold del at b2
    simp at b2
    exact⟨b2.2,b1,b2.1⟩
   refine⟨fun i hi=>?_,List.nodup_cons.2 ⟨fun k=>(hd f k).1 rfl,PO _ _ _ a4⟩,?_⟩
   ·rcases List.mem_cons.1 hi with rfl | hi
    ·exact⟨a1,a2⟩
    ·exact(hd i hi).2
   ·have : ∀ (e : List Nat) (R : Bn) (last : Nat), BB N H W (fun _ => True) f R last e → ∀ j, j + 1 < (last :: e).length → H ((last :: e).getD (j + 1) 0) = W ((last :: e).getD j 0) := by
     intro e
     induction e with
     | nil=>intro R last _ j hj;simp at hj
     | cons i e ih =>
      intro R last h j hj
      obtain⟨_,_,h3,h4⟩:=h
      cases j with
      | zero=>exact h3
      | succ j=>exact ih _ _ h4 j (by simpa using hj)
    exact this e _ f a4
  ·obtain⟨k1,k2,k3⟩:=Dv_mem L _ a5 r hr
   exact⟨fun i hi=>⟨(k1 i hi).1,by have:=(k1 i hi).2;unfold rem at this;simp at this;exact this.1⟩,k2,k3⟩
theorem iU:∀ (L:List (List Nat)) (S:Bn),BI N H W S L→Pk N H W S (L.map LZ)
 | [],_,_=>⟨List.Pairwise.nil,fun D hD=>by cases hD⟩
 | r :: L, S, h => by
  have hd:=h
  have hm:=(Dv_mem (r::L) S h r (by simp)).1
  obtain⟨f,e,rfl,⟨a1,a2,a3⟩,a4,a5⟩:=h
  have ih:=iU L _ a5
  have hs:Nf N (rem S (f::e)) S:=fun i _ h=>by unfold rem at h;simp at h;exact h.1
  have ev:=Ng hs (UF L _ a5).1 (UF _ S hd).1
  have ev':Bp N H W (LZ (f::e)):=(K9 fun i hi=>by
   show (S i && !rem S (f::e) i)=LZ (f::e) i
   unfold rem LZ
   cases hS:S i with
   | true=>cases (f::e).contains i <;> rfl
   | false =>
    cases hc:(f::e).contains i with
    | false=>rfl
    | true =>
     have:=(hm i (by simpa using hc)).2
     rw[hS] at this;cases this).1 ev
  refine⟨List.pairwise_cons.2 ⟨fun E hE j hj ⟨q1,q2⟩=>?_,ih.1⟩,fun E hE=>?_⟩
  ·have:=(ih.2 E hE).1 j hj q2
   unfold rem at this
   simp only[Bool.and_eq_true,Bool.not_eq_true'] at this
   unfold LZ at q1
   rw[q1] at this;exact absurd this.2 (by decide)
  ·rcases List.mem_cons.1 hE with rfl | hE
   ·exact⟨fun i _ q=>(hm i (Ir.1 q)).2,ev',f,a1,Ir.2 (by simp)⟩
   ·exact⟨fun i hi q=>hs i hi ((ih.2 E hE).1 i hi q),(ih.2 E hE).2⟩
theorem TV:∀ {l:List Nat} (_:l.Nodup) (_:∀ i∈l,i < N) (f:Nat→Int) (x:Int),cn N (LZ l) f x=(l.map f).count x
 | [], _, _, f, x => by
  rw[SC (S:=LZ []) fun i _=>rfl];simp
 | a :: l, hn, hl, f, x => by
  obtain⟨n1,n2⟩:=List.nodup_cons.1 hn
  have ih:=TV n2 (fun i hi=>hl i (by simp[hi])) f x
  rw[Gv (hl a (by simp)) (Ir.2 (by simp)),K8 (A:=del (LZ (a::l)) a) (B:=LZ l) fun i hi=>by
   unfold del LZ
   by_cases c:i=a
   ·subst c;simp[n1]
   ·simp[c],ih,List.map_cons]
  by_cases c:f a=x
  ·rw[if_pos c,c,List.count_cons_self]
  ·rw[if_neg c,List.count_cons_of_ne c];rfl
theorem XL {S:Bn} {L:List (List Nat)} (h:BI N H W S L) {r:List Nat} (hr:r∈L) {i k:Nat} (hik:i < k) (hk:k < r.length):L.length+1≤M N (Ke H (r.getD i 0) (r.getD k 0)) W S:=by
 obtain⟨m1,m2,m3⟩:=Dv_mem L S h r hr
 have hpk:=iU L S h
 have gi:r.getD i 0=r[i]:=by simp[List.getD_eq_getElem?_getD,show i < r.length by omega]
 have gk:r.getD k 0=r[k]:=by simp[List.getD_eq_getElem?_getD,hk]
 have hne:r.getD i 0≠r.getD k 0:=by
  rw[gi,gk]
  have:=List.pairwise_iff_getElem.1 m2 i k (by omega) hk hik
  exact this
 -- the places from the first one on, ahead of the second one
 have hsub:∀ x∈(r.drop i).take (k - i),x∈r:=fun x hx=>List.mem_of_mem_drop (List.mem_of_mem_take hx)
 have hnod:((r.drop i).take (k - i)).Nodup:=List.Nodup.sublist ((List.take_sublist _ _).trans (List.drop_sublist _ _)) m2
 have hget:∀ j,j < k - i→((r.drop i).take (k - i)).getD j 0=r.getD (i+j) 0:=fun j hj=>by
  simp[List.getD_eq_getElem?_getD,List.getElem?_take,hj,List.getElem?_drop]
 have hlen:((r.drop i).take (k - i)).length=k - i:=by rw[List.length_take,List.length_drop];omega
 have hidx:∀ p q,p < r.length→q < r.length→r.getD p 0=r.getD q 0→p=q:=fun p q hp hq e=>by
  have e1:r.getD p 0=r[p]:=by simp[List.getD_eq_getElem?_getD,hp]
  have e2:r.getD q 0=r[q]:=by simp[List.getD_eq_getElem?_getD,hq]
  rw[e1,e2] at e
  rcases Nat.lt_trichotomy p q with c | c | c
  ·exact absurd e (List.pairwise_iff_getElem.1 m2 p q hp hq c)
  ·exact c
  ·exact absurd e.symm (List.pairwise_iff_getElem.1 m2 q p hq hp c)
 rw[←List.length_map (as:=L) LZ]
 refine eF hpk (D:=LZ r) (D1:=LZ ((r.drop i).take (k - i))) (List.mem_map.2 ⟨r,hr,rfl⟩) (m1 _ (by rw[gi];exact List.getElem_mem _)).1 (m1 _ (by rw[gk];exact List.getElem_mem _)).1 hne (Ir.2 (by rw[gi];exact List.getElem_mem _)) (Ir.2 (by rw[gk];exact List.getElem_mem _)) (fun x _ hx=>Ir.2 (hsub x (Ir.1 hx))) (Ir.2 ?_) ?_ fun x=>?_
 ·have:=hget 0 (by omega)
  rw[Nat.add_zero] at this
  rw[←this]
  have h0:0 < ((r.drop i).take (k - i)).length:=by omega
  have e:((r.drop i).take (k - i)).getD 0 0=((r.drop i).take (k - i))[0]:=by rw[List.getD_eq_getElem?_getD,List.getElem?_eq_getElem h0];rfl
  rw[e];exact List.getElem_mem _
 ·cases hq:LZ ((r.drop i).take (k - i)) (r.getD k 0) with
  | false=>rfl
  | true =>
   obtain⟨j,hj,e⟩:=List.getElem_of_mem (Ir.1 hq)
   have e2:((r.drop i).take (k - i)).getD j 0=r.getD k 0:=by
    rw[←e,List.getD_eq_getElem?_getD,List.getElem?_eq_getElem hj];rfl
   rw[hlen] at hj
   rw[hget j hj] at e2
   have:=hidx (i+j) k (by omega) hk e2
   omega
 ·rw[TV hnod (fun y hy=>(m1 y (hsub y hy)).1),TV hnod (fun y hy=>(m1 y (hsub y hy)).1)]
  -- what they have now is what they want, turned
  have hW:((r.drop i).take (k - i)).map W=((r.drop (i+1)).take (k - i)).map H:=by
   apply List.ext_getElem
   ·simp only[List.length_map,List.length_take,List.length_drop];omega
   ·intro j j1 j2
    have hj:j < k - i:=by rw[List.length_map,hlen] at j1;exact j1
    have h3:=m3 (i+j) (by omega)
    have e1:r.getD (i+j) 0=r[i+j]:=by simp[List.getD_eq_getElem?_getD,show i+j < r.length by omega]
    have e2:r.getD (i+j+1) 0=r[i+1+j]:=by
     rw[show i+j+1=i+1+j by omega]
     simp[List.getD_eq_getElem?_getD,show i+1+j < r.length by omega]
    rw[e1,e2] at h3
    simp only[List.getElem_map,List.getElem_take,List.getElem_drop]
    exact h3.symm
  rw[hW]
  have hd:r.drop i=r[i]::r.drop (i+1):=List.drop_eq_getElem_cons (by omega)
  obtain⟨d,hd2⟩:∃ d,k - i=d+1:=⟨k - i - 1,by omega⟩
  rw[hd,hd2,List.take_succ_cons,List.map_cons]
  have hsw:(( r.drop (i+1)).take d).map (Ke H (r.getD i 0) (r.getD k 0))=((r.drop (i+1)).take d).map H:=by
   apply List.map_congr_left
   intro y hy
   obtain⟨j,hj,e⟩:=List.getElem_of_mem hy
   have hj2:j < d:=by rw[List.length_take] at hj;omega
   have e2:y=r.getD (i+1+j) 0:=by
    rw[←e]
    simp[List.getElem_take,List.getElem_drop,List.getD_eq_getElem?_getD,show i+1+j < r.length by omega]
   unfold Ke
   rw[if_neg (fun k2=>by have:=hidx _ _ (by omega) (by omega) (e2.symm.trans k2);omega),if_neg (fun k2=>by have:=hidx _ _ (by omega) hk (e2.symm.trans k2);omega)]
  rw[hsw]
  have hfirst:Ke H (r.getD i 0) (r.getD k 0) r[i]=H r[k]:=by
   unfold Ke;rw[if_pos gi.symm,gk]
  rw[hfirst]
  have hlast:(r.drop (i+1)).take (d+1)=(r.drop (i+1)).take d++[r[k]]:=by
   rw[List.take_succ_eq_append_getElem (by rw[List.length_drop];omega)]
   congr 2
   rw[List.getElem_drop]
   congr 1;omega
  rw[hlast,List.map_append,List.count_append]
  by_cases c:H r[k]=x
  ·rw[c,List.count_cons_self];simp[c]
  ·rw[List.count_cons_of_ne c];simp[c]
end Go.MdM
