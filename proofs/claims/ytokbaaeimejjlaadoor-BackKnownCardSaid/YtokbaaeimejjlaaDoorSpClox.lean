/- Made from wip. -/
import Derived.Test.YtokbaaeimejjlaaDoorSpWpx
import Derived.ChangeArms
import Derived.ChangeBears
import Derived.KernelRfl
import Derived.ChangeKeysEq
import Derived.RowKit3
import Derived.Lib.LaidTab
import Derived.WalkKit
import Derived.ProofKit
import Derived.OpenShut
import Derived.Deep.DeepHandedRow
import Derived.ReadAgain

namespace Go.Sp
noncomputable section

def purify1 (H:AHeap) (v:Value):Option Value:=
 oo (vSl v) (bb (closed1 v) (some v) none) fun s=>oo (oCells (H.get s.id)) none fun o=>
  bb (an (Nat.ble (s.off + s.len * s.sz) (len o.xs)) (allL closed1 (takeL (s.len * s.sz) (dropL s.off o.xs)))) (some (fsV s.sz s.len 0 (takeL (s.len * s.sz) (dropL s.off o.xs)))) none
def purify (H:AHeap) (v:Value):Option Value:=oo (vAgg v) (purify1 H v) fun l=>oo (mapO (purify1 H) l) none fun l'=>some (.agg ⟨l'⟩)
def plainT (v:Value):Bool:=oo (vTup v) (plainB v) fun l=>allL plainB l

def tabsOk (H:AHeap) (tabs:List (List Value)):Nat→Bool:=List.rec (motive:=fun _=>Nat→Bool) (fun _=>true) (fun t _ ih i=>an (valsEq (cellsAt H i) t) (ih (Nat.succ i))) tabs
def tabTr (tabs:List (List Value)):List AObj:=mapL (fun t=>.cells t true false []) tabs
def pureHeap (tabs:List (List Value)):AHeap:=⟨len tabs,objTr (tabTr tabs) 0 .nil,true⟩

abbrev PureF:=FuncId→List Value→Option Value

def callP (tabs:List (List Value)) (isP:FuncId→Bool) (pu:PureF) (inl:CallF):CallF:=fun g args H=>
 bb (isP g) (bb (tabsOk H tabs 0)
  (bb (allL closed2 args) (oo (pu g args) none fun v=>some (v,H)) (oo (mapO (purify H) args) none fun as=>oo (pu g as) none fun v=>bb (plainT v) (some (v,H)) none)) none) (inl g args H)
end

def PureOk (P:Program) (tabs:List (List Value)) (g:FuncId) (f:List Value→Option Value):Prop:=
 (∀ (as:Array Value) (w:World),(callFunc g as).run P w = .ok (.enter g as) w) ∧
 ∀ args v, f args = some v → (∀ x ∈ args, closed2 x = true) →
  ∀ R w args', R.f = (fun i => if i < tabs.length then some (i, 0) else none) → Sim (pureHeap tabs) R w → VRL R args args' →
   Calls P g ⟨args'⟩ w fun e w'=>∃ u H' R',e = .returned u∧closedV v = true∧VR R' v u∧Post (pureHeap tabs) R w H' R' w'

theorem tabTr_get (tabs:List (List Value)) (i:Nat):(tabTr tabs)[i]? = (tabs[i]?).map fun t=>.cells t true false []:=by simp [tabTr]
theorem pureHeap_get (tabs:List (List Value)) (i:Nat):(pureHeap tabs).get i = match tabs[i]? with | some t=>.cells t true false [] | none=>.dead:=by
 unfold pureHeap
 rw [AHeap.get_mk,objTr_get]
 have hl:(tabTr tabs).length = tabs.length:=by simp [tabTr]
 by_cases h:i < tabs.length
 ·rw [if_pos (by rw [hl];omega),Nat.sub_zero,tabTr_get,List.getElem?_eq_getElem h];rfl
 ·rw [if_neg (by rw [hl];omega),List.getElem?_eq_none (by omega)];rfl
theorem tabsOk_some {H:AHeap} {tabs:List (List Value)} {j:Nat} (h:tabsOk H tabs j = true):∀ i t,tabs[i]? = some t→cellsAt H (j + i) = t:=by
 induction tabs generalizing j with
 | nil=>intro i t h;simp at h
 | cons a tabs ih =>
  obtain ⟨h1,h2⟩:=an_inv (show an (valsEq (cellsAt H j) a) (tabsOk H tabs (j + 1)) = true from h)
  intro i t hi
  cases i with
  | zero=>simp at hi;subst hi;exact valsEq_eq h1
  | succ i=>have:=ih h2 i t (by simpa using hi);rwa [show j + (i + 1) = j + 1 + i by omega]

theorem pure_sim {tabs : List (List Value)} {H : AHeap} {R : Ren} {w : World} (hs : Sim H R w) (hgl : GlR (List.range tabs.length) R) (ht : tabsOk H tabs 0 = true) (ro : Nat → Option (Array Value))
 (hro:∀ c C,ro c = some C→∃ t fz,w.heap[c]? = some (.cells C t fz)) (hle:∀ c C,R.ro c = some C→ro c = some C) (hne:∀ t ∈ tabs,t ≠ []) (hpl:∀ t ∈ tabs,∀ x ∈ t,plain1 x = true) :
 Sim (pureHeap tabs) ⟨fun i=>if i < tabs.length then some (i,0) else none,R.sz,ro⟩ w:=by
 have hmap:∀ i c β,(if i < tabs.length then some (i,0) else none) = some (c,β)→i < tabs.length∧c = i∧β = 0:=fun i c β h=>by
  split at h
  ·rename_i hlt;injection h with h;injection h with e1 e2;exact ⟨hlt,e1.symm,e2.symm⟩
  ·cases h
 have hRi:∀ i,i < tabs.length→R.f i = some (i,0):=fun i hi=>hgl i (by simpa using hi)
 refine ⟨fun id c β h => ?_, fun id c β h => ?_, fun id c β id' β' h h' hn => ?_, fun id a ha => ?_, fun id hid => ?_, fun c C h => ⟨hro c C h, fun id β h' => ?_⟩⟩
 ·obtain ⟨h1, rfl, rfl⟩ := hmap _ _ _ h
  refine ⟨?_,(hs.dom c c 0 (hRi c h1)).2⟩
  show c < len tabs
  rw [len_eq];exact h1
 ·obtain ⟨h1, rfl, rfl⟩ := hmap _ _ _ h
  have ht1:=List.getElem?_eq_getElem h1
  rw [pureHeap_get,ht1]
  have hc:=tabsOk_some ht c _ ht1
  rw [Nat.zero_add] at hc
  unfold cellsAt at hc
  cases ho:oCells (H.get c) with
  | none=>rw [ho] at hc;exact absurd hc.symm (hne _ (List.getElem_mem h1))
  | some o =>
   rw [ho,oo_some] at hc
   obtain ⟨C,t,fz,k1,k2,k3,k4⟩:=hs.cells (hRi c h1) ho
   rw [hc] at k3 k4
   refine ⟨C,t,fz,k1,k2,k3,fun i x hx=>?_,fun h=>by cases h⟩
   obtain ⟨y,hy,hv⟩:=k4 i x hx
   have hp:=hpl _ (List.getElem_mem h1) x (List.mem_of_getElem? hx)
   have:y = x:=by
    have hvv:=hp
    cases x <;> simp [plain1,vv] at hvv
    case bool=>exact hv.bool_l
    case int=>exact hv.int_l
    case string=>exact hv.string_l
    case pointer a=>cases a with
     | none=>cases hv;rfl
     | some a=>simp at hvv
    case slice a l c=>
     cases a with
     | some a=>simp at hvv
     | none=>simp at hvv;obtain ⟨h1,h2⟩:=hvv;subst h1;subst h2;exact hv.slNil_l
    case map m=>cases m with
     | none=>exact hv.mapNil_l
     | some m=>simp at hvv
    case nilFunc=>cases hv;rfl
    case nilIface=>cases hv;rfl
   rw [this] at hy
   exact ⟨x,hy,plain1_VR hp⟩
 ·obtain ⟨_, rfl, _⟩ := hmap _ _ _ h
  obtain ⟨_,e,_⟩:=hmap _ _ _ h'
  exact absurd e hn
 ·rw [pureHeap_get] at ha
  split at ha <;> cases ha
 ·have hid : len tabs ≤ id := hid
  rw [len_eq] at hid
  rw [pureHeap_get,List.getElem?_eq_none hid]
 ·rw [pureHeap_get];split <;> rfl

theorem closed2_VR {R R':Ren} (hro:∀ c C,R.ro c = some C→R'.ro c = some C) {v u:Value} (hv:VR R v u) (h:closed2 v = true):VR R' v u:=by
 unfold closed2 at h
 cases ha:vAgg v with
 | none=>rw [ha,oo_none] at h;exact hv.closed hro h
 | some l =>
  rw [ha,oo_some,allL_eq,List.all_eq_true] at h
  rw [vAgg_some ha] at hv ⊢
  obtain ⟨us,rfl,hl⟩:=hv.agg_l
  exact .agg hl.1 fun i x y hx hy=>(hl.2 i x y hx hy).closed hro (h x (List.mem_of_getElem? hx))
theorem closedV_VR {R R':Ren} (hro:∀ c C,R.ro c = some C→R'.ro c = some C) {v u:Value} (hv:VR R v u) (h:closedV v = true):VR R' v u:=by
 unfold closedV at h
 cases ha:vTup v with
 | none=>rw [ha,oo_none] at h;exact closed2_VR hro hv h
 | some l =>
  rw [ha,oo_some,allL_eq,List.all_eq_true] at h
  rw [vTup_some ha] at hv ⊢
  obtain ⟨us,rfl,hl⟩:=hv.tuple_l
  exact .tuple hl.1 fun i x y hx hy=>closed2_VR hro (hl.2 i x y hx hy) (h x (List.mem_of_getElem? hx))
theorem closed2L_VR {R R':Ren} (hro:∀ c C,R.ro c = some C→R'.ro c = some C) {xs us:List Value} (hv:VRL R xs us) (h:∀ x ∈ xs,closed2 x = true):VRL R' xs us:=
 ⟨hv.1,fun i x y hx hy=>closed2_VR hro (hv.2 i x y hx hy) (h x (List.mem_of_getElem? hx))⟩

noncomputable def allRo (w:World):Nat→Option (Array Value):=fun c=>match w.heap[c]? with | some (.cells C _ _)=>some C | _=>none
theorem allRo_ok (w:World):∀ c C,allRo w c = some C→∃ t fz,w.heap[c]? = some (.cells C t fz):=fun c C h=>by
 unfold allRo at h
 split at h
 ·rename_i D t fz hD;injection h with h;subst h;exact ⟨t,fz,hD⟩
 ·cases h
theorem allRo_le {H:AHeap} {R:Ren} {w:World} (hs:Sim H R w):∀ c C,R.ro c = some C→allRo w c = some C:=fun c C h=>by
 obtain ⟨⟨t,fz,h1⟩,_⟩:=hs.ro c C h
 simp [allRo,h1]

theorem purify1_ok {H:AHeap} {R R':Ren} {w:World} (hs:Sim H R w) (hR':R'.ro = allRo w) {v u v':Value} (hv:VR R v u) (h:purify1 H v = some v'):VR R' v' u∧closed1 v' = true:=by
 have hro:∀ c C,R.ro c = some C→R'.ro c = some C:=fun c C h=>by rw [hR'];exact allRo_le hs c C h
 unfold purify1 at h
 cases hsl:vSl v with
 | none =>
  rw [hsl,oo_none] at h
  obtain ⟨hc,h1⟩:=bb_inv h
  injection h1 with h1;subst h1
  exact ⟨hv.closed hro hc,hc⟩
 | some s =>
  rw [hsl,oo_some] at h
  obtain ⟨o,ho,h1⟩:=oo_inv h
  obtain ⟨hc,h2⟩:=bb_inv h1
  obtain ⟨c1,c2⟩:=an_inv hc
  simp only [len_eq] at c1
  have c1:=Nat.le_of_ble_eq_true c1
  rw [allL_eq,List.all_eq_true] at c2
  injection h2 with h2;subst h2
  simp only [takeL_eq,dropL_eq] at c2 ⊢
  refine ⟨?_,rfl⟩
  rcases hv.sl_l hsl with ⟨c,β,cap,hid,rfl,k1,k2,k3,k4⟩ | ⟨c,o2,rfl,k0,k00⟩ | ⟨rfl,k0,k00⟩
  ·obtain ⟨C, ty, fz, hC, hsz, hcf, hcr⟩ := hs.cells hid ho
   have hroC:R'.ro c = some C:=by rw [hR'];simp [allRo,hC]
   obtain ⟨ys,g1,g2,g3⟩:=(hcr.part s.off (s.len * s.sz)).list
   refine .fs hroC (by simp;omega) (by omega) (fun h=>by cases h) (by omega) (by simp;omega) g2 c2 g1 fun i x y hx hy=>(g3 i x y hx hy).closed hro (c2 x (List.mem_of_getElem? hx))
  ·rw [k0]
   simp only [Nat.zero_mul,List.take_zero]
   exact .fsE (by omega)
  ·rw [k0]
   simp only [Nat.zero_mul,List.take_zero]
   exact .fsN _ _ (by decide)
theorem purify_ok {H:AHeap} {R R':Ren} {w:World} (hs:Sim H R w) (hR':R'.ro = allRo w) {v u v':Value} (hv:VR R v u) (h:purify H v = some v'):VR R' v' u∧closed2 v' = true:=by
 unfold purify at h
 cases ha:vAgg v with
 | none =>
  rw [ha,oo_none] at h
  obtain ⟨h1,h2⟩:=purify1_ok hs hR' hv h
  refine ⟨h1,?_⟩
  unfold closed2
  cases hb:vAgg v' with
  | none=>rw [oo_none];exact h2
  | some l=>rw [vAgg_some hb] at h2;cases h2
 | some l =>
  rw [ha,oo_some] at h
  obtain ⟨l',hl',h1⟩:=oo_inv h
  injection h1 with h1;subst h1
  rw [vAgg_some ha] at hv
  obtain ⟨us,rfl,hl⟩:=hv.agg_l
  have hm:=mapO_VR (R:=R) (R':=R') (fun v u v' hv h=>(purify1_ok hs hR' hv h).1) hl' hl
  refine ⟨.agg hm.1 hm.2,?_⟩
  show allL closed1 l' = true
  rw [allL_eq,List.all_eq_true]
  intro x hx
  obtain ⟨i,hi⟩:=List.mem_iff_getElem?.1 hx
  obtain ⟨m1,m2⟩:=mapO_some hl'
  have hlt:i < l.length:=by rw [←m1];exact (List.getElem?_eq_some_iff.1 hi).1
  obtain ⟨b,hb,hf⟩:=m2 i _ (List.getElem?_eq_getElem hlt)
  rw [hi] at hb;injection hb with hb;subst hb
  have hlt2:i < us.length:=by rw [←hl.1];exact hlt
  exact (purify1_ok hs hR' (hl.2 i _ _ (List.getElem?_eq_getElem hlt) (List.getElem?_eq_getElem hlt2)) hf).2

theorem plainB_any {R R':Ren} {v u:Value} (hv:VR R v u) (h:plainB v = true):VR R' v u:=by
 have key:∀ {x y:Value},VR R x y→plain1 x = true→VR R' x y:=fun {x y} hv hp=>by
  have hvv:=hp
  cases x <;> simp [plain1,vv] at hvv
  case bool=>rw [hv.bool_l];exact .bool _
  case int=>rw [hv.int_l];exact .int _ _
  case string=>rw [hv.string_l];exact .string _
  case pointer a=>cases a with
   | none=>cases hv;exact .ptrNil
   | some a=>simp at hvv
  case slice a l c=>
   cases a with
   | some a=>simp at hvv
   | none=>simp at hvv;obtain ⟨h1,h2⟩:=hvv;subst h1;subst h2;rw [hv.slNil_l];exact .slNil
  case map m=>cases m with
   | none=>rw [hv.mapNil_l];exact .mapNil
   | some m=>simp at hvv
  case nilFunc=>cases hv;exact .nilFunc
  case nilIface=>cases hv;exact .nilIface
 cases v
 case agg a=>
  obtain ⟨l⟩:=a
  have h:∀ x ∈ l,plain1 x = true:=by simpa [plainB,vAgg,vv,arrL] using h
  obtain ⟨us,rfl,hl⟩:=hv.agg_l
  exact .agg hl.1 fun i x y hx hy=>key (hl.2 i x y hx hy) (h x (List.mem_of_getElem? hx))
 case tuple a=>
  obtain ⟨l⟩:=a
  have h:∀ x ∈ l,plain1 x = true:=by simpa [plainB,vAgg,vTup,vv,arrL] using h
  obtain ⟨us,rfl,hl⟩:=hv.tuple_l
  exact .tuple hl.1 fun i x y hx hy=>key (hl.2 i x y hx hy) (h x (List.mem_of_getElem? hx))
 all_goals exact key hv (by simpa [plainB,vAgg,vTup,vv] using h)
theorem plainT_any {R R':Ren} {v u:Value} (hv:VR R v u) (h:plainT v = true):VR R' v u:=by
 unfold plainT at h
 cases ha:vTup v with
 | none=>rw [ha,oo_none] at h;exact plainB_any hv h
 | some l =>
  rw [ha,oo_some,allL_eq,List.all_eq_true] at h
  rw [vTup_some ha] at hv ⊢
  obtain ⟨us,rfl,hl⟩:=hv.tuple_l
  exact .tuple hl.1 fun i x y hx hy=>plainB_any (hl.2 i x y hx hy) (h x (List.mem_of_getElem? hx))
end Go.Sp
namespace Go.Sp

theorem pureHeap_imm {tabs:List (List Value)} {id:Nat} (h:id < tabs.length):((pureHeap tabs).get id).immB = true:=by
 rw [pureHeap_get,List.getElem?_eq_getElem h];rfl
theorem tabf_some {n i c β:Nat} (h:(if i < n then some (i,0) else none) = some (c,β)):i < n∧c = i∧β = 0:=by
 split at h
 ·rename_i hlt;injection h with h;injection h with e1 e2;exact ⟨hlt,e1.symm,e2.symm⟩
 ·cases h

section
variable {P:Program} {tabs:List (List Value)}

theorem pure_post {H : AHeap} {R : Ren} {w w' : World} {H1 : AHeap} {R0 R1 R' : Ren} (hs : Sim H R w) (hR0 : R0.f = fun i => if i < tabs.length then some (i, 0) else none) (hp : Post (pureHeap tabs) R0 w H1 R1 w')
 (hf:R'.f = R.f) (hsz:R'.sz = R.sz) (hle:∀ c C,R.ro c = some C→R'.ro c = some C)
 (hro:∀ c C,R'.ro c = some C→R.ro c = some C∨(w.heap.size≤c∧R1.ro c = some C)):Post H R w H R' w':=by
 have hkeep:∀ c,c < w.heap.size→w'.heap[c]? = w.heap[c]?:=fun c hc=>hp.frame c hc fun id β h=>by
  rw [hR0] at h
  exact pureHeap_imm (tabf_some h).1
 have hle':R.le R':=⟨fun id c β h=>⟨by rw [hf];exact h,by rw [hsz]⟩,hle⟩
 refine ⟨hle', fun id p h => .inl (by rw [hf] at h; exact h), ⟨fun id c β h => ?_, fun id c β h => ?_, fun id c β id' β' h h' => ?_, hs.anc, hs.wf, fun c C h => ?_⟩, Nat.le_refl _, hp.grow, fun c hc _ => hkeep c hc, fun _ _ _ _ _ _ _ h => h, fun _ _ _ => rfl,
  fun id c β h h'=>(by rw [hf,h'] at h;cases h),hp.side,fun c C h=>?_⟩
 ·rw [hf] at h
  have:=hs.dom id c β h
  exact ⟨this.1,Nat.lt_of_lt_of_le this.2 hp.grow⟩
 ·rw [hf] at h
  rw [hkeep c (hs.dom id c β h).2]
  exact (hs.obj id c β h).mono hle' (by rw [hsz])
 ·rw [hf] at h h'; exact hs.sep id c β id' β' h h'
 ·rcases hro c C h with h1 | ⟨h1, h2⟩
  ·obtain ⟨⟨t, fz, h3⟩, h4⟩ := hs.ro c C h1
   refine ⟨⟨t,fz,?_⟩,fun id β h5=>by rw [hf] at h5;exact h4 id β h5⟩
   rw [hkeep c (Array.getElem?_eq_some_iff.1 h3).1];exact h3
  ·refine ⟨(hp.sim.ro c C h2).1, fun id β h5 => ?_⟩
   rw [hf] at h5
   have:=(hs.dom id c β h5).2
   omega
 ·rcases hro c C h with h1 | ⟨h1, _⟩
  ·exact .inl h1
  ·exact .inr (.inl h1)

theorem callP_ok (hne : ∀ t ∈ tabs, t ≠ []) (hpl : ∀ t ∈ tabs, ∀ x ∈ t, plain1 x = true) {isP : FuncId → Bool} {pu : PureF} {inl : CallF} (hinl : CallOk P (List.range tabs.length) inl)
 (hpu:∀ g,isP g = true→PureOk P tabs g (pu g)):CallOk P (List.range tabs.length) (callP tabs isP pu inl):=by
 intro g args H v H' h
 have h : bb (isP g) (bb (tabsOk H tabs 0)
  (bb (allL closed2 args) (oo (pu g args) none fun v=>some (v,H)) (oo (mapO (purify H) args) none fun as=>oo (pu g as) none fun v=>bb (plainT v) (some (v,H)) none)) none) (inl g args H) = some (v,H'):=h
 rw [bb_eq] at h
 split at h
 ·rename_i hg
  obtain ⟨hen,hpure⟩:=hpu g hg
  obtain ⟨htab,h1⟩:=bb_inv h
  refine ⟨hen,fun R w args' hs hgl ha=>?_⟩
  rw [bb_eq] at h1
  split at h1
  ·rename_i hcl
   rw [allL_eq,List.all_eq_true] at hcl
   obtain ⟨v',hv',h2⟩:=oo_inv h1
   injection h2 with h2;injection h2 with e1 e2;subst e1;subst e2
   have hcalls:=hpure args v' hv' hcl
   have hs0:=pure_sim hs hgl htab R.ro (fun c C h=>(hs.ro c C h).1) (fun c C h=>h) hne hpl
   refine (hcalls _ w args' rfl hs0 (closed2L_VR (R:=R) (R':=⟨fun i=>if i < tabs.length then some (i,0) else none,R.sz,R.ro⟩) (fun _ _ h=>h) ha hcl)).mono fun e w' ⟨u,H1,R1,he,hcv,hu,hp⟩=>?_
   refine ⟨u,⟨R.f,R.sz,R1.ro⟩,he,closedV_VR (R:=R1) (R':=⟨R.f,R.sz,R1.ro⟩) (fun _ _ h=>h) hu hcv,pure_post hs rfl hp rfl rfl (fun c C h=>hp.le.ro c C h) fun c C h=>?_⟩
   rcases hp.rofresh c C h with h3 | h3 | ⟨id,β,h3,h4⟩
   ·exact .inl h3
   ·exact .inr ⟨h3,h⟩
   ·have := pureHeap_imm (tabf_some (show (if id < tabs.length then some (id, 0) else none) = some (c, β) from h3)).1
    rw [this] at h4;cases h4
  ·obtain ⟨as, has, h2⟩ := oo_inv h1
   obtain ⟨v',hv',h3⟩:=oo_inv h2
   obtain ⟨hpt,h4⟩:=bb_inv h3
   injection h4 with h4;injection h4 with e1 e2;subst e1;subst e2
   have hs0:=pure_sim hs hgl htab (allRo w) (allRo_ok w) (allRo_le hs) hne hpl
   have hcl:∀ x ∈ as,closed2 x = true:=fun x hx=>by
    obtain ⟨i,hi⟩:=List.mem_iff_getElem?.1 hx
    obtain ⟨m1,m2⟩:=mapO_some has
    have hlt:i < args.length:=by rw [←m1];exact (List.getElem?_eq_some_iff.1 hi).1
    obtain ⟨b,hb,hf⟩:=m2 i _ (List.getElem?_eq_getElem hlt)
    rw [hi] at hb;injection hb with hb;subst hb
    have hlt2:i < args'.length:=by rw [←ha.1];exact hlt
    exact (purify_ok (R':=⟨R.f,R.sz,allRo w⟩) hs rfl (ha.2 i _ _ (List.getElem?_eq_getElem hlt) (List.getElem?_eq_getElem hlt2)) hf).2
   have hcalls:=hpure as v' hv' hcl
   refine (hcalls _ w args' rfl hs0 (mapO_VR (fun v u v' hv h=>(purify_ok hs rfl hv h).1) has ha)).mono fun e w' ⟨u,H1,R1,he,hcv,hu,hp⟩=>?_
   exact ⟨u,R,he,plainT_any hu hpt,pure_post hs rfl hp rfl rfl (fun c C h=>h) fun c C h=>.inl h⟩
 ·exact hinl g args H v H' h

def Fin (tt : TT) (n0 : Nat) (rs : List ResultVar) (v : Value) : Ex → Fr → AHeap → Prop
 | .exit _,_,_=>False
 | .goto _,_,_=>False
 | _,F,H=>∃ r H1,aresults tt F H rs = some r∧Tell n0 H r H1 v∧closedV v = true

end
end Go.Sp
namespace Go.Sp

inductive Shp (P : Program) : TypeId → List Value → Prop
 | bool {t:TypeId} (h:P.underlying t = some .bool) (b:Bool):Shp P t [.bool b]
 | int {t:TypeId} {k:IntKind} (h:P.underlying t = some (.int k)) (n:Int) (hw:(Lit.int k n).wf = true):Shp P t [.int k n]
 | slice {t e:TypeId} (h:P.underlying t = some (.slice e)) (ls:List (List Value)) (hl:ls.length≤maxLen) (hs:∀ l ∈ ls,Shp P e l):Shp P t [fsV (P.cellsOf e) ls.length 0 ls.flatten]
 | struct {t:TypeId} {fs:Array Field} (h:P.underlying t = some (.struct fs)) (ls:List (List Value)) (hl:ls.length = fs.size) (hs:∀ (i:Nat) (f:Field) (l:List Value),fs[i]? = some f→ls[i]? = some l→Shp P f.type l):Shp P t ls.flatten
 | array {t e:TypeId} {n:Nat} (h:P.underlying t = some (.array n e)) (ls:List (List Value)) (hl:ls.length = n) (hs:∀ l ∈ ls,Shp P e l):Shp P t ls.flatten

end Go.Sp
namespace Go.Sp
noncomputable section
structure Sl where
 n:Nat
 fl:Nat
 cs:List Value
def Sl.v (sz:Nat) (s:Sl):Value:=fsV sz s.n s.fl s.cs
def toSl (sz:Nat) (v:Value):Option Sl:=oo (vFs v) none fun f=>bb (Nat.beq f.sz sz) (some ⟨f.n,f.fl,f.cs⟩) none
def toI (k:IntKind) (v:Value):Option Int:=oo (vInt v) none fun p=>pp p fun j n=>bb (intKindEq j k) (some n) none
def toN (z:Int):Option Nat:=ii z (fun n=>some n) fun _=>none

def frOf (o:Option (Fr×AHeap)):Fr:=oo o ⟨0,.nil⟩ fun p=>p.1
def hpOf (o:Option (Fr×AHeap)):AHeap:=oo o ⟨0,.nil,true⟩ fun p=>p.2
end

theorem toSl_some {sz:Nat} {v:Value} {s:Sl} (h:toSl sz v = some s):v = s.v sz:=by
 obtain ⟨f,hf,h1⟩:=oo_inv h
 obtain ⟨h2,h3⟩:=bb_inv h1
 injection h3 with h3;subst h3
 rw [vFs_some hf,←Nat.eq_of_beq_eq_true h2];rfl
theorem toI_some {k:IntKind} {v:Value} {n:Int} (h:toI k v = some n):v = .int k n:=by
 obtain ⟨p,hp,h1⟩:=oo_inv h
 rw [pp_eta] at h1
 obtain ⟨h2,h3⟩:=bb_inv h1
 injection h3 with h3;subst h3
 rw [vInt_some hp,←intKindEq_iff h2]
theorem toN_some {z:Int} {n:Nat} (h:toN z = some n):z = .ofNat n:=by
 cases z with
 | ofNat m=>injection h with h;subst h;rfl
 | negSucc m=>cases h
theorem ll_uncons {α β:Type} {l:List α} {s:α→List α→Option β} {v:β} (h:ll l none s = some v):∃ a r,l = a :: r∧s a r = some v:=by
 cases l with
 | nil=>cases h
 | cons a r=>exact ⟨a,r,rfl,h⟩
theorem ll_end {α β:Type} {l:List α} {x:Option β} {v:β} (h:ll l x (fun _ _=>none) = some v):l = []∧x = some v:=by
 cases l with
 | nil=>exact ⟨rfl,h⟩
 | cons a r=>cases h
theorem bb_cases {β:Type} {c:Bool} {a b:Option β} {v:β} (h:bb c a b = some v):(c = true∧a = some v)∨(c = false∧b = some v):=by
 cases c
 ·exact .inr ⟨rfl,h⟩
 ·exact .inl ⟨rfl,h⟩

section
variable {tt:TT} {call:CallF} {n0:Nat}
inductive GhS (n0 : Nat) : Fr → AHeap → Fr → AHeap → Prop
 | id (F:Fr) (H:AHeap):GhS n0 F H F H
 | step {F F1 F':Fr} {H H1 H':AHeap} (h:Ghost n0 F H F1 H1) (r:GhS n0 F1 H1 F' H'):GhS n0 F H F' H'
def TrOk (H : AHeap) : List Nat → Prop
 | []=>True
 | i :: r=>trO (H.get i) = true∧TrOk H r
theorem TrOk.get {H:AHeap} {l:List Nat} (h:TrOk H l):∀ id,memN id l = true→trO (H.get id) = true:=by
 induction l with
 | nil=>intro id h;cases h
 | cons i r ih =>
  intro id hm
  have hm:bb (Nat.beq i id) true (memN id r) = true:=hm
  rw [bb_eq] at hm
  split at hm
  ·rename_i he;rw [←Nat.eq_of_beq_eq_true he];exact h.1
  ·exact ih h.2 id hm
theorem GhS.gc (trs:List Nat) (ents:List Bool) (rs:List Rt) (live:List Nat) {F F':Fr} {H H':AHeap} (hn:Nat.ble n0 (len ents) = true) (htr:TrOk H trs) (h:Go.Sp.gc trs ents rs live F H = some (F',H')):GhS n0 F H F' H':=
 .step (.gc (by have:=Nat.le_of_ble_eq_true hn;rwa [len_eq] at this) htr.get h) (.id F' H')
theorem some_of {o:Option (Fr×AHeap)} (h:isS o = true):o = some (frOf o,hpOf o):=by
 cases o with
 | none=>cases h
 | some p=>rfl
theorem GhS.thaw (t sz:Nat) {F F':Fr} {H H':AHeap} (h:isS (Go.Sp.thaw t sz F H) = true) (r:GhS n0 (frOf (Go.Sp.thaw t sz F H)) (hpOf (Go.Sp.thaw t sz F H)) F' H'):GhS n0 F H F' H':=.step (.thaw (some_of h)) r
theorem GhS.freeze (m t sz:Nat) {F F':Fr} {H H':AHeap} (hn:Nat.ble n0 m = true) (h:isS (Go.Sp.freeze m t sz false F H) = true) (r:GhS n0 (frOf (Go.Sp.freeze m t sz false F H)) (hpOf (Go.Sp.freeze m t sz false F H)) F' H'):GhS n0 F H F' H':=
 .step (.freeze (Nat.le_of_ble_eq_true hn) (some_of h)) r
theorem GhS.weak (t:Nat) (v':Value) {F F':Fr} {H H':AHeap} {v:Value} (hv:F.get t = v) (h:Weak v v') (r:GhS n0 (F.put (some t) v') H F' H'):GhS n0 F H F' H':=.step (.weak (by rw [hv];exact h)) r
theorem GhS.run {c:RC} {F F':Fr} {H H':AHeap} {Q:Ex→Fr→AHeap→Prop} (h:GhS n0 F H F' H') (hr:Run tt call n0 c F' H' Q):Run tt call n0 c F H Q:=by
 induction h with
 | id=>exact hr
 | step hg _ ih=>exact .gh hg (ih hr)
theorem Run.same {c:RC} {F F':Fr} {H H':AHeap} {Q:Ex→Fr→AHeap→Prop} (hF:F = F') (hH:H = H') (hr:Run tt call n0 c F' H' Q):Run tt call n0 c F H Q:=by rw [hF,hH];exact hr
end
section
variable {tt:TT} {call:CallF} {n0:Nat}
theorem GhS.k (trs:List Nat) (ents:List Bool) (rs:List Rt) (live:List Nat) {F F':Fr} {H H':AHeap} (htr:TrOk H trs) (h:Go.Sp.gc trs ents rs live F H = some (F',H'):=by kernel_rfl) (hn:Nat.ble n0 (len ents) = true:=by kernel_rfl):GhS n0 F H F' H':=.gc trs ents rs live hn htr h
theorem GhS.k0 (ents:List Bool) (rs:List Rt) (live:List Nat) {F F':Fr} {H H':AHeap} (h:Go.Sp.gc [] ents rs live F H = some (F',H'):=by kernel_rfl) (hn:Nat.ble n0 (len ents) = true:=by kernel_rfl):GhS n0 F H F' H':=.gc [] ents rs live hn trivial h
end
end Go.Sp
namespace Go.Sp

def FlFs (p : TypeId → List Value → Prop) : List Field → Nat → List Value → Prop
 | [],_,zs=>zs = []
 | f :: r, off, zs => f.name ≠ "_" ∧ f.offset = off ∧ ∃ z1 z2, zs = z1 ++ z2 ∧ p f.type z1 ∧ FlFs p r (off + z1.length) z2

def Fl (P : Program) : Nat → TypeId → List Value → Prop
 | 0,_,_=>False
 | d + 1, t, zs => P.cellsOf t = zs.length ∧ (
  ((∃ k,P.underlying t = some (.int k))∧(∃ k n,zs = [.int k n]))∨(P.underlying t = some .bool∧∃ b,zs = [.bool b])∨(P.underlying t = some .string∧∃ s,zs = [.string s]) ∨
  (∃ l e z1,P.underlying t = some (.array l e)∧Fl P d e z1∧zs = zeroRow z1 l) ∨
  (∃ fs,P.underlying t = some (.struct fs)∧P.stoodInHeld t = false∧FlFs (Fl P d) fs.toList 0 zs))

theorem kindsLike_split {z1 z2 xs:List Value} (h:kindsLike (z1 ++ z2) xs = true):kindsLike z1 (xs.take z1.length) = true∧kindsLike z2 (xs.drop z1.length) = true:=by
 induction z1 generalizing xs with
 | nil=>exact ⟨rfl,h⟩
 | cons z z1 ih => cases xs with
  | nil=>cases h
  | cons x xs =>
   obtain ⟨h3,h4⟩:=an_inv (show an (kindLike z x) (kindsLike (z1 ++ z2) xs) = true from h)
   obtain ⟨h5,h6⟩:=ih h4
   exact ⟨by show an (kindLike z x) (kindsLike z1 (xs.take z1.length)) = true;rw [h3,h5];rfl,h6⟩

theorem cellsEq_split {n:Nat} {xs ys:List Value} {b:Bool} (h:cellsEq xs ys = some b):∃ p q,cellsEq (xs.take n) (ys.take n) = some p∧cellsEq (xs.drop n) (ys.drop n) = some q∧b = (p && q):=by
 induction xs generalizing ys b n with
 | nil => cases ys with
  | nil=>refine ⟨true,true,?_,?_,?_⟩ <;> first | (simp;rfl) | (injection h with h;simp [←h])
  | cons y ys=>cases h
 | cons x xs ih => cases ys with
  | nil=>cases h
  | cons y ys =>
   cases n with
   | zero=>exact ⟨true,b,rfl,h,by simp⟩
   | succ n =>
    obtain ⟨p,hp,h1⟩:=oo_inv (show oo (cellEq x y) none (fun b=>oo (cellsEq xs ys) none fun c=>some (an b c)) = some b from h)
    obtain ⟨q,hq,h2⟩:=oo_inv h1
    obtain ⟨p',q',h3,h4,rfl⟩:=ih (n:=n) hq
    injection h2 with h2
    refine ⟨an p p',q',?_,h4,?_⟩
    ·show oo (cellEq x y) none (fun b => oo (cellsEq (xs.take n) (ys.take n)) none fun c => some (an b c)) = _
     rw [hp,oo_some,h3,oo_some]
    ·rw [←h2];simp [an_eq,Bool.and_assoc]

section
variable {P:Program}

theorem isAgg_run {t:TypeId} {d:TypeDesc} (h:P.underlying t = some d) (w:World):(isAgg t).run P w = .ok (isAggT d) w:=by
 simp only [isAgg,Sem.run_bind,run_underlying h,Result.andThen_ok]
 cases d <;> rfl

def Boxed (P:Program) (t:TypeId) (zs:List Value) (v:Value):Prop:=∃ d,P.underlying t = some d∧((isAggT d = true∧v = .agg ⟨zs⟩)∨(isAggT d = false∧zs = [v]))

theorem Fl.info {d:Nat} {t:TypeId} {zs:List Value} (h:Fl P d t zs):∃ k i,P.underlying t = some k∧P.info? t = some i∧P.cellsOf t = zs.length:=by
 cases d with
 | zero=>exact h.elim
 | succ d =>
  obtain ⟨hc,h⟩:=h
  have:∃ k,P.underlying t = some k:=by
   rcases h with ⟨⟨k,h⟩,_⟩ | ⟨h,_⟩ | ⟨h,_⟩ | ⟨l,e,z1,h,_⟩ | ⟨fs,h,_⟩ <;> exact ⟨_,h⟩
  obtain ⟨k,hk⟩:=this
  obtain ⟨i,hi⟩:=info_of_underlying hk
  exact ⟨k,i,hk,hi,hc⟩

theorem Fl.part {d : Nat} {t : TypeId} {zs : List Value} (h : Fl P d t zs) {xs : List Value} {off : Nat} (hle : off + zs.length ≤ xs.length) (w : World) :
 ∃ v,(Go.part t ⟨xs⟩ off).run P w = .ok v w∧Boxed P t ((xs.drop off).take zs.length) v:=by
 obtain ⟨k,i,hk,hi,hc⟩:=h.info
 by_cases ha:isAggT k = true
 ·refine ⟨.agg ⟨(xs.drop off).take zs.length⟩, ?_, k, hk, .inl ⟨ha, rfl⟩⟩
  simp only [Go.part,Sem.run_bind,isAgg_run hk,ha,Result.andThen_ok,if_true,run_sizeOf w hi,Sem.run_pure,hc]
  congr 2
  simp [List.extract_toArray,List.extract_eq_take_drop]
 ·have ha : isAggT k = false := by simpa using ha
  have hn:zs.length = 1:=by
   cases d with
   | zero=>exact h.elim
   | succ d =>
    rcases h.2 with ⟨_,_,_,h⟩ | ⟨_,_,h⟩ | ⟨_,_,h⟩ | ⟨l,e,z1,h,_⟩ | ⟨fs,h,_⟩
    ·rw [h];rfl
    ·rw [h];rfl
    ·rw [h];rfl
    ·rw [hk] at h;cases h;cases ha
    ·rw [hk] at h;cases h;cases ha
  rw [hn] at hle ⊢
  have hlt:off < xs.length:=by omega
  refine ⟨xs[off],?_,k,hk,.inr ⟨ha,?_⟩⟩
  ·simp only [Go.part, Sem.run_bind, isAgg_run hk, ha, Result.andThen_ok, Bool.false_eq_true, if_false]
   simp [List.getElem?_eq_getElem hlt]
  ·rw [List.drop_eq_getElem_cons hlt];rfl

theorem zeroRow_len (z:List Value) (n:Nat):(zeroRow z n).length = n * z.length:=by
 induction n with
 | zero=>show ([]:List Value).length = _;simp
 | succ n ih=>show (appL z (zeroRow z n)).length = _;rw [appL_eq,List.length_append,ih,Nat.succ_mul];omega

theorem eqItems_ok {d : Nat} {e : TypeId} {z1 : List Value} (he : Fl P d e z1) {D : Nat}
 (ih:∀ (xs ys:List Value) (x y:Value) (b:Bool) (w:World),kindsLike z1 xs = true→Boxed P e xs x→Boxed P e ys y→cellsEq xs ys = some b→(Op.equalIn D e x y).run P w = .ok b w) (w:World) :
 ∀ (k i : Nat) (xs ys : List Value) (b : Bool), xs.length = (i + k) * z1.length → kindsLike (zeroRow z1 k) (xs.drop (i * z1.length)) = true → cellsEq (xs.drop (i * z1.length)) (ys.drop (i * z1.length)) = some b → ys.length = xs.length →
  (Op.eqItems D e z1.length ⟨xs⟩ ⟨ys⟩ (List.range' i k)).run P w = .ok b w:=by
 intro k
 induction k with
 | zero =>
  intro i xs ys b hl _ h hy
  rw [List.drop_eq_nil_of_le (by simp at hl;omega),List.drop_eq_nil_of_le (by simp at hl;omega)] at h
  injection h with h;subst h
  simp [Op.eqItems]
 | succ k ihk =>
  intro i xs ys b hl hk h hy
  have e1:(i + (k + 1)) * z1.length = i * z1.length + z1.length + k * z1.length:=by rw [Nat.add_mul,Nat.succ_mul];omega
  have hl':=hl
  rw [e1] at hl'
  obtain ⟨x,hx,bx⟩:=he.part (xs:=xs) (off:=i * z1.length) (by omega) w
  obtain ⟨y,hy',byy⟩:=he.part (xs:=ys) (off:=i * z1.length) (by omega) w
  obtain ⟨p,q,h1,h2,rfl⟩:=cellsEq_split (n:=z1.length) h
  have hk:kindsLike (z1 ++ zeroRow z1 k) (xs.drop (i * z1.length)) = true:=by have:=hk;rwa [show zeroRow z1 (k + 1) = appL z1 (zeroRow z1 k) from rfl,appL_eq] at this
  obtain ⟨hk1,hk2⟩:=kindsLike_split hk
  rw [List.drop_drop] at hk2
  rw [List.drop_drop,List.drop_drop] at h2
  have hrun:=ih _ _ x y p w hk1 bx byy h1
  simp only [List.range',Op.eqItems,Sem.run_bind,hx,hy',hrun,Result.andThen_ok]
  cases p with
  | false=>simp
  | true =>
   simp only [Bool.true_and,if_true]
   have e2:(i + 1) * z1.length = i * z1.length + z1.length:=by rw [Nat.succ_mul]
   refine ihk (i + 1) xs ys q (by rw [hl];congr 1;omega) (by rw [e2];exact hk2) ?_ hy
   rw [e2]
   exact h2

theorem run_equalIn_struct' (D : Nat) {t : TypeId} {fs : Array Field} (xs ys : Array Value) (hu : P.underlying t = some (.struct fs)) (hst : P.stoodInHeld t = false) (w : World) :
 (Op.equalIn (D + 1) t (.agg xs) (.agg ys)).run P w = (Op.eqFields D xs ys fs.toList).run P w:=by
 have hf:P.fieldsOf t = fs:=by unfold Program.fieldsOf;rw [hu]
 have:=run_equalIn_struct w D t xs ys (by rw [hf];exact hu) hst
 rw [this,hf]

theorem eqFields_ok {d : Nat} {D : Nat}
 (ih:∀ (t:TypeId) (zs:List Value),Fl P d t zs→∀ (xs ys:List Value) (x y:Value) (b:Bool) (w:World),kindsLike zs xs = true→Boxed P t xs x→Boxed P t ys y→cellsEq xs ys = some b→(Op.equalIn D t x y).run P w = .ok b w) (w:World) :
 ∀ (fs : List Field) (off : Nat) (zs xs ys : List Value) (b : Bool), FlFs (Fl P d) fs off zs → kindsLike zs (xs.drop off) = true → off ≤ xs.length → cellsEq (xs.drop off) (ys.drop off) = some b → ys.length = xs.length →
  (Op.eqFields D ⟨xs⟩ ⟨ys⟩ fs).run P w = .ok b w:=by
 intro fs
 induction fs with
 | nil =>
  intro off zs xs ys b hf hk ho h hy
  have hf:zs = []:=hf
  subst hf
  have hl:=kindsLike_len hk
  simp only [List.length_drop,List.length_nil] at hl
  rw [List.drop_eq_nil_of_le (by omega),List.drop_eq_nil_of_le (by omega)] at h
  injection h with h;subst h
  simp [Op.eqFields]
 | cons f fs ihf =>
  intro off zs xs ys b hf hk ho h hy
  obtain ⟨h1,h2,z1,z2,rfl,h3,h4⟩:=hf
  have hl:=kindsLike_len hk
  simp only [List.length_drop,List.length_append] at hl
  obtain ⟨x,hx,bx⟩:=h3.part (xs:=xs) (off:=off) (by omega) w
  obtain ⟨y,hy',byy⟩:=h3.part (xs:=ys) (off:=off) (by omega) w
  obtain ⟨p,q,g1,g2,rfl⟩:=cellsEq_split (n:=z1.length) h
  obtain ⟨hk1,hk2⟩:=kindsLike_split hk
  rw [List.drop_drop] at hk2
  rw [List.drop_drop,List.drop_drop] at g2
  have hrun:=ih f.type z1 h3 _ _ x y p w hk1 bx byy g1
  simp only [Op.eqFields,if_pos h1,Sem.run_bind,h2,hx,hy',hrun,Result.andThen_ok]
  cases p with
  | false=>simp
  | true =>
   simp only [Bool.not_true,Bool.false_eq_true,if_false,Sem.run_pure,Result.andThen_ok,Bool.true_and]
   exact ihf _ z2 xs ys q h4 hk2 (by omega) g2 hy

theorem Fl.equal {d : Nat} : ∀ {t : TypeId} {zs : List Value}, Fl P d t zs → ∀ (D : Nat) (xs ys : List Value) (x y : Value) (b : Bool) (w : World), kindsLike zs xs = true → Boxed P t xs x → Boxed P t ys y → cellsEq xs ys = some b →
 (Op.equalIn (D + d) t x y).run P w = .ok b w:=by
 induction d with
 | zero=>intro t zs h;exact h.elim
 | succ d ih =>
  intro t zs h D xs ys x y b w hn hx hy hb
  obtain ⟨kx,hkx,hx⟩:=hx
  obtain ⟨ky,hky,hy⟩:=hy
  rw [hkx] at hky;cases hky
  have hlen:=cellsEq_len hb
  have hlz:=kindsLike_len hn
  have leaf:isAggT kx = false→xs = [x]∧ys = [y]∧cellEq x y = some b:=fun hag=>by
   rcases hx with ⟨h',_⟩ | ⟨_,rfl⟩
   ·rw [hag] at h';cases h'
   rcases hy with ⟨h',_⟩ | ⟨_,rfl⟩
   ·rw [hag] at h';cases h'
   obtain ⟨p,hp,h1⟩:=oo_inv (show oo (cellEq x y) none (fun b=>oo (cellsEq [] []) none fun c=>some (an b c)) = some b from hb)
   have h1:some (an p true) = some b:=h1
   injection h1 with h1
   have hpb:p = b:=by simpa [an_eq] using h1
   exact ⟨rfl,rfl,by rw [hp,hpb]⟩
  have agg:isAggT kx = true→x = .agg ⟨xs⟩∧y = .agg ⟨ys⟩:=fun hag=>by
   rcases hx with ⟨_,h1⟩ | ⟨h',_⟩
   ·rcases hy with ⟨_, h2⟩ | ⟨h', _⟩
    ·exact ⟨h1,h2⟩
    ·rw [hag] at h';cases h'
   ·rw [hag] at h';cases h'
  show (Op.equalIn ((D + d) + 1) t x y).run P w = _
  rcases h.2 with ⟨⟨k,hu⟩,_,_,rfl⟩ | ⟨hu,_,rfl⟩ | ⟨hu,_,rfl⟩ | ⟨l,e,z1,hu,he,rfl⟩ | ⟨fs,hu,hst,hf⟩
  ·rw [hkx] at hu; cases hu
   obtain ⟨rfl,rfl,hc⟩:=leaf rfl
   obtain ⟨h3,_⟩:=an_inv (show an (isS (vInt x)) _ = true from hn)
   cases hv:vInt x with
   | none=>rw [hv] at h3;cases h3
   | some p =>
    have:=vInt_some hv;subst this
    obtain ⟨q,hq,h5⟩:=oo_inv (show oo (vInt y) none (fun q=>pp q fun j b=>bb (intKindEq p.1 j) (some (ieq p.2 b)) none) = some b from hc)
    rw [pp_eta] at h5
    obtain ⟨h6,h7⟩:=bb_inv h5
    have:=vInt_some hq;subst this
    have:=intKindEq_iff h6
    rw [←this,run_equalIn_int w (D + d) t p.1 k p.2 q.2 hkx]
    injection h7 with h7
    rw [←h7,ieq_eq]
  ·rw [hkx] at hu; cases hu
   obtain ⟨rfl,rfl,hc⟩:=leaf rfl
   obtain ⟨h3,_⟩:=an_inv (show an (isS (vBool x)) _ = true from hn)
   cases hv:vBool x with
   | none=>rw [hv] at h3;cases h3
   | some p =>
    have:=vBool_some hv;subst this
    obtain ⟨q,hq,h5⟩:=oo_inv (show oo (vBool y) none (fun b=>some (bq p b)) = some b from hc)
    have:=vBool_some hq;subst this
    rw [run_equalIn_bool w (D + d) t p q hkx]
    injection h5 with h5
    rw [←h5];cases p <;> cases q <;> rfl
  ·rw [hkx] at hu; cases hu
   obtain ⟨rfl,rfl,hc⟩:=leaf rfl
   obtain ⟨h3,_⟩:=an_inv (show an (isS (vStr x)) _ = true from hn)
   cases hv:vStr x with
   | none=>rw [hv] at h3;cases h3
   | some p =>
    have:=vStr_some hv;subst this
    obtain ⟨q,hq,h5⟩:=oo_inv (show oo (vStr y) none (fun b=>some (p == b)) = some b from hc)
    have:=vStr_some hq;subst this
    rw [run_equalIn_string w (D + d) t p q hkx]
    injection h5 with h5
    rw [←h5,beq_toListBytes]
  ·rw [hkx] at hu; cases hu
   obtain ⟨rfl,rfl⟩:=agg rfl
   obtain ⟨k,i,hk,hi,hc⟩:=he.info
   rw [run_equalIn_array (d:=D + d) w ⟨xs⟩ ⟨ys⟩ hkx hi,List.range_eq_range',hc]
   exact eqItems_ok he (fun xs ys x y b w hk bx byy hb=>ih he D xs ys x y b w hk bx byy hb) w l 0 xs ys b (by rw [hlz,zeroRow_len,Nat.zero_add]) (by simpa using hn) (by simpa using hb) hlen.symm
  ·rw [hkx] at hu; cases hu
   obtain ⟨rfl,rfl⟩:=agg rfl
   rw [run_equalIn_struct' (D + d) ⟨xs⟩ ⟨ys⟩ hkx hst w]
   exact eqFields_ok (fun t zs hf xs ys x y b w hk bx byy hb=>ih hf D xs ys x y b w hk bx byy hb) w fs.toList 0 zs xs ys b hf (by simpa using hn) (Nat.zero_le _) (by simpa using hb) hlen.symm

theorem forIn_ok {α:Type} {l:List α} {f:α→Unit→Sem (ForInStep Unit)} {w:World} (h:∀ a ∈ l,(f a ()).run P w = .ok (.yield ()) w):(forIn l () f).run P w = .ok () w:=by
 induction l with
 | nil=>simp
 | cons a l ih =>
  simp only [List.forIn_cons,Sem.run_bind,h a (by simp),Result.andThen_ok]
  exact ih fun b hb=>h b (by simp [hb])

theorem Fl.check {d : Nat} : ∀ {t : TypeId} {zs : List Value}, Fl P d t zs → ∀ (e : Bool) (D : Nat) (xs : List Value) (x : Value) (w : World), xs.length = zs.length → Boxed P t xs x →
 (Instr.checkKey e (D + d) t x).run P w = .ok () w:=by
 induction d with
 | zero=>intro t zs h;exact h.elim
 | succ d ih =>
  intro t zs h e D xs x w hn hx
  obtain ⟨kx,hkx,hx⟩:=hx
  have agg:isAggT kx = true→x = .agg ⟨xs⟩:=fun hag=>by
   rcases hx with ⟨_,h1⟩ | ⟨h',_⟩
   ·exact h1
   ·rw [hag] at h';cases h'
  show (Instr.checkKey e ((D + d) + 1) t x).run P w = _
  rcases h.2 with ⟨⟨k,hu⟩,_⟩ | ⟨hu,_⟩ | ⟨hu,_⟩ | ⟨l,el,z1,hu,he,rfl⟩ | ⟨fs,hu,hst,hf⟩
  ·simp [Instr.checkKey,run_underlying hu]
  ·simp [Instr.checkKey,run_underlying hu]
  ·simp [Instr.checkKey,run_underlying hu]
  ·rw [hkx] at hu; cases hu
   obtain rfl:=agg rfl
   obtain ⟨k,i,hk,hi,hc⟩:=he.info
   rw [zeroRow_len] at hn
   simp only [Instr.checkKey,Sem.run_bind,run_underlying hkx,Result.andThen_ok,Std.Legacy.Range.forIn_eq_forIn_range',Std.Legacy.Range.size,Nat.sub_zero,Nat.add_one_sub_one,Nat.div_one]
   have hall:∀ j ∈ List.range' 0 l,(do let n ←sizeOf el;let v ←Go.part el ⟨xs⟩ (j * n);Instr.checkKey e (D + d) el v;pure (ForInStep.yield PUnit.unit):Sem (ForInStep PUnit)).run P w = .ok (.yield ()) w:=fun j hj=>by
    have hj:j < l:=by simpa using hj
    have hle:j * z1.length + z1.length≤xs.length:=by
     rw [hn,←Nat.succ_mul];exact Nat.mul_le_mul_right _ hj
    obtain ⟨v,hv,bv⟩:=he.part (xs:=xs) (off:=j * z1.length) hle w
    have:=ih he e D _ v w (by simp;omega) bv
    simp [run_sizeOf w hi,hc,hv,this]
   rw [forIn_ok hall];rfl
  ·rw [hkx] at hu; cases hu
   obtain rfl:=agg rfl
   have main:∀ (fs:List Field) (off:Nat) (zs:List Value),FlFs (Fl P d) fs off zs→off + zs.length = xs.length→∀ f ∈ fs,∃ v,(Go.part f.type ⟨xs⟩ f.offset).run P w = .ok v w∧(Instr.checkKey e (D + d) f.type v).run P w = .ok () w:=by
    intro fs
    induction fs with
    | nil=>intro _ _ _ _ f hf;cases hf
    | cons g gs ihg =>
     intro off zs hf hl f hfm
     obtain ⟨h1,h2,z1,z2,rfl,h3,h4⟩:=hf
     simp only [List.length_append] at hl
     rcases List.mem_cons.1 hfm with rfl | hm
     ·obtain ⟨v, hv, bv⟩ := h3.part (xs := xs) (off := off) (by omega) w
      exact ⟨v,by rw [h2];exact hv,ih h3 e D _ v w (by simp;omega) bv⟩
     ·exact ihg _ _ h4 (by omega) f hm
   simp only [Instr.checkKey,Sem.run_bind,run_underlying hkx,Result.andThen_ok]
   rw [←Array.forIn_toList]
   have hall : ∀ f ∈ fs.toList, (if f.name ≠ "_" then do let v ← Go.part f.type ⟨xs⟩ f.offset; Instr.checkKey e (D + d) f.type v; pure (ForInStep.yield PUnit.unit) else pure (ForInStep.yield PUnit.unit) : Sem (ForInStep PUnit)).run P w = .ok (.yield ()) w := fun f hfm => by
    by_cases hne : f.name ≠ "_"
    ·obtain ⟨v, hv, hc⟩ := main fs.toList 0 zs hf (by omega) f hfm
     simp [hne,hv,hc]
    ·simp [hne]
   rw [forIn_ok hall];rfl

theorem Fl.ok {d:Nat} {t:TypeId} {zs:List Value} (h:Fl P d t zs) (hd:d≤10000) (hag:∃ k,P.underlying t = some k∧isAggT k = true) (hg:P.eqGuardType P.depth t = false):FlatOk P t zs:=by
 obtain ⟨k,hk,ha⟩:=hag
 refine ⟨fun xs ys b w hl hb=>?_,hg,fun xs w e hl=>?_⟩
 ·have := h.equal (10000 - d) xs ys (.agg ⟨xs⟩) (.agg ⟨ys⟩) b w hl ⟨k, hk, .inl ⟨ha, rfl⟩⟩ ⟨k, hk, .inl ⟨ha, rfl⟩⟩ hb
  rwa [Nat.sub_add_cancel hd] at this
 ·have := h.check e (10000 - d) xs (.agg ⟨xs⟩) w hl ⟨k, hk, .inl ⟨ha, rfl⟩⟩
  rwa [Nat.sub_add_cancel hd] at this
end
end Go.Sp
namespace Go.Sp

def Tr.All {α : Type} (p : Nat → α → Prop) : Tr α → Prop
 | .nil=>True
 | .node v l r=>(match v with | some a=>p 0 a | none=>True)∧Tr.All (fun i=>p (2 * i + 1)) l∧Tr.All (fun i=>p (2 * i + 2)) r

theorem Tr.All.get {α:Type} {t:Tr α}:∀ {p:Nat→α→Prop},t.All p→∀ {i:Nat} {a:α},t.get i = some a→p i a:=by
 induction t with
 | nil=>intro p _ i a h;cases h
 | node v l r ihl ihr =>
  intro p h i a hg
  obtain ⟨h0,h1,h2⟩:=h
  cases i with
  | zero =>
   have:v = some a:=hg
   subst this;exact h0
  | succ j =>
   have hg:Bool.rec (motive:=fun _=>Option α) (r.get (Nat.div j 2)) (l.get (Nat.div j 2)) (Nat.beq (Nat.mod j 2) 0) = some a:=hg
   have e1:Nat.div j 2 = j / 2:=rfl
   have e2:Nat.mod j 2 = j % 2:=rfl
   rw [e1,e2] at hg
   cases hb:Nat.beq (j % 2) 0 with
   | true =>
    rw [hb] at hg
    have:=ihl h1 hg
    have hm:=Nat.eq_of_beq_eq_true hb
    have:p (2 * (j / 2) + 1) a:=this
    rwa [show 2 * (j / 2) + 1 = j + 1 by omega] at this
   | false =>
    rw [hb] at hg
    have:=ihr h2 hg
    have hm:j % 2 ≠ 0:=fun e=>by rw [e] at hb;cases hb
    have:p (2 * (j / 2) + 2) a:=this
    rwa [show 2 * (j / 2) + 2 = j + 1 by omega] at this

theorem FnOk.by {P : Program} {gl : List Nat} {f : FuncId} {n : Nat} {x : RC} {rs : List ResultVar} {fd : Func} (h1 : P.funcs[f]? = some fd)
 (h2:(match fd.body with | some c=>rcOf c x | none=>none) = some x) (h3:(match fd.body with | some c=>codeB gl c | none=>false) = true)
 (h4 : fd.ntmps = n) (h5 : fd.results.toList = rs) (h6 : (fd.name == "runtime.NumGoroutine") = false) : FnOk P gl f ⟨n, x, rs⟩ := by
 cases hb:fd.body with
 | none=>rw [hb] at h2;cases h2
 | some c =>
  rw [hb] at h2 h3
  exact ⟨fd,c,h1,hb,h4,h5,h6,rcOf_Comp h2,h3⟩

structure TyOk (P:Program) (t:TypeId) (i:TI):Prop where
 ok:P.underlying t = some i.und∧∃ inf,P.info? t = some inf∧inf.size = i.size∧inf.bytes = i.bytes∧inf.zero = i.zero
 plain:oo i.zero true plainB = true
 flat:i.flat = true→∃ zs,i.zero = some (.agg ⟨zs⟩)∧FlatOk P t zs
theorem TyOk.by {P : Program} {t : TypeId} {i : TI} {inf : TypeInfo} (h1 : P.underlying t = some i.und) (h2 : P.info? t = some inf) (h3 : inf.size = i.size) (h4 : inf.bytes = i.bytes) (h5 : inf.zero = i.zero)
 (h6:oo i.zero true plainB = true) (h7:i.flat = true→∃ zs,i.zero = some (.agg ⟨zs⟩)∧FlatOk P t zs):TyOk P t i:=⟨⟨h1,inf,h2,h3,h4,h5⟩,h6,h7⟩
theorem TOk.of_all {P:Program} {t:Tr TI} (h:t.All (TyOk P)):TOk P t.get where
 ok:=fun _ _ e=>(h.get e).ok
 plain:=fun _ i z e hz=>by have:=(h.get e).plain;rw [hz] at this;exact this
 flat:=fun _ _ zs e hf hz=>by
  obtain ⟨zs',h1,h2⟩:=(h.get e).flat hf
  rw [hz] at h1;cases h1;exact h2
end Go.Sp
namespace Go.Sp
open Go.RowKit

def GrownB (W w':World):Prop:=W.keptBut w' (fun _=>False)∧(∀ a,a.block < W.heap.size→w'.frozen? a = W.frozen? a)∧W.heap.size≤w'.heap.size
theorem grown_of {H H':AHeap} {R R':Ren} {w w':World} (hp:Post H R w H' R' w') (himm:∀ id p,R.f id = some p→(H.get id).immB = true):GrownB w w':=by
 have hk:∀ c,c < w.heap.size→w'.heap[c]? = w.heap[c]?:=fun c hc=>hp.frame c hc fun id β h=>himm id _ h
 refine ⟨⟨hp.side.1,hp.side.2.1,fun i hi=>?_⟩,hp.side.2.2,hp.grow⟩
 rw [hk i hi]
 cases w.heap[i]? with
 | none=>trivial
 | some o=>cases o <;> simp

theorem sim_rows {H : AHeap} {R : Ren} {w : World} (hwf : H.wf) (hR : ∀ id c β, R.f id = some (c, β) → id = c ∧ β = 0 ∧ ∃ xs C t fz, H.get id = .cells xs true false [] ∧ w.heap[c]? = some (.cells C t fz) ∧ C.size = R.sz c ∧ xs.length ≤ C.size ∧ CellsR R xs 0 C)
 (hanc:∀ id,(H.get id).ancOf = []) (hro:∀ c C,R.ro c = some C→(∃ t fz,w.heap[c]? = some (.cells C t fz))):Sim H R w:=by
 refine ⟨fun id c β h => ?_, fun id c β h => ?_, fun id c β id' β' h h' hne => ?_, fun id a ha => ?_, hwf, fun c C hc => ⟨hro c C hc, fun id β h => ?_⟩⟩
 ·obtain ⟨rfl, rfl, xs, C, t, fz, h1, h2, _⟩ := hR id c β h
  exact ⟨hwf.lt (by rw [h1];simp),(Array.getElem?_eq_some_iff.1 h2).1⟩
 ·obtain ⟨rfl, rfl, xs, C, t, fz, h1, h2, h3, h4, h5⟩ := hR id c β h
  rw [h1]
  exact ⟨C,t,fz,h2,h3,by omega,h5,fun e=>by cases e⟩
 ·exact absurd ((hR id c β h).1.trans (hR id' c β' h').1.symm) hne
 ·rw [hanc id] at ha;cases ha
 ·obtain ⟨_, _, xs, C, t, fz, h1, _⟩ := hR id c β h
  rw [h1];rfl

noncomputable def tabHeap (xs:List Value):AHeap:=(⟨0,.nil,false⟩:AHeap).push (.cells xs true false [])
noncomputable def tabRen (n:Nat):Ren:=⟨fun i=>if i = 0 then some (0,0) else none,fun _=>n,fun _=>none⟩

theorem sim_tab {P : Program} {w : World} {name : String} {k : IntKind} {zs : List Int} (h : Lib.TabIs P w name k zs) (hg : P.globalNamed name = some 0) (hne : 0 < zs.length) :
 ∃ n,Sim (tabHeap (zs.map fun z=>.int k z)) (tabRen n) w∧GlR [0] (tabRen n):=by
 have h0:=h.cell hg 0 hne
 obtain ⟨C,t,fz,hC⟩:∃ C t fz,w.heap[0]? = some (.cells C t fz):=by
  unfold World.cell? at h0
  split at h0
  ·rename_i c t fz hc;exact ⟨c,t,fz,hc⟩
  ·cases h0
 have hcell:∀ i,i < zs.length→C[i]? = some (.int k (zs.getD i 0)):=fun i hi=>by
  have:=h.cell hg i hi
  unfold World.cell? at this
  rw [hC] at this
  simpa using this
 have hlen:zs.length≤C.size:=by
  have:=hcell (zs.length - 1) (by omega)
  have:=(Array.getElem?_eq_some_iff.1 this).1
  omega
 have hget:∀ i,(tabHeap (zs.map fun z=>.int k z)).get i = if 0 = i then .cells (zs.map fun z=>.int k z) true false [] else .dead:=fun i=>by
  show (AHeap.push ⟨0,.nil,false⟩ _).get i = _
  rw [AHeap.get_push]
  rfl
 refine ⟨C.size,sim_rows (AHeap.wf.push (fun id hid=>rfl) _) (fun id c β hid=>?_) (fun id=>?_) (fun c C h=>by cases h),fun g hg=>by simp at hg;subst hg;rfl⟩
 ·simp only [tabRen] at hid
  split at hid
  ·rename_i he; subst he
   injection hid with hid;injection hid with e1 e2;subst e1;subst e2
   refine ⟨rfl,rfl,zs.map fun z=>.int k z,C,t,fz,by rw [hget,if_pos rfl],hC,rfl,by simpa using hlen,fun i x hx=>?_⟩
   rw [List.getElem?_map] at hx
   have hi:i < zs.length:=by
    cases hz:zs[i]? with
    | none=>rw [hz] at hx;cases hx
    | some z=>exact (List.getElem?_eq_some_iff.1 hz).1
   refine ⟨.int k (zs.getD i 0),by rw [Nat.zero_add];exact hcell i hi,?_⟩
   simp [hi] at hx
   rw [←hx]
   simp [hi]
   exact .int k _
  ·cases hid
 ·rw [hget];split <;> rfl

end Go.Sp
namespace Go.Sp
open Go.ChangeShapes Go.WideShapes Go.ChangeAt Go.RowKit

theorem post_ofB {H : Type} {enc : TypeId × Value → H} {P : Program} {f : Func} {s : ChangeSpec} {apart fresh handsOn again : Bool} {W W' : World} {args : Array Value} {v : Value} {ds gs : List (DataW H)} {before pa pv : List MemPlace}
 (hW:DataW.Whole enc P f.params.toList s.vars apart W args.toList ds gs before)
 (hres:∀ (b:Nat) (sp:Nat→Bool) (hd:Bool),DataW.TrodAll enc P W' b sp hd f.resultTypes.toList (v.resultList f.resultTypes.size) (s.fn H (ds ++ gs)).results [])
 (hargs:∀ sp:Nat→Bool,(∀ p ∈ before,sp p.block = true)→DataW.TrodAll enc P W' 0 sp true f.params.toList args.toList (s.fn H (ds ++ gs)).args pa)
 (hvars:∀ sp:Nat→Bool,(∀ p ∈ before,sp p.block = true)→DataW.TrodVars enc P W' sp s.vars (s.fn H (ds ++ gs)).vars pv)
 (hps:before = pa ++ pv) (hg:GrownB W W')
 (hok:∀ (j:Nat) (t:TypeId) (r:Value),f.resultTypes[j]? = some t→(v.resultList f.resultTypes.size)[j]? = some r→Value.okWide P W' .any 0 t r) :
 s.post enc P f apart fresh handsOn again W args v W':=by
 have hlt:=hW.lt
 have hold:∀ p ∈ before,(fun b=>decide (b < W.heap.size)) p.block = true:=fun p hp=>decide_eq_true (hlt p hp)
 have hkeep:W.keptBut W' (fun p=>p ∈ before∧p ∈ [] ++ pa ++ pv):=World.keptBut_mono (fun p hp=>hp.elim) hg.1
 subst hps
 have hW2:=hW
 obtain ⟨_,_,_,_,_,hz,hn⟩:=hW2
 have hv0:=hvars (fun _=>true) (fun _ _=>rfl)
 have ha0:=hargs (fun _=>true) (fun _ _=>rfl)
 refine ⟨ds,gs,pa ++ pv,[],pa,pv,hW,hres _ _ _,hargs _ hold,hvars _ hold,?_,fun _=>⟨hok,_,_,([] ++ pa) ++ pv,⟨[] ++ pa,pv,trodAll_append ha0 (hres _ _ _),hv0,rfl,fun b off hp=>?_,fun ha=>?_⟩,fun p hp _=>?_⟩⟩
 ·exact World.keptBut_mono (fun p hp=>by simpa using hp) hkeep
 ·have hp : MemPlace.cell b off ∈ pa ++ pv := by simpa using hp
  rw [hg.2.1 _ (hlt _ hp)]
  exact hz b off hp
 ·simpa using hn ha
 ·simpa using hp

theorem post_true {H : Type} {enc : TypeId × Value → H} {P : Program} {f : Func} {s : ChangeSpec} {apart fresh handsOn again : Bool} {W W' : World} {args : Array Value} {ds gs : List (DataW H)} {before pa pv : List MemPlace} {t : TypeId}
 (hW:DataW.Whole enc P f.params.toList s.vars apart W args.toList ds gs before)
 (hres:(s.fn H (ds ++ gs)).results = [.lit (.bool true)])
 (hargs:∀ sp:Nat→Bool,(∀ p ∈ before,sp p.block = true)→DataW.TrodAll enc P W' 0 sp true f.params.toList args.toList (s.fn H (ds ++ gs)).args pa)
 (hvars:∀ sp:Nat→Bool,(∀ p ∈ before,sp p.block = true)→DataW.TrodVars enc P W' sp s.vars (s.fn H (ds ++ gs)).vars pv)
 (hps:before = pa ++ pv) (hg:GrownB W W') (hr:f.resultTypes = #[t]) (ht:P.underlying t = some .bool) :
 s.post enc P f apart fresh handsOn again W args (.bool true) W':=
 post_ofB (pa:=pa) (pv:=pv) hW (fun _ _ _=>by rw [hr,hres];exact trodAll_cons_mk (shut_bool ht _) trodAll_mk0) hargs hvars hps hg (ok_one hr rfl (okWide_bool_mk ht _))

theorem post_true0 {H : Type} {enc : TypeId × Value → H} {P : Program} {f : Func} {s : ChangeSpec} {W : World} {args : Array Value} {ds gs : List (DataW H)} {before : List MemPlace} {t : TypeId} {fid : FuncId}
 (hW:DataW.Whole enc P f.params.toList s.vars false W args.toList ds gs before) (hsv:s.vars = []) (hp:f.params = #[])
 (hfn:s.fn H [] = { results:=[.lit (.bool true)],args:=[] })
 (hr:f.resultTypes = #[t]) (ht:P.underlying t = some .bool)
 (walk:Calls P fid #[] W fun e W'=>e = .returned (.bool true)∧GrownB W W') :
 Calls P fid args W fun e W'=>∃ v,e = .returned v∧s.post enc P f false true false false W args v W':=by
 have hW':=hW
 obtain ⟨p,q,hA0,hV,rfl,hfz,hnd⟩:=hW
 have hA:DataW.TrodAll enc P W 0 (fun _=>true) true f.params.toList args.toList ds p:=hA0
 rw [hp] at hA
 obtain ⟨hargs,rfl,rfl⟩:=trodAll_nil hA
 obtain rfl:args = #[]:=by cases args;simp_all
 rw [hsv] at hV
 obtain ⟨rfl,rfl⟩:=trodVars_none hV
 simp only [List.append_nil] at hW'
 refine walk.mono fun e W' ⟨he,hg⟩=>?_
 subst he
 exact ⟨_,rfl,post_true (pa:=[]) (pv:=[]) hW' (by rw [List.append_nil,hfn]) (fun _ _=>by rw [hp,List.append_nil,hfn];exact trodAll_mk0) (fun _ _=>by rw [hsv,List.append_nil,hfn];rfl) rfl hg hr ht⟩
end Go.Sp
namespace Go.Sp
open Go.ChangeShapes Go.WideShapes Go.ChangeAt Go.RowKit

theorem Sim.congr {H H2:AHeap} {R:Ren} {w:World} (hg:∀ i,H2.get i = H.get i) (hn:H2.next = H.next) (hs:Sim H R w):Sim H2 R w:=
 ⟨fun id c β h => by rw [hn]; exact hs.dom id c β h, fun id c β h => by rw [hg]; exact hs.obj id c β h, fun id c β id' β' h h' hne hw => by rw [hg] at hw; rw [hg, hg]; exact hs.sep id c β id' β' h h' hne hw,
   fun id a ha=>by rw [hg] at ha;rw [hn,hg];exact hs.anc id a ha,fun id hid=>by rw [hn] at hid;rw [hg];exact hs.wf id hid,fun c C h=>⟨(hs.ro c C h).1,fun id β h'=>by rw [hg];exact (hs.ro c C h).2 id β h'⟩⟩
theorem Post.congrL {H H2 H':AHeap} {R R':Ren} {w w':World} (hg:∀ i,H2.get i = H.get i) (hn:H2.next = H.next) (hp:Post H R w H' R' w'):Post H2 R w H' R' w':=
 ⟨hp.le, fun id p h => by rw [hn]; exact hp.new id p h, hp.sim, by rw [hn]; exact hp.next, hp.grow, fun c hc h => hp.frame c hc fun id β hid => by rw [← hg]; exact h id β hid, fun id hi hr Q c β ob h => by rw [hn] at hi; rw [hg] at h; exact hp.calm id hi hr Q c β ob h,
   fun id hi h=>by rw [hn] at hi;rw [hg] at h ⊢;exact hp.imm id hi h,fun id c β h hr=>by rcases hp.fresh id c β h hr with h1 | ⟨i,b,h1,h2⟩;exact .inl h1;exact .inr ⟨i,b,h1,by rw [hg];exact h2⟩,hp.side,
   fun c C h=>by rcases hp.rofresh c C h with h1 | h1 | ⟨i,b,h1,h2⟩;exact .inl h1;exact .inr (.inl h1);exact .inr (.inr ⟨i,b,h1,by rw [hg];exact h2⟩)⟩

theorem law_true {P : Program} {xs : List Value} {g : FuncId} {f : List Value → Option Value} (hpu : PureOk P [xs] g f) {args args' : List Value} {W : World} {R : Ren} (hm : f args = some (.bool true)) (hcl : ∀ x ∈ args, closed2 x = true)
 (hR:R.f = fun i=>if i < 1 then some (i,0) else none) (hs:Sim (pureHeap [xs]) R W) (ha:VRL R args args'):Calls P g ⟨args'⟩ W fun e W'=>e = .returned (.bool true)∧GrownB W W':=
 (hpu.2 args _ hm hcl R W args' hR hs ha).mono fun e W' ⟨u, H', R', he, _, hu, hp⟩ => by
   rw [hu.bool_l] at he
   exact ⟨he,grown_of hp fun id p h=>by rw [hR] at h;obtain ⟨h1,_⟩:=tabf_some (show (if id < 1 then some (id,0) else none) = some (p.1,p.2) from h);exact pureHeap_imm h1⟩

theorem start {P : Program} {w : World} {name : String} {k : IntKind} {zs : List Int} (h : Lib.TabIs P w name k zs) (hg : P.globalNamed name = some 0) (hne : 0 < zs.length) :
 ∃ R:Ren,R.f = (fun i=>if i < 1 then some (i,0) else none)∧R.ro = allRo w∧Sim (pureHeap [zs.map fun z=>.int k z]) R w:=by
 obtain ⟨n,hs,hgl⟩:=sim_tab h hg hne
 have := pure_sim (tabs := [zs.map fun z => .int k z]) hs (by intro g hg; exact hgl g (by simpa using hg)) (by
  show an (valsEq (cellsAt (tabHeap (zs.map fun z=>.int k z)) 0) (zs.map fun z=>.int k z)) true = true
  have e:cellsAt (tabHeap (zs.map fun z=>Value.int k z)) 0 = zs.map fun z=>.int k z:=by
   unfold cellsAt
   show oo (oCells ((AHeap.push ⟨0,.nil,false⟩ _).get 0)) _ _ = _
   rw [AHeap.get_push];rfl
  rw [e]
  have:∀ l:List Int,valsEq (l.map fun z=>Value.int k z) (l.map fun z=>.int k z) = true:=fun l=>by
   induction l with
   | nil=>rfl
   | cons z l ih =>
    show an (an (intKindEq k k) (ieq z z)) (valsEq (l.map fun z=>Value.int k z) (l.map fun z=>.int k z)) = true
    rw [ih]
    have h1:intKindEq k k = true:=by cases k <;> rfl
    have h2:ieq z z = true:=by cases z <;> simp [ieq,ii]
    rw [h1,h2];rfl
  rw [this];rfl) (allRo w) (allRo_ok w) (allRo_le hs) (by intro t ht;simp at ht;subst ht;intro h0;have h0:zs = []:=(by simpa using h0);subst h0;simp at hne) (by intro t ht x hx;simp at ht;subst ht;simp at hx;obtain ⟨z,_,rfl⟩:=hx;rfl)
 exact ⟨_,rfl,rfl,this⟩

end Go.Sp
namespace Go.Sp
noncomputable section
abbrev I (n:Int):Value:=.int .i64 n
def sl (fl:Nat) (l:List Int):Sl:=⟨l.length,fl,l.map I⟩
def S (fl:Nat) (l:List Int):Value:=Sl.v 1 (sl fl l)
end
@[simp] theorem sl_n (fl:Nat) (l:List Int):(sl fl l).n = l.length:=rfl
@[simp] theorem sl_cs (fl:Nat) (l:List Int):(sl fl l).cs = l.map I:=rfl
@[simp] theorem ll_nil' {α β:Type} (z:β) (s:α→List α→β):ll [] z s = z:=rfl
@[simp] theorem ll_cons' {α β:Type} (a:α) (r:List α) (z:β) (s:α→List α→β):ll (a :: r) z s = s a r:=rfl
@[simp] theorem toI_mk (n:Int):toI .i64 (.int .i64 n) = some n:=rfl
@[simp] theorem toI_mk16 (n:Int):toI .u16 (.int .u16 n) = some n:=rfl
@[simp] theorem toI_mk8 (n:Int):toI .u8 (.int .u8 n) = some n:=rfl
@[simp] theorem toSl_mk (s:Sl):toSl 1 (s.v 1) = some s:=rfl
@[simp] theorem vAgg_mk (l:List Value):vAgg (.agg ⟨l⟩) = some l:=rfl
@[simp] theorem vTup_mk (l:List Value):vTup (.tuple ⟨l⟩) = some l:=rfl
@[simp] theorem vBool_mk (b:Bool):vBool (.bool b) = some b:=rfl
@[simp] theorem toN_mk (n:Nat):toN (Int.ofNat n) = some n:=rfl
@[simp] theorem toN_0:toN 0 = some 0:=rfl
theorem blt_eq (a b:Nat):Nat.blt a b = decide (a < b):=by
 rw [Bool.eq_iff_iff,decide_eq_true_iff,Nat.blt_eq]
theorem ble_eq (a b:Nat):Nat.ble a b = decide (a≤b):=by
 rw [Bool.eq_iff_iff,decide_eq_true_iff,Nat.ble_eq]
end Go.Sp
namespace Go.Sp
open Go.ChangeShapes Go.WideShapes Go.ChangeAt Go.RowKit

section
variable {H:Type} {enc:TypeId×Value→H} {P:Program} {W:World} {R:Ren} {held:Bool} {v:Value} {d:DataW H} {ps:List MemPlace} {t:TypeId} {base:Nat} {r:Reach}

theorem arg_int {k:IntKind} (ht:P.underlying t = some (.int k)) (hok:Value.okWide P W r base t v):∃ n,v = .int k n∧(Lit.int k n).wf = true:=by
 unfold Value.okWide at hok
 rw [ht] at hok
 unfold Cell.okWide at hok
 rw [ht] at hok
 cases v <;> simp [Cell.ok,ht] at hok
 rename_i k' n
 obtain ⟨rfl,h⟩:=hok
 refine ⟨n,rfl,?_⟩
 simp only [Lit.wf,Bool.and_eq_true,decide_eq_true_eq]
 exact h
theorem arg_struct {fs:Array Field} (ht:P.underlying t = some (.struct fs)) (hok:Value.okWide P W r base t v):∃ cs:List Value,v = .agg ⟨cs⟩:=by
 unfold Value.okWide at hok
 rw [ht] at hok
 obtain ⟨⟨cs⟩,rfl,_⟩:=hok
 exact ⟨cs,rfl⟩
theorem arg_array {e:TypeId} {n:Nat} (ht:P.underlying t = some (.array n e)) (hok:Value.okWide P W r base t v):∃ cs:List Value,v = .agg ⟨cs⟩:=by
 unfold Value.okWide at hok
 rw [ht] at hok
 obtain ⟨⟨cs⟩,rfl,_⟩:=hok
 exact ⟨cs,rfl⟩
theorem arg_slice {e:TypeId} (ht:P.underlying t = some (.slice e)) (hok:Value.okWide P W r base t v):∃ a l c,v = .slice a l c:=by
 unfold Value.okWide at hok
 rw [ht] at hok
 unfold Cell.okWide at hok
 rw [ht] at hok
 cases v <;> simp [Cell.ok,ht] at hok
 exact ⟨_,_,_,rfl⟩
end

def OkArgs (P:Program) (f:Func) (W:World) (base:Nat) (args:Array Value):Prop:=∀ (j:Nat) t v,f.params[j]? = some t→args[j]? = some v→Value.okWide P W .any base t v
section
variable {P:Program} {f:Func} {W:World} {base:Nat} {t0 t1 t2 t3:TypeId} {v0 v1 v2 v3:Value}
theorem OkArgs.one (h:OkArgs P f W base #[v0]) (hp:f.params = #[t0]):Value.okWide P W .any base t0 v0:=h 0 _ _ (by rw [hp];rfl) rfl
theorem OkArgs.two (h:OkArgs P f W base #[v0,v1]) (hp:f.params = #[t0,t1]):Value.okWide P W .any base t0 v0∧Value.okWide P W .any base t1 v1:=⟨h 0 _ _ (by rw [hp];rfl) rfl,h 1 _ _ (by rw [hp];rfl) rfl⟩
theorem OkArgs.three (h:OkArgs P f W base #[v0,v1,v2]) (hp:f.params = #[t0,t1,t2]):Value.okWide P W .any base t0 v0∧Value.okWide P W .any base t1 v1∧Value.okWide P W .any base t2 v2:=
 ⟨h 0 _ _ (by rw [hp];rfl) rfl,h 1 _ _ (by rw [hp];rfl) rfl,h 2 _ _ (by rw [hp];rfl) rfl⟩
end
section
variable {P:Program} {f:Func} {W:World} {base:Nat} {args:Array Value} {t:TypeId} {v:Value}
theorem OkArgs.int {k:IntKind} (h:OkArgs P f W base args) (j:Nat) (hp:f.params[j]? = some t) (hv:args[j]? = some v) (ht:P.underlying t = some (.int k)):∃ n,v = .int k n∧(Lit.int k n).wf = true:=arg_int ht (h j t v hp hv)
theorem OkArgs.struct {fs:Array Field} (h:OkArgs P f W base args) (j:Nat) (hp:f.params[j]? = some t) (hv:args[j]? = some v) (ht:P.underlying t = some (.struct fs)):∃ cs:List Value,v = .agg ⟨cs⟩:=arg_struct ht (h j t v hp hv)
theorem OkArgs.array {e:TypeId} {n:Nat} (h:OkArgs P f W base args) (j:Nat) (hp:f.params[j]? = some t) (hv:args[j]? = some v) (ht:P.underlying t = some (.array n e)):∃ cs:List Value,v = .agg ⟨cs⟩:=arg_array ht (h j t v hp hv)
theorem OkArgs.slice {e:TypeId} (h:OkArgs P f W base args) (j:Nat) (hp:f.params[j]? = some t) (hv:args[j]? = some v) (ht:P.underlying t = some (.slice e)):∃ a l c,v = .slice a l c:=arg_slice ht (h j t v hp hv)
end
theorem handed_of {H : Type} {enc : TypeId × Value → H} {a : Assume} {C : Checked} {os : Os} {f : FuncId} {fn : Func} {s : OpenSpec} {F : Stop.Interp} {conds : List PathCond} {apart fresh handsOn again : Bool} {laid : List (String × DataW Unit)}
 (own:ownKnob C.prog.godebug = none) (started:os.Started) (noInit:C.prog.inits.idxOf? f = none) (hfn:C.prog.funcs[f]? = some fn)
 (witness : ∃ (w : World) (tape : Tape) (i : Input), w.os = os ∧ (w.forCall tape i).Shaped C.prog ∧ i.vars = [] ∧ Input.okWide C.prog (w.forCall tape i) .any w.heap.size f i ∧
   s.preRow enc C.prog fn conds apart laid (w.forCall tape i).memory i.args∧a.holds C.prog (lone (Frame.enter C.prog f i.args .normal) [] (w.forCall tape i)))
 (contract : ∀ (W : World) (base : Nat) (args : Array Value) (ds gs : List (DataW H)) (before : List MemPlace), OkArgs C.prog fn W base args →
   DataW.Whole enc C.prog fn.params.toList s.vars apart W args.toList ds gs before→laidMetH C.prog laid W →
   Calls C.prog f args W fun e W'=>∃ v,e = .returned v∧(s.at F).post enc C.prog fn apart fresh handsOn again W args v W') :
 ReturnsInHanded a C os f .any (s.preRow enc C.prog fn conds apart laid) ((s.at F).post enc C.prog fn apart fresh handsOn again):=
 returnsInHanded_of_row own started noInit hfn witness fun W base args ds gs before hval hW _ _ _ hL _ _=>contract W base args ds gs before hval hW hL

section
variable {P:Program} {t:TypeId} {xs:List Value}
theorem Shp.int_inv {k:IntKind} (ht:P.underlying t = some (.int k)) (h:Shp P t xs):∃ n,xs = [.int k n]∧(Lit.int k n).wf = true:=by
 cases h with
 | int h n hw=>rw [ht] at h;injection h with h;injection h with h;subst h;exact ⟨n,rfl,hw⟩
 | _ h=>rw [ht] at h;cases h
theorem Shp.slice_inv {e:TypeId} (ht:P.underlying t = some (.slice e)) (h:Shp P t xs):∃ ls:List (List Value),ls.length≤maxLen∧(∀ l ∈ ls,Shp P e l)∧xs = [fsV (P.cellsOf e) ls.length 0 ls.flatten]:=by
 cases h with
 | slice h ls hl hs=>rw [ht] at h;injection h with h;injection h with h;subst h;exact ⟨ls,hl,hs,rfl⟩
 | _ h=>rw [ht] at h;cases h
theorem Shp.ints {e:TypeId} (ht:P.underlying t = some (.slice e)) (he:P.underlying e = some (.int .i64)) (hc:P.cellsOf e = 1) (h:Shp P t xs):∃ l:List Int,xs = [S 0 l]∧l.length≤maxLen∧∀ z ∈ l,(Lit.int .i64 z).wf = true:=by
 obtain ⟨ls,hl,hs,rfl⟩:=h.slice_inv ht
 have:∃ l:List Int,l.length = ls.length∧ls.flatten = l.map I∧∀ z ∈ l,(Lit.int .i64 z).wf = true:=by
  clear hl h
  induction ls with
  | nil=>exact ⟨[],rfl,rfl,by simp⟩
  | cons m ls ih =>
   obtain ⟨l,h1,h2,h3⟩:=ih fun l hl=>hs l (by simp [hl])
   obtain ⟨n,rfl,hw⟩:=(hs m (by simp)).int_inv he
   exact ⟨n :: l,by simp [h1],by simp [h2],by intro z hz;simp at hz;rcases hz with rfl | hz;exact hw;exact h3 z hz⟩
 obtain ⟨l,h1,h2,h3⟩:=this
 refine ⟨l,?_,by omega,h3⟩
 rw [hc,h2,←h1];rfl
end
end Go.Sp
namespace Go.Sp
section
variable {P:Program} {t:TypeId} {xs:List Value}
end
end Go.Sp
namespace Go.Sp
noncomputable section
def evFnP (tabs:List (List Value)) (isP:FuncId→Bool) (pu:PureF) (inl:CallF) (tt:TT) (fns:FuncId→Option RFn) (n:Nat):CallF:=
 Nat.rec (motive := fun _ => CallF) (fun _ _ _ => none)
  (fun m ih f args H=>oo (callP tabs isP pu inl f args H) (oo (fns f) none fun fn=>bb (Nat.ble (len args) fn.n) (endFn tt fn.results (evC tt ih m fn.body (Fr.made fn.n args) H)) none) fun r=>some r) n
def tabsHeap (tabs:List (List Value)):AHeap:=⟨len tabs,objTr (tabTr tabs) 0 .nil,false⟩
def frzR (k:Nat) (r:Option (Value×AHeap)):Option Value:=oo r none fun p=>pp p fun q H1=>oo (freezeV k false q H1) none fun p2=>pp p2 fun v' _=>some v'
def valR (r:Option (Value×AHeap)):Option Value:=oo r none fun p=>pp p fun q _=>some q
end
section
variable {P:Program} {tt:TT} {tabs:List (List Value)}
theorem evFnP_ok (hT : TOk P tt) (hne : ∀ t ∈ tabs, t ≠ []) (hpl : ∀ t ∈ tabs, ∀ x ∈ t, plain1 x = true) {fns : FuncId → Option RFn} (hf : ∀ f r, fns f = some r → FnOk P (List.range tabs.length) f r) (hm : P.follows .mixedOrders = true)
 {isP:FuncId→Bool} {pu:PureF} {inl:CallF} (hpu:∀ g,isP g = true→PureOk P tabs g (pu g)) (hinl:CallOk P (List.range tabs.length) inl) (n:Nat):CallOk P (List.range tabs.length) (evFnP tabs isP pu inl tt fns n):=by
 induction n with
 | zero=>intro g args H v H' h;cases h
 | succ n ih =>
  intro g args H v H' h
  have h:oo (callP tabs isP pu inl g args H) (evStep tt fns (evFnP tabs isP pu inl tt fns n) n g args H) (fun r=>some r) = some (v,H'):=h
  cases hc:callP tabs isP pu inl g args H with
  | some r =>
   rw [hc,oo_some] at h
   injection h with h;subst h
   exact callP_ok hne hpl hinl hpu g args H v H' hc
  | none =>
   rw [hc,oo_none] at h
   exact evStep_ok hT hf hm ih n g args H v H' h
theorem tabsHeap_get (i:Nat):(tabsHeap tabs).get i = (pureHeap tabs).get i:=by
 unfold tabsHeap pureHeap
 rw [AHeap.get_mk,AHeap.get_mk]
theorem pureOk_closedP (hT : TOk P tt) (hne : ∀ t ∈ tabs, t ≠ []) (hpl : ∀ t ∈ tabs, ∀ x ∈ t, plain1 x = true) {fns : FuncId → Option RFn} (hf : ∀ f r, fns f = some r → FnOk P (List.range tabs.length) f r) (hm : P.follows .mixedOrders = true)
 {isP:FuncId→Bool} {pu:PureF} {inl:CallF} (hpu:∀ g,isP g = true→PureOk P tabs g (pu g)) (hinl:CallOk P (List.range tabs.length) inl) {g n:Nat} {H:AHeap} (hH:∀ i,H.get i = (pureHeap tabs).get i) (hHn:H.next = (pureHeap tabs).next) {f:List Value→Option Value}
 (hen:∀ (as:Array Value) (w:World),(callFunc g as).run P w = .ok (.enter g as) w)
 (hrun:∀ args v,f args = some v→closedV v = true∧(valR (evFnP tabs isP pu inl tt fns n g args H) = some v∨frzR tabs.length (evFnP tabs isP pu inl tt fns n g args H) = some v)):PureOk P tabs g f:=by
 refine ⟨hen,fun args v hv _ R w args' hR hs ha=>?_⟩
 obtain ⟨hcv,hr⟩:=hrun args v hv
 have hs':Sim H R w:=hs.congr hH hHn
 have hgl:GlR (List.range tabs.length) R:=fun g hg=>by rw [hR];simp at hg;simp [hg]
 rcases hr with hr | hr
 ·obtain ⟨q, hq, h1⟩ := oo_inv (show oo (evFnP tabs isP pu inl tt fns n g args H) none (fun p => pp p fun q _ => some q) = some v from hr)
  rw [pp_eta] at h1
  injection h1 with h1
  have hok:=(evFnP_ok hT hne hpl hf hm hpu hinl n) g args H q.1 q.2 hq
  refine (hok.2 R w args' hs' hgl ha).mono fun e w' ⟨u,R',he,hu,hp⟩=>?_
  rw [h1] at hu
  exact ⟨u,q.2,R',he,hcv,hu,Post.congrL (fun i=>(hH i).symm) hHn.symm hp⟩
 ·obtain ⟨q, hq, h1⟩ := oo_inv (show oo (evFnP tabs isP pu inl tt fns n g args H) none (fun p => pp p fun q H1 => oo (freezeV tabs.length false q H1) none fun p2 => pp p2 fun v' _ => some v') = some v from hr)
  rw [pp_eta] at h1
  obtain ⟨p2,hp2,h2⟩:=oo_inv h1
  rw [pp_eta] at h2
  injection h2 with h2
  have hok:=(evFnP_ok hT hne hpl hf hm hpu hinl n) g args H q.1 q.2 hq
  refine (hok.2 R w args' hs' hgl ha).mono fun e w' ⟨u,R',he,hu,hp⟩=>?_
  have hn:H.next≤tabs.length:=by rw [hHn];show len tabs≤_;rw [len_eq];exact Nat.le_refl _
  have hp2':freezeV tabs.length false q.1 q.2 = some (p2.1,p2.2):=hp2
  obtain ⟨R2,_,_,k2,k3⟩:=freezeV_ok hp2' hs' hn hp hu
  rw [h2] at k3
  exact ⟨u,p2.2,R2,he,hcv,k3,Post.congrL (fun i=>(hH i).symm) hHn.symm k2⟩

end
end Go.Sp
