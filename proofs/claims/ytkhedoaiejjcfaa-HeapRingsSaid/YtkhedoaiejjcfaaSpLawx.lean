/- Made from wip. -/
import Derived.Test.YtkhedoaiejjcfaaSpWpx
import Derived.ChangeArms
import Derived.ChangeBears
import Derived.KernelRfl
import Derived.ChangeKeysEq
import Derived.RowKit3
import Derived.Lib.LaidTab
import Derived.WalkKit
import Derived.ProofKit
import Derived.OpenShut
import Derived.Deep.DeepHandedRow

namespace Go.Sp
noncomputable section

def purify1 (H:AHeap) (v:Value):Option Value:=
 oo (vSl v) (bb (closed1 v) (some v) none) fun s=>oo (oCells (H.get s.id)) none fun o=>
  bb (an (Nat.ble (s.off + s.len * s.sz) (len o.xs)) (allL closed1 (takeL (s.len * s.sz) (dropL s.off o.xs)))) (some (fsV s.sz s.len 0 (takeL (s.len * s.sz) (dropL s.off o.xs)))) none
def purify (H:AHeap) (v:Value):Option Value:=oo (vAgg v) (purify1 H v) fun l=>oo (mapO (purify1 H) l) none fun l'=>some (.agg ⟨l'⟩)
def plainT (v:Value):Bool:=oo (vTup v) (plainB v) fun l=>allL plainB l

def tabsOk (H:AHeap) (tabs:List (List Value)):Nat→Bool:=List.rec (motive:=fun _=>Nat→Bool) (fun _=>true) (fun t _ ih i=>an (valsEq (cellsAt H i) t) (ih (Nat.succ i))) tabs
def tabTr (tabs:List (List Value)):List AObj:=mapL (fun t=>.cells t true false []) tabs
def pureHeap (tabs:List (List Value)):AHeap:=⟨len tabs,objTr (tabTr tabs) 0 .nil,true⟩

abbrev PureF:=FuncId→List Value→Option Value

def callP (tabs:List (List Value)) (isP:FuncId→Bool) (pu:PureF) (inl:CallF):CallF:=fun g args H=>
 bb (isP g) (bb (tabsOk H tabs 0)
  (bb (allL closed2 args) (oo (pu g args) none fun v=>some (v,H)) (oo (mapO (purify H) args) none fun as=>oo (pu g as) none fun v=>bb (plainT v) (some (v,H)) none)) none) (inl g args H)
end

def PureOk (P:Program) (tabs:List (List Value)) (g:FuncId) (f:List Value→Option Value):Prop:=
 (∀ (as:Array Value) (w:World),(callFunc g as).run P w = .ok (.enter g as) w) ∧
 ∀ args v, f args = some v → (∀ x ∈ args, closed2 x = true) →
  ∀ R w args', R.f = (fun i => if i < tabs.length then some (i, 0) else none) → Sim (pureHeap tabs) R w → VRL R args args' →
   Calls P g ⟨args'⟩ w fun e w'=>∃ u H' R',e = .returned u∧closedV v = true∧VR R' v u∧Post (pureHeap tabs) R w H' R' w'

theorem tabTr_get (tabs:List (List Value)) (i:Nat):(tabTr tabs)[i]? = (tabs[i]?).map fun t=>.cells t true false []:=by simp [tabTr]
theorem pureHeap_get (tabs:List (List Value)) (i:Nat):(pureHeap tabs).get i = match tabs[i]? with | some t=>.cells t true false [] | none=>.dead:=by
 unfold pureHeap
 rw [AHeap.get_mk,objTr_get]
 have hl:(tabTr tabs).length = tabs.length:=by simp [tabTr]
 by_cases h:i < tabs.length
 ·rw [if_pos (by rw [hl];omega),Nat.sub_zero,tabTr_get,List.getElem?_eq_getElem h];rfl
 ·rw [if_neg (by rw [hl];omega),List.getElem?_eq_none (by omega)];rfl
theorem tabsOk_some {H:AHeap} {tabs:List (List Value)} {j:Nat} (h:tabsOk H tabs j = true):∀ i t,tabs[i]? = some t→cellsAt H (j + i) = t:=by
 induction tabs generalizing j with
 | nil=>intro i t h;simp at h
 | cons a tabs ih =>
  obtain ⟨h1,h2⟩:=an_inv (show an (valsEq (cellsAt H j) a) (tabsOk H tabs (j + 1)) = true from h)
  intro i t hi
  cases i with
  | zero=>simp at hi;subst hi;exact valsEq_eq h1
  | succ i=>have:=ih h2 i t (by simpa using hi);rwa [show j + (i + 1) = j + 1 + i by omega]

theorem pure_sim {tabs : List (List Value)} {H : AHeap} {R : Ren} {w : World} (hs : Sim H R w) (hgl : GlR (List.range tabs.length) R) (ht : tabsOk H tabs 0 = true) (ro : Nat → Option (Array Value))
 (hro:∀ c C,ro c = some C→∃ t fz,w.heap[c]? = some (.cells C t fz)) (hle:∀ c C,R.ro c = some C→ro c = some C) (hne:∀ t ∈ tabs,t ≠ []) (hpl:∀ t ∈ tabs,∀ x ∈ t,plain1 x = true) :
 Sim (pureHeap tabs) ⟨fun i=>if i < tabs.length then some (i,0) else none,R.sz,ro⟩ w:=by
 have hmap:∀ i c β,(if i < tabs.length then some (i,0) else none) = some (c,β)→i < tabs.length∧c = i∧β = 0:=fun i c β h=>by
  split at h
  ·rename_i hlt;injection h with h;injection h with e1 e2;exact ⟨hlt,e1.symm,e2.symm⟩
  ·cases h
 have hRi:∀ i,i < tabs.length→R.f i = some (i,0):=fun i hi=>hgl i (by simpa using hi)
 refine ⟨fun id c β h => ?_, fun id c β h => ?_, fun id c β id' β' h h' hn => ?_, fun id a ha => ?_, fun id hid => ?_, fun c C h => ⟨hro c C h, fun id β h' => ?_⟩⟩
 ·obtain ⟨h1, rfl, rfl⟩ := hmap _ _ _ h
  refine ⟨?_,(hs.dom c c 0 (hRi c h1)).2⟩
  show c < len tabs
  rw [len_eq];exact h1
 ·obtain ⟨h1, rfl, rfl⟩ := hmap _ _ _ h
  have ht1:=List.getElem?_eq_getElem h1
  rw [pureHeap_get,ht1]
  have hc:=tabsOk_some ht c _ ht1
  rw [Nat.zero_add] at hc
  unfold cellsAt at hc
  cases ho:oCells (H.get c) with
  | none=>rw [ho] at hc;exact absurd hc.symm (hne _ (List.getElem_mem h1))
  | some o =>
   rw [ho,oo_some] at hc
   obtain ⟨C,t,fz,k1,k2,k3,k4⟩:=hs.cells (hRi c h1) ho
   rw [hc] at k3 k4
   refine ⟨C,t,fz,k1,k2,k3,fun i x hx=>?_,fun h=>by cases h⟩
   obtain ⟨y,hy,hv⟩:=k4 i x hx
   have hp:=hpl _ (List.getElem_mem h1) x (List.mem_of_getElem? hx)
   have:y = x:=by
    have hvv:=hp
    cases x <;> simp [plain1,vv] at hvv
    case bool=>exact hv.bool_l
    case int=>exact hv.int_l
    case string=>exact hv.string_l
    case pointer a=>cases a with
     | none=>cases hv;rfl
     | some a=>simp at hvv
    case slice a l c=>
     cases a with
     | some a=>simp at hvv
     | none=>simp at hvv;obtain ⟨h1,h2⟩:=hvv;subst h1;subst h2;exact hv.slNil_l
    case map m=>cases m with
     | none=>exact hv.mapNil_l
     | some m=>simp at hvv
    case nilFunc=>cases hv;rfl
    case nilIface=>cases hv;rfl
   rw [this] at hy
   exact ⟨x,hy,plain1_VR hp⟩
 ·obtain ⟨_, rfl, _⟩ := hmap _ _ _ h
  obtain ⟨_,e,_⟩:=hmap _ _ _ h'
  exact absurd e hn
 ·rw [pureHeap_get] at ha
  split at ha <;> cases ha
 ·have hid : len tabs ≤ id := hid
  rw [len_eq] at hid
  rw [pureHeap_get,List.getElem?_eq_none hid]
 ·rw [pureHeap_get];split <;> rfl

theorem closed2_VR {R R':Ren} (hro:∀ c C,R.ro c = some C→R'.ro c = some C) {v u:Value} (hv:VR R v u) (h:closed2 v = true):VR R' v u:=by
 unfold closed2 at h
 cases ha:vAgg v with
 | none=>rw [ha,oo_none] at h;exact hv.closed hro h
 | some l =>
  rw [ha,oo_some,allL_eq,List.all_eq_true] at h
  rw [vAgg_some ha] at hv ⊢
  obtain ⟨us,rfl,hl⟩:=hv.agg_l
  exact .agg hl.1 fun i x y hx hy=>(hl.2 i x y hx hy).closed hro (h x (List.mem_of_getElem? hx))
theorem closedV_VR {R R':Ren} (hro:∀ c C,R.ro c = some C→R'.ro c = some C) {v u:Value} (hv:VR R v u) (h:closedV v = true):VR R' v u:=by
 unfold closedV at h
 cases ha:vTup v with
 | none=>rw [ha,oo_none] at h;exact closed2_VR hro hv h
 | some l =>
  rw [ha,oo_some,allL_eq,List.all_eq_true] at h
  rw [vTup_some ha] at hv ⊢
  obtain ⟨us,rfl,hl⟩:=hv.tuple_l
  exact .tuple hl.1 fun i x y hx hy=>closed2_VR hro (hl.2 i x y hx hy) (h x (List.mem_of_getElem? hx))
theorem closed2L_VR {R R':Ren} (hro:∀ c C,R.ro c = some C→R'.ro c = some C) {xs us:List Value} (hv:VRL R xs us) (h:∀ x ∈ xs,closed2 x = true):VRL R' xs us:=
 ⟨hv.1,fun i x y hx hy=>closed2_VR hro (hv.2 i x y hx hy) (h x (List.mem_of_getElem? hx))⟩

noncomputable def allRo (w:World):Nat→Option (Array Value):=fun c=>match w.heap[c]? with | some (.cells C _ _)=>some C | _=>none
theorem allRo_ok (w:World):∀ c C,allRo w c = some C→∃ t fz,w.heap[c]? = some (.cells C t fz):=fun c C h=>by
 unfold allRo at h
 split at h
 ·rename_i D t fz hD;injection h with h;subst h;exact ⟨t,fz,hD⟩
 ·cases h
theorem allRo_le {H:AHeap} {R:Ren} {w:World} (hs:Sim H R w):∀ c C,R.ro c = some C→allRo w c = some C:=fun c C h=>by
 obtain ⟨⟨t,fz,h1⟩,_⟩:=hs.ro c C h
 simp [allRo,h1]

theorem purify1_ok {H:AHeap} {R R':Ren} {w:World} (hs:Sim H R w) (hR':R'.ro = allRo w) {v u v':Value} (hv:VR R v u) (h:purify1 H v = some v'):VR R' v' u∧closed1 v' = true:=by
 have hro:∀ c C,R.ro c = some C→R'.ro c = some C:=fun c C h=>by rw [hR'];exact allRo_le hs c C h
 unfold purify1 at h
 cases hsl:vSl v with
 | none =>
  rw [hsl,oo_none] at h
  obtain ⟨hc,h1⟩:=bb_inv h
  injection h1 with h1;subst h1
  exact ⟨hv.closed hro hc,hc⟩
 | some s =>
  rw [hsl,oo_some] at h
  obtain ⟨o,ho,h1⟩:=oo_inv h
  obtain ⟨hc,h2⟩:=bb_inv h1
  obtain ⟨c1,c2⟩:=an_inv hc
  simp only [len_eq] at c1
  have c1:=Nat.le_of_ble_eq_true c1
  rw [allL_eq,List.all_eq_true] at c2
  injection h2 with h2;subst h2
  simp only [takeL_eq,dropL_eq] at c2 ⊢
  refine ⟨?_,rfl⟩
  rcases hv.sl_l hsl with ⟨c,β,cap,hid,rfl,k1,k2,k3,k4⟩ | ⟨c,o2,rfl,k0,k00⟩ | ⟨rfl,k0,k00⟩
  ·obtain ⟨C, ty, fz, hC, hsz, hcf, hcr⟩ := hs.cells hid ho
   have hroC:R'.ro c = some C:=by rw [hR'];simp [allRo,hC]
   obtain ⟨ys,g1,g2,g3⟩:=(hcr.part s.off (s.len * s.sz)).list
   refine .fs hroC (by simp;omega) (by omega) (fun h=>by cases h) (by omega) (by simp;omega) g2 c2 g1 fun i x y hx hy=>(g3 i x y hx hy).closed hro (c2 x (List.mem_of_getElem? hx))
  ·rw [k0]
   simp only [Nat.zero_mul,List.take_zero]
   exact .fsE (by omega)
  ·rw [k0]
   simp only [Nat.zero_mul,List.take_zero]
   exact .fsN _ _ (by decide)
theorem purify_ok {H:AHeap} {R R':Ren} {w:World} (hs:Sim H R w) (hR':R'.ro = allRo w) {v u v':Value} (hv:VR R v u) (h:purify H v = some v'):VR R' v' u∧closed2 v' = true:=by
 unfold purify at h
 cases ha:vAgg v with
 | none =>
  rw [ha,oo_none] at h
  obtain ⟨h1,h2⟩:=purify1_ok hs hR' hv h
  refine ⟨h1,?_⟩
  unfold closed2
  cases hb:vAgg v' with
  | none=>rw [oo_none];exact h2
  | some l=>rw [vAgg_some hb] at h2;cases h2
 | some l =>
  rw [ha,oo_some] at h
  obtain ⟨l',hl',h1⟩:=oo_inv h
  injection h1 with h1;subst h1
  rw [vAgg_some ha] at hv
  obtain ⟨us,rfl,hl⟩:=hv.agg_l
  have hm:=mapO_VR (R:=R) (R':=R') (fun v u v' hv h=>(purify1_ok hs hR' hv h).1) hl' hl
  refine ⟨.agg hm.1 hm.2,?_⟩
  show allL closed1 l' = true
  rw [allL_eq,List.all_eq_true]
  intro x hx
  obtain ⟨i,hi⟩:=List.mem_iff_getElem?.1 hx
  obtain ⟨m1,m2⟩:=mapO_some hl'
  have hlt:i < l.length:=by rw [←m1];exact (List.getElem?_eq_some_iff.1 hi).1
  obtain ⟨b,hb,hf⟩:=m2 i _ (List.getElem?_eq_getElem hlt)
  rw [hi] at hb;injection hb with hb;subst hb
  have hlt2:i < us.length:=by rw [←hl.1];exact hlt
  exact (purify1_ok hs hR' (hl.2 i _ _ (List.getElem?_eq_getElem hlt) (List.getElem?_eq_getElem hlt2)) hf).2

theorem plainB_any {R R':Ren} {v u:Value} (hv:VR R v u) (h:plainB v = true):VR R' v u:=by
 have key:∀ {x y:Value},VR R x y→plain1 x = true→VR R' x y:=fun {x y} hv hp=>by
  have hvv:=hp
  cases x <;> simp [plain1,vv] at hvv
  case bool=>rw [hv.bool_l];exact .bool _
  case int=>rw [hv.int_l];exact .int _ _
  case string=>rw [hv.string_l];exact .string _
  case pointer a=>cases a with
   | none=>cases hv;exact .ptrNil
   | some a=>simp at hvv
  case slice a l c=>
   cases a with
   | some a=>simp at hvv
   | none=>simp at hvv;obtain ⟨h1,h2⟩:=hvv;subst h1;subst h2;rw [hv.slNil_l];exact .slNil
  case map m=>cases m with
   | none=>rw [hv.mapNil_l];exact .mapNil
   | some m=>simp at hvv
  case nilFunc=>cases hv;exact .nilFunc
  case nilIface=>cases hv;exact .nilIface
 cases v
 case agg a=>
  obtain ⟨l⟩:=a
  have h:∀ x ∈ l,plain1 x = true:=by simpa [plainB,vAgg,vv,arrL] using h
  obtain ⟨us,rfl,hl⟩:=hv.agg_l
  exact .agg hl.1 fun i x y hx hy=>key (hl.2 i x y hx hy) (h x (List.mem_of_getElem? hx))
 case tuple a=>
  obtain ⟨l⟩:=a
  have h:∀ x ∈ l,plain1 x = true:=by simpa [plainB,vAgg,vTup,vv,arrL] using h
  obtain ⟨us,rfl,hl⟩:=hv.tuple_l
  exact .tuple hl.1 fun i x y hx hy=>key (hl.2 i x y hx hy) (h x (List.mem_of_getElem? hx))
 all_goals exact key hv (by simpa [plainB,vAgg,vTup,vv] using h)
theorem plainT_any {R R':Ren} {v u:Value} (hv:VR R v u) (h:plainT v = true):VR R' v u:=by
 unfold plainT at h
 cases ha:vTup v with
 | none=>rw [ha,oo_none] at h;exact plainB_any hv h
 | some l =>
  rw [ha,oo_some,allL_eq,List.all_eq_true] at h
  rw [vTup_some ha] at hv ⊢
  obtain ⟨us,rfl,hl⟩:=hv.tuple_l
  exact .tuple hl.1 fun i x y hx hy=>plainB_any (hl.2 i x y hx hy) (h x (List.mem_of_getElem? hx))
end Go.Sp
namespace Go.Sp

theorem pureHeap_imm {tabs:List (List Value)} {id:Nat} (h:id < tabs.length):((pureHeap tabs).get id).immB = true:=by
 rw [pureHeap_get,List.getElem?_eq_getElem h];rfl
theorem tabf_some {n i c β:Nat} (h:(if i < n then some (i,0) else none) = some (c,β)):i < n∧c = i∧β = 0:=by
 split at h
 ·rename_i hlt;injection h with h;injection h with e1 e2;exact ⟨hlt,e1.symm,e2.symm⟩
 ·cases h

section
variable {P:Program} {tabs:List (List Value)}

theorem pure_post {H : AHeap} {R : Ren} {w w' : World} {H1 : AHeap} {R0 R1 R' : Ren} (hs : Sim H R w) (hR0 : R0.f = fun i => if i < tabs.length then some (i, 0) else none) (hp : Post (pureHeap tabs) R0 w H1 R1 w')
 (hf:R'.f = R.f) (hsz:R'.sz = R.sz) (hle:∀ c C,R.ro c = some C→R'.ro c = some C)
 (hro:∀ c C,R'.ro c = some C→R.ro c = some C∨(w.heap.size≤c∧R1.ro c = some C)):Post H R w H R' w':=by
 have hkeep:∀ c,c < w.heap.size→w'.heap[c]? = w.heap[c]?:=fun c hc=>hp.frame c hc fun id β h=>by
  rw [hR0] at h
  exact pureHeap_imm (tabf_some h).1
 have hle':R.le R':=⟨fun id c β h=>⟨by rw [hf];exact h,by rw [hsz]⟩,hle⟩
 refine ⟨hle', fun id p h => .inl (by rw [hf] at h; exact h), ⟨fun id c β h => ?_, fun id c β h => ?_, fun id c β id' β' h h' => ?_, hs.anc, hs.wf, fun c C h => ?_⟩, Nat.le_refl _, hp.grow, fun c hc _ => hkeep c hc, fun _ _ _ _ _ _ _ h => h, fun _ _ _ => rfl,
  fun id c β h h'=>(by rw [hf,h'] at h;cases h),hp.side,fun c C h=>?_⟩
 ·rw [hf] at h
  have:=hs.dom id c β h
  exact ⟨this.1,Nat.lt_of_lt_of_le this.2 hp.grow⟩
 ·rw [hf] at h
  rw [hkeep c (hs.dom id c β h).2]
  exact (hs.obj id c β h).mono hle' (by rw [hsz])
 ·rw [hf] at h h'; exact hs.sep id c β id' β' h h'
 ·rcases hro c C h with h1 | ⟨h1, h2⟩
  ·obtain ⟨⟨t, fz, h3⟩, h4⟩ := hs.ro c C h1
   refine ⟨⟨t,fz,?_⟩,fun id β h5=>by rw [hf] at h5;exact h4 id β h5⟩
   rw [hkeep c (Array.getElem?_eq_some_iff.1 h3).1];exact h3
  ·refine ⟨(hp.sim.ro c C h2).1, fun id β h5 => ?_⟩
   rw [hf] at h5
   have:=(hs.dom id c β h5).2
   omega
 ·rcases hro c C h with h1 | ⟨h1, _⟩
  ·exact .inl h1
  ·exact .inr (.inl h1)

theorem callP_ok (hne : ∀ t ∈ tabs, t ≠ []) (hpl : ∀ t ∈ tabs, ∀ x ∈ t, plain1 x = true) {isP : FuncId → Bool} {pu : PureF} {inl : CallF} (hinl : CallOk P (List.range tabs.length) inl)
 (hpu:∀ g,isP g = true→PureOk P tabs g (pu g)):CallOk P (List.range tabs.length) (callP tabs isP pu inl):=by
 intro g args H v H' h
 have h : bb (isP g) (bb (tabsOk H tabs 0)
  (bb (allL closed2 args) (oo (pu g args) none fun v=>some (v,H)) (oo (mapO (purify H) args) none fun as=>oo (pu g as) none fun v=>bb (plainT v) (some (v,H)) none)) none) (inl g args H) = some (v,H'):=h
 rw [bb_eq] at h
 split at h
 ·rename_i hg
  obtain ⟨hen,hpure⟩:=hpu g hg
  obtain ⟨htab,h1⟩:=bb_inv h
  refine ⟨hen,fun R w args' hs hgl ha=>?_⟩
  rw [bb_eq] at h1
  split at h1
  ·rename_i hcl
   rw [allL_eq,List.all_eq_true] at hcl
   obtain ⟨v',hv',h2⟩:=oo_inv h1
   injection h2 with h2;injection h2 with e1 e2;subst e1;subst e2
   have hcalls:=hpure args v' hv' hcl
   have hs0:=pure_sim hs hgl htab R.ro (fun c C h=>(hs.ro c C h).1) (fun c C h=>h) hne hpl
   refine (hcalls _ w args' rfl hs0 (closed2L_VR (R:=R) (R':=⟨fun i=>if i < tabs.length then some (i,0) else none,R.sz,R.ro⟩) (fun _ _ h=>h) ha hcl)).mono fun e w' ⟨u,H1,R1,he,hcv,hu,hp⟩=>?_
   refine ⟨u,⟨R.f,R.sz,R1.ro⟩,he,closedV_VR (R:=R1) (R':=⟨R.f,R.sz,R1.ro⟩) (fun _ _ h=>h) hu hcv,pure_post hs rfl hp rfl rfl (fun c C h=>hp.le.ro c C h) fun c C h=>?_⟩
   rcases hp.rofresh c C h with h3 | h3 | ⟨id,β,h3,h4⟩
   ·exact .inl h3
   ·exact .inr ⟨h3,h⟩
   ·have := pureHeap_imm (tabf_some (show (if id < tabs.length then some (id, 0) else none) = some (c, β) from h3)).1
    rw [this] at h4;cases h4
  ·obtain ⟨as, has, h2⟩ := oo_inv h1
   obtain ⟨v',hv',h3⟩:=oo_inv h2
   obtain ⟨hpt,h4⟩:=bb_inv h3
   injection h4 with h4;injection h4 with e1 e2;subst e1;subst e2
   have hs0:=pure_sim hs hgl htab (allRo w) (allRo_ok w) (allRo_le hs) hne hpl
   have hcl:∀ x ∈ as,closed2 x = true:=fun x hx=>by
    obtain ⟨i,hi⟩:=List.mem_iff_getElem?.1 hx
    obtain ⟨m1,m2⟩:=mapO_some has
    have hlt:i < args.length:=by rw [←m1];exact (List.getElem?_eq_some_iff.1 hi).1
    obtain ⟨b,hb,hf⟩:=m2 i _ (List.getElem?_eq_getElem hlt)
    rw [hi] at hb;injection hb with hb;subst hb
    have hlt2:i < args'.length:=by rw [←ha.1];exact hlt
    exact (purify_ok (R':=⟨R.f,R.sz,allRo w⟩) hs rfl (ha.2 i _ _ (List.getElem?_eq_getElem hlt) (List.getElem?_eq_getElem hlt2)) hf).2
   have hcalls:=hpure as v' hv' hcl
   refine (hcalls _ w args' rfl hs0 (mapO_VR (fun v u v' hv h=>(purify_ok hs rfl hv h).1) has ha)).mono fun e w' ⟨u,H1,R1,he,hcv,hu,hp⟩=>?_
   exact ⟨u,R,he,plainT_any hu hpt,pure_post hs rfl hp rfl rfl (fun c C h=>h) fun c C h=>.inl h⟩
 ·exact hinl g args H v H' h

def Fin (tt : TT) (n0 : Nat) (rs : List ResultVar) (v : Value) : Ex → Fr → AHeap → Prop
 | .exit _,_,_=>False
 | .goto _,_,_=>False
 | _,F,H=>∃ r H1,aresults tt F H rs = some r∧Tell n0 H r H1 v∧closedV v = true

theorem pureOk_of_run {tt : TT} (hT : TOk P tt) (hm : P.follows .mixedOrders = true) {g : FuncId} {r : RFn} {call : CallF} (hc : CallOk P (List.range tabs.length) call) (hfn : FnOk P (List.range tabs.length) g r) {f : List Value → Option Value}
 (h:∀ args v,f args = some v→(∀ x ∈ args,closed2 x = true)→args.length≤r.n∧Run tt call tabs.length r.body (Fr.made r.n args) (pureHeap tabs) (Fin tt tabs.length r.results v)):PureOk P tabs g f:=by
 refine ⟨enter_ok hfn,fun args v hv hcl=>?_⟩
 obtain ⟨hle,hrun⟩:=h args v hv hcl
 intro R w args' hR hs ha
 obtain ⟨fd,c,e1,e2,e3,e4,_,hcomp,hok⟩:=hfn.ok
 refine calls_of_wp e1 e2 ?_
 have hlen:=ha.1
 have hsize:((⟨args'⟩:Array Value) ++ Array.replicate (fd.ntmps - (⟨args'⟩:Array Value).size) undef).size = r.n:=by simp;omega
 have hgl:GlR (List.range tabs.length) R:=fun g hg=>by rw [hR];simp at hg;simp [hg]
 have hfull:∀ id,id < (pureHeap tabs).next→R.f id = none→(pureHeap tabs).get id = .dead:=fun id hid hr=>by
  have hid:id < len tabs:=hid
  rw [len_eq] at hid
  rw [hR] at hr;simp [hid] at hr
 have hrun:Run tt call (pureHeap tabs).next r.body (Fr.made r.n args) (pureHeap tabs) (Fin tt tabs.length r.results v):=by
  show Run tt call (len tabs) _ _ _ _
  rw [len_eq];exact hrun
 have hst:St (List.range tabs.length) (pureHeap tabs) R w [] r.n (Fr.made r.n args) (pureHeap tabs) ⟨(⟨args'⟩:Array Value) ++ Array.replicate (fd.ntmps - (⟨args'⟩:Array Value).size) undef,[]⟩ w:=by
  refine ⟨⟨R,.refl hs,fun t=>?_⟩,rfl,hsize,Fr.n_made ..⟩
  rw [Fr.get_made,Array.getD_eq_getD_getElem?]
  show VR R _ (((⟨args'⟩:Array Value) ++ Array.replicate (fd.ntmps - (⟨args'⟩:Array Value).size) undef)[t]?.getD undef)
  rw [Array.getElem?_append]
  by_cases hlt:t < args'.length
  ·rw [if_pos (by simpa using hlt)]
   obtain ⟨x, hx⟩ : ∃ x, args[t]? = some x := ⟨args[t]'(by omega), by simp⟩
   obtain ⟨y,hy,hv⟩:=ha.get hx
   rw [hx,show (⟨args'⟩:Array Value)[t]? = some y by simpa using hy]
   exact hv
  ·rw [List.getElem?_eq_none (by omega)]
   exact .any _
 refine wp_mono (hrun.sound hT hc hm hs hgl (fun id h1 h2=>by rw [hfull id h1 h2];trivial) hcomp hok _ w hst) fun x a' w' ⟨e,F',H',h1,h2,h3⟩=>?_
 subst h1
 obtain ⟨⟨R',hp,ht⟩,hd,_,_⟩:=h3
 have fin:(∃ q H1,aresults tt F' H' r.results = some q∧Tell tabs.length H' q H1 v∧closedV v = true)→bodyPost P fd (fun e w'=>∃ u H' R',e = .returned u∧closedV v = true∧VR R' v u∧Post (pureHeap tabs) R w H' R' w') .normal a' w':=fun ⟨q,H1,hres,htl,hcv⟩=>by
  rw [←e4] at hres
  obtain ⟨u,hu,huv⟩:=aresults_ok hT hp.sim ht hres
  obtain ⟨R2,_,_,k2,k3⟩:=htl (pureHeap tabs) R w R' w' u hs (by show len tabs≤_;rw [len_eq];exact Nat.le_refl _) hp huv
  exact ⟨hd,u,hu,u,H1,R2,rfl,hcv,k3,k2⟩
 cases e with
 | normal=>exact fin h2
 | exit j=>exact h2.elim
 | goto j=>exact h2.elim
 | ret=>exact fin h2
end
end Go.Sp
namespace Go.Sp

inductive Shp (P : Program) : TypeId → List Value → Prop
 | bool {t:TypeId} (h:P.underlying t = some .bool) (b:Bool):Shp P t [.bool b]
 | int {t:TypeId} {k:IntKind} (h:P.underlying t = some (.int k)) (n:Int) (hw:(Lit.int k n).wf = true):Shp P t [.int k n]
 | slice {t e:TypeId} (h:P.underlying t = some (.slice e)) (ls:List (List Value)) (hl:ls.length≤maxLen) (hs:∀ l ∈ ls,Shp P e l):Shp P t [fsV (P.cellsOf e) ls.length 0 ls.flatten]
 | struct {t:TypeId} {fs:Array Field} (h:P.underlying t = some (.struct fs)) (ls:List (List Value)) (hl:ls.length = fs.size) (hs:∀ (i:Nat) (f:Field) (l:List Value),fs[i]? = some f→ls[i]? = some l→Shp P f.type l):Shp P t ls.flatten
 | array {t e:TypeId} {n:Nat} (h:P.underlying t = some (.array n e)) (ls:List (List Value)) (hl:ls.length = n) (hs:∀ l ∈ ls,Shp P e l):Shp P t ls.flatten

def plainTy (P : Program) : Nat → TypeId → Bool
 | 0,_=>false
 | n + 1, t => match P.underlying t with
  | some .bool=>true
  | some (.int _)=>true
  | some (.slice e)=>plainTy P n e
  | some (.array _ e)=>plainTy P n e
  | some (.struct fs)=>fs.toList.all fun f=>plainTy P n f.type
  | _=>false

theorem build_list {α : Type} {p : Nat → α → Prop} : ∀ (n : Nat), (∀ i, i < n → ∃ y, p i y) → ∃ l : List α, l.length = n ∧ ∀ i y, l[i]? = some y → p i y
 | 0,_=>⟨[],rfl,fun i y h=>by simp at h⟩
 | n + 1, h => by
  obtain ⟨l,hl,h1⟩:=build_list n fun i hi=>h i (by omega)
  obtain ⟨y,hy⟩:=h n (by omega)
  refine ⟨l ++ [y],by simp [hl],fun i z hz=>?_⟩
  rw [List.getElem?_append] at hz
  split at hz
  ·exact h1 i z hz
  ·rename_i hlt
   have:i = n:=by
    have:=(List.getElem?_eq_some_iff.1 hz).1
    simp at this;omega
   subst this
   rw [hl] at hz;simp at hz;subst hz;exact hy

theorem flatten_get {α:Type} {ls:List (List α)} {sz:Nat} (h:∀ l ∈ ls,l.length = sz):ls.flatten.length = ls.length * sz∧∀ (i j:Nat),j < sz→i < ls.length→ls.flatten[i * sz + j]? = (ls[i]?).bind (·[j]?):=by
 induction ls with
 | nil=>exact ⟨by simp,fun i j _ hi=>by simp at hi⟩
 | cons l ls ih =>
  obtain ⟨h1,h2⟩:=ih fun m hm=>h m (by simp [hm])
  have hl:=h l (by simp)
  refine ⟨by simp [h1,hl,Nat.add_mul];omega,fun i j hj hi=>?_⟩
  cases i with
  | zero =>
   simp only [List.flatten_cons,Nat.zero_mul,Nat.zero_add,List.getElem?_cons_zero,Option.bind_some]
   rw [List.getElem?_append_left (by omega)]
  | succ i =>
   simp only [List.flatten_cons,List.getElem?_cons_succ]
   rw [List.getElem?_append_right (by rw [hl,Nat.add_mul];omega),←h2 i j hj (by simpa using hi)]
   congr 1
   rw [hl,Nat.add_mul];omega

theorem mem_flatten_get {α:Type} {ls:List (List α)} {x:α} (h:x ∈ ls.flatten):∃ l ∈ ls,x ∈ l:=by
 simpa using List.mem_flatten.1 h

theorem pieces {R : Ren} : ∀ {ls : List (List Value)} {szs : List Nat} {cs : List Value}, ls.length = szs.length → cs.length = szs.sum →
 (∀ i l,ls[i]? = some l→VRL R l ((cs.drop (szs.take i).sum).take (szs.getD i 0)))→VRL R ls.flatten cs
 | [], szs, cs, hl, hc, _ => by
  have:szs = []:=by cases szs with | nil=>rfl | cons=>simp at hl
  subst this
  have:cs = []:=by cases cs with | nil=>rfl | cons=>simp at hc
  subst this
  exact .nil
 | l :: ls,[],cs,hl,_,_=>by simp at hl
 | l :: ls, s :: szs, cs, hl, hc, h => by
  have h0:=h 0 l rfl
  simp at h0
  have hr:VRL R ls.flatten (cs.drop s):=pieces (szs:=szs) (by simpa using hl) (by simp at hc;simp;omega) fun i m hm=>by
   have:=h (i + 1) m (by simpa using hm)
   simp only [List.take_succ_cons,List.sum_cons,List.getD_cons_succ] at this
   rwa [List.drop_drop,Nat.add_comm] at *
  have:=h0.append hr
  rwa [List.take_append_drop] at this
end Go.Sp
namespace Go.Sp
noncomputable section
structure Sl where
 n:Nat
 fl:Nat
 cs:List Value
def Sl.v (sz:Nat) (s:Sl):Value:=fsV sz s.n s.fl s.cs
def toSl (sz:Nat) (v:Value):Option Sl:=oo (vFs v) none fun f=>bb (Nat.beq f.sz sz) (some ⟨f.n,f.fl,f.cs⟩) none
def toI (k:IntKind) (v:Value):Option Int:=oo (vInt v) none fun p=>pp p fun j n=>bb (intKindEq j k) (some n) none
def toN (z:Int):Option Nat:=ii z (fun n=>some n) fun _=>none

def Fr.puts (F:Fr) (l:List (Nat×Value)):Fr:=List.rec (motive:=fun _=>Fr→Fr) (fun F=>F) (fun p _ ih F=>ih (F.put (some p.1) p.2)) l F

def opAt (ops:List ROp) (tt:TT) (call:CallF) (F:Fr) (H:AHeap):Option (Value×AHeap):=ll ops none fun o _=>aop o.op tt call F.eval H
def okAt (ops:List ROp) (F:Fr) (H H':AHeap):Bool:=ll ops false fun o _=>an (o.gdOk F) (an (o.wanted F) (allL (fun x=>sameAt H H' (F.eval x)) o.watch))
def putAt (ops:List ROp) (F:Fr) (v:Value):Fr:=ll ops F fun o _=>F.put o.dst v
def frOf (o:Option (Fr×AHeap)):Fr:=oo o ⟨0,.nil⟩ fun p=>p.1
def hpOf (o:Option (Fr×AHeap)):AHeap:=oo o ⟨0,.nil,true⟩ fun p=>p.2
end

theorem toSl_some {sz:Nat} {v:Value} {s:Sl} (h:toSl sz v = some s):v = s.v sz:=by
 obtain ⟨f,hf,h1⟩:=oo_inv h
 obtain ⟨h2,h3⟩:=bb_inv h1
 injection h3 with h3;subst h3
 rw [vFs_some hf,←Nat.eq_of_beq_eq_true h2];rfl
theorem toI_some {k:IntKind} {v:Value} {n:Int} (h:toI k v = some n):v = .int k n:=by
 obtain ⟨p,hp,h1⟩:=oo_inv h
 rw [pp_eta] at h1
 obtain ⟨h2,h3⟩:=bb_inv h1
 injection h3 with h3;subst h3
 rw [vInt_some hp,←intKindEq_iff h2]
theorem toN_some {z:Int} {n:Nat} (h:toN z = some n):z = .ofNat n:=by
 cases z with
 | ofNat m=>injection h with h;subst h;rfl
 | negSucc m=>cases h
theorem ll_uncons {α β:Type} {l:List α} {s:α→List α→Option β} {v:β} (h:ll l none s = some v):∃ a r,l = a :: r∧s a r = some v:=by
 cases l with
 | nil=>cases h
 | cons a r=>exact ⟨a,r,rfl,h⟩
theorem ll_end {α β:Type} {l:List α} {x:Option β} {v:β} (h:ll l x (fun _ _=>none) = some v):l = []∧x = some v:=by
 cases l with
 | nil=>exact ⟨rfl,h⟩
 | cons a r=>cases h
theorem takeL_cons {α:Type} {cs:List α} {off m:Nat} {a:α} {l:List α} (h:nthL cs off = some a) (h2:takeL m (dropL (off + 1) cs) = l):takeL (m + 1) (dropL off cs) = a :: l:=by
 simp only [nthL_eq,takeL_eq,dropL_eq] at *
 have hlt:=(List.getElem?_eq_some_iff.1 h).1
 rw [List.drop_eq_getElem_cons hlt,List.take_succ_cons,h2,(List.getElem?_eq_some_iff.1 h).2]
theorem bb_cases {β:Type} {c:Bool} {a b:Option β} {v:β} (h:bb c a b = some v):(c = true∧a = some v)∨(c = false∧b = some v):=by
 cases c
 ·exact .inr ⟨rfl,h⟩
 ·exact .inl ⟨rfl,h⟩

noncomputable def cellsSig (H:AHeap) (v:Value):Option (List Value):=oo (vPtr v) none fun p=>pp p fun id _=>oo (oCells (H.get id)) none fun o=>some o.xs
noncomputable def sigAt (ops:List ROp) (F:Fr) (H:AHeap):List (Option (List Value)):=ll ops [] fun o _=>mapL (fun x=>cellsSig H (F.eval x)) o.watch
noncomputable def watchB (H:AHeap) (v:Value):Bool:=oo (vPtr v) (oo (vMap v) true fun m=>nt (isS m)) fun _=>isS (cellsSig H v)
noncomputable def okAtW (ops:List ROp) (F:Fr) (H:AHeap):Bool:=ll ops false fun o _=>an (o.gdOk F) (an (o.wanted F) (allL (fun x=>watchB H (F.eval x)) o.watch))
theorem sameAt_of {H H':AHeap} {v:Value} (h:watchB H v = true) (he:cellsSig H v = cellsSig H' v):sameAt H H' v = true:=by
 unfold watchB cellsSig at h
 unfold cellsSig at he
 unfold sameAt
 cases hp:vPtr v with
 | none=>rw [hp] at h;exact h
 | some p =>
  rw [hp] at h he
  simp only [oo_some,pp_eta] at h he ⊢
  cases ho:oCells (H.get p.1) with
  | none=>rw [ho] at h;cases h
  | some o =>
   cases ho':oCells (H'.get p.1) with
   | none=>rw [ho,ho'] at he;cases he
   | some o' =>
    rw [ho,ho'] at he
    simp only [oo_some] at he ⊢
    injection he with he
    cases valsEq o.xs o'.xs with
    | true=>rfl
    | false=>exact @decide_eq_true (cellsSame o.xs o'.xs) (Classical.propDecidable _) he
theorem okAt_of {ops:List ROp} {F:Fr} {H H':AHeap} (h:okAtW ops F H = true) (he:sigAt ops F H = sigAt ops F H'):okAt ops F H H' = true:=by
 cases ops with
 | nil=>cases h
 | cons o os =>
  obtain ⟨g1,g2⟩:=an_inv (show an (o.gdOk F) (an (o.wanted F) (allL (fun x=>watchB H (F.eval x)) o.watch)) = true from h)
  obtain ⟨g2,g3⟩:=an_inv g2
  have he:mapL (fun x=>cellsSig H (F.eval x)) o.watch = mapL (fun x=>cellsSig H' (F.eval x)) o.watch:=he
  show an (o.gdOk F) (an (o.wanted F) (allL (fun x=>sameAt H H' (F.eval x)) o.watch)) = true
  have:allL (fun x=>sameAt H H' (F.eval x)) o.watch = true:=by
   generalize o.watch = l at g3 he ⊢
   induction l with
   | nil=>rfl
   | cons x r ih =>
    obtain ⟨k1,k2⟩:=an_inv (show an (watchB H (F.eval x)) (allL (fun x=>watchB H (F.eval x)) r) = true from g3)
    injection (show cellsSig H (F.eval x) :: mapL (fun x=>cellsSig H (F.eval x)) r = cellsSig H' (F.eval x) :: mapL (fun x=>cellsSig H' (F.eval x)) r from he) with e1 e2
    show an (sameAt H H' (F.eval x)) (allL (fun x=>sameAt H H' (F.eval x)) r) = true
    rw [sameAt_of k1 e1,ih k2 e2];rfl
  rw [g1,g2,this];rfl

theorem evOps_app {tt:TT} {call:CallF} {ops:List ROp} {F:Fr} {H:AHeap} (i:Nat):evOps tt call ops F H = oo (evOps tt call (takeL i ops) F H) none fun p=>evOps tt call (dropL i ops) p.1 p.2:=by
 induction i generalizing ops F H with
 | zero=>rfl
 | succ i ih =>
  cases ops with
  | nil=>rfl
  | cons o os =>
   show bb (o.gdOk F) (bb (o.wanted F) (oo (aop o.op tt call F.eval H) none fun p => pp p fun v H' => forceWL H v fun v => forceH H' fun H' => bb (allL (fun x => sameAt H H' (F.eval x)) o.watch) (F.putK o.dst v fun F => evOps tt call os F H') none) (F.putK o.dst undef fun F => evOps tt call os F H)) none =
    oo (bb (o.gdOk F) (bb (o.wanted F) (oo (aop o.op tt call F.eval H) none fun p=>pp p fun v H'=>forceWL H v fun v=>forceH H' fun H'=>bb (allL (fun x=>sameAt H H' (F.eval x)) o.watch) (F.putK o.dst v fun F=>evOps tt call (takeL i os) F H') none) (F.putK o.dst undef fun F=>evOps tt call (takeL i os) F H)) none) none fun p=>evOps tt call (dropL i os) p.1 p.2
   cases o.gdOk F
   ·rfl
   ·cases o.wanted F
    ·simp only [bb_true,bb_false,Fr.putK_eq];exact ih
    ·simp only [bb_true]
     cases aop o.op tt call F.eval H with
     | none=>rfl
     | some p =>
      simp only [oo_some,pp_eta,forceWL_eq,forceH_eq,Fr.putK_eq]
      cases allL (fun x=>sameAt H p.2 (F.eval x)) o.watch
      ·rfl
      ·simp only [bb_true];exact ih
theorem evOps_cut {tt : TT} {call : CallF} {ops : List ROp} {F : Fr} {H : AHeap} {r : Option (Fr × AHeap)} (i : Nat) (h : isS (evOps tt call (takeL i ops) F H) = true)
 (h2:evOps tt call (dropL i ops) (frOf (evOps tt call (takeL i ops) F H)) (hpOf (evOps tt call (takeL i ops) F H)) = r):evOps tt call ops F H = r:=by
 rw [evOps_app i]
 cases he:evOps tt call (takeL i ops) F H with
 | none=>rw [he] at h;cases h
 | some p=>rw [he] at h2;exact h2
theorem evOps_data {tt : TT} {call : CallF} {ops : List ROp} {F : Fr} {H H1 : AHeap} {v : Value} {r : Option (Fr × AHeap)} (D : Option (Value × AHeap)) (h1 : opAt ops tt call F H = D) (hD : D = some (v, H1)) (hch : okAt ops F H H1 = true)
 (h:evOps tt call (dropL 1 ops) (putAt ops F v) H1 = r):evOps tt call ops F H = r:=by
 cases ops with
 | nil=>cases hch
 | cons o os =>
  obtain ⟨g1,g2⟩:=an_inv (show an (o.gdOk F) (an (o.wanted F) (allL (fun x=>sameAt H H1 (F.eval x)) o.watch)) = true from hch)
  obtain ⟨g2,g3⟩:=an_inv g2
  have h1:aop o.op tt call F.eval H = D:=h1
  show bb (o.gdOk F) (bb (o.wanted F) (oo (aop o.op tt call F.eval H) none fun p=>pp p fun v H'=>forceWL H v fun v=>forceH H' fun H'=>bb (allL (fun x=>sameAt H H' (F.eval x)) o.watch) (F.putK o.dst v fun F=>evOps tt call os F H') none) (F.putK o.dst undef fun F=>evOps tt call os F H)) none = r
  rw [g1,g2,h1,hD]
  simp only [bb_true,oo_some,pp_mk,forceWL_eq,forceH_eq,g3,Fr.putK_eq]
  exact h

theorem keep_eq {H:AHeap} {x:Option Value} {v:Value} (h:x = some v):keep H x = some (v,H):=by rw [h];rfl
theorem keep_bb {H:AHeap} {c:Bool} {v:Value} (h:c = true):keep H (bb c (some v) none) = some (v,H):=by rw [h];rfl
theorem done_bb {c:Bool} {H1:AHeap} {v:Value} (h:c = true):done (bb c (some H1) none) v = some (v,H1):=by rw [h];rfl
theorem keep_sl {H:AHeap} {c:Bool} {l:Nat} {f:Nat→Option Value} (h:c = true):keep H (oo (bb c (some l) none) none f) = keep H (f l):=by rw [h];rfl
theorem asliceFs_eq {H : AHeap} {ie : TI} {sz l h : Nat} {s : Sl} {lo hi : Option Value} {c1 c2 : Bool} (hfl : nt (Nat.beq s.fl 2) = true) (hsz : Nat.beq ie.size sz = true) (h1 : anatO hi s.n s.n = bb c1 (some h) none) (hc1 : c1 = true)
 (h2:anatO lo 0 h = bb c2 (some l) none) (hc2:c2 = true) :
 keep H (asliceFs ie ⟨sz,s.n,s.fl,s.cs⟩ lo hi none) = some (Sl.v sz ⟨h - l,bb (an (Nat.beq h s.n) (orr false (Nat.beq s.fl 1))) 1 0,takeL ((h - l) * sz) (dropL (l * sz) s.cs)⟩,H):=by
 subst hc1;subst hc2
 show keep H (bb (Nat.beq s.fl 2) _ (bb (Nat.beq ie.size sz) (oo (some s.n) none fun m=>oo (bb (an false (nt (isS hi))) none (anatO hi s.n m)) none fun h=>oo (anatO lo 0 h) none fun l=>some _) none)) = _
 rw [nt_false hfl,hsz]
 show keep H (oo (anatO hi s.n s.n) none fun h=>oo (anatO lo 0 h) none fun l=>some _) = _
 rw [h1]
 show keep H (oo (anatO lo 0 h) none fun l=>some _) = _
 rw [h2]
 rfl
theorem keep_agg {H:AHeap} {c:Bool} {l l':List Value} (h:c = true) (hl:l = l'):keep H (bb c (some (.agg ⟨l⟩)) none) = some (.agg ⟨l'⟩,H):=by rw [h,hl];rfl
theorem call_eq {H:AHeap} {x:Option Value} {v:Value} (h:x = some v):(oo x none fun v=>some (v,H)) = some (v,H):=by rw [h];rfl

section
variable {tt:TT} {call:CallF} {n0:Nat}
inductive GhS (n0 : Nat) : Fr → AHeap → Fr → AHeap → Prop
 | id (F:Fr) (H:AHeap):GhS n0 F H F H
 | step {F F1 F':Fr} {H H1 H':AHeap} (h:Ghost n0 F H F1 H1) (r:GhS n0 F1 H1 F' H'):GhS n0 F H F' H'
def TrOk (H : AHeap) : List Nat → Prop
 | []=>True
 | i :: r=>trO (H.get i) = true∧TrOk H r
theorem TrOk.get {H:AHeap} {l:List Nat} (h:TrOk H l):∀ id,memN id l = true→trO (H.get id) = true:=by
 induction l with
 | nil=>intro id h;cases h
 | cons i r ih =>
  intro id hm
  have hm:bb (Nat.beq i id) true (memN id r) = true:=hm
  rw [bb_eq] at hm
  split at hm
  ·rename_i he;rw [←Nat.eq_of_beq_eq_true he];exact h.1
  ·exact ih h.2 id hm
theorem trE {a b:Bool} (h:a = b) (hb:b = true):a = true:=h.trans hb
theorem GhS.gc (trs:List Nat) (ents:List Bool) (rs:List Rt) (live:List Nat) {F F':Fr} {H H':AHeap} (hn:Nat.ble n0 (len ents) = true) (htr:TrOk H trs) (h:Go.Sp.gc trs ents rs live F H = some (F',H')):GhS n0 F H F' H':=
 .step (.gc (by have:=Nat.le_of_ble_eq_true hn;rwa [len_eq] at this) htr.get h) (.id F' H')
theorem some_of {o:Option (Fr×AHeap)} (h:isS o = true):o = some (frOf o,hpOf o):=by
 cases o with
 | none=>cases h
 | some p=>rfl
theorem GhS.thaw (t sz:Nat) {F F':Fr} {H H':AHeap} (h:isS (Go.Sp.thaw t sz F H) = true) (r:GhS n0 (frOf (Go.Sp.thaw t sz F H)) (hpOf (Go.Sp.thaw t sz F H)) F' H'):GhS n0 F H F' H':=.step (.thaw (some_of h)) r
theorem GhS.freeze (m t sz:Nat) {F F':Fr} {H H':AHeap} (hn:Nat.ble n0 m = true) (h:isS (Go.Sp.freeze m t sz false F H) = true) (r:GhS n0 (frOf (Go.Sp.freeze m t sz false F H)) (hpOf (Go.Sp.freeze m t sz false F H)) F' H'):GhS n0 F H F' H':=
 .step (.freeze (Nat.le_of_ble_eq_true hn) (some_of h)) r
theorem GhS.freezeC (m t sz:Nat) (c:Bool) {F F1 F':Fr} {H H1 H':AHeap} (hn:Nat.ble n0 m = true) (h:Go.Sp.freeze m t sz false F H = bb c (some (F1,H1)) none) (hc:c = true) (r:GhS n0 F1 H1 F' H'):GhS n0 F H F' H':=
 .step (.freeze (Nat.le_of_ble_eq_true hn) (by rw [h,hc];rfl)) r
theorem GhS.weak (t:Nat) (v':Value) {F F':Fr} {H H':AHeap} {v:Value} (hv:F.get t = v) (h:Weak v v') (r:GhS n0 (F.put (some t) v') H F' H'):GhS n0 F H F' H':=.step (.weak (by rw [hv];exact h)) r
theorem GhS.run {c:RC} {F F':Fr} {H H':AHeap} {Q:Ex→Fr→AHeap→Prop} (h:GhS n0 F H F' H') (hr:Run tt call n0 c F' H' Q):Run tt call n0 c F H Q:=by
 induction h with
 | id=>exact hr
 | step hg _ ih=>exact .gh hg (ih hr)
theorem Run.ghs {c:RC} {F:Fr} {H:AHeap} {Q:Ex→Fr→AHeap→Prop} (F':Fr) (H':AHeap) (h:GhS n0 F H F' H') (hr:Run tt call n0 c F' H' Q):Run tt call n0 c F H Q:=h.run hr
theorem Run.same {c:RC} {F F':Fr} {H H':AHeap} {Q:Ex→Fr→AHeap→Prop} (hF:F = F') (hH:H = H') (hr:Run tt call n0 c F' H' Q):Run tt call n0 c F H Q:=by rw [hF,hH];exact hr
theorem Run.ifT {c:Operand} {a b:RC} {F:Fr} {H:AHeap} {Q:Ex→Fr→AHeap→Prop} (e:Bool) (he:vBool (F.eval c) = some e) (hb:e = true) (h:Run tt call n0 a F H Q):Run tt call n0 (.cond c a b) F H Q:=.condT (by rw [he,hb]) h
theorem Run.ifF {c:Operand} {a b:RC} {F:Fr} {H:AHeap} {Q:Ex→Fr→AHeap→Prop} (e:Bool) (he:vBool (F.eval c) = some e) (hb:e = false) (h:Run tt call n0 b F H Q):Run tt call n0 (.cond c a b) F H Q:=.condF (by rw [he,hb]) h
def At {α:Type} (n0:Nat) (S:α→Fr×AHeap) (M:α→Option Value) (v:Value) (F:Fr) (H:AHeap):Prop:=∃ y:α,M y = some v∧GhS n0 F H (S y).1 (S y).2
theorem Run.join {α : Type} (S : α → Fr × AHeap) (M : α → Option Value) {v : Value} {a b : RC} {F : Fr} {H : AHeap} {Q : Ex → Fr → AHeap → Prop} (hrest : ∀ y, M y = some v → Run tt call n0 b (S y).1 (S y).2 Q)
 (ha:Run tt call n0 a F H (Aft Q (At n0 S M v))):Run tt call n0 (.seq a b) F H Q:=
 .then (.mono ha fun e F H h=>by
  cases e with
  | normal=>obtain ⟨y,h2,h3⟩:=h;exact h3.run (hrest y h2)
  | exit j=>exact h
  | goto j=>exact h
  | ret=>exact h)
theorem Run.loopM {α : Type} (S : α → Fr × AHeap) (M : Nat → α → Option Value) {v : Value} {b : RC} {F : Fr} {H : AHeap} {Q : Ex → Fr → AHeap → Prop} (n : Nat) (h0 : At n0 S (M n) v F H) (hz : ∀ y, M 0 y = none)
 (hstep:∀ m y,M (m + 1) y = some v→Run tt call n0 b (S y).1 (S y).2 (Aft Q (At n0 S (M m) v))):Run tt call n0 (.loop b) F H Q:=by
 refine .loop (fun m F H=>At n0 S (M m) v F H) n h0 fun m F H hI=>?_
 obtain ⟨y,h2,h3⟩:=hI
 cases m with
 | zero=>rw [hz] at h2;cases h2
 | succ m =>
  refine h3.run (.mono (hstep m y h2) fun e F H h=>?_)
  cases e with
  | normal=>exact ⟨m,by omega,h⟩
  | exit j=>exact h
  | goto j=>exact h
  | ret=>exact h
noncomputable def growC (sz bytes n c2 k:Nat) (xs:List Value):Bool:=an (roomy (n + k) bytes) (an (nt (Nat.ble (n + k) (c2 / 2))) (an (Nat.ble (0 + n * sz) (len xs)) (an (nt (Nat.beq (c2 % 2) 1)) (Nat.beq (0 + n * sz) (len xs)))))
theorem growC_some {sz bytes n c2 k:Nat} {xs:List Value} (h:growC sz bytes n c2 k xs = true):roomy (n + k) bytes = true∧Nat.ble (n + k) (c2 / 2) = false∧Nat.ble (0 + n * sz) (len xs) = true∧Nat.beq (c2 % 2) 1 = false∧Nat.beq (0 + n * sz) (len xs) = true:=by
 obtain ⟨h1,h⟩:=an_inv h
 obtain ⟨h2,h⟩:=an_inv h
 obtain ⟨h3,h⟩:=an_inv h
 obtain ⟨h4,h5⟩:=an_inv h
 exact ⟨h1,nt_false h2,h3,nt_false h4,h5⟩
noncomputable def growR (sz n k id:Nat) (xs new:List Value) (anc:List Nat) (H:AHeap):Value×AHeap:=
 (sliceAt H.next 0 sz (n + k) (n + k) false,(H.set id (.cells xs false true anc)).push (.cells (appL (dropL 0 xs) new) false false (id :: anc)))
noncomputable def growD (sz bytes n c2 k id:Nat) (xs new:List Value) (anc:List Nat) (H:AHeap):Option (Value×AHeap):=
 bb (roomy (n + k) bytes) (bb (Nat.ble (n + k) (c2 / 2)) (oo (awrite H id (0 + n * sz) new) none fun H' => some (.slice (some ⟨id, 0, some sz⟩) (n + k) c2, H'))
  (bb (Nat.ble (0 + n * sz) (len xs)) (bb (Nat.beq (c2 % 2) 1) (some (sliceAt H.next 0 sz (n + k) (n + k) false, H.push (.cells (appL (takeL (n * sz) (dropL 0 xs)) new) false false [])))
    (bb (an (Nat.beq (0 + n * sz) (len xs)) true) (some (growR sz n k id xs new anc H)) none)) none)) none
theorem growD_eq {sz bytes n c2 k id:Nat} {xs new:List Value} {anc:List Nat} {H:AHeap} (h:growC sz bytes n c2 k xs = true):growD sz bytes n c2 k id xs new anc H = some ((growR sz n k id xs new anc H).1,(growR sz n k id xs new anc H).2):=by
 obtain ⟨h1,h2,h3,h4,h5⟩:=growC_some h
 unfold growD
 rw [h1,h2,h3,h4,h5];rfl

noncomputable def appFs (H:AHeap) (sz bytes:Nat) (s:Value) (x:Sl):Option (Value×AHeap):=oo (sliceCells H sz x.n (x.v sz)) none fun new=>aappendCells H sz bytes s x.n new
theorem sliceCells_fs {H:AHeap} {sz:Nat} {x:Sl} (h:Nat.beq x.n 0 = false):sliceCells H sz x.n (x.v sz) = some (takeL (x.n * sz) x.cs):=by
 show bb (Nat.beq x.n 0) (some []) (bb (an (Nat.beq sz sz) (Nat.ble x.n x.n)) (some (takeL (x.n * sz) x.cs)) none) = _
 rw [h,Nat.beq_refl,Nat.ble_eq_true_of_le (Nat.le_refl _)];rfl
theorem sliceCells_fs0 {H:AHeap} {sz:Nat} {x:Sl} (h:Nat.beq x.n 0 = true):sliceCells H sz x.n (x.v sz) = some []:=by
 show bb (Nat.beq x.n 0) (some []) (bb (an (Nat.beq sz sz) (Nat.ble x.n x.n)) (some (takeL (x.n * sz) x.cs)) none) = _
 rw [h];rfl
theorem appFs_sl0 {H:AHeap} {id o sz bytes ln c2:Nat} {x:Sl} (h:Nat.beq x.n 0 = true):appFs H sz bytes (.slice (some ⟨id,o,some sz⟩) ln c2) x = some (.slice (some ⟨id,o,some sz⟩) ln c2,H):=by
 unfold appFs;rw [sliceCells_fs0 h]
 show bb (Nat.beq x.n 0) _ _ = _
 rw [h];rfl
theorem fin_ret {rs:List ResultVar} {v:Value} {F:Fr} {H:AHeap} (r:Value) (h:aresults tt F H rs = some r) (hc:closedV r = true) (hm:some r = some v):Fin tt n0 rs v .ret F H:=by injection hm with hm;subst hm;exact ⟨r,H,h,.refl _ _ r,hc⟩
end
section
variable {tt:TT} {call:CallF} {n0:Nat}
theorem eC {ops : List ROp} {F : Fr} {H H1 : AHeap} {v : Value} {r : Option (Fr × AHeap)} (i : Nat) (D : Option (Value × AHeap)) (hD : D = some (v, H1))
 (h2:evOps tt call (dropL 1 (dropL i ops)) (putAt (dropL i ops) (frOf (evOps tt call (takeL i ops) F H)) v) H1 = r)
 (h0:isS (evOps tt call (takeL i ops) F H) = true:=by kernel_rfl)
 (h1:opAt (dropL i ops) tt call (frOf (evOps tt call (takeL i ops) F H)) (hpOf (evOps tt call (takeL i ops) F H)) = D:=by kernel_rfl)
 (hw:okAtW (dropL i ops) (frOf (evOps tt call (takeL i ops) F H)) (hpOf (evOps tt call (takeL i ops) F H)) = true:=by kernel_rfl)
 (hs:sigAt (dropL i ops) (frOf (evOps tt call (takeL i ops) F H)) (hpOf (evOps tt call (takeL i ops) F H)) = sigAt (dropL i ops) (frOf (evOps tt call (takeL i ops) F H)) H1:=by kernel_rfl):evOps tt call ops F H = r:=
 evOps_cut i h0 (evOps_data D h1 hD (okAt_of hw hs) h2)
theorem eD {ops : List ROp} {F : Fr} {H H1 : AHeap} {v : Value} {r : Option (Fr × AHeap)} (D : Option (Value × AHeap)) (hD : D = some (v, H1)) (h2 : evOps tt call (dropL 1 ops) (putAt ops F v) H1 = r)
 (h1:opAt ops tt call F H = D:=by kernel_rfl) (hw:okAtW ops F H = true:=by kernel_rfl) (hs:sigAt ops F H = sigAt ops F H1:=by kernel_rfl):evOps tt call ops F H = r:=evOps_data D h1 hD (okAt_of hw hs) h2
theorem eN {ops:List ROp} {F:Fr} {H:AHeap} {r:Option (Fr×AHeap)} (m:Nat) (F1:Fr) (H1:AHeap) (h1:evOps tt call (takeL m ops) F H = some (F1,H1)) (h2:evOps tt call (dropL m ops) F1 H1 = r):evOps tt call ops F H = r:=by
 rw [evOps_app m,h1];exact h2
theorem eE {o:Option (Fr×AHeap)} (h:isS o = true:=by kernel_rfl):o = some (frOf o,hpOf o):=some_of h
theorem Run.rK {ord:List Nat} {ops:List ROp} {F:Fr} {H:AHeap} {Q:Ex→Fr→AHeap→Prop} (h:Q .normal (frOf (evOps tt call ops F H)) (hpOf (evOps tt call ops F H))) (he:isS (evOps tt call ops F H) = true:=by kernel_rfl):Run tt call n0 (.reg ord ops) F H Q:=.reg (some_of he) h
theorem GhS.k (trs:List Nat) (ents:List Bool) (rs:List Rt) (live:List Nat) {F F':Fr} {H H':AHeap} (htr:TrOk H trs) (h:Go.Sp.gc trs ents rs live F H = some (F',H'):=by kernel_rfl) (hn:Nat.ble n0 (len ents) = true:=by kernel_rfl):GhS n0 F H F' H':=.gc trs ents rs live hn htr h
theorem GhS.k0 (ents:List Bool) (rs:List Rt) (live:List Nat) {F F':Fr} {H H':AHeap} (h:Go.Sp.gc [] ents rs live F H = some (F',H'):=by kernel_rfl) (hn:Nat.ble n0 (len ents) = true:=by kernel_rfl):GhS n0 F H F' H':=.gc [] ents rs live hn trivial h
end
theorem inv_toI {β:Type} {k:IntKind} {v:Value} {f:Int→Option β} {r:β} (h:oo (toI k v) none f = some r):∃ x,v = .int k x∧f x = some r:=by obtain ⟨x,h1,h2⟩:=oo_inv h;exact ⟨x,toI_some h1,h2⟩
theorem inv_toSl {β:Type} {k:Nat} {v:Value} {f:Sl→Option β} {r:β} (h:oo (toSl k v) none f = some r):∃ x,v = Sl.v k x∧f x = some r:=by obtain ⟨x,h1,h2⟩:=oo_inv h;exact ⟨x,toSl_some h1,h2⟩
theorem inv_vBool {β:Type} {v:Value} {f:Bool→Option β} {r:β} (h:oo (vBool v) none f = some r):∃ x,v = .bool x∧f x = some r:=by obtain ⟨x,h1,h2⟩:=oo_inv h;exact ⟨x,vBool_some h1,h2⟩
theorem inv_vTup {β:Type} {v:Value} {f:List Value→Option β} {r:β} (h:oo (vTup v) none f = some r):∃ x:List Value,v = .tuple ⟨x⟩∧f x = some r:=by obtain ⟨x,h1,h2⟩:=oo_inv h;exact ⟨x,vTup_some h1,h2⟩
theorem inv_vAgg {β:Type} {v:Value} {f:List Value→Option β} {r:β} (h:oo (vAgg v) none f = some r):∃ x:List Value,v = .agg ⟨x⟩∧f x = some r:=by obtain ⟨x,h1,h2⟩:=oo_inv h;exact ⟨x,vAgg_some h1,h2⟩
end Go.Sp
namespace Go.Sp

def FlFs (p : TypeId → List Value → Prop) : List Field → Nat → List Value → Prop
 | [],_,zs=>zs = []
 | f :: r, off, zs => f.name ≠ "_" ∧ f.offset = off ∧ ∃ z1 z2, zs = z1 ++ z2 ∧ p f.type z1 ∧ FlFs p r (off + z1.length) z2

def Fl (P : Program) : Nat → TypeId → List Value → Prop
 | 0,_,_=>False
 | d + 1, t, zs => P.cellsOf t = zs.length ∧ (
  ((∃ k,P.underlying t = some (.int k))∧(∃ k n,zs = [.int k n]))∨(P.underlying t = some .bool∧∃ b,zs = [.bool b])∨(P.underlying t = some .string∧∃ s,zs = [.string s]) ∨
  (∃ l e z1,P.underlying t = some (.array l e)∧Fl P d e z1∧zs = zeroRow z1 l) ∨
  (∃ fs,P.underlying t = some (.struct fs)∧P.stoodInHeld t = false∧FlFs (Fl P d) fs.toList 0 zs))

theorem kindsLike_split {z1 z2 xs:List Value} (h:kindsLike (z1 ++ z2) xs = true):kindsLike z1 (xs.take z1.length) = true∧kindsLike z2 (xs.drop z1.length) = true:=by
 induction z1 generalizing xs with
 | nil=>exact ⟨rfl,h⟩
 | cons z z1 ih => cases xs with
  | nil=>cases h
  | cons x xs =>
   obtain ⟨h3,h4⟩:=an_inv (show an (kindLike z x) (kindsLike (z1 ++ z2) xs) = true from h)
   obtain ⟨h5,h6⟩:=ih h4
   exact ⟨by show an (kindLike z x) (kindsLike z1 (xs.take z1.length)) = true;rw [h3,h5];rfl,h6⟩

theorem cellsEq_split {n:Nat} {xs ys:List Value} {b:Bool} (h:cellsEq xs ys = some b):∃ p q,cellsEq (xs.take n) (ys.take n) = some p∧cellsEq (xs.drop n) (ys.drop n) = some q∧b = (p && q):=by
 induction xs generalizing ys b n with
 | nil => cases ys with
  | nil=>refine ⟨true,true,?_,?_,?_⟩ <;> first | (simp;rfl) | (injection h with h;simp [←h])
  | cons y ys=>cases h
 | cons x xs ih => cases ys with
  | nil=>cases h
  | cons y ys =>
   cases n with
   | zero=>exact ⟨true,b,rfl,h,by simp⟩
   | succ n =>
    obtain ⟨p,hp,h1⟩:=oo_inv (show oo (cellEq x y) none (fun b=>oo (cellsEq xs ys) none fun c=>some (an b c)) = some b from h)
    obtain ⟨q,hq,h2⟩:=oo_inv h1
    obtain ⟨p',q',h3,h4,rfl⟩:=ih (n:=n) hq
    injection h2 with h2
    refine ⟨an p p',q',?_,h4,?_⟩
    ·show oo (cellEq x y) none (fun b => oo (cellsEq (xs.take n) (ys.take n)) none fun c => some (an b c)) = _
     rw [hp,oo_some,h3,oo_some]
    ·rw [←h2];simp [an_eq,Bool.and_assoc]

section
variable {P:Program}

theorem isAgg_run {t:TypeId} {d:TypeDesc} (h:P.underlying t = some d) (w:World):(isAgg t).run P w = .ok (isAggT d) w:=by
 simp only [isAgg,Sem.run_bind,run_underlying h,Result.andThen_ok]
 cases d <;> rfl

def Boxed (P:Program) (t:TypeId) (zs:List Value) (v:Value):Prop:=∃ d,P.underlying t = some d∧((isAggT d = true∧v = .agg ⟨zs⟩)∨(isAggT d = false∧zs = [v]))

theorem Fl.info {d:Nat} {t:TypeId} {zs:List Value} (h:Fl P d t zs):∃ k i,P.underlying t = some k∧P.info? t = some i∧P.cellsOf t = zs.length:=by
 cases d with
 | zero=>exact h.elim
 | succ d =>
  obtain ⟨hc,h⟩:=h
  have:∃ k,P.underlying t = some k:=by
   rcases h with ⟨⟨k,h⟩,_⟩ | ⟨h,_⟩ | ⟨h,_⟩ | ⟨l,e,z1,h,_⟩ | ⟨fs,h,_⟩ <;> exact ⟨_,h⟩
  obtain ⟨k,hk⟩:=this
  obtain ⟨i,hi⟩:=info_of_underlying hk
  exact ⟨k,i,hk,hi,hc⟩

theorem Fl.part {d : Nat} {t : TypeId} {zs : List Value} (h : Fl P d t zs) {xs : List Value} {off : Nat} (hle : off + zs.length ≤ xs.length) (w : World) :
 ∃ v,(Go.part t ⟨xs⟩ off).run P w = .ok v w∧Boxed P t ((xs.drop off).take zs.length) v:=by
 obtain ⟨k,i,hk,hi,hc⟩:=h.info
 by_cases ha:isAggT k = true
 ·refine ⟨.agg ⟨(xs.drop off).take zs.length⟩, ?_, k, hk, .inl ⟨ha, rfl⟩⟩
  simp only [Go.part,Sem.run_bind,isAgg_run hk,ha,Result.andThen_ok,if_true,run_sizeOf w hi,Sem.run_pure,hc]
  congr 2
  simp [List.extract_toArray,List.extract_eq_take_drop]
 ·have ha : isAggT k = false := by simpa using ha
  have hn:zs.length = 1:=by
   cases d with
   | zero=>exact h.elim
   | succ d =>
    rcases h.2 with ⟨_,_,_,h⟩ | ⟨_,_,h⟩ | ⟨_,_,h⟩ | ⟨l,e,z1,h,_⟩ | ⟨fs,h,_⟩
    ·rw [h];rfl
    ·rw [h];rfl
    ·rw [h];rfl
    ·rw [hk] at h;cases h;cases ha
    ·rw [hk] at h;cases h;cases ha
  rw [hn] at hle ⊢
  have hlt:off < xs.length:=by omega
  refine ⟨xs[off],?_,k,hk,.inr ⟨ha,?_⟩⟩
  ·simp only [Go.part, Sem.run_bind, isAgg_run hk, ha, Result.andThen_ok, Bool.false_eq_true, if_false]
   simp [List.getElem?_eq_getElem hlt]
  ·rw [List.drop_eq_getElem_cons hlt];rfl

theorem zeroRow_len (z:List Value) (n:Nat):(zeroRow z n).length = n * z.length:=by
 induction n with
 | zero=>show ([]:List Value).length = _;simp
 | succ n ih=>show (appL z (zeroRow z n)).length = _;rw [appL_eq,List.length_append,ih,Nat.succ_mul];omega

theorem eqItems_ok {d : Nat} {e : TypeId} {z1 : List Value} (he : Fl P d e z1) {D : Nat}
 (ih:∀ (xs ys:List Value) (x y:Value) (b:Bool) (w:World),kindsLike z1 xs = true→Boxed P e xs x→Boxed P e ys y→cellsEq xs ys = some b→(Op.equalIn D e x y).run P w = .ok b w) (w:World) :
 ∀ (k i : Nat) (xs ys : List Value) (b : Bool), xs.length = (i + k) * z1.length → kindsLike (zeroRow z1 k) (xs.drop (i * z1.length)) = true → cellsEq (xs.drop (i * z1.length)) (ys.drop (i * z1.length)) = some b → ys.length = xs.length →
  (Op.eqItems D e z1.length ⟨xs⟩ ⟨ys⟩ (List.range' i k)).run P w = .ok b w:=by
 intro k
 induction k with
 | zero =>
  intro i xs ys b hl _ h hy
  rw [List.drop_eq_nil_of_le (by simp at hl;omega),List.drop_eq_nil_of_le (by simp at hl;omega)] at h
  injection h with h;subst h
  simp [Op.eqItems]
 | succ k ihk =>
  intro i xs ys b hl hk h hy
  have e1:(i + (k + 1)) * z1.length = i * z1.length + z1.length + k * z1.length:=by rw [Nat.add_mul,Nat.succ_mul];omega
  have hl':=hl
  rw [e1] at hl'
  obtain ⟨x,hx,bx⟩:=he.part (xs:=xs) (off:=i * z1.length) (by omega) w
  obtain ⟨y,hy',byy⟩:=he.part (xs:=ys) (off:=i * z1.length) (by omega) w
  obtain ⟨p,q,h1,h2,rfl⟩:=cellsEq_split (n:=z1.length) h
  have hk:kindsLike (z1 ++ zeroRow z1 k) (xs.drop (i * z1.length)) = true:=by have:=hk;rwa [show zeroRow z1 (k + 1) = appL z1 (zeroRow z1 k) from rfl,appL_eq] at this
  obtain ⟨hk1,hk2⟩:=kindsLike_split hk
  rw [List.drop_drop] at hk2
  rw [List.drop_drop,List.drop_drop] at h2
  have hrun:=ih _ _ x y p w hk1 bx byy h1
  simp only [List.range',Op.eqItems,Sem.run_bind,hx,hy',hrun,Result.andThen_ok]
  cases p with
  | false=>simp
  | true =>
   simp only [Bool.true_and,if_true]
   have e2:(i + 1) * z1.length = i * z1.length + z1.length:=by rw [Nat.succ_mul]
   refine ihk (i + 1) xs ys q (by rw [hl];congr 1;omega) (by rw [e2];exact hk2) ?_ hy
   rw [e2]
   exact h2

theorem run_equalIn_struct' (D : Nat) {t : TypeId} {fs : Array Field} (xs ys : Array Value) (hu : P.underlying t = some (.struct fs)) (hst : P.stoodInHeld t = false) (w : World) :
 (Op.equalIn (D + 1) t (.agg xs) (.agg ys)).run P w = (Op.eqFields D xs ys fs.toList).run P w:=by
 have hf:P.fieldsOf t = fs:=by unfold Program.fieldsOf;rw [hu]
 have:=run_equalIn_struct w D t xs ys (by rw [hf];exact hu) hst
 rw [this,hf]

theorem eqFields_ok {d : Nat} {D : Nat}
 (ih:∀ (t:TypeId) (zs:List Value),Fl P d t zs→∀ (xs ys:List Value) (x y:Value) (b:Bool) (w:World),kindsLike zs xs = true→Boxed P t xs x→Boxed P t ys y→cellsEq xs ys = some b→(Op.equalIn D t x y).run P w = .ok b w) (w:World) :
 ∀ (fs : List Field) (off : Nat) (zs xs ys : List Value) (b : Bool), FlFs (Fl P d) fs off zs → kindsLike zs (xs.drop off) = true → off ≤ xs.length → cellsEq (xs.drop off) (ys.drop off) = some b → ys.length = xs.length →
  (Op.eqFields D ⟨xs⟩ ⟨ys⟩ fs).run P w = .ok b w:=by
 intro fs
 induction fs with
 | nil =>
  intro off zs xs ys b hf hk ho h hy
  have hf:zs = []:=hf
  subst hf
  have hl:=kindsLike_len hk
  simp only [List.length_drop,List.length_nil] at hl
  rw [List.drop_eq_nil_of_le (by omega),List.drop_eq_nil_of_le (by omega)] at h
  injection h with h;subst h
  simp [Op.eqFields]
 | cons f fs ihf =>
  intro off zs xs ys b hf hk ho h hy
  obtain ⟨h1,h2,z1,z2,rfl,h3,h4⟩:=hf
  have hl:=kindsLike_len hk
  simp only [List.length_drop,List.length_append] at hl
  obtain ⟨x,hx,bx⟩:=h3.part (xs:=xs) (off:=off) (by omega) w
  obtain ⟨y,hy',byy⟩:=h3.part (xs:=ys) (off:=off) (by omega) w
  obtain ⟨p,q,g1,g2,rfl⟩:=cellsEq_split (n:=z1.length) h
  obtain ⟨hk1,hk2⟩:=kindsLike_split hk
  rw [List.drop_drop] at hk2
  rw [List.drop_drop,List.drop_drop] at g2
  have hrun:=ih f.type z1 h3 _ _ x y p w hk1 bx byy g1
  simp only [Op.eqFields,if_pos h1,Sem.run_bind,h2,hx,hy',hrun,Result.andThen_ok]
  cases p with
  | false=>simp
  | true =>
   simp only [Bool.not_true,Bool.false_eq_true,if_false,Sem.run_pure,Result.andThen_ok,Bool.true_and]
   exact ihf _ z2 xs ys q h4 hk2 (by omega) g2 hy

theorem Fl.equal {d : Nat} : ∀ {t : TypeId} {zs : List Value}, Fl P d t zs → ∀ (D : Nat) (xs ys : List Value) (x y : Value) (b : Bool) (w : World), kindsLike zs xs = true → Boxed P t xs x → Boxed P t ys y → cellsEq xs ys = some b →
 (Op.equalIn (D + d) t x y).run P w = .ok b w:=by
 induction d with
 | zero=>intro t zs h;exact h.elim
 | succ d ih =>
  intro t zs h D xs ys x y b w hn hx hy hb
  obtain ⟨kx,hkx,hx⟩:=hx
  obtain ⟨ky,hky,hy⟩:=hy
  rw [hkx] at hky;cases hky
  have hlen:=cellsEq_len hb
  have hlz:=kindsLike_len hn
  have leaf:isAggT kx = false→xs = [x]∧ys = [y]∧cellEq x y = some b:=fun hag=>by
   rcases hx with ⟨h',_⟩ | ⟨_,rfl⟩
   ·rw [hag] at h';cases h'
   rcases hy with ⟨h',_⟩ | ⟨_,rfl⟩
   ·rw [hag] at h';cases h'
   obtain ⟨p,hp,h1⟩:=oo_inv (show oo (cellEq x y) none (fun b=>oo (cellsEq [] []) none fun c=>some (an b c)) = some b from hb)
   have h1:some (an p true) = some b:=h1
   injection h1 with h1
   have hpb:p = b:=by simpa [an_eq] using h1
   exact ⟨rfl,rfl,by rw [hp,hpb]⟩
  have agg:isAggT kx = true→x = .agg ⟨xs⟩∧y = .agg ⟨ys⟩:=fun hag=>by
   rcases hx with ⟨_,h1⟩ | ⟨h',_⟩
   ·rcases hy with ⟨_, h2⟩ | ⟨h', _⟩
    ·exact ⟨h1,h2⟩
    ·rw [hag] at h';cases h'
   ·rw [hag] at h';cases h'
  show (Op.equalIn ((D + d) + 1) t x y).run P w = _
  rcases h.2 with ⟨⟨k,hu⟩,_,_,rfl⟩ | ⟨hu,_,rfl⟩ | ⟨hu,_,rfl⟩ | ⟨l,e,z1,hu,he,rfl⟩ | ⟨fs,hu,hst,hf⟩
  ·rw [hkx] at hu; cases hu
   obtain ⟨rfl,rfl,hc⟩:=leaf rfl
   obtain ⟨h3,_⟩:=an_inv (show an (isS (vInt x)) _ = true from hn)
   cases hv:vInt x with
   | none=>rw [hv] at h3;cases h3
   | some p =>
    have:=vInt_some hv;subst this
    obtain ⟨q,hq,h5⟩:=oo_inv (show oo (vInt y) none (fun q=>pp q fun j b=>bb (intKindEq p.1 j) (some (ieq p.2 b)) none) = some b from hc)
    rw [pp_eta] at h5
    obtain ⟨h6,h7⟩:=bb_inv h5
    have:=vInt_some hq;subst this
    have:=intKindEq_iff h6
    rw [←this,run_equalIn_int w (D + d) t p.1 k p.2 q.2 hkx]
    injection h7 with h7
    rw [←h7,ieq_eq]
  ·rw [hkx] at hu; cases hu
   obtain ⟨rfl,rfl,hc⟩:=leaf rfl
   obtain ⟨h3,_⟩:=an_inv (show an (isS (vBool x)) _ = true from hn)
   cases hv:vBool x with
   | none=>rw [hv] at h3;cases h3
   | some p =>
    have:=vBool_some hv;subst this
    obtain ⟨q,hq,h5⟩:=oo_inv (show oo (vBool y) none (fun b=>some (bq p b)) = some b from hc)
    have:=vBool_some hq;subst this
    rw [run_equalIn_bool w (D + d) t p q hkx]
    injection h5 with h5
    rw [←h5];cases p <;> cases q <;> rfl
  ·rw [hkx] at hu; cases hu
   obtain ⟨rfl,rfl,hc⟩:=leaf rfl
   obtain ⟨h3,_⟩:=an_inv (show an (isS (vStr x)) _ = true from hn)
   cases hv:vStr x with
   | none=>rw [hv] at h3;cases h3
   | some p =>
    have:=vStr_some hv;subst this
    obtain ⟨q,hq,h5⟩:=oo_inv (show oo (vStr y) none (fun b=>some (p == b)) = some b from hc)
    have:=vStr_some hq;subst this
    rw [run_equalIn_string w (D + d) t p q hkx]
    injection h5 with h5
    rw [←h5,beq_toListBytes]
  ·rw [hkx] at hu; cases hu
   obtain ⟨rfl,rfl⟩:=agg rfl
   obtain ⟨k,i,hk,hi,hc⟩:=he.info
   rw [run_equalIn_array (d:=D + d) w ⟨xs⟩ ⟨ys⟩ hkx hi,List.range_eq_range',hc]
   exact eqItems_ok he (fun xs ys x y b w hk bx byy hb=>ih he D xs ys x y b w hk bx byy hb) w l 0 xs ys b (by rw [hlz,zeroRow_len,Nat.zero_add]) (by simpa using hn) (by simpa using hb) hlen.symm
  ·rw [hkx] at hu; cases hu
   obtain ⟨rfl,rfl⟩:=agg rfl
   rw [run_equalIn_struct' (D + d) ⟨xs⟩ ⟨ys⟩ hkx hst w]
   exact eqFields_ok (fun t zs hf xs ys x y b w hk bx byy hb=>ih hf D xs ys x y b w hk bx byy hb) w fs.toList 0 zs xs ys b hf (by simpa using hn) (Nat.zero_le _) (by simpa using hb) hlen.symm

theorem forIn_ok {α:Type} {l:List α} {f:α→Unit→Sem (ForInStep Unit)} {w:World} (h:∀ a ∈ l,(f a ()).run P w = .ok (.yield ()) w):(forIn l () f).run P w = .ok () w:=by
 induction l with
 | nil=>simp
 | cons a l ih =>
  simp only [List.forIn_cons,Sem.run_bind,h a (by simp),Result.andThen_ok]
  exact ih fun b hb=>h b (by simp [hb])

theorem Fl.check {d : Nat} : ∀ {t : TypeId} {zs : List Value}, Fl P d t zs → ∀ (e : Bool) (D : Nat) (xs : List Value) (x : Value) (w : World), xs.length = zs.length → Boxed P t xs x →
 (Instr.checkKey e (D + d) t x).run P w = .ok () w:=by
 induction d with
 | zero=>intro t zs h;exact h.elim
 | succ d ih =>
  intro t zs h e D xs x w hn hx
  obtain ⟨kx,hkx,hx⟩:=hx
  have agg:isAggT kx = true→x = .agg ⟨xs⟩:=fun hag=>by
   rcases hx with ⟨_,h1⟩ | ⟨h',_⟩
   ·exact h1
   ·rw [hag] at h';cases h'
  show (Instr.checkKey e ((D + d) + 1) t x).run P w = _
  rcases h.2 with ⟨⟨k,hu⟩,_⟩ | ⟨hu,_⟩ | ⟨hu,_⟩ | ⟨l,el,z1,hu,he,rfl⟩ | ⟨fs,hu,hst,hf⟩
  ·simp [Instr.checkKey,run_underlying hu]
  ·simp [Instr.checkKey,run_underlying hu]
  ·simp [Instr.checkKey,run_underlying hu]
  ·rw [hkx] at hu; cases hu
   obtain rfl:=agg rfl
   obtain ⟨k,i,hk,hi,hc⟩:=he.info
   rw [zeroRow_len] at hn
   simp only [Instr.checkKey,Sem.run_bind,run_underlying hkx,Result.andThen_ok,Std.Legacy.Range.forIn_eq_forIn_range',Std.Legacy.Range.size,Nat.sub_zero,Nat.add_one_sub_one,Nat.div_one]
   have hall:∀ j ∈ List.range' 0 l,(do let n ←sizeOf el;let v ←Go.part el ⟨xs⟩ (j * n);Instr.checkKey e (D + d) el v;pure (ForInStep.yield PUnit.unit):Sem (ForInStep PUnit)).run P w = .ok (.yield ()) w:=fun j hj=>by
    have hj:j < l:=by simpa using hj
    have hle:j * z1.length + z1.length≤xs.length:=by
     rw [hn,←Nat.succ_mul];exact Nat.mul_le_mul_right _ hj
    obtain ⟨v,hv,bv⟩:=he.part (xs:=xs) (off:=j * z1.length) hle w
    have:=ih he e D _ v w (by simp;omega) bv
    simp [run_sizeOf w hi,hc,hv,this]
   rw [forIn_ok hall];rfl
  ·rw [hkx] at hu; cases hu
   obtain rfl:=agg rfl
   have main:∀ (fs:List Field) (off:Nat) (zs:List Value),FlFs (Fl P d) fs off zs→off + zs.length = xs.length→∀ f ∈ fs,∃ v,(Go.part f.type ⟨xs⟩ f.offset).run P w = .ok v w∧(Instr.checkKey e (D + d) f.type v).run P w = .ok () w:=by
    intro fs
    induction fs with
    | nil=>intro _ _ _ _ f hf;cases hf
    | cons g gs ihg =>
     intro off zs hf hl f hfm
     obtain ⟨h1,h2,z1,z2,rfl,h3,h4⟩:=hf
     simp only [List.length_append] at hl
     rcases List.mem_cons.1 hfm with rfl | hm
     ·obtain ⟨v, hv, bv⟩ := h3.part (xs := xs) (off := off) (by omega) w
      exact ⟨v,by rw [h2];exact hv,ih h3 e D _ v w (by simp;omega) bv⟩
     ·exact ihg _ _ h4 (by omega) f hm
   simp only [Instr.checkKey,Sem.run_bind,run_underlying hkx,Result.andThen_ok]
   rw [←Array.forIn_toList]
   have hall : ∀ f ∈ fs.toList, (if f.name ≠ "_" then do let v ← Go.part f.type ⟨xs⟩ f.offset; Instr.checkKey e (D + d) f.type v; pure (ForInStep.yield PUnit.unit) else pure (ForInStep.yield PUnit.unit) : Sem (ForInStep PUnit)).run P w = .ok (.yield ()) w := fun f hfm => by
    by_cases hne : f.name ≠ "_"
    ·obtain ⟨v, hv, hc⟩ := main fs.toList 0 zs hf (by omega) f hfm
     simp [hne,hv,hc]
    ·simp [hne]
   rw [forIn_ok hall];rfl

theorem Fl.ok {d:Nat} {t:TypeId} {zs:List Value} (h:Fl P d t zs) (hd:d≤10000) (hag:∃ k,P.underlying t = some k∧isAggT k = true) (hg:P.eqGuardType P.depth t = false):FlatOk P t zs:=by
 obtain ⟨k,hk,ha⟩:=hag
 refine ⟨fun xs ys b w hl hb=>?_,hg,fun xs w e hl=>?_⟩
 ·have := h.equal (10000 - d) xs ys (.agg ⟨xs⟩) (.agg ⟨ys⟩) b w hl ⟨k, hk, .inl ⟨ha, rfl⟩⟩ ⟨k, hk, .inl ⟨ha, rfl⟩⟩ hb
  rwa [Nat.sub_add_cancel hd] at this
 ·have := h.check e (10000 - d) xs (.agg ⟨xs⟩) w hl ⟨k, hk, .inl ⟨ha, rfl⟩⟩
  rwa [Nat.sub_add_cancel hd] at this
end
end Go.Sp
namespace Go.Sp

def Tr.All {α : Type} (p : Nat → α → Prop) : Tr α → Prop
 | .nil=>True
 | .node v l r=>(match v with | some a=>p 0 a | none=>True)∧Tr.All (fun i=>p (2 * i + 1)) l∧Tr.All (fun i=>p (2 * i + 2)) r

theorem Tr.All.get {α:Type} {t:Tr α}:∀ {p:Nat→α→Prop},t.All p→∀ {i:Nat} {a:α},t.get i = some a→p i a:=by
 induction t with
 | nil=>intro p _ i a h;cases h
 | node v l r ihl ihr =>
  intro p h i a hg
  obtain ⟨h0,h1,h2⟩:=h
  cases i with
  | zero =>
   have:v = some a:=hg
   subst this;exact h0
  | succ j =>
   have hg:Bool.rec (motive:=fun _=>Option α) (r.get (Nat.div j 2)) (l.get (Nat.div j 2)) (Nat.beq (Nat.mod j 2) 0) = some a:=hg
   have e1:Nat.div j 2 = j / 2:=rfl
   have e2:Nat.mod j 2 = j % 2:=rfl
   rw [e1,e2] at hg
   cases hb:Nat.beq (j % 2) 0 with
   | true =>
    rw [hb] at hg
    have:=ihl h1 hg
    have hm:=Nat.eq_of_beq_eq_true hb
    have:p (2 * (j / 2) + 1) a:=this
    rwa [show 2 * (j / 2) + 1 = j + 1 by omega] at this
   | false =>
    rw [hb] at hg
    have:=ihr h2 hg
    have hm:j % 2 ≠ 0:=fun e=>by rw [e] at hb;cases hb
    have:p (2 * (j / 2) + 2) a:=this
    rwa [show 2 * (j / 2) + 2 = j + 1 by omega] at this

theorem FnOk.by {P : Program} {gl : List Nat} {f : FuncId} {n : Nat} {x : RC} {rs : List ResultVar} {fd : Func} (h1 : P.funcs[f]? = some fd)
 (h2:(match fd.body with | some c=>rcOf c x | none=>none) = some x) (h3:(match fd.body with | some c=>codeB gl c | none=>false) = true)
 (h4 : fd.ntmps = n) (h5 : fd.results.toList = rs) (h6 : (fd.name == "runtime.NumGoroutine") = false) : FnOk P gl f ⟨n, x, rs⟩ := by
 cases hb:fd.body with
 | none=>rw [hb] at h2;cases h2
 | some c =>
  rw [hb] at h2 h3
  exact ⟨fd,c,h1,hb,h4,h5,h6,rcOf_Comp h2,h3⟩

structure TyOk (P:Program) (t:TypeId) (i:TI):Prop where
 ok:P.underlying t = some i.und∧∃ inf,P.info? t = some inf∧inf.size = i.size∧inf.bytes = i.bytes∧inf.zero = i.zero
 plain:oo i.zero true plainB = true
 flat:i.flat = true→∃ zs,i.zero = some (.agg ⟨zs⟩)∧FlatOk P t zs
theorem TyOk.by {P : Program} {t : TypeId} {i : TI} {inf : TypeInfo} (h1 : P.underlying t = some i.und) (h2 : P.info? t = some inf) (h3 : inf.size = i.size) (h4 : inf.bytes = i.bytes) (h5 : inf.zero = i.zero)
 (h6:oo i.zero true plainB = true) (h7:i.flat = true→∃ zs,i.zero = some (.agg ⟨zs⟩)∧FlatOk P t zs):TyOk P t i:=⟨⟨h1,inf,h2,h3,h4,h5⟩,h6,h7⟩
theorem TOk.of_all {P:Program} {t:Tr TI} (h:t.All (TyOk P)):TOk P t.get where
 ok:=fun _ _ e=>(h.get e).ok
 plain:=fun _ i z e hz=>by have:=(h.get e).plain;rw [hz] at this;exact this
 flat:=fun _ _ zs e hf hz=>by
  obtain ⟨zs',h1,h2⟩:=(h.get e).flat hf
  rw [hz] at h1;cases h1;exact h2
end Go.Sp
namespace Go.Sp
open Go.RowKit

def GrownB (W w':World):Prop:=W.keptBut w' (fun _=>False)∧(∀ a,a.block < W.heap.size→w'.frozen? a = W.frozen? a)∧W.heap.size≤w'.heap.size
theorem grown_of {H H':AHeap} {R R':Ren} {w w':World} (hp:Post H R w H' R' w') (himm:∀ id p,R.f id = some p→(H.get id).immB = true):GrownB w w':=by
 have hk:∀ c,c < w.heap.size→w'.heap[c]? = w.heap[c]?:=fun c hc=>hp.frame c hc fun id β h=>himm id _ h
 refine ⟨⟨hp.side.1,hp.side.2.1,fun i hi=>?_⟩,hp.side.2.2,hp.grow⟩
 rw [hk i hi]
 cases w.heap[i]? with
 | none=>trivial
 | some o=>cases o <;> simp

end Go.Sp
namespace Go.Sp
open Go.ChangeShapes Go.WideShapes Go.ChangeAt Go.RowKit

theorem post_ofB {H : Type} {enc : TypeId × Value → H} {P : Program} {f : Func} {s : ChangeSpec} {apart fresh handsOn again : Bool} {W W' : World} {args : Array Value} {v : Value} {ds gs : List (DataW H)} {before pa pv : List MemPlace}
 (hW:DataW.Whole enc P f.params.toList s.vars apart W args.toList ds gs before)
 (hres:∀ (b:Nat) (sp:Nat→Bool) (hd:Bool),DataW.TrodAll enc P W' b sp hd f.resultTypes.toList (v.resultList f.resultTypes.size) (s.fn H (ds ++ gs)).results [])
 (hargs:∀ sp:Nat→Bool,(∀ p ∈ before,sp p.block = true)→DataW.TrodAll enc P W' 0 sp true f.params.toList args.toList (s.fn H (ds ++ gs)).args pa)
 (hvars:∀ sp:Nat→Bool,(∀ p ∈ before,sp p.block = true)→DataW.TrodVars enc P W' sp s.vars (s.fn H (ds ++ gs)).vars pv)
 (hps:before = pa ++ pv) (hg:GrownB W W')
 (hok:∀ (j:Nat) (t:TypeId) (r:Value),f.resultTypes[j]? = some t→(v.resultList f.resultTypes.size)[j]? = some r→Value.okWide P W' .any 0 t r) :
 s.post enc P f apart fresh handsOn again W args v W':=by
 have hlt:=hW.lt
 have hold:∀ p ∈ before,(fun b=>decide (b < W.heap.size)) p.block = true:=fun p hp=>decide_eq_true (hlt p hp)
 have hkeep:W.keptBut W' (fun p=>p ∈ before∧p ∈ [] ++ pa ++ pv):=World.keptBut_mono (fun p hp=>hp.elim) hg.1
 subst hps
 have hW2:=hW
 obtain ⟨_,_,_,_,_,hz,hn⟩:=hW2
 have hv0:=hvars (fun _=>true) (fun _ _=>rfl)
 have ha0:=hargs (fun _=>true) (fun _ _=>rfl)
 refine ⟨ds,gs,pa ++ pv,[],pa,pv,hW,hres _ _ _,hargs _ hold,hvars _ hold,?_,fun _=>⟨hok,_,_,([] ++ pa) ++ pv,⟨[] ++ pa,pv,trodAll_append ha0 (hres _ _ _),hv0,rfl,fun b off hp=>?_,fun ha=>?_⟩,fun p hp _=>?_⟩⟩
 ·exact World.keptBut_mono (fun p hp=>by simpa using hp) hkeep
 ·have hp : MemPlace.cell b off ∈ pa ++ pv := by simpa using hp
  rw [hg.2.1 _ (hlt _ hp)]
  exact hz b off hp
 ·simpa using hn ha
 ·simpa using hp

theorem post_true {H : Type} {enc : TypeId × Value → H} {P : Program} {f : Func} {s : ChangeSpec} {apart fresh handsOn again : Bool} {W W' : World} {args : Array Value} {ds gs : List (DataW H)} {before pa pv : List MemPlace} {t : TypeId}
 (hW:DataW.Whole enc P f.params.toList s.vars apart W args.toList ds gs before)
 (hres:(s.fn H (ds ++ gs)).results = [.lit (.bool true)])
 (hargs:∀ sp:Nat→Bool,(∀ p ∈ before,sp p.block = true)→DataW.TrodAll enc P W' 0 sp true f.params.toList args.toList (s.fn H (ds ++ gs)).args pa)
 (hvars:∀ sp:Nat→Bool,(∀ p ∈ before,sp p.block = true)→DataW.TrodVars enc P W' sp s.vars (s.fn H (ds ++ gs)).vars pv)
 (hps:before = pa ++ pv) (hg:GrownB W W') (hr:f.resultTypes = #[t]) (ht:P.underlying t = some .bool) :
 s.post enc P f apart fresh handsOn again W args (.bool true) W':=
 post_ofB (pa:=pa) (pv:=pv) hW (fun _ _ _=>by rw [hr,hres];exact trodAll_cons_mk (shut_bool ht _) trodAll_mk0) hargs hvars hps hg (ok_one hr rfl (okWide_bool_mk ht _))

end Go.Sp
