/- Made from wip. -/
import Derived.Test.YtkhedoaiejjcfaaGreatSpArgs2x

namespace Go.Sp
noncomputable section
def evFnP (tabs:List (List Value)) (isP:FuncId→Bool) (pu:PureF) (inl:CallF) (tt:TT) (fns:FuncId→Option RFn) (n:Nat):CallF:=
 Nat.rec (motive := fun _ => CallF) (fun _ _ _ => none)
  (fun m ih f args H=>oo (callP tabs isP pu inl f args H) (oo (fns f) none fun fn=>bb (Nat.ble (len args) fn.n) (endFn tt fn.results (evC tt ih m fn.body (Fr.made fn.n args) H)) none) fun r=>some r) n
def tabsHeap (tabs:List (List Value)):AHeap:=⟨len tabs,objTr (tabTr tabs) 0 .nil,false⟩
def frzR (k:Nat) (r:Option (Value×AHeap)):Option Value:=oo r none fun p=>pp p fun q H1=>oo (freezeV k false q H1) none fun p2=>pp p2 fun v' _=>some v'
def valR (r:Option (Value×AHeap)):Option Value:=oo r none fun p=>pp p fun q _=>some q
end
section
variable {P:Program} {tt:TT} {tabs:List (List Value)}
theorem evFnP_ok (hT : TOk P tt) (hne : ∀ t ∈ tabs, t ≠ []) (hpl : ∀ t ∈ tabs, ∀ x ∈ t, plain1 x = true) {fns : FuncId → Option RFn} (hf : ∀ f r, fns f = some r → FnOk P (List.range tabs.length) f r) (hm : P.follows .mixedOrders = true)
 {isP:FuncId→Bool} {pu:PureF} {inl:CallF} (hpu:∀ g,isP g = true→PureOk P tabs g (pu g)) (hinl:CallOk P (List.range tabs.length) inl) (n:Nat):CallOk P (List.range tabs.length) (evFnP tabs isP pu inl tt fns n):=by
 induction n with
 | zero=>intro g args H v H' h;cases h
 | succ n ih =>
  intro g args H v H' h
  have h:oo (callP tabs isP pu inl g args H) (evStep tt fns (evFnP tabs isP pu inl tt fns n) n g args H) (fun r=>some r) = some (v,H'):=h
  cases hc:callP tabs isP pu inl g args H with
  | some r =>
   rw [hc,oo_some] at h
   injection h with h;subst h
   exact callP_ok hne hpl hinl hpu g args H v H' hc
  | none =>
   rw [hc,oo_none] at h
   exact evStep_ok hT hf hm ih n g args H v H' h
theorem tabsHeap_get (i:Nat):(tabsHeap tabs).get i = (pureHeap tabs).get i:=by
 unfold tabsHeap pureHeap
 rw [AHeap.get_mk,AHeap.get_mk]
theorem pureOk_closedP (hT : TOk P tt) (hne : ∀ t ∈ tabs, t ≠ []) (hpl : ∀ t ∈ tabs, ∀ x ∈ t, plain1 x = true) {fns : FuncId → Option RFn} (hf : ∀ f r, fns f = some r → FnOk P (List.range tabs.length) f r) (hm : P.follows .mixedOrders = true)
 {isP:FuncId→Bool} {pu:PureF} {inl:CallF} (hpu:∀ g,isP g = true→PureOk P tabs g (pu g)) (hinl:CallOk P (List.range tabs.length) inl) {g n:Nat} {H:AHeap} (hH:∀ i,H.get i = (pureHeap tabs).get i) (hHn:H.next = (pureHeap tabs).next) {f:List Value→Option Value}
 (hen:∀ (as:Array Value) (w:World),(callFunc g as).run P w = .ok (.enter g as) w)
 (hrun:∀ args v,f args = some v→closedV v = true∧(valR (evFnP tabs isP pu inl tt fns n g args H) = some v∨frzR tabs.length (evFnP tabs isP pu inl tt fns n g args H) = some v)):PureOk P tabs g f:=by
 refine ⟨hen,fun args v hv _ R w args' hR hs ha=>?_⟩
 obtain ⟨hcv,hr⟩:=hrun args v hv
 have hs':Sim H R w:=hs.congr hH hHn
 have hgl:GlR (List.range tabs.length) R:=fun g hg=>by rw [hR];simp at hg;simp [hg]
 rcases hr with hr | hr
 ·obtain ⟨q, hq, h1⟩ := oo_inv (show oo (evFnP tabs isP pu inl tt fns n g args H) none (fun p => pp p fun q _ => some q) = some v from hr)
  rw [pp_eta] at h1
  injection h1 with h1
  have hok:=(evFnP_ok hT hne hpl hf hm hpu hinl n) g args H q.1 q.2 hq
  refine (hok.2 R w args' hs' hgl ha).mono fun e w' ⟨u,R',he,hu,hp⟩=>?_
  rw [h1] at hu
  exact ⟨u,q.2,R',he,hcv,hu,Post.congrL (fun i=>(hH i).symm) hHn.symm hp⟩
 ·obtain ⟨q, hq, h1⟩ := oo_inv (show oo (evFnP tabs isP pu inl tt fns n g args H) none (fun p => pp p fun q H1 => oo (freezeV tabs.length false q H1) none fun p2 => pp p2 fun v' _ => some v') = some v from hr)
  rw [pp_eta] at h1
  obtain ⟨p2,hp2,h2⟩:=oo_inv h1
  rw [pp_eta] at h2
  injection h2 with h2
  have hok:=(evFnP_ok hT hne hpl hf hm hpu hinl n) g args H q.1 q.2 hq
  refine (hok.2 R w args' hs' hgl ha).mono fun e w' ⟨u,R',he,hu,hp⟩=>?_
  have hn:H.next≤tabs.length:=by rw [hHn];show len tabs≤_;rw [len_eq];exact Nat.le_refl _
  have hp2':freezeV tabs.length false q.1 q.2 = some (p2.1,p2.2):=hp2
  obtain ⟨R2,_,_,k2,k3⟩:=freezeV_ok hp2' hs' hn hp hu
  rw [h2] at k3
  exact ⟨u,p2.2,R2,he,hcv,k3,Post.congrL (fun i=>(hH i).symm) hHn.symm k2⟩

theorem law_true0 {g : FuncId} {f : List Value → Option Value} (hpu : PureOk P [] g f) {args args' : List Value} {W : World} {R : Ren} (hm : f args = some (.bool true)) (hcl : ∀ x ∈ args, closed2 x = true)
 (hR:R.f = fun _=>none) (hs:Sim (pureHeap []) R W) (ha:VRL R args args'):Calls P g ⟨args'⟩ W fun e W'=>e = .returned (.bool true)∧GrownB W W':=
 (hpu.2 args _ hm hcl R W args' (by rw [hR]; funext i; simp) hs ha).mono fun e W' ⟨u, H', R', he, _, hu, hp⟩ => by
   rw [hu.bool_l] at he
   exact ⟨he,grown_of hp fun id p h=>by rw [hR] at h;cases h⟩
theorem start0 (w:World):∃ R:Ren,R.f = (fun _=>none)∧R.ro = allRo w∧Sim (pureHeap []) R w:=by
 refine ⟨⟨fun _=>none,fun _=>0,allRo w⟩,rfl,rfl,?_⟩
 refine ⟨fun id c β h => (by cases h), fun id c β h => (by cases h), fun id c β id' β' h h' => (by cases h), fun id a ha => ?_, fun id hid => ?_, fun c C h => ⟨allRo_ok w c C h, fun id β h' => (by cases h')⟩⟩
 ·rw [pureHeap_get] at ha;simp at ha;cases ha
 ·rw [pureHeap_get];simp
end
end Go.Sp
namespace Go.Sp

theorem Post.adopt {H0 H : AHeap} {R0 R : Ren} {w0 w : World} (hp : Post H0 R0 w0 H R w) {k c β n : Nat} (hk : k < H.next) (hmin : H0.next ≤ k) (hR : R.f k = none) (hc0 : w0.heap.size ≤ c) (hc : c < w.heap.size)
 (hfr : ∀ id β', R.f id = some (c, β') → False) (hro : R.ro c = none)
 (hobj:∀ Q,R.le Q→Q.f k = some (c,β)→Q.sz c = n→ObjR Q (H.get k) c β w.heap[c]?) :
 R.le (R.ext k c β n)∧Post H0 R0 w0 H (R.ext k c β n) w:=by
 have hs:=hp.sim
 have hne:∀ id p,R.f id = some p→id ≠ k:=fun id p h e=>by rw [e,hR] at h;cases h
 have hle : R.le (R.ext k c β n) := ⟨fun id c' β' h => by
  refine ⟨?_,?_⟩
  ·rw [Ren.ext_other _ (hne id _ h)];exact h
  ·have : c' ≠ c := fun e => by subst e; exact hfr _ _ h
   simp [Ren.ext,this],fun _ _ h=>h⟩
 have back:∀ id p,(R.ext k c β n).f id = some p→(id = k∧p = (c,β))∨(id ≠ k∧R.f id = some p):=fun id p h=>by
  by_cases hid:id = k
  ·subst hid;rw [Ren.ext_new] at h;exact .inl ⟨rfl,by injection h with h;exact h.symm⟩
  ·rw [Ren.ext_other _ hid] at h;exact .inr ⟨hid,h⟩
 have hR0:R0.f k = none:=by
  cases h:R0.f k with
  | none=>rfl
  | some p=>have:=(hp.le k p.1 p.2 h).1;rw [hR] at this;cases this
 refine ⟨hle,⟨fun id c β h=>?_,hp.le.ro⟩,?_,⟨?_,?_,?_,hs.anc,hs.wf,fun c' C hc'=>?_⟩,hp.next,hp.grow,hp.frame,hp.calm,hp.imm,?_,hp.side,hp.rofresh⟩
 ·have h1 := hp.le id c β h
  have h2:=hle id c β h1.1
  exact ⟨h2.1,h2.2.trans h1.2⟩
 ·intro id p h
  rcases back id p h with ⟨rfl,_⟩ | ⟨_,h1⟩
  ·exact .inr ⟨hR0,hmin⟩
  ·exact hp.new id p h1
 ·intro id c' β' h
  rcases back id _ h with ⟨rfl,e⟩ | ⟨_,h1⟩
  ·cases e;exact ⟨hk,hc⟩
  ·exact hs.dom id c' β' h1
 ·intro id c' β' h
  rcases back id _ h with ⟨rfl,e⟩ | ⟨_,h1⟩
  ·cases e;exact hobj _ hle (Ren.ext_new _ _ _ _ _) (Ren.ext_sz _ _ _ _ _)
  ·exact (hs.obj id c' β' h1).mono hle (hle id c' β' h1).2
 ·intro id c' β' id' β'' h h' hne' hw
  rcases back id _ h with ⟨rfl,e⟩ | ⟨_,h1⟩
  ·cases e
   rcases back id' _ h' with ⟨rfl,_⟩ | ⟨_,h1'⟩
   ·exact absurd rfl hne'
   ·exact (hfr _ _ h1').elim
  ·rcases back id' _ h' with ⟨rfl, e⟩ | ⟨_, h1'⟩
   ·cases e;exact (hfr _ _ h1).elim
   ·exact hs.sep id c' β' id' β'' h1 h1' hne' hw
 ·obtain ⟨h1, h2⟩ := hs.ro c' C hc'
  refine ⟨h1, fun id β' h => ?_⟩
  rcases back id _ h with ⟨rfl,e⟩ | ⟨_,h3⟩
  ·cases e
   have hc':R.ro c = some C:=hc'
   rw [hro] at hc';cases hc'
  ·exact h2 id β' h3
 ·intro id c' β' h hr
  rcases back id _ h with ⟨rfl,e⟩ | ⟨_,h1⟩
  ·cases e;exact .inl hc0
  ·exact hp.fresh id c' β' h1 hr

noncomputable section
def liveF (tabs:List (List Value)) (sz:Nat) (f:List Value→Option Value) (args:List Value) (H:AHeap):Option (Value×AHeap):=
 bb (tabsOk H tabs 0) (bb (allL closed2 args) (oo (f args) none fun v=>oo (toSl sz v) none fun s=>
  some (.slice (some ⟨H.next,0,some sz⟩) s.n (2 * s.n + bb false 1 0),H.push (.cells s.cs false false []))) none) none
end

def LiveOk (P:Program) (tabs:List (List Value)) (g:FuncId) (sz:Nat) (f:List Value→Option Value):Prop:=
 (∀ (as:Array Value) (w:World),(callFunc g as).run P w = .ok (.enter g as) w) ∧
 ∀ args v, f args = some v → (∀ x ∈ args, closed2 x = true) →
  ∀ R w args', R.f = (fun i => if i < tabs.length then some (i, 0) else none) → Sim (pureHeap tabs) R w → VRL R args args' →
   Calls P g ⟨args'⟩ w fun e w' => ∃ u H' R' id off c2 anc xs, ∃ s : Sl, e = .returned u ∧ VR R' (.slice (some ⟨id, off, some sz⟩) s.n c2) u ∧ Post (pureHeap tabs) R w H' R' w' ∧
    tabs.length≤id∧H'.get id = .cells xs false false anc∧off + s.n * sz≤xs.length∧s.cs = (xs.drop off).take (s.n * sz)∧(∀ x ∈ s.cs,closed1 x = true)∧v = s.v sz

def FinL (tt : TT) (n0 sz : Nat) (rs : List ResultVar) (v : Value) : Ex → Fr → AHeap → Prop
 | .exit _,_,_=>False
 | .goto _,_,_=>False
 | _,F,H=>∃ id off c2 anc xs,∃ s:Sl,aresults tt F H rs = some (.slice (some ⟨id,off,some sz⟩) s.n c2)∧n0≤id∧H.get id = .cells xs false false anc∧off + s.n * sz≤xs.length∧s.cs = (xs.drop off).take (s.n * sz)∧(∀ x ∈ s.cs,closed1 x = true)∧v = s.v sz

section
variable {P:Program} {tabs:List (List Value)}

theorem liveOk_of_run {tt : TT} (hT : TOk P tt) (hm : P.follows .mixedOrders = true) {g sz : Nat} {r : RFn} {call : CallF} (hc : CallOk P (List.range tabs.length) call) (hfn : FnOk P (List.range tabs.length) g r) {f : List Value → Option Value}
 (h:∀ args v,f args = some v→(∀ x ∈ args,closed2 x = true)→args.length≤r.n∧Run tt call tabs.length r.body (Fr.made r.n args) (pureHeap tabs) (FinL tt tabs.length sz r.results v)):LiveOk P tabs g sz f:=by
 refine ⟨enter_ok hfn,fun args v hv hcl=>?_⟩
 obtain ⟨hle,hrun⟩:=h args v hv hcl
 intro R w args' hR hs ha
 obtain ⟨fd,c,e1,e2,e3,e4,_,hcomp,hok⟩:=hfn.ok
 refine calls_of_wp e1 e2 ?_
 have hlen:=ha.1
 have hsize:((⟨args'⟩:Array Value) ++ Array.replicate (fd.ntmps - (⟨args'⟩:Array Value).size) undef).size = r.n:=by simp;omega
 have hgl:GlR (List.range tabs.length) R:=fun g hg=>by rw [hR];simp at hg;simp [hg]
 have hfull:∀ id,id < (pureHeap tabs).next→R.f id = none→(pureHeap tabs).get id = .dead:=fun id hid hr=>by
  have hid:id < len tabs:=hid
  rw [len_eq] at hid
  rw [hR] at hr;simp [hid] at hr
 have hrun:Run tt call (pureHeap tabs).next r.body (Fr.made r.n args) (pureHeap tabs) (FinL tt tabs.length sz r.results v):=by
  show Run tt call (len tabs) _ _ _ _
  rw [len_eq];exact hrun
 have hst:St (List.range tabs.length) (pureHeap tabs) R w [] r.n (Fr.made r.n args) (pureHeap tabs) ⟨(⟨args'⟩:Array Value) ++ Array.replicate (fd.ntmps - (⟨args'⟩:Array Value).size) undef,[]⟩ w:=by
  refine ⟨⟨R,.refl hs,fun t=>?_⟩,rfl,hsize,Fr.n_made ..⟩
  rw [Fr.get_made,Array.getD_eq_getD_getElem?]
  show VR R _ (((⟨args'⟩:Array Value) ++ Array.replicate (fd.ntmps - (⟨args'⟩:Array Value).size) undef)[t]?.getD undef)
  rw [Array.getElem?_append]
  by_cases hlt:t < args'.length
  ·rw [if_pos (by simpa using hlt)]
   obtain ⟨x, hx⟩ : ∃ x, args[t]? = some x := ⟨args[t]'(by omega), by simp⟩
   obtain ⟨y,hy,hv⟩:=ha.get hx
   rw [hx,show (⟨args'⟩:Array Value)[t]? = some y by simpa using hy]
   exact hv
  ·rw [List.getElem?_eq_none (by omega)]
   exact .any _
 refine wp_mono (hrun.sound hT hc hm hs hgl (fun id h1 h2=>by rw [hfull id h1 h2];trivial) hcomp hok _ w hst) fun x a' w' ⟨e,F',H',h1,h2,h3⟩=>?_
 subst h1
 obtain ⟨⟨R',hp,ht⟩,hd,_,_⟩:=h3
 have fin : FinL tt tabs.length sz r.results v .normal F' H' → bodyPost P fd (fun e w' => ∃ u H' R' id off c2 anc xs, ∃ s : Sl, e = .returned u ∧ VR R' (.slice (some ⟨id, off, some sz⟩) s.n c2) u ∧ Post (pureHeap tabs) R w H' R' w' ∧
  tabs.length≤id∧H'.get id = .cells xs false false anc∧off + s.n * sz≤xs.length∧s.cs = (xs.drop off).take (s.n * sz)∧(∀ x ∈ s.cs,closed1 x = true)∧v = s.v sz) .normal a' w':=fun ⟨id,off,c2,anc,xs,s,hres,g1,g2,g3,g4,g5,g6⟩=>by
  rw [←e4] at hres
  obtain ⟨u,hu,huv⟩:=aresults_ok hT hp.sim ht hres
  exact ⟨hd,u,hu,u,H',R',id,off,c2,anc,xs,s,rfl,huv,hp,g1,g2,g3,g4,g5,g6⟩
 cases e with
 | normal=>exact fin h2
 | exit j=>exact h2.elim
 | goto j=>exact h2.elim
 | ret=>exact fin h2

theorem liveF_ok (hne : ∀ t ∈ tabs, t ≠ []) (hpl : ∀ t ∈ tabs, ∀ x ∈ t, plain1 x = true) {g sz : Nat} {f : List Value → Option Value} (hok : LiveOk P tabs g sz f) {args : List Value} {H H' : AHeap} {v : Value} (h : liveF tabs sz f args H = some (v, H')) :
 (∀ (as:Array Value) (w:World),(callFunc g as).run P w = .ok (.enter g as) w) ∧
 ∀ R w args',Sim H R w→GlR (List.range tabs.length) R→VRL R args args'→Calls P g ⟨args'⟩ w fun e w'=>∃ u R',e = .returned u∧VR R' v u∧Post H R w H' R' w':=by
 refine ⟨hok.1,fun R w args' hs hgl ha=>?_⟩
 obtain ⟨htab,h1⟩:=bb_inv h
 obtain ⟨hcl,h1⟩:=bb_inv h1
 rw [allL_eq,List.all_eq_true] at hcl
 obtain ⟨v',hv',h1⟩:=oo_inv h1
 obtain ⟨s,hsl,h1⟩:=oo_inv h1
 injection h1 with h1;injection h1 with e1 e2;subst e1;subst e2
 have hs0:=pure_sim hs hgl htab R.ro (fun c C h=>(hs.ro c C h).1) (fun c C h=>h) hne hpl
 refine (hok.2 args v' hv' hcl _ w args' rfl hs0 (closed2L_VR (R:=R) (R':=⟨fun i=>if i < tabs.length then some (i,0) else none,R.sz,R.ro⟩) (fun _ _ h=>h) ha hcl)).mono fun e w' ⟨u,H1,R1,id,off,c2,anc,xs,s',he,hu,hp,g1,g2,g3,g4,g5,g6⟩=>?_
 have hss:s' = s:=by
  rw [toSl_some hsl] at g6
  injection g6 with q1 q2
  injection q2 with q2
  injection q2 with q2
  injection q2 with q3 q4
  injection q3 with _ q5 q6
  cases s;cases s'
  simp only at q4 q5 q6
  subst q4;subst q5;subst q6;rfl
 subst hss
 -- what the caller knows behind the call
 have hpp:Post H R w H ⟨R.f,R.sz,R1.ro⟩ w':=pure_post hs rfl hp rfl rfl (fun c C h=>hp.le.ro c C h) fun c C h=>by
  rcases hp.rofresh c C h with h3 | h3 | ⟨id,β,h3,h4⟩
  ·exact .inl h3
  ·exact .inr ⟨h3,h⟩
  ·have := pureHeap_imm (tabf_some (show (if id < tabs.length then some (id, 0) else none) = some (c, β) from h3)).1
   rw [this] at h4;cases h4
 have hpa:=hpp.absPush (obj:=.cells s'.cs false false []) rfl
 have hnone:R.f H.next = none:=hs.none_of_next
 have empty:s'.n = 0→(∃ c o,u = .slice (some ⟨c,o,none⟩) 0 0)∨u = .slice none 0 0→∃ u' R',e = .returned u'∧VR R' (.slice (some ⟨H.next,0,some sz⟩) s'.n (2 * s'.n + bb false 1 0)) u'∧Post H R w (H.push (.cells s'.cs false false [])) R' w':=fun h0 hcase=>by
  refine ⟨u,_,he,?_,hpa⟩
  rw [h0]
  rcases hcase with ⟨c,o,rfl⟩ | rfl
  ·exact .slE rfl
  ·exact .slN rfl
 have hvs:vSl (.slice (some ⟨id,off,some sz⟩) s'.n c2) = some ⟨id,off,sz,s'.n,c2⟩:=rfl
 rcases hu.sl_l hvs with ⟨c,β,cap,hid,hu',k1,k2,k3,k4⟩ | ⟨c,o2,hu',k0,k00⟩ | ⟨hu',k0,k00⟩
 ·have hidn : (fun i => if i < tabs.length then some (i, 0) else none : Nat → Option (Nat × Nat)) id = none := by simp; omega
  have hcf:w.heap.size≤c:=by
   rcases hp.fresh id c β hid hidn with h3 | ⟨id0,β0,h3,h4⟩
   ·exact h3
   ·have := pureHeap_imm (tabf_some (show (if id0 < tabs.length then some (id0, 0) else none) = some (c, β0) from h3)).1
    rw [this] at h4;cases h4
  have hcd:=(hp.sim.dom id c β hid).2
  have hob:=hp.sim.obj id c β hid
  rw [g2] at hob
  obtain ⟨C,t,fz,m1,m2,m3,m4,m5⟩:=hob
  have hroc:R1.ro c = none:=by
   cases hr:R1.ro c with
   | none=>rfl
   | some D =>
    have:=(hp.sim.ro c D hr).2 id β hid
    rw [g2] at this;cases this
  obtain ⟨hle2, hpost⟩ := hpa.adopt (k := H.next) (c := c) (β := β + off) (n := R1.sz c) (by simp) (Nat.le_refl _) hnone hcf hcd (fun id' β' h' => by have := (hs.dom id' c β' h').2; omega) hroc (fun Q hQ _ hQs => by
   rw [AHeap.get_push,if_pos rfl]
   refine ⟨C,t,fz,m1,by rw [hQs];exact m2,by rw [g4];simp;omega,fun i x hx=>?_,m5⟩
   rw [g4,List.getElem?_take] at hx
   split at hx
   ·rename_i hi
    rw [List.getElem?_drop] at hx
    obtain ⟨y,n1,n2⟩:=m4 (off + i) x hx
    refine ⟨y,by rw [←n1];congr 1;omega,n2.closed (R:=R1) (R':=Q) (fun c' C' h'=>hQ.ro c' C' h') (g5 x ?_)⟩
    rw [g4]
    refine List.mem_of_getElem? (i:=i) ?_
    rw [List.getElem?_take,if_pos hi,List.getElem?_drop];exact hx
   ·cases hx)
  refine ⟨u,_,he,?_,hpost⟩
  have k1:s'.n≤c2 / 2:=k1
  have k2:c2 / 2≤cap:=k2
  have e9:(2 * s'.n + bb false 1 0) / 2 = s'.n:=by show (2 * s'.n + 0) / 2 = _;omega
  have:VR ((⟨R.f,R.sz,R1.ro⟩:Ren).ext H.next c (β + off) (R1.sz c)) (.slice (some ⟨H.next,0,some sz⟩) s'.n (2 * s'.n + bb false 1 0)) (.slice (some ⟨c,(β + off) + 0,none⟩) s'.n cap):=
   .sl (Ren.ext_new _ _ _ _ _) (by rw [e9];exact Nat.le_refl _) (by rw [e9];omega) (fun h9=>by exfalso;have h9:(2 * s'.n + 0) % 2 = 1:=h9;omega) (by rw [Ren.ext_sz];exact k4)
  rw [hu']
  exact this
 ·exact empty k0 (.inl ⟨c,o2,hu'⟩)
 ·exact empty k0 (.inr hu')
end

theorem live_eq {α:Type} {o:Option Value} {sz:Nat} {x:Sl} {k:Sl→α} (h:o = some (x.v sz)):(oo o none fun v=>oo (toSl sz v) none fun s=>some (k s)) = some (k x):=by
 rw [h,oo_some]
 have:toSl sz (x.v sz) = some x:=by
  show bb (Nat.beq sz sz) (some x) none = some x
  rw [Nat.beq_refl];rfl
 rw [this,oo_some]

noncomputable section
def giveV (z:Nat) (v:Value) (H:AHeap):Option (Value×AHeap):=
 oo (vSl v) (bb (isNilSl v) (some (fsV z 0 2 [],H)) (bb (closed2 v) (some (v,H)) none)) fun s=>oo (oCells (H.get s.id)) none fun o=>
  bb (an (nt o.imm) (an (nt o.spent) (an (Nat.ble (s.off + s.len * s.sz) (len o.xs)) (allL closed1 (takeL (s.len * s.sz) (dropL s.off o.xs))))))
   (some (fsV s.sz s.len 0 (takeL (s.len * s.sz) (dropL s.off o.xs)),H.set s.id .dead)) none
def giveL (z:Nat) (l:List Value):AHeap→Option (List Value×AHeap):=
 List.rec (motive:=fun _=>AHeap→Option (List Value×AHeap)) (fun H=>some ([],H)) (fun v _ ih H=>oo (giveV z v H) none fun p=>pp p fun v' H1=>oo (ih H1) none fun q=>pp q fun r H2=>some (v' :: r,H2)) l
def giveF (tabs:List (List Value)) (z:Nat) (f:List Value→Option Value) (args:List Value) (H:AHeap):Option (Value×AHeap):=
 oo (giveL z args H) none fun p=>pp p fun as H1=>bb (tabsOk H1 tabs 0) (oo (f as) none fun v=>some (v,H1)) none
end

theorem giveV_ok {z : Nat} {v v' u : Value} {H H' : AHeap} {R : Ren} {w : World} (h : giveV z v H = some (v', H')) (hs : Sim H R w) (hx : VR R v u) :
 ∃ R',R.le R'∧R'.f = R.f∧Post H R w H' R' w∧VR R' v' u∧closed2 v' = true:=by
 unfold giveV at h
 cases hsl:vSl v with
 | none =>
  rw [hsl,oo_none] at h
  rcases bb_cases h with ⟨hn,h⟩ | ⟨_,h⟩
  ·injection h with h; injection h with e1 e2; subst e1; subst e2
   refine ⟨R,R.le_refl,rfl,.refl hs,?_,rfl⟩
   rw [isNilSl_true hn] at hx
   rw [hx.slNil_l];exact .fsN z 2 (by decide)
  ·obtain ⟨hc, h⟩ := bb_inv h
   injection h with h;injection h with e1 e2;subst e1;subst e2
   exact ⟨R,R.le_refl,rfl,.refl hs,hx,hc⟩
 | some s=>
 rw [hsl,oo_some] at h
 obtain ⟨o,ho,h1⟩:=oo_inv h
 obtain ⟨hc,h2⟩:=bb_inv h1
 obtain ⟨c1,hc⟩:=an_inv hc
 obtain ⟨c3,hc⟩:=an_inv hc
 obtain ⟨c4,c5⟩:=an_inv hc
 have c1:=nt_false c1
 have c3:=nt_false c3
 simp only [len_eq] at c4
 have c4:=Nat.le_of_ble_eq_true c4
 rw [allL_eq,List.all_eq_true] at c5
 simp only [takeL_eq,dropL_eq] at c5 h2
 injection h2 with h2;injection h2 with e1 e2;subst e1;subst e2
 have ho':=oCells_some ho
 rw [c1,c3] at ho'
 have dead : ∀ (R' : Ren), R.le R' → R'.f = R.f → R'.sz = R.sz → (∀ c C, R'.ro c = some C → R.ro c = some C ∨ ∃ β, R.f s.id = some (c, β) ∧ ∃ ty fz, w.heap[c]? = some (.cells C ty fz)) →
  Post H R w (H.set s.id .dead) R' w:=fun R' hle hRf hRs hro=>by
  have hget:∀ id,(H.set s.id .dead).get id = if s.id = id then .dead else H.get id:=fun id=>AHeap.get_set _ _ _ _
  have hnext:(H.set s.id .dead).next = H.next:=by simp
  have hwr:∀ id,(H.get id).writable = false→((H.set s.id .dead).get id).writable = false:=fun id h=>by
   rw [hget];split
   ·rfl
   ·exact h
  have hp:=Post.refl hs
  refine ⟨⟨fun id c β h0 => by rw [hRf, hRs]; exact ⟨h0, rfl⟩, hle.ro⟩, fun id p h0 => by rw [hRf] at h0; exact .inl h0, ?_, by rw [hnext]; exact Nat.le_refl _, Nat.le_refl _, fun _ _ _ => rfl,
   fun id hi hr Q c β ob h0=>?_,fun id hi him=>?_,fun id c β h0 hr=>by rw [hRf] at h0;exact hp.fresh id c β h0 hr,hp.side,fun c C h0=>?_⟩
  ·refine ⟨fun id c β h0 => by rw [hRf] at h0; rw [hnext]; exact hs.dom id c β h0, fun id c β h0 => ?_, fun id c β id' β' h0 h0' hne hw => ?_, fun id a ha => ?_, fun id hi => ?_, fun c C h0 => ?_⟩
   ·rw [hRf] at h0
    rw [hget];split
    ·trivial
    ·exact (hs.obj id c β h0).mono hle (by rw [hRs])
   ·rw [hRf] at h0 h0'
    have hg1:=hget id
    have hg2:=hget id'
    by_cases hn:s.id = id
    ·rw [if_pos hn] at hg1;rw [hg1] at hw;cases hw
    ·rw [if_neg hn] at hg1
     rw [hg1] at hw ⊢
     by_cases hn':s.id = id'
     ·rw [if_pos hn'] at hg2;exact .inl hg2
     ·rw [if_neg hn'] at hg2; rw [hg2]; exact hs.sep id c β id' β' h0 h0' hne hw
   ·rw [hget] at ha
    split at ha
    ·cases ha
    ·have := hs.anc id a ha
     rw [hnext,hget]
     refine ⟨this.1,?_⟩
     split
     ·exact ⟨rfl,rfl⟩
     ·exact this.2
   ·rw [hnext] at hi
    rw [hget];split
    ·rfl
    ·exact hs.wf id hi
   ·rcases hro c C h0 with h1 | ⟨β, h1, ty, fz, h2⟩
    ·exact ⟨(hs.ro c C h1).1,fun id β h9=>by rw [hRf] at h9;exact hwr id ((hs.ro c C h1).2 id β h9)⟩
    ·refine ⟨⟨ty, fz, h2⟩, fun id β' h9 => ?_⟩
     rw [hRf] at h9
     rw [hget]
     split
     ·rfl
     ·rename_i hn
      cases hwi:(H.get id).writable with
      | false=>rfl
      | true =>
       rcases hs.sep id c β' s.id β h9 h1 (fun e => hn e.symm) hwi with h3 | ⟨h3, _⟩
       ·rw [ho'] at h3;cases h3
       ·have h4 := hs.anc id s.id h3
        rw [ho'] at h4
        have h5:true = false:=h4.2.2
        cases h5
  ·rw [hget]; split
   ·trivial
   ·exact h0
  ·rw [hget]; split
   ·rename_i he
    rw [←he,ho'] at him;cases him
   ·rfl
  ·rcases hro c C h0 with h1 | ⟨β, h1, _⟩
   ·exact .inl h1
   ·exact .inr (.inr ⟨s.id,β,h1,by rw [ho'];rfl⟩)
 have hcl:closed2 (fsV s.sz s.len 0 ((o.xs.drop s.off).take (s.len * s.sz))) = true:=rfl
 rcases hx.sl_l hsl with ⟨c,β,cap,hid,hv,k1,k2,k3,k4⟩ | ⟨c,o2,hv,k0,k00⟩ | ⟨hv,k0,k00⟩
 ·obtain ⟨C, ty, fz, hC, hsz, hcf, hcr⟩ := hs.cells hid ho
  let R':Ren:=⟨R.f,R.sz,fun c'=>if c' = c then some C else R.ro c'⟩
  have hle:R.le R':=⟨fun id c β h=>⟨h,rfl⟩,fun c' C' h=>by
   show (if c' = c then some C else R.ro c') = some C'
   split
   ·rename_i he; subst he
    obtain ⟨⟨t',fz',h9⟩,_⟩:=hs.ro c' C' h
    rw [hC] at h9;injection h9 with h9;injection h9 with h9;rw [h9]
   ·exact h⟩
  refine ⟨R',hle,rfl,dead R' hle rfl rfl fun c' C' h=>?_,?_,hcl⟩
  ·have h : (if c' = c then some C else R.ro c') = some C' := h
   by_cases he:c' = c
   ·rw [if_pos he] at h
    have h:C = C':=by injection h
    subst h;subst he
    exact .inr ⟨β,hid,ty,fz,hC⟩
   ·rw [if_neg he] at h;exact .inl h
  ·rw [hv]
   refine .mkFs (C:=C) (by show (if c = c then some C else R.ro c) = some C;simp) (by simp;omega) (by omega) (fun he=>by cases he) (by decide) (by simp;omega) ?_ c5
   exact (hcr.mono hle).part _ _
 ·refine ⟨R, R.le_refl, rfl, dead R R.le_refl rfl rfl fun c' C' h => .inl h, ?_, hcl⟩
  rw [hv,k0]
  simp only [Nat.zero_mul,List.take_zero]
  exact .fsE (by decide)
 ·refine ⟨R, R.le_refl, rfl, dead R R.le_refl rfl rfl fun c' C' h => .inl h, ?_, hcl⟩
  rw [hv,k0]
  simp only [Nat.zero_mul,List.take_zero]
  exact .fsN _ _ (by decide)

theorem giveL_ok {z : Nat} {l as : List Value} {H H' : AHeap} (h : giveL z l H = some (as, H')) : ∀ {R : Ren} {w : World} {us : List Value}, Sim H R w → VRL R l us →
 ∃ R',R.le R'∧R'.f = R.f∧Post H R w H' R' w∧VRL R' as us∧∀ x ∈ as,closed2 x = true:=by
 induction l generalizing as H with
 | nil =>
  injection h with h;injection h with e1 e2;subst e1;subst e2
  intro R w us hs hx
  exact ⟨R,R.le_refl,rfl,.refl hs,hx,by simp⟩
 | cons v l ih =>
  obtain ⟨p,hp,h⟩:=oo_inv (show oo (giveV z v H) none (fun p=>pp p fun v' H1=>oo (giveL z l H1) none fun q=>pp q fun r H2=>some (v' :: r,H2)) = some (as,H') from h)
  obtain ⟨v',H1⟩:=p
  obtain ⟨q,hq,h⟩:=oo_inv (show oo (giveL z l H1) none (fun q=>pp q fun r H2=>some (v' :: r,H2)) = some (as,H') from h)
  obtain ⟨r,H2⟩:=q
  injection (show some (v' :: r,H2) = some (as,H') from h) with h;injection h with e1 e2;subst e1;subst e2
  intro R w us hs hx
  obtain ⟨u,us',rfl,h1,h2⟩:=hx.uncons
  obtain ⟨R1,k1,k2,k3,k4,k5⟩:=giveV_ok hp hs h1
  obtain ⟨R2,j1,j2,j3,j4,j5⟩:=ih hq k3.sim (h2.mono k1)
  refine ⟨R2,Ren.le_trans k1 j1,j2.trans k2,k3.trans j3 hs,.cons (k4.mono j1) j4,fun x hx=>?_⟩
  simp at hx
  rcases hx with rfl | hx
  ·exact k5
  ·exact j5 x hx

theorem giveF_ok {P : Program} {tabs : List (List Value)} (hne : ∀ t ∈ tabs, t ≠ []) (hpl : ∀ t ∈ tabs, ∀ x ∈ t, plain1 x = true) {g : FuncId} {z : Nat} {f : List Value → Option Value} (hok : PureOk P tabs g f) {args : List Value} {H H' : AHeap} {v : Value} (h : giveF tabs z f args H = some (v, H')) :
 (∀ (as:Array Value) (w:World),(callFunc g as).run P w = .ok (.enter g as) w) ∧
 ∀ R w args',Sim H R w→GlR (List.range tabs.length) R→VRL R args args'→Calls P g ⟨args'⟩ w fun e w'=>∃ u R',e = .returned u∧VR R' v u∧Post H R w H' R' w':=by
 refine ⟨hok.1,fun R w args' hs hgl ha=>?_⟩
 obtain ⟨p,hp,h⟩:=oo_inv h
 obtain ⟨as,H1⟩:=p
 obtain ⟨htab,h⟩:=bb_inv (show bb (tabsOk H1 tabs 0) (oo (f as) none fun v=>some (v,H1)) none = some (v,H') from h)
 obtain ⟨v',hv',h2⟩:=oo_inv h
 injection h2 with h2;injection h2 with e1 e2;subst e1;subst e2
 obtain ⟨R1,k1,k2,k3,k4,k5⟩:=giveL_ok hp hs ha
 have hs1:=k3.sim
 have hgl1:GlR (List.range tabs.length) R1:=hgl.mono k1
 have hs0:=pure_sim hs1 hgl1 htab R1.ro (fun c C h=>(hs1.ro c C h).1) (fun c C h=>h) hne hpl
 refine (hok.2 as v' hv' k5 _ w args' rfl hs0 (closed2L_VR (R:=R1) (R':=⟨fun i=>if i < tabs.length then some (i,0) else none,R1.sz,R1.ro⟩) (fun _ _ h=>h) k4 k5)).mono fun e w' ⟨u,H2,R2,he,hcv,hu,hp2⟩=>?_
 refine ⟨u,⟨R1.f,R1.sz,R2.ro⟩,he,closedV_VR (R:=R2) (R':=⟨R1.f,R1.sz,R2.ro⟩) (fun _ _ h=>h) hu hcv,k3.trans (pure_post hs1 rfl hp2 rfl rfl (fun c C h=>hp2.le.ro c C h) fun c C h=>?_) hs⟩
 rcases hp2.rofresh c C h with h3 | h3 | ⟨id,β,h3,h4⟩
 ·exact .inl h3
 ·exact .inr ⟨h3,h⟩
 ·have := pureHeap_imm (tabf_some (show (if id < tabs.length then some (id, 0) else none) = some (c, β) from h3)).1
  rw [this] at h4;cases h4

theorem finL_mk {tt : TT} {n0 sz : Nat} {rs : List ResultVar} {v : Value} {F : Fr} {H : AHeap} (id off c2 n : Nat) (anc : List Nat) (xs : List Value) (h : aresults tt F H rs = some (.slice (some ⟨id, off, some sz⟩) n c2)) (hn : Nat.ble n0 id = true)
 (hg:H.get id = .cells xs false false anc) (hc:an (Nat.ble (off + n * sz) (len xs)) (allL closed1 (takeL (n * sz) (dropL off xs))) = true) (hm:some (Sl.v sz ⟨n,0,takeL (n * sz) (dropL off xs)⟩) = some v) :
 ∃ id off c2 anc xs,∃ s:Sl,aresults tt F H rs = some (.slice (some ⟨id,off,some sz⟩) s.n c2)∧n0≤id∧H.get id = .cells xs false false anc∧off + s.n * sz≤xs.length∧s.cs = (xs.drop off).take (s.n * sz)∧(∀ x ∈ s.cs,closed1 x = true)∧v = s.v sz:=by
 injection hm with hm;subst hm
 obtain ⟨h1,h2⟩:=an_inv hc
 rw [len_eq] at h1
 rw [allL_eq,List.all_eq_true] at h2
 exact ⟨id,off,c2,anc,xs,⟨n,0,takeL (n * sz) (dropL off xs)⟩,h,Nat.le_of_ble_eq_true hn,hg,Nat.le_of_ble_eq_true h1,by show takeL (n * sz) (dropL off xs) = _;rw [takeL_eq,dropL_eq],h2,rfl⟩
theorem finL_ret {tt : TT} {n0 sz : Nat} {rs : List ResultVar} {v : Value} {F : Fr} {H : AHeap} (id off c2 n : Nat) (anc : List Nat) (xs : List Value) (h : aresults tt F H rs = some (.slice (some ⟨id, off, some sz⟩) n c2)) (hn : Nat.ble n0 id = true)
 (hg:H.get id = .cells xs false false anc) (hc:an (Nat.ble (off + n * sz) (len xs)) (allL closed1 (takeL (n * sz) (dropL off xs))) = true) (hm:some (Sl.v sz ⟨n,0,takeL (n * sz) (dropL off xs)⟩) = some v):FinL tt n0 sz rs v .ret F H:=
 finL_mk id off c2 n anc xs h hn hg hc hm
theorem giveL_nil {z:Nat} {H:AHeap}:giveL z [] H = some ([],H):=rfl
theorem giveL_cons {z:Nat} {v v':Value} {r r':List Value} {H H1 H2:AHeap} (h:giveV z v H = some (v',H1)) (hr:giveL z r H1 = some (r',H2)):giveL z (v :: r) H = some (v' :: r',H2):=by
 show oo (giveV z v H) none (fun p=>pp p fun v' H1=>oo (giveL z r H1) none fun q=>pp q fun r H2=>some (v' :: r,H2)) = _
 rw [h,oo_some,pp_mk,hr,oo_some,pp_mk]
theorem giveV_cl {z:Nat} {v:Value} {H:AHeap} (h1:vSl v = none) (h2:closed2 v = true) (h3:isNilSl v = false):giveV z v H = some (v,H):=by
 unfold giveV;rw [h1,oo_none,h3,bb_false,h2,bb_true]
theorem giveV_sl {z : Nat} {v : Value} {H : AHeap} (id off sz ln c2 : Nat) (xs : List Value) (anc : List Nat) (hx : vSl v = some ⟨id, off, sz, ln, c2⟩) (hg : H.get id = .cells xs false false anc)
 (hc:an (Nat.ble (off + ln * sz) (len xs)) (allL closed1 (takeL (ln * sz) (dropL off xs))) = true):giveV z v H = some (Sl.v sz ⟨ln,0,takeL (ln * sz) (dropL off xs)⟩,H.set id .dead):=by
 unfold giveV
 rw [hx,oo_some]
 show oo (oCells (H.get id)) none _ = _
 rw [hg]
 show bb (an (Nat.ble (off + ln * sz) (len xs)) (allL closed1 (takeL (ln * sz) (dropL off xs)))) _ none = _
 rw [hc];rfl
theorem giveF_eq {tabs:List (List Value)} {z:Nat} {f:List Value→Option Value} {args as:List Value} {H H1:AHeap} {v:Value} (h1:giveL z args H = some (as,H1)) (ht:tabsOk H1 tabs 0 = true) (h:f as = some v):giveF tabs z f args H = some (v,H1):=by
 unfold giveF
 rw [h1,oo_some,pp_mk,ht,bb_true,h,oo_some]

theorem appFs_grow {H : AHeap} {id sz bytes n c2 : Nat} {xs : List Value} {anc : List Nat} {x : Sl} (h : Nat.beq x.n 0 = false) (hg : H.get id = .cells xs false false anc) (hid : Nat.blt id H.next = true)
 (hc:an (allL scalarB (takeL (x.n * sz) x.cs)) (growC sz bytes n c2 x.n xs) = true) :
 appFs H sz bytes (.slice (some ⟨id,0,some sz⟩) n c2) x = some ((growR sz n x.n id xs (takeL (x.n * sz) x.cs) anc H).1,(growR sz n x.n id xs (takeL (x.n * sz) x.cs) anc H).2):=by
 obtain ⟨hs,hc⟩:=an_inv hc
 obtain ⟨h1,h2,h3,h4,h5⟩:=growC_some hc
 unfold appFs;rw [sliceCells_fs h]
 show bb (Nat.beq x.n 0) _ (bb (an (Nat.beq sz sz) (roomy (n + x.n) bytes)) (bb (Nat.ble (n + x.n) (c2 / 2)) _ (oo (oCells (H.get id)) none _)) none) = _
 rw [h,Nat.beq_refl,h1,h2,hg]
 show bb (Nat.ble (0 + n * sz) (len xs)) (bb (Nat.beq (c2 % 2) 1) _ (bb (an (nt false) (an (nt false) (an (Nat.blt id H.next) (an (Nat.beq (0 + n * sz) (len xs)) (allL scalarB (takeL (x.n * sz) x.cs)))))) _ none)) none = _
 rw [h3,h4,hid,h5,hs];rfl

theorem done_bb2 {a b:Bool} {H:AHeap} {v:Value} (h1:a = true) (h2:b = true):done (bb a (bb b (some H) none) none) v = some (v,H):=by subst h1;subst h2;rfl
theorem callc_eq {c:Bool} {o:Option Value} {v:Value} {H:AHeap} {r:Option (Value×AHeap)} (hc:c = true) (h:o = some v):bb c (oo o none fun v=>some (v,H)) r = some (v,H):=by subst hc;subst h;rfl
theorem bb_true' {α:Type} {c:Bool} {a b:α} (h:c = true):bb c a b = a:=by subst h;rfl
theorem eq_bb {α:Type} {o:Option α} {c:Bool} {x:α} (h:o = bb c (some x) none) (hc:c = true):o = some x:=by rw [h,hc];rfl
theorem aresultsL_cons {tt:TT} {F:Fr} {H:AHeap} {r:ResultVar} {l:List ResultVar} {v:Value} {vs:List Value} (h:aresult tt F H r = some v) (hr:aresultsL tt F H l = some vs):aresultsL tt F H (r :: l) = some (v :: vs):=by
 show oo (aresult tt F H r) none (fun v=>oo (aresultsL tt F H l) none fun l=>some (v :: l)) = _
 rw [h,hr];rfl
theorem aresults_of {tt:TT} {F:Fr} {H:AHeap} {rs:List ResultVar} {l:List Value} {r:Value} (h:aresultsL tt F H rs = some l) (hl:(ll l (some (.tuple #[])) fun v r=>ll r (some v) fun _ _=>some (.tuple ⟨l⟩)) = some r):aresults tt F H rs = some r:=by
 unfold aresults;rw [h];exact hl

noncomputable section
def oC (l:List Value):AObj:=.cells l false false []
def d2 (n:Nat):Nat:=2 * n + bb false 1 0
def hp (n:Nat) (l:List AObj):AHeap:=⟨n,objTr l 0 .nil,true⟩
def fr (n:Nat) (l:List (Nat×Value)):Fr:=⟨n,frTr l .nil⟩
def pt (b o:Nat):Value:=.pointer (some ⟨b,o,none⟩)
def sc (b o z n c:Nat):Value:=.slice (some ⟨b,o,some z⟩) n c
def zI (z:Int):Value:=.int .i64 z
def zB (b:Bool):Value:=.bool b
end
end Go.Sp
namespace Go.Sp
section
variable {tt:TT} {call:CallF} {n0:Nat}
theorem OpsG.ghs {os:List ROp} {F F':Fr} {H H':AHeap} (F1:Fr) (H1:AHeap) (h:GhS n0 F H F1 H1) (r:OpsG tt call n0 os F1 H1 F' H'):OpsG tt call n0 os F H F' H':=by
 induction h with
 | id=>exact r
 | step hg _ ih=>exact .gh hg (ih r)
theorem OpsG.seg {os:List ROp} {F F':Fr} {H H':AHeap} (m:Nat) (F1:Fr) (H1:AHeap) (h:evOps tt call (takeL m os) F H = some (F1,H1)) (r:OpsG tt call n0 (dropL m os) F1 H1 F' H'):OpsG tt call n0 os F H F' H':=.ops m h r
theorem Run.rG {ops:List ROp} {F F':Fr} {H H':AHeap} {Q:Ex→Fr→AHeap→Prop} (he:OpsG tt call n0 ops F H F' H') (h:Q .normal F' H') (hne:Nat.ble 1 (len ops) = true:=by kernel_rfl):Run tt call n0 (.reg [] ops) F H Q:=.regG hne he h
theorem Run.scopeM {α : Type} (S : α → Fr × AHeap) (M : Nat → α → Option Value) {v : Value} {b r : RC} {l : Nat} {F : Fr} {H : AHeap} {Q : Ex → Fr → AHeap → Prop} (n : Nat) (hz : ∀ y, M 0 y = none)
 (hb:Run tt call n0 b F H (Gto l Q (At n0 S (M n) v))) (hstep:∀ m y,M (m + 1) y = some v→Run tt call n0 r (S y).1 (S y).2 (Gto l Q (At n0 S (M m) v))):Run tt call n0 (.scope b l r) F H Q:=by
 refine .scope (fun m F H=>At n0 S (M m) v F H) (n + 1) (.mono hb fun e F H h=>?_) fun m F H hI=>?_
 ·cases e with
  | normal=>exact h
  | exit j=>exact h
  | goto j=>exact ⟨h.1,n,by omega,h.2⟩
  | ret=>exact h
 ·obtain ⟨y, h2, h3⟩ := hI
  cases m with
  | zero=>rw [hz] at h2;cases h2
  | succ m =>
   refine h3.run (.mono (hstep m y h2) fun e F H h=>?_)
   cases e with
   | normal=>exact h
   | exit j=>exact h
   | goto j=>exact ⟨h.1,m,by omega,h.2⟩
   | ret=>exact h
end
theorem keep_bbo {H:AHeap} {c:Bool} {o:Option Value} {v:Value} (h:c = true) (h2:o = some v):keep H (bb c o none) = some (v,H):=by rw [h,h2];rfl
theorem copy_eq' {c d : Bool} {ys : List Value} {G : List Value → AHeap} {E : List Value → Bool} {v : Value} (h1 : c = true) (h2 : E ys = d) (h3 : d = true) :
 oo (bb c (some ys) none) none (fun new=>oo (bb (E new) (some (G new)) none) none fun H'=>some (v,H')) = some (v,G ys):=by rw [h1,bb_true,oo_some,h2,h3];rfl
theorem arrEq_eq {H:AHeap} {c w b:Bool} {o:Option Bool} (h1:c = true) (h2:o = some b):keep H (oo (bb c o none) none fun b=>bv (bq w b)) = some (.bool (bq w b),H):=by rw [h1,bb_true,h2];rfl
noncomputable def appZ (H:AHeap) (sz bytes:Nat) (z:List Value) (s:Value) (n:Nat):Option (Value×AHeap):=bb (an (Nat.ble n 1000000) (roomy n bytes)) (aappendCells H sz bytes s n (zeroRow z n)) none
theorem appZ_0 {H : AHeap} {id o sz bytes ln c2 n : Nat} {z : List Value} (h1 : an (Nat.ble n 1000000) (roomy n bytes) = true) (h : Nat.beq n 0 = true) :
 appZ H sz bytes z (.slice (some ⟨id,o,some sz⟩) ln c2) n = some (.slice (some ⟨id,o,some sz⟩) ln c2,H):=by
 unfold appZ;rw [h1,bb_true]
 show bb (Nat.beq n 0) _ _ = _
 rw [h];rfl
theorem appZ_grow {H : AHeap} {id sz bytes n c2 m : Nat} {xs z : List Value} {anc : List Nat} (h0 : an (Nat.ble m 1000000) (roomy m bytes) = true) (h : Nat.beq m 0 = false) (hg : H.get id = .cells xs false false anc) (hid : Nat.blt id H.next = true)
 (hc:an (allL scalarB (zeroRow z m)) (growC sz bytes n c2 m xs) = true) :
 appZ H sz bytes z (.slice (some ⟨id,0,some sz⟩) n c2) m = some ((growR sz n m id xs (zeroRow z m) anc H).1,(growR sz n m id xs (zeroRow z m) anc H).2):=by
 obtain ⟨hs,hc⟩:=an_inv hc
 obtain ⟨h1,h2,h3,h4,h5⟩:=growC_some hc
 unfold appZ;rw [h0,bb_true]
 show bb (Nat.beq m 0) _ (bb (an (Nat.beq sz sz) (roomy (n + m) bytes)) (bb (Nat.ble (n + m) (c2 / 2)) _ (oo (oCells (H.get id)) none _)) none) = _
 rw [h,Nat.beq_refl,h1,h2,hg]
 show bb (Nat.ble (0 + n * sz) (len xs)) (bb (Nat.beq (c2 % 2) 1) _ (bb (an (nt false) (an (nt false) (an (Nat.blt id H.next) (an (Nat.beq (0 + n * sz) (len xs)) (allL scalarB (zeroRow z m)))))) _ none)) none = _
 rw [h3,h4,hid,h5,hs];rfl
end Go.Sp
namespace Go.Sp
noncomputable section
def encE (e:Ent):Value:=Ent.rec (motive:=fun _=>Value) (fun k v b=>.tuple ⟨[k,v,gi b]⟩) e
def decE (v:Value):Option Ent:=oo (vTup v) none fun l=>ll l none fun k l=>ll l none fun x l=>ll l none fun b l=>ll l (oo (vNat b) none fun n=>some ⟨k,x,n⟩) fun _ _=>none
def encO (o:AObj):Value:=AObj.rec (motive:=fun _=>Value) (fun xs _ _ _=>.agg ⟨xs⟩) (fun es c=>.tuple ⟨gi c :: mapL encE es⟩) (fun _ _ _ _=>deadV) deadV o
def decO (v:Value):Option AObj:=
 oo (vAgg v) (oo (vTup v) (bb (isDead v) (some .dead) none) fun l=>ll l none fun c r=>oo (vNat c) none fun n=>oo (mapO decE r) none fun es=>some (.map es n)) fun xs=>some (.cells xs false false [])
structure MapV where
 es:List Ent
 clock:Nat
def subHeap (tabs:List (List Value)) (os:List AObj):AHeap:=⟨len tabs + len os,objTr (appL (tabTr tabs) os) 0 .nil,true⟩
def immAt (H:AHeap) (i:Nat):Bool:=oo (oCells (H.get i)) false fun o=>o.imm
def tabsOk2 (H:AHeap) (tabs:List (List Value)):Nat→Bool:=List.rec (motive:=fun _=>Nat→Bool) (fun _=>true) (fun t _ ih i=>an (valsEq (cellsAt H i) t) (an (immAt H i) (ih (Nat.succ i)))) tabs
def nilL {α:Type} (l:List α):Bool:=ll l true fun _ _=>false
def emptyB (o:AObj):Bool:=AObj.rec (motive:=fun _=>Bool) (fun xs _ _ _=>nilL xs) (fun _ _=>false) (fun _ _ _ _=>false) true o
def wrB (o:AObj):Bool:=AObj.rec (motive:=fun _=>Bool) (fun _ imm spent _=>an (nt imm) (nt spent)) (fun _ _=>true) (fun _ _ _ _=>false) false o
def wrAll (H:AHeap) (l:List (Option Nat)):Bool:=allL (fun o=>oo o true fun id=>wrB (H.get id)) l
def ancAt (H:AHeap) (id:Nat):List Nat:=oo (oCells (H.get id)) [] fun o=>o.anc
def ancsOf (H:AHeap) (l:List (Option Nat)):List Nat:=List.rec (motive:=fun _=>List Nat) [] (fun o _ ih=>appL (oo o [] fun id=>ancAt H id) ih) l
def rootOk (H:AHeap) (v:Value):Bool:=oo (vSl v) true fun s=>orr (Nat.ble 2 s.cap) (emptyB (H.get s.id))
def rootsOk (F:Fr) (H:AHeap) (rs:List Rt):List (Option Nat)→Bool:=
 List.rec (motive:=fun _=>List (Option Nat)→Bool) (fun _=>true) (fun r _ ih o=>an (rootOk H (r.val F H o)) (ih (addRt o (r.val F H o)))) rs
def rangeL (n:Nat):List Nat:=Nat.rec (motive:=fun _=>List Nat) [] (fun m r=>appL r [m]) n
def invL (olds:List (Option Nat)) (next extra:Nat):List (Option Nat):=appL (mapL (fun p=>idxOf p olds 0) (rangeL next)) (mapL (fun q=>some (len olds + q)) (rangeL extra))
def pushL (obs:List AObj):AHeap→AHeap:=List.rec (motive:=fun _=>AHeap→AHeap) (fun H=>H) (fun o _ ih H=>ih (H.push o)) obs
def setJs (js:List (Option Nat)):List AObj→AHeap→AHeap:=
 List.rec (motive:=fun _=>List AObj→AHeap→AHeap) (fun obs H=>pushL obs H) (fun j _ ih obs H=>ll obs H fun o r=>ih r (oo j H fun id=>H.set id o)) js
def backObj (inv:List (Option Nat)) (p:Bool×AObj):Option AObj:=pp p fun deep o=>renObj inv deep false o

def objF (tabs:List (List Value)) (na:Nat) (rs:List Rt) (outs:List Bool) (f:List Value→Option Value) (args:List Value) (H:AHeap):Option (Value×AHeap):=
 (fun F => (fun olds => bb (an (tabsOk2 H tabs 0) (an (idxChk olds olds 0) (an (Nat.beq (len olds) (len tabs + len rs)) (an (Nat.beq (len args) na) (wrAll H (dropL (len tabs) olds))))))
   (bb (rootsOk F H rs (idents (len tabs)))
     (oo (mapO (newObj H [] olds) (zipL (mapL Rt.deep rs) (dropL (len tabs) olds))) none fun os =>
       oo (mapO (ren2 olds) args) none fun as=>oo (f (appL as (mapL encO os))) none fun z=>oo (vTup z) none fun l=>ll l none fun v es=>oo (mapO decO es) none fun os'=>
        bb (an (Nat.beq (len outs) (len os')) (Nat.ble (len rs) (len os')))
         (oo (mapO (backObj (invL olds H.next (len os' - len rs))) (zipL outs os')) none fun ns => oo (ren2 (invL olds H.next (len os' - len rs)) v) none fun v' =>
           some (v',setJs (dropL (len tabs) olds) ns (H.kill (ancsOf H (dropL (len tabs) olds))))) none) none) none)
  (oldsOf F H rs (idents (len tabs)))) (Fr.made (len args) args)
end

def plainO (o:AObj):Prop:=o = .dead∨(∃ xs,o = .cells xs false false [])∨∃ es c,o = .map es c
def ObjOk (P:Program) (tabs:List (List Value)) (na k:Nat) (g:FuncId) (f:List Value→Option Value):Prop:=
 (∀ (as:Array Value) (w:World),(callFunc g as).run P w = .ok (.enter g as) w) ∧
 ∀ args os z, args.length = na → os.length = k → (∀ o ∈ os, plainO o) → f (args ++ os.map encO) = some z →
  ∀ R w args', (∀ i, i < tabs.length → R.f i = some (i, 0)) → (∀ i o, os[i]? = some o → R.f (tabs.length + i) = none → EmptyO o) → Sim (subHeap tabs os) R w → VRL R args args' →
   Calls P g ⟨args'⟩ w fun e w' => ∃ (u v : Value) (os' : List AObj) (H' : AHeap) (R' : Ren), e = .returned u ∧ z = .tuple ⟨v :: os'.map encO⟩ ∧ VR R' v u ∧ Post (subHeap tabs os) R w H' R' w' ∧ k ≤ os'.length ∧
    ∀ i o,os'[i]? = some o→H'.get (tabs.length + i) = o∧plainO o
def FinQ (tt:TT) (T k:Nat) (rs:List ResultVar) (z:Value) (F:Fr) (H:AHeap):Prop:=
 ∃ (v:Value) (os':List AObj),z = .tuple ⟨v :: os'.map encO⟩∧aresults tt F H rs = some v∧k≤os'.length∧∀ i o,os'[i]? = some o→H.get (T + i) = o∧plainO o
def FinO (tt : TT) (T k : Nat) (rs : List ResultVar) (z : Value) : Ex → Fr → AHeap → Prop
 | .exit _,_,_=>False
 | .goto _,_,_=>False
 | .normal,F,H=>∃ F1 H1,GhS (T + k) F H F1 H1∧FinQ tt T k rs z F1 H1
 | .ret,F,H=>FinQ tt T k rs z F H
theorem GhS.trans {n0:Nat} {F F1 F2:Fr} {H H1 H2:AHeap} (h:GhS n0 F H F1 H1) (r:GhS n0 F1 H1 F2 H2):GhS n0 F H F2 H2:=by
 induction h with
 | id=>exact r
 | step hg _ ih=>exact .step hg (ih r)
theorem FinO.ghs {tt:TT} {T k:Nat} {rs:List ResultVar} {z:Value} {F:Fr} {H:AHeap} (F':Fr) (H':AHeap) (h:GhS (T + k) F H F' H') (r:FinO tt T k rs z .normal F' H'):FinO tt T k rs z .normal F H:=by
 obtain ⟨F1,H1,h1,h2⟩:=r
 exact ⟨F1,H1,h.trans h1,h2⟩

theorem subHeap_get (tabs:List (List Value)) (os:List AObj) (i:Nat):(subHeap tabs os).get i = if i < tabs.length then (match tabs[i]? with | some t=>.cells t true false [] | none=>.dead) else (os[i - tabs.length]?).getD .dead:=by
 unfold subHeap
 rw [AHeap.get_mk,objTr_get]
 have hl:(tabTr tabs).length = tabs.length:=by simp [tabTr]
 simp only [appL_eq,List.length_append,hl,Nat.zero_add,Nat.zero_le,true_and,Nat.sub_zero]
 by_cases h:i < tabs.length
 ·rw [if_pos (by omega),if_pos h,List.getElem?_append_left (by rw [hl];exact h),tabTr_get,List.getElem?_eq_getElem h];rfl
 ·rw [if_neg h]
  by_cases h2:i < tabs.length + os.length
  ·rw [if_pos h2,List.getElem?_append_right (by rw [hl];omega),hl]
  ·rw [if_neg h2,List.getElem?_eq_none (by omega)];rfl
theorem subHeap_next (tabs:List (List Value)) (os:List AObj):(subHeap tabs os).next = tabs.length + os.length:=by show len tabs + len os = _;rw [len_eq,len_eq]
theorem subHeap_tab {tabs:List (List Value)} {os:List AObj} {i:Nat} {t:List Value} (h:tabs[i]? = some t):(subHeap tabs os).get i = .cells t true false []:=by
 rw [subHeap_get,if_pos (List.getElem?_eq_some_iff.1 h).1,h]
theorem subHeap_obj (tabs:List (List Value)) (os:List AObj) (i:Nat):(subHeap tabs os).get (tabs.length + i) = (os[i]?).getD .dead:=by
 rw [subHeap_get,if_neg (by omega),show tabs.length + i - tabs.length = i by omega]
theorem plainO_anc {o:AObj} (h:plainO o):o.ancOf = []:=by
 rcases h with rfl | ⟨xs,rfl⟩ | ⟨es,c,rfl⟩ <;> rfl
theorem decE_enc (e:Ent):decE (encE e) = some e:=by obtain ⟨k,v,b⟩:=e;rfl
theorem decEs_enc (es:List Ent):mapO decE (es.map encE) = some es:=by
 induction es with
 | nil=>rfl
 | cons e es ih =>
  show oo (decE (encE e)) none (fun b=>oo (mapO decE (es.map encE)) none fun r=>some (b :: r)) = _
  rw [decE_enc,oo_some,ih];rfl
theorem decO_enc {o:AObj} (h:plainO o):decO (encO o) = some o:=by
 rcases h with rfl | ⟨xs,rfl⟩ | ⟨es,c,rfl⟩
 ·rfl
 ·rfl
 ·show oo (mapO decE (mapL encE es)) none (fun es => some (AObj.map es c)) = _
  rw [mapL_eq,decEs_enc];rfl
theorem decOs_enc {os:List AObj} (h:∀ o ∈ os,plainO o):mapO decO (os.map encO) = some os:=by
 induction os with
 | nil=>rfl
 | cons o os ih =>
  show oo (decO (encO o)) none (fun b=>oo (mapO decO (os.map encO)) none fun r=>some (b :: r)) = _
  rw [decO_enc (h o (by simp)),oo_some,ih fun o ho=>h o (by simp [ho])];rfl

theorem tabsOk2_some {H:AHeap} {tabs:List (List Value)} {j:Nat} (h:tabsOk2 H tabs j = true):∀ i t,tabs[i]? = some t→cellsAt H (j + i) = t∧immAt H (j + i) = true:=by
 induction tabs generalizing j with
 | nil=>intro i t h;simp at h
 | cons a tabs ih =>
  obtain ⟨h1,h2⟩:=an_inv (show an (valsEq (cellsAt H j) a) (an (immAt H j) (tabsOk2 H tabs (j + 1))) = true from h)
  obtain ⟨h2,h3⟩:=an_inv h2
  intro i t hi
  cases i with
  | zero=>simp at hi;subst hi;exact ⟨valsEq_eq h1,h2⟩
  | succ i=>have:=ih h3 i t (by simpa using hi);rwa [show j + (i + 1) = j + 1 + i by omega]
theorem tab_imm {H:AHeap} {i:Nat} {t:List Value} (h1:cellsAt H i = t) (h2:immAt H i = true) (hne:t ≠ []):∃ sp anc,H.get i = .cells t true sp anc:=by
 unfold cellsAt at h1
 unfold immAt at h2
 cases ho:H.get i with
 | cells xs imm sp anc =>
  rw [ho] at h1 h2
  have h1:xs = t:=h1
  have h2:imm = true:=h2
  exact ⟨sp,anc,by rw [h1,h2]⟩
 | dead=>rw [ho] at h2;cases h2
 | map=>rw [ho] at h2;cases h2
 | iter=>rw [ho] at h2;cases h2

theorem emptyB_ok {o:AObj} (h:emptyB o = true):EmptyO o:=by
 cases o with
 | dead=>trivial
 | cells xs i s a =>
  cases xs with
  | nil=>rfl
  | cons x xs=>cases h
 | map=>cases h
 | iter=>cases h
theorem wrB_ok {o:AObj} (h:wrB o = true):o.writable = true∧o.immB = false:=by
 cases o with
 | dead=>cases h
 | iter=>cases h
 | map=>exact ⟨rfl,rfl⟩
 | cells xs i s a =>
  obtain ⟨h1,h2⟩:=an_inv (show an (nt i) (nt s) = true from h)
  rw [nt_false h1,nt_false h2];exact ⟨rfl,rfl⟩
theorem wrAll_ok {H:AHeap} {l:List (Option Nat)} (h:wrAll H l = true) {i id:Nat} (hi:l[i]? = some (some id)):(H.get id).writable = true∧(H.get id).immB = false:=by
 unfold wrAll at h
 rw [allL_eq,List.all_eq_true] at h
 exact wrB_ok (h _ (List.mem_of_getElem? hi))
theorem ancsOf_mem {H:AHeap} {l:List (Option Nat)} {a:Nat}:a ∈ ancsOf H l↔∃ (i id:Nat),l[i]? = some (some id)∧a ∈ (H.get id).ancOf:=by
 have key:∀ id,ancAt H id = (H.get id).ancOf:=fun id=>by
  unfold ancAt
  cases H.get id <;> rfl
 induction l with
 | nil=>simp [ancsOf]
 | cons o l ih =>
  show a ∈ appL (oo o [] fun id=>ancAt H id) (ancsOf H l)↔_
  rw [appL_eq,List.mem_append]
  constructor
  ·rintro (h | h)
   ·cases o with
    | none=>cases h
    | some id=>exact ⟨0,id,rfl,by rw [←key];exact h⟩
   ·obtain ⟨i, id, h1, h2⟩ := ih.1 h
    exact ⟨i + 1,id,by simpa using h1,h2⟩
  ·rintro ⟨i, id, h1, h2⟩
   cases i with
   | zero=>simp at h1;subst h1;left;rw [oo_some,key];exact h2
   | succ i=>right;exact ih.2 ⟨i,id,by simpa using h1,h2⟩

theorem rangeL_eq (n:Nat):rangeL n = List.range n:=by
 induction n with
 | zero=>rfl
 | succ n ih=>show appL (rangeL n) [n] = _;rw [ih,appL_eq,List.range_succ]
theorem invL_get (olds:List (Option Nat)) (next extra p:Nat):(invL olds next extra)[p]? = if p < next then some (idxOf p olds 0) else if p < next + extra then some (some (olds.length + (p - next))) else none:=by
 unfold invL
 simp only [appL_eq,mapL_eq,rangeL_eq,len_eq]
 by_cases h:p < next
 ·rw [if_pos h,List.getElem?_append_left (by simpa using h)];simp [h]
 ·rw [if_neg h, List.getElem?_append_right (by simp; omega)]
  simp only [List.length_map,List.length_range,List.getElem?_map]
  by_cases h2:p < next + extra
  ·rw [if_pos h2,List.getElem?_range (by omega)];rfl
  ·rw [if_neg h2,List.getElem?_eq_none (by simp;omega)];rfl

theorem pushL_next (obs:List AObj) (H:AHeap):(pushL obs H).next = H.next + obs.length:=by
 induction obs generalizing H with
 | nil=>rfl
 | cons o obs ih=>show (pushL obs (H.push o)).next = _;rw [ih,AHeap.next_push];simp;omega
theorem pushL_get (obs:List AObj) (H:AHeap) (p:Nat):(pushL obs H).get p = if H.next≤p∧p < H.next + obs.length then (obs[p - H.next]?).getD .dead else H.get p:=by
 induction obs generalizing H with
 | nil=>show H.get p = _;rw [if_neg (by simp)]
 | cons o obs ih =>
  show (pushL obs (H.push o)).get p = _
  rw [ih,AHeap.next_push,AHeap.get_push]
  by_cases h:H.next + 1≤p∧p < H.next + 1 + obs.length
  ·rw [if_pos h,if_pos (by simp;omega),show p - H.next = (p - (H.next + 1)) + 1 by omega,List.getElem?_cons_succ]
  ·rw [if_neg h]
   by_cases h2:H.next = p
   ·rw [if_pos h2,if_pos (by simp;omega)];subst h2;simp
   ·rw [if_neg h2,if_neg (by simp;omega)]
theorem pushL_wf {obs:List AObj} {H:AHeap} (h:H.wf):(pushL obs H).wf:=by
 induction obs generalizing H with
 | nil=>exact h
 | cons o obs ih=>exact ih (h.push o)
theorem setJs_next (js:List (Option Nat)) (obs:List AObj) (H:AHeap) (hl:js.length≤obs.length):(setJs js obs H).next = H.next + (obs.length - js.length):=by
 induction js generalizing obs H with
 | nil=>show (pushL obs H).next = _;rw [pushL_next];simp
 | cons j js ih =>
  cases obs with
  | nil=>simp at hl
  | cons o obs =>
   show (setJs js obs (oo j H fun id=>H.set id o)).next = _
   rw [ih _ _ (by simpa using hl)]
   cases j with
   | none=>simp
   | some id=>simp
theorem setJs_wf {js:List (Option Nat)} {obs:List AObj} {H:AHeap} (h:H.wf) (hj:∀ (i id:Nat),js[i]? = some (some id)→id < H.next):(setJs js obs H).wf:=by
 induction js generalizing obs H with
 | nil=>exact pushL_wf h
 | cons j js ih =>
  cases obs with
  | nil=>exact h
  | cons o obs =>
   show (setJs js obs (oo j H fun id=>H.set id o)).wf
   cases j with
   | none=>exact ih h fun i id hi=>hj (i + 1) id (by simpa using hi)
   | some id =>
    refine ih (h.set (hj 0 id rfl) o) fun i id' hi=>?_
    rw [oo_some,AHeap.next_set]
    exact hj (i + 1) id' (by simpa using hi)
theorem setJs_other (js : List (Option Nat)) (obs : List AObj) (H : AHeap) (p : Nat) (hl : js.length ≤ obs.length) (hp : ∀ i : Nat, js[i]? ≠ some (some p)) :
 (setJs js obs H).get p = if H.next≤p∧p < H.next + (obs.length - js.length) then (obs[js.length + (p - H.next)]?).getD .dead else H.get p:=by
 induction js generalizing obs H with
 | nil=>show (pushL obs H).get p = _;rw [pushL_get];simp
 | cons j js ih =>
  cases obs with
  | nil=>simp at hl
  | cons o obs =>
   show (setJs js obs (oo j H fun id=>H.set id o)).get p = _
   rw [ih _ _ (by simpa using hl) fun i hi=>hp (i + 1) (by simpa using hi)]
   have e : ∀ H' : AHeap, H'.next = H.next → H'.get p = H.get p → (if H'.next ≤ p ∧ p < H'.next + (obs.length - js.length) then (obs[js.length + (p - H'.next)]?).getD AObj.dead else H'.get p) =
    if H.next≤p∧p < H.next + ((o :: obs).length - (j :: js).length) then ((o :: obs)[(j :: js).length + (p - H.next)]?).getD .dead else H.get p:=fun H' h1 h2=>by
    rw [h1,h2]
    simp only [List.length_cons,Nat.add_sub_add_right]
    rw [show js.length + 1 + (p - H.next) = js.length + (p - H.next) + 1 by omega,List.getElem?_cons_succ]
   cases j with
   | none=>exact e H rfl rfl
   | some id =>
    refine e _ (by rw [oo_some,AHeap.next_set]) ?_
    rw [oo_some,AHeap.get_set,if_neg]
    intro h;subst h;exact hp 0 rfl
theorem setJs_at (js:List (Option Nat)) (obs:List AObj) (H:AHeap) (p i:Nat) (hl:js.length≤obs.length) (hi:js[i]? = some (some p)) (hu:∀ i':Nat,js[i']? = some (some p)→i' = i) (hlt:p < H.next):(setJs js obs H).get p = (obs[i]?).getD .dead:=by
 induction js generalizing obs H i with
 | nil=>simp at hi
 | cons j js ih =>
  cases obs with
  | nil=>simp at hl
  | cons o obs =>
   show (setJs js obs (oo j H fun id=>H.set id o)).get p = _
   cases i with
   | zero =>
    simp at hi;subst hi
    rw [setJs_other _ _ _ _ (by simpa using hl) fun i' h=>by have:=hu (i' + 1) (by simpa using h);omega,oo_some,AHeap.next_set,if_neg (by omega),AHeap.get_set,if_pos rfl]
    rfl
   | succ i =>
    rw [ih _ _ i (by simpa using hl) (by simpa using hi) (fun i' h=>by have:=hu (i' + 1) (by simpa using h);omega) (by cases j with
     | none=>exact hlt
     | some id=>rw [oo_some,AHeap.next_set];exact hlt)]
    simp
end Go.Sp
namespace Go.Sp

theorem plain_closed {v:Value} (h:plain1 v = true):closed1 v = true:=by
 cases v <;> simp [plain1,vv] at h
 case bool=>rfl
 case int=>rfl
 case string=>rfl
 case pointer a=>cases a with
  | none=>rfl
  | some a=>simp at h
 case slice a l c=>cases a with
  | some a=>simp at h
  | none=>simp at h;obtain ⟨h1,h2⟩:=h;subst h1;subst h2;rfl
 case map m=>cases m with
  | none=>rfl
  | some m=>simp at h
 case nilFunc=>rfl
 case nilIface=>rfl
theorem dead_VR {R:Ren} (u:Value):VR R deadV u:=.any u

section
variable {H:AHeap} {R:Ren} {w:World} {args args':List Value}
theorem capOf_VR {v u:Value} (hv:VR R v u) (c:Nat):∃ u',VR R (capOf v c) u':=by
 unfold capOf
 cases hg:vFunc v with
 | none=>exact ⟨undef,dead_VR _⟩
 | some g =>
  have:=vFunc_some hg;subst this
  obtain ⟨f,a,b⟩:=g
  rw [oo_some]
  show ∃ u',VR R (oo (nthL (appL a b) c) deadV fun v=>v) u'
  cases hv with
  | func fn hl hh hl' hh' =>
   rw [appL_eq,nthL_eq]
   cases hx:(a ++ b)[c]? with
   | none=>exact ⟨undef,dead_VR _⟩
   | some x =>
    rw [oo_some]
    obtain ⟨y,_,hv⟩:=(VRL.append (R:=R) ⟨hl,hh⟩ ⟨hl',hh'⟩).get hx
    exact ⟨y,hv⟩
theorem cellOf_VR (hs:Sim H R w) {o:List (Option Nat)} (hinv:∀ (k id:Nat),o[k]? = some (some id)→R.f id = none→EmptyO (H.get id)) (j i:Nat):∃ u,VR R (cellOf H o j i) u:=by
 unfold cellOf
 rw [nthL_eq]
 cases hj:o[j]? with
 | none=>exact ⟨undef,dead_VR _⟩
 | some q =>
  rw [oo_some]
  cases q with
  | none=>exact ⟨undef,dead_VR _⟩
  | some id =>
   rw [oo_some]
   cases ho:oCells (H.get id) with
   | none=>exact ⟨undef,dead_VR _⟩
   | some ob =>
    rw [oo_some,nthL_eq]
    cases hx:ob.xs[i]? with
    | none=>exact ⟨undef,dead_VR _⟩
    | some x =>
     rw [oo_some]
     cases hf:R.f id with
     | none =>
      have h1:=hinv j id hj hf
      rw [oCells_some ho] at h1
      have h1:ob.xs = []:=h1
      rw [h1] at hx;simp at hx
     | some p =>
      obtain ⟨C,t,fz,_,_,_,h4⟩:=hs.cells (c:=p.1) (β:=p.2) hf ho
      obtain ⟨y,_,hv⟩:=h4 i x hx
      exact ⟨y,hv⟩
theorem val_VR (hs:Sim H R w) (ha:VRL R args args') {o:List (Option Nat)} (hinv:∀ (k id:Nat),o[k]? = some (some id)→R.f id = none→EmptyO (H.get id)) (n:Nat) (r:Rt):∃ u,VR R (r.val (Fr.made n args) H o) u:=by
 have htmp:∀ t,∃ u,VR R ((Fr.made n args).get t) u:=fun t=>by
  rw [Fr.get_made]
  cases hx:args[t]? with
  | none=>exact ⟨undef,dead_VR _⟩
  | some x =>
   obtain ⟨y,_,hv⟩:=ha.get hx
   exact ⟨y,hv⟩
 cases r with
 | tmp t d=>exact htmp t
 | cell j i d=>exact cellOf_VR hs hinv j i
 | cap t c d=>obtain ⟨u,hu⟩:=htmp t;exact capOf_VR hu c
 | ccap j i c d=>obtain ⟨u,hu⟩:=cellOf_VR hs hinv j i;exact capOf_VR hu c
theorem olds_inv (hs : Sim H R w) (ha : VRL R args args') (n : Nat) : ∀ (rs : List Rt) (o : List (Option Nat)), (∀ (k id : Nat), o[k]? = some (some id) → R.f id = none → EmptyO (H.get id)) → rootsOk (Fr.made n args) H rs o = true →
 ∀ (k id:Nat),(oldsOf (Fr.made n args) H rs o)[k]? = some (some id)→R.f id = none→EmptyO (H.get id)
 | [],o,h,_=>h
 | r :: rs, o, h, hr => by
  obtain ⟨h1,h2⟩:=an_inv (show an (rootOk H (r.val (Fr.made n args) H o)) (rootsOk (Fr.made n args) H rs (addRt o (r.val (Fr.made n args) H o))) = true from hr)
  obtain ⟨u,hu⟩:=val_VR hs ha h n r
  refine olds_inv hs ha n rs _ (fun k id hk hid=>?_) h2
  generalize r.val (Fr.made n args) H o = v at hk h1 hu
  unfold addRt at hk
  rw [appL_eq] at hk
  by_cases hlt:k < o.length
  ·rw [List.getElem?_append_left hlt] at hk;exact h k id hk hid
  ·rw [List.getElem?_append_right (by omega)] at hk
   have hk1:(oo (refId v) none fun id=>oo (idxOf id o 0) (some id) fun _=>none) = some id:=by
    cases hd:k - o.length with
    | zero=>rw [hd] at hk;simpa using hk
    | succ m=>rw [hd] at hk;simp at hk
   obtain ⟨id',hr1,hk2⟩:=oo_inv hk1
   have hid':id' = id:=by
    cases hi:idxOf id' o 0 with
    | none=>rw [hi] at hk2;injection hk2
    | some m=>rw [hi] at hk2;cases hk2
   subst hid'
   unfold refId at hr1
   cases hp:vPtr v with
   | some p =>
    rw [hp,oo_some] at hr1
    injection hr1 with hr1
    rw [vPtr_some hp] at hu
    obtain ⟨c,β,hf,_⟩:=hu.ptr_l
    rw [hr1,hid] at hf;cases hf
   | none =>
    rw [hp,oo_none] at hr1
    cases hsl:vSl v with
    | some s =>
     rw [hsl,oo_some] at hr1
     injection hr1 with hr1
     unfold rootOk at h1
     rw [hsl,oo_some,orr_eq,Bool.or_eq_true] at h1
     rw [hr1] at h1
     rcases h1 with h1 | h1
     ·have h1 := Nat.le_of_ble_eq_true h1
      rcases hu.sl_l hsl with ⟨c,β,cap,hf,_⟩ | ⟨c,o2,_,k0,k00⟩ | ⟨_,k0,k00⟩
      ·rw [hr1,hid] at hf;cases hf
      ·omega
      ·omega
     ·exact emptyB_ok h1
    | none =>
     rw [hsl,oo_none] at hr1
     obtain ⟨m,hm,hr2⟩:=oo_inv hr1
     subst hr2
     rw [vMap_some hm] at hu
     obtain ⟨c,hf,_⟩:=hu.map_l
     rw [hid] at hf;cases hf
end

theorem renObj_plain {olds:List (Option Nat)} {d tr:Bool} {o o':AObj} (hw:o.writable = true) (h:renObj olds d tr o = some o'):plainO o':=by
 cases o with
 | dead=>cases hw
 | iter=>cases h
 | map es c =>
  obtain ⟨_,h1⟩:=bb_inv (show bb (orr tr (allL entClosed es)) (some (AObj.map es c)) none = some o' from h)
  injection h1 with h1;subst h1;exact .inr (.inr ⟨_,_,rfl⟩)
 | cells xs imm sp anc =>
  have hw:(!imm && !sp) = true:=hw
  have hi:imm = false:=by cases imm <;> simp at hw ⊢
  have hsp:sp = false:=by cases sp <;> simp at hw ⊢
  subst hi;subst hsp
  obtain ⟨_,h2⟩:=bb_inv (show bb _ (bb d (oo (mapO (renF olds) xs) none fun xs'=>some (AObj.cells xs' false false [])) (bb (orr tr (allL closed1 xs)) (some (AObj.cells xs false false [])) none)) none = some o' from h)
  rw [bb_eq] at h2
  split at h2
  ·obtain ⟨ys, _, h3⟩ := oo_inv h2
   injection h3 with h3;subst h3;exact .inr (.inl ⟨_,rfl⟩)
  ·obtain ⟨_, h3⟩ := bb_inv h2
   injection h3 with h3;subst h3;exact .inr (.inl ⟨_,rfl⟩)

section
variable {P:Program} {tabs:List (List Value)}

theorem objOk_of_run {tt : TT} (hT : TOk P tt) (hm : P.follows .mixedOrders = true) {g na k : Nat} {r : RFn} {call : CallF} (hc : CallOk P (List.range tabs.length) call) (hfn : FnOk P (List.range tabs.length) g r) {f : List Value → Option Value}
 (h:∀ args os z,args.length = na→os.length = k→(∀ o ∈ os,plainO o)→f (args ++ os.map encO) = some z→args.length≤r.n∧Run tt call (tabs.length + k) r.body (Fr.made r.n args) (subHeap tabs os) (FinO tt tabs.length k r.results z)):ObjOk P tabs na k g f:=by
 refine ⟨enter_ok hfn,fun args os z hna hk hpl hz=>?_⟩
 obtain ⟨hle,hrun⟩:=h args os z hna hk hpl hz
 intro R w args' hR hemp hs ha
 obtain ⟨fd,c,e1,e2,e3,e4,_,hcomp,hok⟩:=hfn.ok
 refine calls_of_wp e1 e2 ?_
 have hlen:=ha.1
 have hsize:((⟨args'⟩:Array Value) ++ Array.replicate (fd.ntmps - (⟨args'⟩:Array Value).size) undef).size = r.n:=by simp;omega
 have hgl:GlR (List.range tabs.length) R:=fun g hg=>hR g (by simpa using hg)
 have hfull:∀ id,id < (subHeap tabs os).next→R.f id = none→EmptyO ((subHeap tabs os).get id):=fun id hid hr=>by
  rw [subHeap_next] at hid
  by_cases hlt:id < tabs.length
  ·rw [hR id hlt] at hr;cases hr
  ·obtain ⟨j, rfl⟩ : ∃ j, id = tabs.length + j := ⟨id - tabs.length, by omega⟩
   have hj:j < os.length:=by omega
   rw [subHeap_obj,List.getElem?_eq_getElem hj]
   exact hemp j _ (List.getElem?_eq_getElem hj) hr
 have hrun:Run tt call (subHeap tabs os).next r.body (Fr.made r.n args) (subHeap tabs os) (FinO tt tabs.length k r.results z):=by
  rw [subHeap_next,hk];exact hrun
 have hst:St (List.range tabs.length) (subHeap tabs os) R w [] r.n (Fr.made r.n args) (subHeap tabs os) ⟨(⟨args'⟩:Array Value) ++ Array.replicate (fd.ntmps - (⟨args'⟩:Array Value).size) undef,[]⟩ w:=by
  refine ⟨⟨R,.refl hs,fun t=>?_⟩,rfl,hsize,Fr.n_made ..⟩
  rw [Fr.get_made,Array.getD_eq_getD_getElem?]
  show VR R _ (((⟨args'⟩:Array Value) ++ Array.replicate (fd.ntmps - (⟨args'⟩:Array Value).size) undef)[t]?.getD undef)
  rw [Array.getElem?_append]
  by_cases hlt:t < args'.length
  ·rw [if_pos (by simpa using hlt)]
   obtain ⟨x, hx⟩ : ∃ x, args[t]? = some x := ⟨args[t]'(by omega), by simp⟩
   obtain ⟨y,hy,hv⟩:=ha.get hx
   rw [hx,show (⟨args'⟩:Array Value)[t]? = some y by simpa using hy]
   exact hv
  ·rw [List.getElem?_eq_none (by omega)]
   exact .any _
 refine wp_mono (hrun.sound hT hc hm hs hgl hfull hcomp hok _ w hst) fun x a' w' ⟨e,F',H',h1,h2,h3⟩=>?_
 subst h1
 have fin : ∀ F' H', St (List.range tabs.length) (subHeap tabs os) R w [] r.n F' H' a' w' → FinQ tt tabs.length k r.results z F' H' → bodyPost P fd (fun e w' => ∃ (u v : Value) (os' : List AObj) (H' : AHeap) (R' : Ren), e = .returned u ∧ z = .tuple ⟨v :: os'.map encO⟩ ∧ VR R' v u ∧ Post (subHeap tabs os) R w H' R' w' ∧ k ≤ os'.length ∧
  ∀ i o,os'[i]? = some o→H'.get (tabs.length + i) = o∧plainO o) .normal a' w':=fun F' H' ⟨⟨R',hp,ht⟩,hd,_,_⟩ ⟨v,os',g1,hres,g2,g3⟩=>by
  rw [←e4] at hres
  obtain ⟨u,hu,huv⟩:=aresults_ok hT hp.sim ht hres
  exact ⟨hd,u,hu,u,v,os',H',R',rfl,g1,huv,hp,g2,g3⟩
 cases e with
 | normal =>
  obtain ⟨F1,H1,hg,hq⟩:=h2
  have hg:GhS (subHeap tabs os).next F' H' F1 H1:=by rw [subHeap_next,hk];exact hg
  have hst1:∀ {F F1:Fr} {H H1:AHeap},GhS (subHeap tabs os).next F H F1 H1→St (List.range tabs.length) (subHeap tabs os) R w [] r.n F H a' w'→St (List.range tabs.length) (subHeap tabs os) R w [] r.n F1 H1 a' w':=fun hg=>by
   induction hg with
   | id=>exact fun h=>h
   | step h _ ih=>exact fun hst=>ih (hst.ghost hs hfull h)
  exact fin F1 H1 (hst1 hg h3) hq
 | exit j=>exact h2.elim
 | goto j=>exact h2.elim
 | ret=>exact fin F' H' h3 h2

theorem sub_sim {H : AHeap} {R Rs : Ren} {w : World} {olds : List (Option Nat)} {os : List AObj} (hs : Sim H R w) (hgl : GlR (List.range tabs.length) R) (hne : ∀ t ∈ tabs, t ≠ []) (hpl : ∀ t ∈ tabs, ∀ x ∈ t, plain1 x = true)
 (htab:tabsOk2 H tabs 0 = true) (hRs:Rs = ⟨fun i=>oo (nthL olds i) none fun o=>oo o none fun id=>R.f id,R.sz,R.ro⟩) (hRn:Renum R Rs olds) (hidx:∀ (i b:Nat),olds[i]? = some (some b)→idxOf b olds 0 = some i)
 (hid:∀ i,i < tabs.length→olds[i]? = some (some i)) (hlen:olds.length = tabs.length + os.length) (hpo:∀ o ∈ os,plainO o)
 (hos:∀ (j id:Nat),olds[tabs.length + j]? = some (some id)→∃ d o,os[j]? = some o∧renObj olds d false (H.get id) = some o):Sim (subHeap tabs os) Rs w:=by
 have hRf:∀ i p,Rs.f i = some p→∃ id,olds[i]? = some (some id)∧R.f id = some p:=fun i p h=>by
  rw [hRs] at h
  obtain ⟨o,ho,h4⟩:=oo_inv (show oo (nthL olds i) none (fun o=>oo o none fun id=>R.f id) = some p from h)
  obtain ⟨id,hi,h5⟩:=oo_inv h4
  subst hi
  exact ⟨id,by simpa using ho,h5⟩
 have htb:∀ i,i < tabs.length→∃ t sp anc,tabs[i]? = some t∧H.get i = .cells t true sp anc∧t ∈ tabs:=fun i hi=>by
  have ht:=List.getElem?_eq_getElem hi
  have:=tabsOk2_some htab i _ ht
  rw [Nat.zero_add] at this
  obtain ⟨sp,anc,h⟩:=tab_imm this.1 this.2 (hne _ (List.getElem_mem hi))
  exact ⟨_,sp,anc,ht,h,List.getElem_mem hi⟩
 have hlt:∀ (i id:Nat),olds[i]? = some (some id)→i < tabs.length + os.length:=fun i id h=>by rw [←hlen];exact (List.getElem?_eq_some_iff.1 h).1
 -- what stands there
 have hget:∀ i id,olds[i]? = some (some id)→tabs.length≤i→∃ d,renObj olds d false (H.get id) = some ((subHeap tabs os).get i):=fun i id h hi=>by
  obtain ⟨j,rfl⟩:∃ j,i = tabs.length + j:=⟨i - tabs.length,by omega⟩
  obtain ⟨d,o,h1,h2⟩:=hos j id h
  exact ⟨d,by rw [subHeap_obj,h1];exact h2⟩
 refine ⟨fun i c β h => ?_, fun i c β h => ?_, fun i c β i' β' h h' hne' hw => ?_, fun i a ha => ?_, fun i hi => ?_, fun c C hc => ?_⟩
 ·obtain ⟨id, h1, h2⟩ := hRf i _ h
  rw [subHeap_next]
  exact ⟨hlt i id h1,(hs.dom id c β h2).2⟩
 ·obtain ⟨id, h1, h2⟩ := hRf i _ h
  by_cases hi:i < tabs.length
  ·have h3 := hid i hi
   rw [h1] at h3;injection h3 with h3;injection h3 with h3;subst h3
   obtain ⟨t,sp,anc,g1,g2,g3⟩:=htb id hi
   rw [subHeap_tab g1]
   have ho:=hs.obj id c β h2
   rw [g2] at ho
   obtain ⟨C,ty,fz,k1,k2,k3,k4,k5⟩:=ho
   refine ⟨C,ty,fz,k1,by rw [hRs];exact k2,k3,fun q x hx=>?_,fun h=>by cases h⟩
   obtain ⟨y,n1,n2⟩:=k4 q x hx
   exact ⟨y,n1,n2.closed (fun c C h=>by rw [hRs];exact h) (plain_closed (hpl t g3 x (List.mem_of_getElem? hx)))⟩
  ·obtain ⟨d, h6⟩ := hget i id h1 (by omega)
   exact renObj_ok hRn h6 (fun h9=>by cases h9) (hs.obj id c β h2)
 ·obtain ⟨id, h1, h2⟩ := hRf i _ h
  obtain ⟨id',h1',h2'⟩:=hRf i' _ h'
  by_cases hi:i < tabs.length
  ·obtain ⟨t, sp, anc, g1, g2, g3⟩ := htb i hi
   rw [subHeap_tab g1] at hw;cases hw
  ·obtain ⟨d, h6⟩ := hget i id h1 (by omega)
   obtain ⟨g1,g2,g3,g4,g5⟩:=renObj_write h6
   rw [g1] at hw
   have hidne:id ≠ id':=fun e=>by subst e;have:=(hidx i id h1).symm.trans (hidx i' id h1');injection this with this;exact hne' this
   rcases hs.sep id c β id' β' h2 h2' hidne hw with h7 | ⟨h7, _⟩
   ·by_cases hi' : i' < tabs.length
    ·have h3 := hid i' hi'
     rw [h1'] at h3;injection h3 with h3;injection h3 with h3;subst h3
     obtain ⟨t,sp,anc,g1,g2,g3⟩:=htb id' hi'
     rw [g2] at h7;cases h7
    ·obtain ⟨d', h6'⟩ := hget i' id' h1' (by omega)
     left
     rw [h7] at h6'
     injection h6' with h6'
     exact h6'.symm
   ·have := g4 hw id' h7
    rw [hidx i' id' h1'] at this;cases this
 ·by_cases hi : i < tabs.length
  ·obtain ⟨t, sp, anc, g1, g2, g3⟩ := htb i hi
   rw [subHeap_tab g1] at ha;cases ha
  ·obtain ⟨j, rfl⟩ : ∃ j, i = tabs.length + j := ⟨i - tabs.length, by omega⟩
   rw [subHeap_obj] at ha
   cases hj:os[j]? with
   | none=>rw [hj] at ha;cases ha
   | some o=>rw [hj] at ha;rw [Option.getD_some,plainO_anc (hpo o (List.mem_of_getElem? hj))] at ha;cases ha
 ·rw [subHeap_next] at hi
  obtain ⟨j,rfl⟩:∃ j,i = tabs.length + j:=⟨i - tabs.length,by omega⟩
  rw [subHeap_obj,List.getElem?_eq_none (by omega)];rfl
 ·rw [hRs] at hc
  refine ⟨(hs.ro c C hc).1,fun i β h=>?_⟩
  obtain ⟨id,h1,h2⟩:=hRf i _ h
  by_cases hi:i < tabs.length
  ·obtain ⟨t, sp, anc, g1, g2, g3⟩ := htb i hi
   rw [subHeap_tab g1];rfl
  ·obtain ⟨d, h6⟩ := hget i id h1 (by omega)
   rw [(renObj_write h6).1]
   exact (hs.ro c C hc).2 id β h2
end
end Go.Sp
