/- From promises of models to laws: what is read, closed runs as promises, the last step. -/
import Derived.Test.YtgplhblofefkjaaDoorSpLawx
import Derived.ReadAgain
import Derived.Deep.DeepHandedRow

namespace Go.Sp
open Go.ChangeShapes Go.WideShapes Go.ChangeAt Go.RowKit

/-- What is read of a value's cells. -/
theorem read_ok {P : Program} {w : World} {R : Ren} (K : Kids P (· < P.types.size)) (hz : ∀ t e, t < P.types.size → P.underlying t = some (.slice e) → 0 < P.cellsOf e) (hR : R.ro = allRo w) {H : Type} {enc : TypeId × Value → H} {held : Bool} :
    ∀ (m n : Nat) (t : TypeId) (cs : List Value) (x : DataW H × List MemPlace), t < P.types.size → plainTy P m t = true → DataW.trod enc P w 0 (fun _ => true) held n t cs = some x →
      ∃ xs, VRL R xs cs ∧ (∀ y ∈ xs, closed1 y = true) ∧ Shp P t xs := by
  intro m
  induction m with
  | zero => intro n t cs x _ h; cases h
  | succ m ih =>
    intro n t cs x ht hp h
    unfold plainTy at hp
    cases hu : P.underlying t with
    | none => rw [hu] at hp; cases hp
    | some d =>
      rw [hu] at hp
      cases d <;> simp only at hp <;> first | (cases hp; done) | skip
      case bool =>
        obtain ⟨b, rfl, _⟩ := DataW.trod_bool hu h
        exact ⟨[.bool b], .one (.bool b), by simp [closed1, vv], .bool hu b⟩
      case int k =>
        obtain ⟨z, rfl, _, hw⟩ := DataW.trod_int hu h
        exact ⟨[.int k z], .one (.int k z), by simp [closed1, vv], .int hu z hw⟩
      case slice e =>
        have he := K.slice ht hu
        have hpos := hz t e ht hu
        rcases DataW.trod_slice hu h with ⟨rfl, _⟩ | ⟨a, ln, cap, elems, rest, n', _, rfl, _, _, hlc, hcm, hel, h1, h2, _⟩
        · exact ⟨[fsV (P.cellsOf e) 0 0 []], .one (.fsN _ 0 (by decide)), by intro y hy; simp at hy; subst hy; rfl, .slice hu [] (by simp) (by simp)⟩
        · obtain ⟨h2, h3⟩ := h2 rfl
          have cellOf : ∀ (i : Nat) (ci : List Value), w.cells? 0 (a.add (i * P.cellsOf e)) (P.cellsOf e) = some ci → ci.length = P.cellsOf e ∧ ∀ j, j < P.cellsOf e → w.cell? ((a.add (i * P.cellsOf e)).add j) = ci[j]? := fun i ci hc => by
            unfold World.cells? at hc
            rw [if_pos (Nat.zero_le _)] at hc
            have hl := mapM_some_length hc
            refine ⟨by simpa using hl, fun j hj => ?_⟩
            exact mapM_some_get hc j j (by simp [hj])
          -- the elements
          obtain ⟨ls, hlen, hls⟩ := build_list (p := fun i (l : List Value) => ∃ ci, w.cells? 0 (a.add (i * P.cellsOf e)) (P.cellsOf e) = some ci ∧ VRL R l ci ∧ (∀ y ∈ l, closed1 y = true) ∧ Shp P e l) ln fun i hi => by
            have h9 := h1 i hi
            have hlt : i < elems.length := by omega
            rw [List.getElem?_eq_getElem hlt] at h9
            obtain ⟨ci, hc, ht9⟩ := Option.bind_eq_some_iff.1 h9
            obtain ⟨l, k1, k2, k3⟩ := ih n' e ci _ he hp ht9
            exact ⟨l, ci, hc, k1, k2, k3⟩
          have hsz : ∀ l ∈ ls, l.length = P.cellsOf e := fun l hl => by
            obtain ⟨i, hi⟩ := List.mem_iff_getElem?.1 hl
            obtain ⟨ci, hc, hv, _⟩ := hls i l hi
            rw [hv.1]; exact (cellOf i ci hc).1
          have hcl : ∀ y ∈ ls.flatten, closed1 y = true := fun y hy => by
            obtain ⟨l, hl, hy⟩ := mem_flatten_get hy
            obtain ⟨i, hi⟩ := List.mem_iff_getElem?.1 hl
            obtain ⟨ci, _, _, hc, _⟩ := hls i l hi
            exact hc y hy
          have hsh : ∀ l ∈ ls, Shp P e l := fun l hl => by
            obtain ⟨i, hi⟩ := List.mem_iff_getElem?.1 hl
            obtain ⟨ci, _, _, _, hs⟩ := hls i l hi
            exact hs
          refine ⟨[fsV (P.cellsOf e) ls.length 0 ls.flatten], ?_, by intro y hy; simp at hy; subst hy; rfl, .slice hu ls (by omega) hsh⟩
          obtain ⟨hfl, hfg⟩ := flatten_get hsz
          by_cases hcap : cap = 0
          · have : ln = 0 := by omega
            subst hcap; subst this
            have : ls = [] := List.eq_nil_of_length_eq_zero hlen
            subst this
            obtain ⟨c, o, s⟩ := a
            exact .one (.fsE (by decide))
          · -- there is a cell: the block is known
            have first : ∃ ci, w.cells? 0 (a.add (0 * P.cellsOf e)) (P.cellsOf e) = some ci := by
              by_cases hl0 : ln = 0
              · have h9 := h3 0 (by omega)
                rw [List.getElem?_eq_getElem (by omega)] at h9
                obtain ⟨ci, hc, _⟩ := Option.bind_eq_some_iff.1 h9
                rw [hl0] at hc
                exact ⟨ci, hc⟩
              · have h9 := h1 0 (by omega)
                rw [List.getElem?_eq_getElem (by omega)] at h9
                obtain ⟨ci, hc, _⟩ := Option.bind_eq_some_iff.1 h9
                exact ⟨ci, hc⟩
            obtain ⟨ci, hci⟩ := first
            obtain ⟨k1, k2⟩ := cellOf 0 ci hci
            have hc0 := k2 0 hpos
            rw [List.getElem?_eq_getElem (by omega)] at hc0
            simp only [Nat.zero_mul] at hc0
            have hsp := World.cell?_spot hc0
            obtain ⟨c, o, s⟩ := a
            simp [Addr.add] at hsp
            subst hsp
            have hblock : ∃ C ty fz, w.heap[c]? = some (.cells C ty fz) := by
              unfold World.cell? at hc0
              simp only [Addr.add, if_true] at hc0
              split at hc0
              · rename_i C ty fz hC; exact ⟨C, ty, fz, hC⟩
              · cases hc0
            obtain ⟨C, ty, fz, hC⟩ := hblock
            have cellC : ∀ (i j : Nat) (ci : List Value), w.cells? 0 ((⟨c, o, none⟩ : Addr).add (i * P.cellsOf e)) (P.cellsOf e) = some ci → j < P.cellsOf e → C[o + (i * P.cellsOf e + j)]? = ci[j]? := fun i j ci hc hj => by
              have h9 := (cellOf i ci hc).2 j hj
              rw [add_plain, add_plain] at h9
              unfold World.cell? at h9
              simp only [hC] at h9
              rw [← h9, Nat.add_assoc]; rfl
            have hro : R.ro c = some C := by rw [hR]; simp [allRo, hC]
            -- the row
            have row : ∀ q, q < ls.flatten.length → ∃ y, C[o + q]? = some y ∧ VR R (ls.flatten[q]?.getD undef) y := fun q hq => by
              rw [hfl] at hq
              have hd := Nat.div_add_mod q (P.cellsOf e)
              have hm := Nat.mod_lt q hpos
              have hi : q / P.cellsOf e < ls.length := (Nat.div_lt_iff_lt_mul hpos).2 hq
              have hq' : q = q / P.cellsOf e * P.cellsOf e + q % P.cellsOf e := by rw [Nat.mul_comm]; exact hd.symm
              obtain ⟨l, hl⟩ : ∃ l, ls[q / P.cellsOf e]? = some l := ⟨_, List.getElem?_eq_getElem hi⟩
              obtain ⟨ci, hc, hv, _⟩ := hls _ l hl
              have hcl := (cellOf _ ci hc).1
              refine ⟨ci[q % P.cellsOf e]'(by omega), ?_, ?_⟩
              · have := cellC _ _ ci hc hm
                rw [← hq'] at this
                rw [this, List.getElem?_eq_getElem (by omega)]
              · have h9 := hfg _ _ hm hi
                rw [← hq', hl] at h9
                simp only [Option.bind_some] at h9
                rw [h9, List.getElem?_eq_getElem (by rw [hv.1]; omega)]
                exact hv.2 _ _ _ (List.getElem?_eq_getElem (by rw [hv.1]; omega)) (List.getElem?_eq_getElem (by omega))
            have hfit : o + ls.flatten.length ≤ C.size := by
              by_cases h0 : ls.flatten.length = 0
              · rw [h0]
                have h9 := cellC 0 0 ci hci hpos
                rw [List.getElem?_eq_getElem (by omega)] at h9
                have := (Array.getElem?_eq_some_iff.1 h9).1
                omega
              · obtain ⟨y, hy, _⟩ := row (ls.flatten.length - 1) (by omega)
                have := (Array.getElem?_eq_some_iff.1 hy).1
                omega
            obtain ⟨ys, hyl, hys⟩ := build_list (p := fun q y => C[o + q]? = some y ∧ VR R (ls.flatten[q]?.getD undef) y) ls.flatten.length row
            refine .one ?_
            have : ln = ls.length := hlen.symm
            subst this
            refine .fs hro hfl hlc (fun h => by cases h) (by decide) hfit (fun i y hy => (hys i y hy).1) hcl hyl.symm fun i x y hx hy => ?_
            have := (hys i y hy).2
            rw [hx] at this
            exact this
      case array len e =>
        obtain ⟨he, hce⟩ := K.array ht hu
        obtain ⟨xs, n', _, _, hcl, hxl, hget⟩ := DataW.trod_array hu h
        obtain ⟨ls, hlen, hls⟩ := build_list (p := fun i (l : List Value) => VRL R l ((cs.drop (i * P.cellsOf e)).take (P.cellsOf e)) ∧ (∀ y ∈ l, closed1 y = true) ∧ Shp P e l) len fun i hi => by
          have h9 := hget i hi
          rw [List.getElem?_eq_getElem (by omega)] at h9
          obtain ⟨l, k1, k2, k3⟩ := ih n' e _ _ he hp h9
          exact ⟨l, k1, k2, k3⟩
        have hmem : ∀ l ∈ ls, (∀ y ∈ l, closed1 y = true) ∧ Shp P e l := fun l hl => by
          obtain ⟨i, hi⟩ := List.mem_iff_getElem?.1 hl
          exact (hls i l hi).2
        refine ⟨ls.flatten, pieces (szs := List.replicate len (P.cellsOf e)) (by simp [hlen]) (by simp [hcl, hce]) fun i l hl => ?_, fun y hy => ?_, .array hu ls hlen fun l hl => (hmem l hl).2⟩
        · have hi : i < len := by rw [← hlen]; exact (List.getElem?_eq_some_iff.1 hl).1
          have h9 := (hls i l hl).1
          have e1 : ((List.replicate len (P.cellsOf e)).take i).sum = i * P.cellsOf e := by rw [List.take_replicate, Nat.min_eq_left (by omega)]; simp
          have e2 : (List.replicate len (P.cellsOf e)).getD i 0 = P.cellsOf e := by simp [hi]
          rw [e1, e2]; exact h9
        · obtain ⟨l, hl, hy⟩ := mem_flatten_get hy
          exact (hmem l hl).1 y hy
      case struct fs =>
        obtain ⟨hk, hsum, hoff⟩ := K.struct ht hu
        obtain ⟨xs, n', _, _, hcl, hxl, hget⟩ := DataW.trod_struct hu h
        rw [List.all_eq_true] at hp
        obtain ⟨ls, hlen, hls⟩ := build_list (p := fun i (l : List Value) => ∀ f, fs[i]? = some f → VRL R l ((cs.drop f.offset).take (P.cellsOf f.type)) ∧ (∀ y ∈ l, closed1 y = true) ∧ Shp P f.type l) fs.size fun i hi => by
          have hf := Array.getElem?_eq_getElem hi
          have h9 := hget i _ hf
          rw [List.getElem?_eq_getElem (by omega)] at h9
          have hmem : fs[i] ∈ fs.toList := by simp
          obtain ⟨l, k1, k2, k3⟩ := ih n' _ _ _ (hk _ hmem) (hp _ hmem) h9
          exact ⟨l, fun f hf' => by rw [hf] at hf'; injection hf' with hf'; subst hf'; exact ⟨k1, k2, k3⟩⟩
        refine ⟨ls.flatten, pieces (szs := fs.toList.map fun f => P.cellsOf f.type) (by simp [hlen]) (by rw [hcl, hsum]) fun i l hl => ?_, fun y hy => ?_, .struct hu ls hlen fun i f l hf hl => ((hls i l hl) f hf).2.2⟩
        · have hi : i < fs.size := by rw [← hlen]; exact (List.getElem?_eq_some_iff.1 hl).1
          have hf := Array.getElem?_eq_getElem hi
          have h9 := ((hls i l hl) _ hf).1
          rw [hoff i fs[i] (by simp)] at h9
          have e2 : (fs.toList.map fun f => P.cellsOf f.type).getD i 0 = P.cellsOf fs[i].type := by simp [hi]
          rw [e2, ← List.map_take]; exact h9
        · obtain ⟨l, hl, hy⟩ := mem_flatten_get hy
          obtain ⟨i, hi⟩ := List.mem_iff_getElem?.1 hl
          have hlt : i < fs.size := by rw [← hlen]; exact (List.getElem?_eq_some_iff.1 hi).1
          exact ((hls i l hi) _ (Array.getElem?_eq_getElem hlt)).2.1 y hy

theorem Sim.congr {H H2 : AHeap} {R : Ren} {w : World} (hg : ∀ i, H2.get i = H.get i) (hn : H2.next = H.next) (hs : Sim H R w) : Sim H2 R w :=
  ⟨fun id c β h => by rw [hn]; exact hs.dom id c β h, fun id c β h => by rw [hg]; exact hs.obj id c β h, fun id c β id' β' h h' hne hw => by rw [hg] at hw; rw [hg, hg]; exact hs.sep id c β id' β' h h' hne hw,
    fun id a ha => by rw [hg] at ha; rw [hn, hg]; exact hs.anc id a ha, fun id hid => by rw [hn] at hid; rw [hg]; exact hs.wf id hid, fun c C h => ⟨(hs.ro c C h).1, fun id β h' => by rw [hg]; exact (hs.ro c C h).2 id β h'⟩⟩
theorem Post.congrL {H H2 H' : AHeap} {R R' : Ren} {w w' : World} (hg : ∀ i, H2.get i = H.get i) (hn : H2.next = H.next) (hp : Post H R w H' R' w') : Post H2 R w H' R' w' :=
  ⟨hp.le, fun id p h => by rw [hn]; exact hp.new id p h, hp.sim, by rw [hn]; exact hp.next, hp.grow, fun c hc h => hp.frame c hc fun id β hid => by rw [← hg]; exact h id β hid, fun id hi hr Q c β ob h => by rw [hn] at hi; rw [hg] at h; exact hp.calm id hi hr Q c β ob h,
    fun id hi h => by rw [hn] at hi; rw [hg] at h ⊢; exact hp.imm id hi h, fun id c β h hr => by rcases hp.fresh id c β h hr with h1 | ⟨i, b, h1, h2⟩; exact .inl h1; exact .inr ⟨i, b, h1, by rw [hg]; exact h2⟩, hp.side,
    fun c C h => by rcases hp.rofresh c C h with h1 | h1 | ⟨i, b, h1, h2⟩; exact .inl h1; exact .inr (.inl h1); exact .inr (.inr ⟨i, b, h1, by rw [hg]; exact h2⟩)⟩

/-- A closed run as a promise. -/
theorem pureOk_closed {P : Program} {tt : TT} (hT : TOk P tt) {fns : FuncId → Option RFn} (hf : ∀ f r, fns f = some r → FnOk P [0] f r) (hm : P.follows .mixedOrders = true) {xs : List Value} {g n : Nat} {b : Bool}
    (hrun : oo (evFn tt fns n g [] (tabHeap xs)) none (fun p => pp p fun v _ => some v) = some (.bool b)) : PureOk P [xs] g (fun args => ll args (some (.bool b)) fun _ _ => none) := by
  obtain ⟨q, hq, h1⟩ := oo_inv hrun
  rw [pp_eta] at h1
  injection h1 with h1
  have hok := (evFn_ok hT hf hm n) g [] _ q.1 q.2 hq
  refine ⟨hok.1, fun args v hv _ R w args' hR hs ha => ?_⟩
  obtain ⟨rfl, hv⟩ := ll_end hv
  injection hv with hv; subst hv
  have hget : ∀ i, (tabHeap xs).get i = (pureHeap [xs]).get i := fun i => by
    rw [pureHeap_get]
    show (AHeap.push ⟨0, .nil, false⟩ _).get i = _
    rw [AHeap.get_push]
    cases i with
    | zero => rfl
    | succ i => rw [if_neg (by intro h; cases h)]; rfl
  obtain rfl := ha.unnil
  have hnext : (tabHeap xs).next = (pureHeap [xs]).next := by
    show (AHeap.push _ _).next = _
    rw [AHeap.next_push]; rfl
  refine (hok.2 R w [] (hs.congr hget hnext) (fun g hg => by simp at hg; subst hg; rw [hR]; rfl) .nil).mono fun e w' ⟨u, R', he, hu, hp⟩ => ?_
  rw [h1] at hu
  exact ⟨u, q.2, R', he, rfl, hu, Post.congrL (fun i => (hget i).symm) hnext.symm hp⟩

/-- A law whose model says 'true'. -/
theorem law_true {P : Program} {xs : List Value} {g : FuncId} {f : List Value → Option Value} (hpu : PureOk P [xs] g f) {args args' : List Value} {W : World} {R : Ren} (hm : f args = some (.bool true)) (hcl : ∀ x ∈ args, closed2 x = true)
    (hR : R.f = fun i => if i < 1 then some (i, 0) else none) (hs : Sim (pureHeap [xs]) R W) (ha : VRL R args args') : Calls P g ⟨args'⟩ W fun e W' => e = .returned (.bool true) ∧ Grown W W' :=
  (hpu.2 args _ hm hcl R W args' hR hs ha).mono fun e W' ⟨u, H', R', he, _, hu, hp⟩ => by
    rw [hu.bool_l] at he
    exact ⟨he, grown_of hp fun id p h => by rw [hR] at h; obtain ⟨h1, _⟩ := tabf_some (show (if id < 1 then some (id, 0) else none) = some (p.1, p.2) from h); exact pureHeap_imm h1⟩

/-- The world at a law's beginning. -/
theorem start {P : Program} {w : World} {name : String} {k : IntKind} {zs : List Int} (h : Lib.TabIs P w name k zs) (hg : P.globalNamed name = some 0) (hne : 0 < zs.length) :
    ∃ R : Ren, R.f = (fun i => if i < 1 then some (i, 0) else none) ∧ R.ro = allRo w ∧ Sim (pureHeap [zs.map fun z => .int k z]) R w := by
  obtain ⟨n, hs, hgl⟩ := sim_tab h hg hne
  have := pure_sim (tabs := [zs.map fun z => .int k z]) hs (by intro g hg; exact hgl g (by simpa using hg)) (by
      show an (valsEq (cellsAt (tabHeap (zs.map fun z => .int k z)) 0) (zs.map fun z => .int k z)) true = true
      have e : cellsAt (tabHeap (zs.map fun z => Value.int k z)) 0 = zs.map fun z => .int k z := by
        unfold cellsAt
        show oo (oCells ((AHeap.push ⟨0, .nil, false⟩ _).get 0)) _ _ = _
        rw [AHeap.get_push]; rfl
      rw [e]
      have : ∀ l : List Int, valsEq (l.map fun z => Value.int k z) (l.map fun z => .int k z) = true := fun l => by
        induction l with
        | nil => rfl
        | cons z l ih =>
          show an (an (intKindEq k k) (ieq z z)) (valsEq (l.map fun z => Value.int k z) (l.map fun z => .int k z)) = true
          rw [ih]
          have h1 : intKindEq k k = true := by cases k <;> rfl
          have h2 : ieq z z = true := by cases z <;> simp [ieq, ii]
          rw [h1, h2]; rfl
      rw [this]; rfl) (allRo w) (allRo_ok w) (allRo_le hs) (by intro t ht; simp at ht; subst ht; intro h0; have h0 : zs = [] := (by simpa using h0); subst h0; simp at hne) (by intro t ht x hx; simp at ht; subst ht; simp at hx; obtain ⟨z, _, rfl⟩ := hx; rfl)
  exact ⟨_, rfl, rfl, this⟩

theorem grown_same {W W' : World} (h : Grown W W') {p : MemPlace} (hp : p.block < W.heap.size) : W.sameAt W' p := by
  have hk := h.1.2.2 p.block hp
  cases p with
  | cell b off =>
    show W'.cell? ⟨b, off, none⟩ = W.cell? ⟨b, off, none⟩
    unfold World.cell?
    simp only
    show _ = _
    have hk : match W.heap[b]?, W'.heap[b]? with
      | some (.cells c t fr), some (.cells c' t' fr') => t' = t ∧ fr' = fr ∧ c'.size = c.size ∧ ∀ j : Nat, ¬ False → c'[j]? = c[j]?
      | some (.map es clock), some (.map es' clock') => False ∨ (es' = es ∧ clock' = clock)
      | o, o' => o' = o := hk
    split at hk
    · rename_i e1 e2; rw [e1, e2]; simp [hk.2.2.2 off (fun h => h)]
    · rename_i e1 e2; rw [e1, e2]
    · rw [hk]
  | map b =>
    show W'.heap[b]? = W.heap[b]?
    have hk : match W.heap[b]?, W'.heap[b]? with
      | some (.cells c t fr), some (.cells c' t' fr') => t' = t ∧ fr' = fr ∧ c'.size = c.size ∧ ∀ j : Nat, ¬ False → c'[j]? = c[j]?
      | some (.map es clock), some (.map es' clock') => False ∨ (es' = es ∧ clock' = clock)
      | o, o' => o' = o := hk
    split at hk
    · rename_i e1 e2
      rw [e1, e2]
      obtain ⟨rfl, rfl, h1, h2⟩ := hk
      congr 2
      exact Array.ext_getElem? fun j => h2 j (fun h => h)
    · rename_i e1 e2
      rw [e1, e2]
      rcases hk with h9 | ⟨rfl, rfl⟩
      · exact h9.elim
      · rfl
    · exact hk

theorem trodAll_carry {H : Type} {enc : TypeId × Value → H} {P : Program} {w w' : World} {base : Nat} {spare : Nat → Bool} {held : Bool} : ∀ {ts : List TypeId} {vs : List Value} {ds : List (DataW H)} {ps : List MemPlace},
    DataW.TrodAll enc P w base spare held ts vs ds ps → (∀ p ∈ ps, w.sameAt w' p) → DataW.TrodAll enc P w' base spare held ts vs ds ps
  | [], [], [], _, h, _ => h
  | _ :: _, _ :: _, _ :: _, _, ⟨p, q, ⟨n, h1⟩, h2, e⟩, hs => ⟨p, q, ⟨n, DataW.trod_carry n _ _ _ h1 fun x hx => hs x (by rw [e]; exact List.mem_append_left _ hx)⟩, trodAll_carry h2 fun x hx => hs x (by rw [e]; exact List.mem_append_right _ hx), e⟩

/-- A law's last step: the arguments read as they did. -/
theorem post_trueA {H : Type} {enc : TypeId × Value → H} {P : Program} {f : Func} {s : ChangeSpec} {W : World} {args : Array Value} {ds gs : List (DataW H)} {before : List MemPlace} {t : TypeId} {fid : FuncId} (K : Kids P (· < P.types.size))
    (hz : ∀ t e, t < P.types.size → P.underlying t = some (.slice e) → 0 < P.cellsOf e) (hp : ∀ t ∈ f.params.toList, t < P.types.size)
    (hW : DataW.Whole enc P f.params.toList s.vars false W args.toList ds gs before) (hsv : s.vars = [])
    (hfn : s.fn H ds = { results := [.lit (.bool true)], args := ds })
    (hr : f.resultTypes = #[t]) (ht : P.underlying t = some .bool)
    (walk : Calls P fid args W fun e W' => e = .returned (.bool true) ∧ Grown W W') :
    Calls P fid args W fun e W' => ∃ v, e = .returned v ∧ s.post enc P f false true false false W args v W' := by
  have hW' := hW
  obtain ⟨p, q, hA, hV, rfl, hfz, hnd⟩ := hW
  rw [hsv] at hV
  obtain ⟨rfl, rfl⟩ := trodVars_none hV
  refine walk.mono fun e W' ⟨he, hg⟩ => ?_
  subst he
  refine ⟨_, rfl, post_true (pa := p) (pv := []) hW' (by rw [List.append_nil, hfn]) (fun sp hsp => ?_) (fun _ _ => by rw [hsv, List.append_nil, hfn]; rfl) rfl hg hr ht⟩
  rw [List.append_nil, hfn]
  exact trodAll_carry (hA.respare K hz hp fun x hx => hsp x (List.mem_append_left _ hx)) fun x hx => grown_same hg (hW'.lt x (List.mem_append_left _ hx))
end Go.Sp
/- Words for the plain laws: lists of integers as read-only slices. -/
namespace Go.Sp
noncomputable section
abbrev I (n : Int) : Value := .int .i64 n
/-- A slice of integers. -/
def sl (fl : Nat) (l : List Int) : Sl := ⟨l.length, fl, l.map I⟩
def S (fl : Nat) (l : List Int) : Value := Sl.v 1 (sl fl l)
end
@[simp] theorem sl_n (fl : Nat) (l : List Int) : (sl fl l).n = l.length := rfl
@[simp] theorem sl_cs (fl : Nat) (l : List Int) : (sl fl l).cs = l.map I := rfl
@[simp] theorem ll_nil' {α β : Type} (z : β) (s : α → List α → β) : ll [] z s = z := rfl
@[simp] theorem ll_cons' {α β : Type} (a : α) (r : List α) (z : β) (s : α → List α → β) : ll (a :: r) z s = s a r := rfl
@[simp] theorem toI_mk (n : Int) : toI .i64 (.int .i64 n) = some n := rfl
@[simp] theorem toI_mk16 (n : Int) : toI .u16 (.int .u16 n) = some n := rfl
@[simp] theorem toI_mk8 (n : Int) : toI .u8 (.int .u8 n) = some n := rfl
@[simp] theorem toSl_mk (s : Sl) : toSl 1 (s.v 1) = some s := rfl
@[simp] theorem vAgg_mk (l : List Value) : vAgg (.agg ⟨l⟩) = some l := rfl
@[simp] theorem vTup_mk (l : List Value) : vTup (.tuple ⟨l⟩) = some l := rfl
@[simp] theorem vBool_mk (b : Bool) : vBool (.bool b) = some b := rfl
@[simp] theorem toN_mk (n : Nat) : toN (Int.ofNat n) = some n := rfl
@[simp] theorem toN_0 : toN 0 = some 0 := rfl
theorem blt_eq (a b : Nat) : Nat.blt a b = decide (a < b) := by
  rw [Bool.eq_iff_iff, decide_eq_true_iff, Nat.blt_eq]
theorem ble_eq (a b : Nat) : Nat.ble a b = decide (a ≤ b) := by
  rw [Bool.eq_iff_iff, decide_eq_true_iff, Nat.ble_eq]
theorem wrapI (n : Int) (h1 : -9223372036854775808 ≤ n) (h2 : n ≤ 9223372036854775807) : wrapF .i64 n = n := by rw [wrapF_eq]; exact IntWalk.i64_in _ ⟨h1, h2⟩
theorem wrapS (i : Nat) (h : i < 1000000) : wrapF .i64 (Int.add (Int.ofNat i) 1) = Int.ofNat (i + 1) := by
  show wrapF .i64 (Int.ofNat i + 1) = _
  rw [wrapI _ (by simp; omega) (by simp; omega)]; simp
theorem closedI (l : List Int) : (l.map I).all closed1 = true := by
  rw [List.all_eq_true]; intro x hx; simp at hx; obtain ⟨z, _, rfl⟩ := hx; rfl
theorem getI (l : List Int) (i : Nat) (h : i < l.length) : (l.map I)[i]? = some (I l[i]) := by simp [h]
end Go.Sp
/- A law's arguments, as values of the interpreter. -/
namespace Go.Sp
open Go.ChangeShapes Go.WideShapes Go.ChangeAt Go.RowKit

section
variable {H : Type} {enc : TypeId × Value → H} {P : Program} {W : World} {R : Ren} {held : Bool} {v : Value} {d : DataW H} {ps : List MemPlace} {t : TypeId} {base : Nat} {r : Reach}

theorem arg_int {k : IntKind} (ht : P.underlying t = some (.int k)) (hok : Value.okWide P W r base t v) : ∃ n, v = .int k n ∧ (Lit.int k n).wf = true := by
  unfold Value.okWide at hok
  rw [ht] at hok
  unfold Cell.okWide at hok
  rw [ht] at hok
  cases v <;> simp [Cell.ok, ht] at hok
  rename_i k' n
  obtain ⟨rfl, h⟩ := hok
  refine ⟨n, rfl, ?_⟩
  simp only [Lit.wf, Bool.and_eq_true, decide_eq_true_eq]
  exact h
theorem arg_struct {fs : Array Field} (ht : P.underlying t = some (.struct fs)) (hok : Value.okWide P W r base t v) : ∃ cs : List Value, v = .agg ⟨cs⟩ := by
  unfold Value.okWide at hok
  rw [ht] at hok
  obtain ⟨⟨cs⟩, rfl, _⟩ := hok
  exact ⟨cs, rfl⟩
theorem arg_array {e : TypeId} {n : Nat} (ht : P.underlying t = some (.array n e)) (hok : Value.okWide P W r base t v) : ∃ cs : List Value, v = .agg ⟨cs⟩ := by
  unfold Value.okWide at hok
  rw [ht] at hok
  obtain ⟨⟨cs⟩, rfl, _⟩ := hok
  exact ⟨cs, rfl⟩
theorem arg_slice {e : TypeId} (ht : P.underlying t = some (.slice e)) (hok : Value.okWide P W r base t v) : ∃ a l c, v = .slice a l c := by
  unfold Value.okWide at hok
  rw [ht] at hok
  unfold Cell.okWide at hok
  rw [ht] at hok
  cases v <;> simp [Cell.ok, ht] at hok
  exact ⟨_, _, _, rfl⟩
end

/-- The arguments are of their types. -/
def OkArgs (P : Program) (f : Func) (W : World) (base : Nat) (args : Array Value) : Prop := ∀ (j : Nat) t v, f.params[j]? = some t → args[j]? = some v → Value.okWide P W .any base t v
section
variable {P : Program} {f : Func} {W : World} {base : Nat} {t0 t1 t2 t3 : TypeId} {v0 v1 v2 v3 : Value}
theorem OkArgs.one (h : OkArgs P f W base #[v0]) (hp : f.params = #[t0]) : Value.okWide P W .any base t0 v0 := h 0 _ _ (by rw [hp]; rfl) rfl
theorem OkArgs.two (h : OkArgs P f W base #[v0, v1]) (hp : f.params = #[t0, t1]) : Value.okWide P W .any base t0 v0 ∧ Value.okWide P W .any base t1 v1 := ⟨h 0 _ _ (by rw [hp]; rfl) rfl, h 1 _ _ (by rw [hp]; rfl) rfl⟩
theorem OkArgs.three (h : OkArgs P f W base #[v0, v1, v2]) (hp : f.params = #[t0, t1, t2]) : Value.okWide P W .any base t0 v0 ∧ Value.okWide P W .any base t1 v1 ∧ Value.okWide P W .any base t2 v2 :=
  ⟨h 0 _ _ (by rw [hp]; rfl) rfl, h 1 _ _ (by rw [hp]; rfl) rfl, h 2 _ _ (by rw [hp]; rfl) rfl⟩
end
section
variable {P : Program} {f : Func} {W : World} {base : Nat} {args : Array Value} {t : TypeId} {v : Value}
theorem OkArgs.int {k : IntKind} (h : OkArgs P f W base args) (j : Nat) (hp : f.params[j]? = some t) (hv : args[j]? = some v) (ht : P.underlying t = some (.int k)) : ∃ n, v = .int k n ∧ (Lit.int k n).wf = true := arg_int ht (h j t v hp hv)
theorem OkArgs.struct {fs : Array Field} (h : OkArgs P f W base args) (j : Nat) (hp : f.params[j]? = some t) (hv : args[j]? = some v) (ht : P.underlying t = some (.struct fs)) : ∃ cs : List Value, v = .agg ⟨cs⟩ := arg_struct ht (h j t v hp hv)
theorem OkArgs.array {e : TypeId} {n : Nat} (h : OkArgs P f W base args) (j : Nat) (hp : f.params[j]? = some t) (hv : args[j]? = some v) (ht : P.underlying t = some (.array n e)) : ∃ cs : List Value, v = .agg ⟨cs⟩ := arg_array ht (h j t v hp hv)
theorem OkArgs.slice {e : TypeId} (h : OkArgs P f W base args) (j : Nat) (hp : f.params[j]? = some t) (hv : args[j]? = some v) (ht : P.underlying t = some (.slice e)) : ∃ a l c, v = .slice a l c := arg_slice ht (h j t v hp hv)
end
theorem handed_of {H : Type} {enc : TypeId × Value → H} {a : Assume} {C : Checked} {os : Os} {f : FuncId} {fn : Func} {s : OpenSpec} {F : Stop.Interp} {conds : List PathCond} {apart fresh handsOn again : Bool} {laid : List (String × DataW Unit)}
    (own : ownKnob C.prog.godebug = none) (started : os.Started) (noInit : C.prog.inits.idxOf? f = none) (hfn : C.prog.funcs[f]? = some fn)
    (witness : ∃ (w : World) (tape : Tape) (i : Input), w.os = os ∧ (w.forCall tape i).Shaped C.prog ∧ i.vars = [] ∧ Input.okWide C.prog (w.forCall tape i) .any w.heap.size f i ∧
      s.preRow enc C.prog fn conds apart laid (w.forCall tape i).memory i.args ∧ a.holds C.prog (lone (Frame.enter C.prog f i.args .normal) [] (w.forCall tape i)))
    (contract : ∀ (W : World) (base : Nat) (args : Array Value) (ds gs : List (DataW H)) (before : List MemPlace), OkArgs C.prog fn W base args →
      DataW.Whole enc C.prog fn.params.toList s.vars apart W args.toList ds gs before → laidMetH C.prog laid W →
      Calls C.prog f args W fun e W' => ∃ v, e = .returned v ∧ (s.at F).post enc C.prog fn apart fresh handsOn again W args v W') :
    ReturnsInHanded a C os f .any (s.preRow enc C.prog fn conds apart laid) ((s.at F).post enc C.prog fn apart fresh handsOn again) :=
  returnsInHanded_of_row own started noInit hfn witness fun W base args ds gs before hval hW _ _ _ hL _ _ => contract W base args ds gs before hval hW hL

section
variable {P : Program} {t : TypeId} {xs : List Value}
theorem Shp.int_inv {k : IntKind} (ht : P.underlying t = some (.int k)) (h : Shp P t xs) : ∃ n, xs = [.int k n] ∧ (Lit.int k n).wf = true := by
  cases h with
  | int h n hw => rw [ht] at h; injection h with h; injection h with h; subst h; exact ⟨n, rfl, hw⟩
  | _ h => rw [ht] at h; cases h
theorem Shp.bool_inv (ht : P.underlying t = some .bool) (h : Shp P t xs) : ∃ b, xs = [.bool b] := by
  cases h with
  | bool h b => exact ⟨b, rfl⟩
  | _ h => rw [ht] at h; cases h
theorem Shp.slice_inv {e : TypeId} (ht : P.underlying t = some (.slice e)) (h : Shp P t xs) : ∃ ls : List (List Value), ls.length ≤ maxLen ∧ (∀ l ∈ ls, Shp P e l) ∧ xs = [fsV (P.cellsOf e) ls.length 0 ls.flatten] := by
  cases h with
  | slice h ls hl hs => rw [ht] at h; injection h with h; injection h with h; subst h; exact ⟨ls, hl, hs, rfl⟩
  | _ h => rw [ht] at h; cases h
theorem Shp.struct_inv {fs : Array Field} (ht : P.underlying t = some (.struct fs)) (h : Shp P t xs) : ∃ ls : List (List Value), ls.length = fs.size ∧ xs = ls.flatten ∧ ∀ (i : Nat) (f : Field) (l : List Value), fs[i]? = some f → ls[i]? = some l → Shp P f.type l := by
  cases h with
  | struct h ls hl hs => rw [ht] at h; injection h with h; injection h with h; subst h; exact ⟨ls, hl, rfl, hs⟩
  | _ h => rw [ht] at h; cases h
/-- A slice of integers. -/
theorem Shp.ints {e : TypeId} (ht : P.underlying t = some (.slice e)) (he : P.underlying e = some (.int .i64)) (hc : P.cellsOf e = 1) (h : Shp P t xs) : ∃ l : List Int, xs = [S 0 l] ∧ l.length ≤ maxLen ∧ ∀ z ∈ l, (Lit.int .i64 z).wf = true := by
  obtain ⟨ls, hl, hs, rfl⟩ := h.slice_inv ht
  have : ∃ l : List Int, l.length = ls.length ∧ ls.flatten = l.map I ∧ ∀ z ∈ l, (Lit.int .i64 z).wf = true := by
    clear hl h
    induction ls with
    | nil => exact ⟨[], rfl, rfl, by simp⟩
    | cons m ls ih =>
      obtain ⟨l, h1, h2, h3⟩ := ih fun l hl => hs l (by simp [hl])
      obtain ⟨n, rfl, hw⟩ := (hs m (by simp)).int_inv he
      exact ⟨n :: l, by simp [h1], by simp [h2], by intro z hz; simp at hz; rcases hz with rfl | hz; exact hw; exact h3 z hz⟩
  obtain ⟨l, h1, h2, h3⟩ := this
  refine ⟨l, ?_, by omega, h3⟩
  rw [hc, h2, ← h1]; rfl
theorem Shp.array_inv {e : TypeId} {n : Nat} (ht : P.underlying t = some (.array n e)) (h : Shp P t xs) : ∃ ls : List (List Value), ls.length = n ∧ xs = ls.flatten ∧ ∀ l ∈ ls, Shp P e l := by
  cases h with
  | array h ls hl hs => rw [ht] at h; injection h with h; injection h with h1 h2; subst h1; subst h2; exact ⟨ls, hl, rfl, hs⟩
  | _ h => rw [ht] at h; cases h
/-- A slice of pairs of integers. -/
theorem Shp.pairs {e e3 : TypeId} (ht : P.underlying t = some (.slice e)) (he : P.underlying e = some (.array 2 e3)) (h3 : P.underlying e3 = some (.int .i64)) (hc : P.cellsOf e = 2) (h : Shp P t xs) :
    ∃ C : List (Int × Int), xs = [Sl.v 2 ⟨C.length, 0, C.flatMap fun p => [I p.1, I p.2]⟩] ∧ C.length ≤ maxLen := by
  obtain ⟨ls, hl, hs, rfl⟩ := h.slice_inv ht
  have : ∃ C : List (Int × Int), C.length = ls.length ∧ ls.flatten = C.flatMap fun p => [I p.1, I p.2] := by
    clear hl h
    induction ls with
    | nil => exact ⟨[], rfl, rfl⟩
    | cons m ls ih =>
      obtain ⟨C, h1, h2⟩ := ih fun l hl => hs l (by simp [hl])
      obtain ⟨ms, k1, rfl, k3⟩ := (hs m (by simp)).array_inv he
      match ms, k1 with
      | [x, y], _ =>
        obtain ⟨a, rfl, _⟩ := (k3 x (by simp)).int_inv h3
        obtain ⟨b, rfl, _⟩ := (k3 y (by simp)).int_inv h3
        exact ⟨(a, b) :: C, by simp [h1], by simp [h2]⟩
  obtain ⟨C, h1, h2⟩ := this
  refine ⟨C, ?_, by omega⟩
  rw [hc, h2, ← h1]; rfl
end
end Go.Sp
