/- The plain law of MendRings: a ring is searched for. -/
import Derived.Test.YtlgmapibifphaaaDoorMdRLaw13x

set_option maxRecDepth 100000
namespace Go.MdM
theorem fs_ext {α β : Type} {f g : α → Option β} : ∀ (l : List α), (∀ a ∈ l, f a = g a) → l.findSome? f = l.findSome? g
 | [], _ => rfl
 | a :: l, h => by rw [List.findSome?_cons, List.findSome?_cons, h a (by simp), fs_ext l (fun b hb => h b (by simp [hb]))]
variable {N : Nat} {H W : Nat → Int}
theorem dfs_congr {Q : PS → Prop} (hQ : ∀ A B : PS, (∀ i, i < N → A i = B i) → (Q A ↔ Q B)) (f : Nat) : ∀ (k : Nat) (A B : PS) (last : Nat), (∀ i, i < N → A i = B i) → dfs N H W Q f k A last = dfs N H W Q f k B last
 | 0, _, _, _, _ => rfl
 | k + 1, A, B, last, h => by
  unfold dfs
  have this : (W last = H f ∧ Q A) ↔ (W last = H f ∧ Q B) := and_congr Iff.rfl (hQ A B h)
  have hf : (els N B).findSome? (fun i => if H i = W last then (dfs N H W Q f k (del A i) i).map (i :: ·) else none) = (els N B).findSome? (fun i => if H i = W last then (dfs N H W Q f k (del B i) i).map (i :: ·) else none) := fs_ext _ (fun i _ => by rw [dfs_congr hQ f k _ _ i (del_congr h i)])
  rw [els_congr h, hf]
  by_cases hc : W last = H f ∧ Q A
  ·rw [if_pos hc, if_pos (this.1 hc)]
  ·rw [if_neg hc, if_neg (fun g => hc (this.2 g))]
theorem dfs_fuel {Q : PS → Prop} (f : Nat) : ∀ (k k' : Nat) (R : PS) (last : Nat), card N R < k → card N R < k' → dfs N H W Q f k R last = dfs N H W Q f k' R last
 | 0, _, _, _, h, _ => by omega
 | _ + 1, 0, _, _, _, h => by omega
 | k + 1, k' + 1, R, last, h1, h2 => by
  unfold dfs
  have hf : (els N R).findSome? (fun i => if H i = W last then (dfs N H W Q f k (del R i) i).map (i :: ·) else none) = (els N R).findSome? (fun i => if H i = W last then (dfs N H W Q f k' (del R i) i).map (i :: ·) else none) := fs_ext _ (fun i hi => by
   obtain ⟨a, b⟩ := mem_els.1 hi
   have := card_del a b
   rw [dfs_fuel f k k' (del R i) i (by omega) (by omega)])
  rw [hf]
end Go.MdM
namespace Go.MdRM
open Go.Sp Go.MdR Go.MdM

theorem p72 (n : Nat) (bg : List Nat) : puN (n + 1) 72 [S 0 (nI bg)] = some (S 1 (nI bg)) := by
 have e : clipS 1 (sl 0 (nI bg)) = sl 1 (nI bg) := by
  unfold clipS
  rw [show Nat.beq (sl 0 (nI bg)).fl 2 = false from rfl, bb_false]
  have t := takeN bg
  rw [sl_n, sl_cs, nI_len, Nat.zero_mul, Nat.sub_zero, t]; unfold sl; rw [nI_len]
 refine Eq.trans (b := m72_ (puN n) 1000000 (sl 0 (nI bg))) (by kernel_rfl) ?_
 unfold m72_
 rw [e]; rfl
theorem snocN' (r : List Nat) (a : Nat) : appL ((nI r).map I) [I (Int.ofNat a)] = (nI (r ++ [a])).map I := by
 rw [appL_eq, nI_app, List.map_append]; rfl
def Qr (h w : List Int) (r : Nat) : PS → Prop := fun R => Ev h.length (fn h) (fn w) R ∧ M h.length (fn h) (fn w) R = r
theorem Qr_congr (h w : List Int) (r : Nat) (A B : PS) (g : ∀ i, i < h.length → A i = B i) : Qr h w r A ↔ Qr h w r B := by
 unfold Qr; rw [Ev_congr g, M_congr g]
def rres (bg : List Nat) : Option (List Nat) → Value
 | some e => S 0 (nI (bg ++ e))
 | none => Sl.v 1 ⟨0, 2, []⟩
noncomputable def fd (h w : List Int) (r f d : Nat) (R : PS) (last : Nat) : Nat → Option (List Nat) := fun i => if fn h i = fn w last then (dfs h.length (fn h) (fn w) (Qr h w r) f d (del R i) i).map (i :: ·) else none
section
variable (fl fl' : Nat) (k : Int) (h w : List Int) (hN : h.length ≤ 10) (hw : w.length = h.length) (hk : kin h) (hkw : kin w)
def Ri (r n d : Nat) : Prop := ∀ s bg f last es c, card h.length (tb s) < d → s < 2 ^ h.length → Gm h w es → bg.length + d ≤ 900 → f < h.length → last < h.length → bg[0]? = some f → bg[bg.length - 1]? = some last →
 ∃ es' c', puN n 10680 [ptr, S 0 (nI bg), U s, I (Int.ofNat r), led fl fl' k h w, mp es c] = some (.tuple ⟨[rres bg (dfs h.length (fn h) (fn w) (Qr h w r) f d (tb s) last), led fl fl' k h w, mp es' c']⟩) ∧ Gm h w es'
include hN hw
theorem l10680 (r n d s : Nat) (bg : List Nat) (f last : Nat) (hs : s < 2 ^ h.length) (hd : card h.length (tb s) < d + 1) (hbg : bg.length + d < 900) (hf : f < h.length) (hl : last < h.length) (hb0 : bg[0]? = some f) (ih0 : Ri fl fl' k h w r (n + 1) d) : ∀ (g i c : Nat) (es : List Ent), (eL s).length - i < g → i ≤ (eL s).length → Gm h w es →
 ∃ es' c', l10680_2 (puN (n + 1)) 1000000 g (sl 0 (nI bg)) (Int.ofNat s) (Int.ofNat r) (Int.ofNat last) (sl 0 (eL s)) (Int.ofNat (eL s).length) (Int.ofNat i) k (sl fl h) (sl fl' w) es c =
  some (.tuple ⟨[rres bg (((els h.length (tb s)).drop i).findSome? (fd h w r f d (tb s) last)), led fl fl' k h w, mp es' c']⟩) ∧ Gm h w es' := by
 intro g
 have heL := eL_m hN hs
 have hlen : (eL s).length = (els h.length (tb s)).length := by rw [heL, List.length_map]
 have hcd : (els h.length (tb s)).length ≤ 10 := by
  rw [els_len]; unfold card; exact Nat.le_trans List.countP_le_length (by simpa using hN)
 induction g with
 | zero => intro i c es hi; omega
 | succ g ih =>
  intro i c es hi hil hg
  show ∃ es' c', b10680_2 (puN (n + 1)) 1000000 (l10680_2 (puN (n + 1)) 1000000 g) _ _ _ _ _ _ _ _ _ _ _ _ = _ ∧ _
  unfold b10680_2
  rw [gd_closed hg.1, bb_true]
  by_cases hlt : i < (eL s).length
  ·have hlt' : i < (els h.length (tb s)).length := by omega
   have hx : (eL s)[i] = Int.ofNat ((els h.length (tb s))[i]) := by simp only [heL, List.getElem_map]
   obtain ⟨x1, x2⟩ := mem_els.1 (List.getElem_mem hlt')
   rw [List.drop_eq_getElem_cons hlt', List.findSome?_cons]
   generalize hxe : (els h.length (tb s))[i] = x at *
   have hcl := cl_lt s x h.length hs
   have hdel : ∀ j, j < h.length → tb (cl s x) j = del (tb s) x j := del_cl hN
   have hcd2 : card h.length (tb (cl s x)) < d := by
    rw [card_congr hdel]; have := card_del x1 x2; omega
   have next : ∀ (c1 : Nat) (es1 : List Ent), Gm h w es1 → ∃ es' c', m10680_3 (puN (n + 1)) 1000000 (l10680_2 (puN (n + 1)) 1000000 g) (sl 0 (nI bg)) (Int.ofNat s) (Int.ofNat r) (Int.ofNat last) (sl 0 (eL s)) (Int.ofNat (eL s).length) (Int.ofNat i) k (sl fl h) (sl fl' w) es1 c1 =
    some (.tuple ⟨[rres bg (((els h.length (tb s)).drop (i + 1)).findSome? (fd h w r f d (tb s) last)), led fl fl' k h w, mp es' c']⟩) ∧ Gm h w es' := by
    intro c1 es1 g1
    unfold m10680_3
    rw [gd_closed g1.1, bb_true, wrapS i (by omega)]
    exact ih (i + 1) c1 es1 (by omega) (by omega) g1
   rw [lt_true hlt]
   have hgx : ((eL s).map I)[i]? = some (I (Int.ofNat x)) := by rw [getI _ i hlt, hx]
   have hlw : last < w.length := by omega
   simp only [bb_true, toN_mk, oo_some, sl_n, sl_cs, blt_eq, hlt, x1, hlw, decide_true, an_eq, Bool.true_and, nthL_eq, Nat.mul_one, hgx, toI_mk, getI h x x1, getI w last hlw, clear_eq s x (Nat.lt_of_lt_of_le hs (p2le hN)) (by omega)]
   by_cases hc : h[x] = w[last]
   ·have q : ieq h[x] w[last] = true := by simp [ieq_eq, hc]
    have hfd : fd h w r f d (tb s) last x = (dfs h.length (fn h) (fn w) (Qr h w r) f d (tb (cl s x)) x).map (x :: ·) := by
     unfold fd
     rw [if_pos (by rw [fn_get x1, fn_get hlw, hc]), dfs_congr (Qr_congr h w r) f d _ _ x hdel]
    have hla : (bg ++ [x]).length = bg.length + 1 := by simp
    obtain ⟨es1, c1, e1, g1⟩ := ih0 (cl s x) (bg ++ [x]) f x es c hcd2 hcl hg (by rw [hla]; omega) hf x1 (by
     rw [List.getElem?_append_left]; exact hb0
     exact (List.getElem?_eq_some_iff.1 hb0).1) (by rw [hla]; simp)
    have p := p72 n bg
    unfold S at p
    rw [q, bb_true, p, oo_some, toSl_mk, oo_some]
    have w1 := wholeN (bg ++ [x])
    have t1 := takeN (bg ++ [x])
    rw [hla] at w1 t1
    have r1 := roomyB (n := bg.length + 1) (b := 8) (by omega) (by omega)
    rw [show Nat.beq (sl 1 (nI bg)).fl 1 = true from rfl]
    simp only [sl_n, sl_cs, nI_len, orr_eq, Bool.true_or, r1, an_eq, Bool.and_true, bb_true, snocN', Nat.mul_one] at w1 t1 ⊢
    rw [w1, bb_true, t1]
    have sR : Sl.v 1 (Sl.mk (bg.length + 1) 0 ((nI (bg ++ [x])).map I)) = S 0 (nI (bg ++ [x])) := by
     unfold S sl; rw [nI_len, hla]
    rw [sR]
    unfold led mp ptr at e1
    have e1' : puN (n + 1) 10680 [.pointer (some ⟨1, 0, none⟩), S 0 (nI (bg ++ [x])), .int .u16 (Int.ofNat (cl s x)), .int .i64 (Int.ofNat r), .agg ⟨[.int .i64 k, Sl.v 1 (sl fl h), Sl.v 1 (sl fl' w), .map (some 2)]⟩, encO (.map es c)] = some (.tuple ⟨[rres (bg ++ [x]) (dfs h.length (fn h) (fn w) (Qr h w r) f d (tb (cl s x)) x), .agg ⟨[.int .i64 k, Sl.v 1 (sl fl h), Sl.v 1 (sl fl' w), .map (some 2)]⟩, encO (.map es1 c1)]⟩) := e1
    rw [e1', hfd]
    cases hD : dfs h.length (fn h) (fn w) (Qr h w r) f d (tb (cl s x)) x with
    | none =>
     obtain ⟨es2, c2, e2, g2⟩ := next c1 es1 g1
     refine ⟨es2, c2, ?_, g2⟩
     simp only [rres, oo_some, vTup_mk, ll_cons', ll_nil', vAgg_mk, toI_mk, toSl_mk, vMapO_mk, gd_closed g1.1, bb_true]
     rw [show isMp (Value.map (some 2)) 2 = true from rfl, bb_true, show Nat.beq 2 2 = true from rfl, show bq false true = false from rfl, bb_false, Bool.true_or, bb_true]
     exact e2
    | some e =>
     refine ⟨es1, c1, ?_, g1⟩
     have hne : Nat.ble 1 (bg ++ [x] ++ e).length = true := by rw [Nat.ble_eq]; simp only [List.length_append, List.length_singleton]; omega
     simp only [rres, S, oo_some, vTup_mk, ll_cons', ll_nil', vAgg_mk, toI_mk, toSl_mk, vMapO_mk, gd_closed g1.1, bb_true, Option.map_some, sl_n, nI_len, hne]
     rw [show isMp (Value.map (some 2)) 2 = true from rfl, bb_true, show Nat.beq (sl 0 (nI (bg ++ [x] ++ e))).fl 2 = false from rfl, show bq false false = true from rfl, bb_true, Bool.or_true, Bool.or_true, bb_true]
     rw [List.append_assoc]; rfl
   ·have q : ieq h[x] w[last] = false := by simp [ieq_eq, hc]
    have hfd : fd h w r f d (tb s) last x = none := by
     unfold fd
     rw [if_neg (by rw [fn_get x1, fn_get hlw]; exact hc)]
    rw [q, bb_false, hfd]
    exact next c es hg
  ·have hi' : i = (eL s).length := by omega
   subst hi'
   rw [lt_false hlt, bb_false, List.drop_of_length_le (by omega)]
   unfold m10680_1
   rw [gd_closed hg.1, bb_true]
   exact ⟨es, c, rfl, hg⟩
include hk hkw
theorem ri_all (r : Nat) : ∀ (d n : Nat), Ri fl fl' k h w r (n + d + 15) d := by
 intro d
 induction d with
 | zero => intro n s bg f last es c hd; omega
 | succ d ih =>
  intro n s bg f last es c hd hs hg hbg hf hl hb0 hbl
  have e0 : puN (n + (d + 1) + 15) 10680 [ptr, S 0 (nI bg), U s, I (Int.ofNat r), led fl fl' k h w, mp es c] = m10680_ (puN (n + (d + 1) + 14)) 1000000 (sl 0 (nI bg)) (Int.ofNat s) (Int.ofNat r) k (sl fl h) (sl fl' w) es c := by
   show m10680 _ _ [ptr, S 0 (nI bg), U s, I (Int.ofNat r), led fl fl' k h w, mp es c] = _
   unfold m10680 led S mp ptr
   simp only [ll_cons', ll_nil', vMapO_mk, toI_mk16, toI_mk, vAgg_mk, toSl_mk, oo_some]
   rfl
  rw [e0]
  have h0 : 0 < bg.length := (List.getElem?_eq_some_iff.1 hb0).1
  have hs10 := Nat.lt_of_lt_of_le hs (p2le hN)
  have loop : ∀ (b : Bool) (es1 : List Ent) (c1 : Nat), Gm h w es1 → (b = true → ¬ (fn w last = fn h f ∧ Qr h w r (tb s)) → False) → (b = false → (fn w last = fn h f ∧ Qr h w r (tb s)) → False) →
   ∃ es' c', m10680_0 (puN (n + (d + 1) + 14)) 1000000 (sl 0 (nI bg)) (Int.ofNat s) (Int.ofNat r) (Int.ofNat last) b k (sl fl h) (sl fl' w) es1 c1 = some (.tuple ⟨[rres bg (dfs h.length (fn h) (fn w) (Qr h w r) f (d + 1) (tb s) last), led fl fl' k h w, mp es' c']⟩) ∧ Gm h w es' := by
   intro b es1 c1 g1 hb1 hb2
   unfold m10680_0 dfs
   rw [gd_closed g1.1, bb_true]
   by_cases hc : fn w last = fn h f ∧ Qr h w r (tb s)
   ·cases b with
    | false => exact (hb2 rfl hc).elim
    | true =>
     refine ⟨es1, c1, ?_, g1⟩
     have e : rres bg (some []) = S 0 (nI bg) := by show S 0 (nI (bg ++ [])) = _; rw [List.append_nil]
     rw [if_pos hc, bb_true, e]; rfl
   ·cases b with
    | true => exact (hb1 rfl hc).elim
    | false =>
     rw [if_neg hc, bb_false]
     have p := p62 (n + d + 13) s hs10
     rw [bl_eL s hs10] at p
     have p' : puN (n + (d + 1) + 14) 62 [.int .u16 (Int.ofNat s)] = some (S 0 (eL s)) := by
      rw [show n + (d + 1) + 14 = n + d + 13 + 2 by omega]; exact p
     rw [p', oo_some]
     unfold S
     rw [toSl_mk, oo_some, sl_n]
     have := l10680 fl fl' k h w hN hw r (n + d + 14) d s bg f last hs hd (by omega) hf hl hb0 (ih n) 1000000 0 c1 es1 (by rw [eL_m hN hs, List.length_map, els_len]; unfold card; have := List.countP_le_length (l := List.range h.length) (p := tb s); rw [List.length_range] at this; omega) (by omega) g1
     rw [List.drop_zero] at this
     rw [show n + (d + 1) + 14 = n + d + 14 + 1 by omega]
     exact this
  unfold m10680_
  have hlw : last < w.length := by omega
  have hb1 : bg.length - 1 < bg.length := by omega
  have hgl : ((nI bg).map I)[bg.length - 1]? = some (I (Int.ofNat last)) := by
   rw [getN bg _ hb1]; rw [List.getElem?_eq_getElem hb1] at hbl; injection hbl with hbl; rw [hbl]
  have hgf : ((nI bg).map I)[0]? = some (I (Int.ofNat f)) := by
   rw [getN bg _ h0]; rw [List.getElem?_eq_getElem h0] at hb0; injection hb0 with hb0; rw [hb0]
  have hsub : wrapF .i64 (Int.sub (Int.ofNat bg.length) 1) = Int.ofNat (bg.length - 1) := by
   have e : Int.sub (Int.ofNat bg.length) 1 = Int.ofNat (bg.length - 1) := by show (bg.length : Int) - 1 = ((bg.length - 1 : Nat) : Int); omega
   rw [e]
   exact wrapI _ (by show _ ≤ ((bg.length - 1 : Nat) : Int); omega) (by show ((bg.length - 1 : Nat) : Int) ≤ _; omega)
  rw [gd_closed hg.1, bb_true, sl_n, nI_len, hsub]
  simp only [bb_true, toN_mk, oo_some, sl_n, sl_cs, nI_len, blt_eq, hb1, h0, hf, hlw, decide_true, an_eq, Bool.true_and, nthL_eq, Nat.mul_one, Nat.zero_mul, hgl, hgf, toI_mk, getI h f hf, getI w last hlw]
  by_cases hc : w[last] = h[f]
  ·have q : ieq w[last] h[f] = true := by simp [ieq_eq, hc]
   rw [q, bb_true]
   obtain ⟨b, e, hb⟩ := p71 (n + d + 13) fl fl' s k h w hN hw hs10 hk hkw
   unfold tr S at e
   rw [show n + (d + 1) + 14 = n + d + 13 + 2 by omega, e, oo_some, vBool_mk, oo_some]
   rw [show n + (d + 1) + 14 = n + d + 13 + 2 by omega] at loop
   cases b with
   | false =>
    rw [bb_false]
    exact loop false es c hg (fun x => by cases x) (fun _ g => by simpa using hb.2 g.2.1)
   | true =>
    rw [bb_true]
    try rw [bb_true]
    have hMo := mo_all fl fl' k h w hN hw hk hkw 10 (n + d + 2)
    rw [show n + d + 2 + 10 + 3 = n + d + 13 + 2 by omega] at hMo
    obtain ⟨es1, c1, e1, g1⟩ := hMo s es c (Nat.le_trans (card_le _ _) hN) hs hg
    unfold led S mp ptr at e1
    have e1' : puN (n + d + 13 + 2) 10660 [.pointer (some ⟨1, 0, none⟩), .int .u16 (Int.ofNat s), .agg ⟨[.int .i64 k, Sl.v 1 (sl fl h), Sl.v 1 (sl fl' w), .map (some 2)]⟩, encO (.map es c)] = some (.tuple ⟨[I (TM h w s), .agg ⟨[.int .i64 k, Sl.v 1 (sl fl h), Sl.v 1 (sl fl' w), .map (some 2)]⟩, encO (.map es1 c1)]⟩) := e1
    rw [e1']
    simp only [oo_some, vTup_mk, ll_cons', ll_nil', vAgg_mk, toI_mk, toSl_mk, vMapO_mk, gd_closed g1.1, bb_true]
    rw [show isMp (Value.map (some 2)) 2 = true from rfl, bb_true]
    refine loop _ es1 c1 g1 (fun x y => y ⟨by rw [fn_get hlw, fn_get hf, hc], hb.1 rfl, ?_⟩) (fun x y => ?_)
    ·rw [ieq_eq] at x
     have x := of_decide_eq_true x
     unfold TM at x
     exact Int.ofNat.inj x
    ·have z := y.2.2
     unfold TM at x
     rw [z, ieq_eq] at x
     simp at x
  ·have q : ieq w[last] h[f] = false := by simp [ieq_eq, hc]
   rw [q, bb_false]
   exact loop false es c hg (fun x => by cases x) (fun _ g => hc (by have := g.1; rwa [fn_get hlw, fn_get hf] at this))
end
end Go.MdRM
set_option maxRecDepth 100000
namespace Go.MdM
variable {N : Nat} {H W : Nat → Int}
theorem Qs_congr {A B : PS} (h : ∀ i, i < N → A i = B i) : Qs N H W A = Qs N H W B := by
 funext R; unfold Qs; rw [M_congr h]
theorem rem_congr {A B : PS} (h : ∀ i, i < N → A i = B i) (r : List Nat) : ∀ i, i < N → rem A r i = rem B r i := fun i hi => by unfold rem; rw [h i hi]
theorem Qs_inv (S : PS) (A B : PS) (h : ∀ i, i < N → A i = B i) : Qs N H W S A ↔ Qs N H W S B := by
 unfold Qs; rw [Ev_congr h, M_congr h]
theorem gr_congr : ∀ (k : Nat) (A B : PS), (∀ i, i < N → A i = B i) → gr N H W k A = gr N H W k B
 | 0, _, _, _ => rfl
 | k + 1, A, B, h => by
  unfold gr
  rw [els_congr h]
  cases els N B with
  | nil => rfl
  | cons f l =>
   dsimp only
   rw [Qs_congr (H := H) (W := W) h, card_congr h, dfs_congr (Qs_inv B) f _ _ _ f (del_congr h f), gr_congr k _ _ (rem_congr h _)]
theorem Rn_len {Q : PS → Prop} {f : Nat} : ∀ (e : List Nat) (R : PS) (last : Nat), Rn N H W Q f R last e → e.length ≤ card N R
 | [], _, _, _ => Nat.zero_le _
 | i :: e, R, last, hr => by
  obtain ⟨h1, h2, _, h4⟩ := hr
  have := Rn_len e _ _ h4
  have := card_del h1 h2
  rw [List.length_cons]; omega
end Go.MdM
namespace Go.MdRM
open Go.Sp Go.MdR Go.MdM

theorem all67 (pu : PureF) : belowAll (fun s => isIv (m67_ pu 1000000 (Int.ofNat s)) (Int.ofNat ((els 10 (tb s)).headD 16))) 1024 = true := by kernel_rfl
theorem p67 (n s : Nat) (hs : s < 1024) : puN (n + 1) 67 [.int .u16 (Int.ofNat s)] = some (I (Int.ofNat ((els 10 (tb s)).headD 16))) := by
 refine Eq.trans (b := m67_ (puN n) 1000000 (Int.ofNat s)) (by kernel_rfl) ?_
 exact isIv_ok (belowAll_iff (all67 _) s hs)
theorem els_m {s m : Nat} (hm : m ≤ 10) (hs : s < 2 ^ m) : els 10 (tb s) = els m (tb s) := by
 have := eL_m hm hs
 unfold eL at this
 have inj : ∀ (a b : List Nat), a.map Int.ofNat = b.map Int.ofNat → a = b := by
  intro a
  induction a with
  | nil => intro b h; cases b with | nil => rfl | cons => simp at h
  | cons x a ih => intro b h; cases b with
   | nil => simp at h
   | cons y b => rw [List.map_cons, List.map_cons] at h; injection h with h1 h2; rw [Int.ofNat.inj h1, ih b h2]
 exact inj _ _ this
def clA : Nat → List Nat → Nat
 | s, [] => s
 | s, i :: r => clA (cl s i) r
theorem clA_lt (m : Nat) : ∀ (r : List Nat) (s : Nat), s < 2 ^ m → clA s r < 2 ^ m
 | [], _, h => h
 | i :: r, s, h => clA_lt m r _ (cl_lt s i m h)
theorem clA_rem {m : Nat} (hm : m ≤ 10) : ∀ (r : List Nat) (s : Nat), ∀ i, i < m → tb (clA s r) i = rem (tb s) r i
 | [], s, i, _ => by rw [rem_nil]; rfl
 | j :: r, s, i, hi => by
  rw [rem_cons]
  exact (clA_rem hm r (cl s j) i hi).trans (rem_congr (N := m) (del_cl hm) r i hi)
section
variable (fl fl' : Nat) (k : Int) (h w : List Int) (hN : h.length ≤ 10) (hw : w.length = h.length) (hk : kin h) (hkw : kin w)
theorem l48_rem (pu : PureF) (m : Nat) (ih0 : Nat → Nat → Int → Int → Sl → Sl → List Value → List Ent → Nat → Option Value) (a b c : Nat) (L : List (List Nat)) (es : List Ent) (hg : Gm h w es) (r : List Nat) (hr : ∀ i ∈ r, i < 10) (hrl : r.length ≤ 900) :
 ∀ (g i s : Nat), r.length - i < g → i ≤ r.length → s < 1024 → l48_2 pu m ih0 g a b (Int.ofNat s) (sl 0 (nI r)) (Int.ofNat r.length) (Int.ofNat i) k (sl fl h) (sl fl' w) (L.map rv) es c = ih0 a b (Int.ofNat (clA s (r.drop i))) k (sl fl h) (sl fl' w) (L.map rv) es c := by
 intro g
 induction g with
 | zero => intro i s hi; omega
 | succ g ih =>
  intro i s hi hil hs
  show b48_2 pu m ih0 (l48_2 pu m ih0 g) _ _ _ _ _ _ _ _ _ _ _ _ = _
  unfold b48_2
  rw [clL, bb_true, gd_closed hg.1, bb_true]
  by_cases hlt : i < r.length
  ·rw [lt_true hlt, List.drop_eq_getElem_cons hlt]
   have hx := hr r[i] (List.getElem_mem hlt)
   simp only [bb_true, toN_mk, oo_some, sl_n, sl_cs, nI_len, blt_eq, hlt, decide_true, an_eq, Bool.true_and, nthL_eq, Nat.mul_one, getN r i hlt, toI_mk, clear_eq s r[i] hs hx, wrapS i (by omega)]
   rw [ih (i + 1) (cl s r[i]) (by omega) (by omega) (cl_lt s _ 10 hs)]
   rfl
  ·have : i = r.length := by omega
   subst this
   rw [lt_false hlt, bb_false, List.drop_length]
   rfl
include hN hw hk hkw
theorem l48 (n : Nat) : ∀ (kk g s c : Nat) (es : List Ent) (L : List (List Nat)), card h.length (tb s) ≤ kk → kk < g → s < 2 ^ h.length → Ev h.length (fn h) (fn w) (tb s) → Gm h w es → L.length + kk ≤ 100 →
 l48_1 (puN (n + 26)) 1000000 g L.length (2 * L.length) (Int.ofNat s) k (sl fl h) (sl fl' w) (L.map rv) es c = some (Sl.v 1 (LL 0 (L ++ gr h.length (fn h) (fn w) kk (tb s)))) := by
 intro kk
 have fin : ∀ (g c : Nat) (es : List Ent) (L : List (List Nat)), Gm h w es → 0 < g → l48_1 (puN (n + 26)) 1000000 g L.length (2 * L.length) (Int.ofNat 0) k (sl fl h) (sl fl' w) (L.map rv) es c = some (Sl.v 1 (LL 0 L)) := by
  intro g c es L hg h0
  cases g with
  | zero => omega
  | succ g =>
   show b48_1 _ _ _ _ _ _ _ _ _ _ _ _ = _
   unfold b48_1
   rw [clL, bb_true, gd_closed hg.1, bb_true, show nt (ieq (Int.ofNat 0) 0) = false from rfl, bb_false]
   unfold m48_0
   rw [clL, bb_true, wholeL, bb_true, takeLL]
   rfl
 have zer : ∀ s, s < 2 ^ h.length → els h.length (tb s) = [] → s = 0 := by
  intro s hs he
  have hz : card h.length (tb s) = 0 := by rw [← els_len, he]; rfl
  apply Nat.eq_of_testBit_eq
  intro i
  rw [Nat.zero_testBit]
  by_cases hi : i < h.length
  ·exact card_zero hz i hi
  ·exact bit_out hs (by omega)
 induction kk with
 | zero =>
  intro g s c es L hc hg0 hs hE hg hL
  have : s = 0 := zer s hs (by apply List.length_eq_zero_iff.1; rw [els_len]; omega)
  subst this
  rw [show gr h.length (fn h) (fn w) 0 (tb 0) = [] from rfl, List.append_nil]
  exact fin g c es L hg hg0
 | succ kk ih =>
  intro g s c es L hc hg0 hs hE hg hL
  cases he : els h.length (tb s) with
  | nil =>
   have := zer s hs he
   subst this
   unfold gr
   rw [he]
   dsimp only
   rw [List.append_nil]
   exact fin g c es L hg (by omega)
  | cons f l =>
   obtain ⟨f1, f2, f3⟩ := els_first he
   have hcd := card_del f1 f2
   have hs10 := Nat.lt_of_lt_of_le hs (p2le hN)
   obtain ⟨d1, d2⟩ := dfs_ok (N := h.length) (H := fn h) (W := fn w) (Q := Qs h.length (fn h) (fn w) (tb s)) (f := f) (card h.length (tb s) + 1) (del (tb s) f) f (by omega)
   unfold gr
   rw [he]
   dsimp only
   cases hd : dfs h.length (fn h) (fn w) (Qs h.length (fn h) (fn w) (tb s)) f (card h.length (tb s) + 1) (del (tb s) f) f with
   | none =>
    obtain ⟨e, he⟩ := ring_best (H := fn h) (W := fn w) (card h.length (tb s)) (tb s) f (Nat.le_refl _) hE f1 f2
    exact absurd he (d2 hd e)
   | some e =>
    obtain ⟨g1, g2⟩ := d1 e hd
    obtain ⟨g3, g4⟩ := (Rn_iff e _ _).1 g1
    obtain ⟨g5, g6⟩ := g4
    simp only [Option.getD_some]
    rw [← rem_cons] at g5 g6
    have hsub : Sub h.length (rem (tb s) (f :: e)) (del (tb s) f) := by intro j hj h; simp [rem, del] at h ⊢; exact ⟨h.1, h.2.1⟩
    have hcl : card h.length (rem (tb s) (f :: e)) ≤ kk := by
     have : card h.length (del (tb s) f) = card h.length (rem (tb s) (f :: e)) + _ := hsub.card
     omega
    have hr : ∀ i ∈ f :: e, i < h.length := by
     intro i hi
     rcases List.mem_cons.1 hi with rfl | hi
     ·exact f1
     ·exact (Rn_mem e _ _ g3 i hi).1
    have hrl : (f :: e).length ≤ 11 := by
     have := Rn_len e _ _ g3
     have := card_le h.length (del (tb s) f)
     rw [List.length_cons]; omega
    obtain ⟨g, rfl⟩ : ∃ g', g = g' + 1 := ⟨g - 1, by omega⟩
    show b48_1 _ _ _ _ _ _ _ _ _ _ _ _ = _
    unfold b48_1
    have hs0 : s ≠ 0 := by
     rintro rfl
     simp [tb] at f2
    have q0 : nt (ieq (Int.ofNat s) 0) = true := by
     rw [ieq_eq, nt_eq]; simp; omega
    rw [clL, bb_true, gd_closed hg.1, bb_true, q0, bb_true]
    have p := p67 (n + 25) s hs10
    rw [els_m hN hs, he] at p
    rw [p]
    have hMo := mo_all fl fl' k h w hN hw hk hkw 10 (n + 13)
    rw [show n + 13 + 10 + 3 = n + 26 by omega] at hMo
    obtain ⟨es1, c1, e1, q1⟩ := hMo s es c (Nat.le_trans (card_le _ _) hN) hs hg
    unfold led S mp ptr at e1
    have e1' : puN (n + 26) 10660 [.pointer (some ⟨1, 0, none⟩), .int .u16 (Int.ofNat s), .agg ⟨[.int .i64 k, Sl.v 1 (sl fl h), Sl.v 1 (sl fl' w), .map (some 2)]⟩, encO (.map es c)] = some (.tuple ⟨[I (TM h w s), .agg ⟨[.int .i64 k, Sl.v 1 (sl fl h), Sl.v 1 (sl fl' w), .map (some 2)]⟩, encO (.map es1 c1)]⟩) := e1
    have hM := M_lt h.length (fn h) (fn w) (tb s)
    have hsub : wrapF .i64 (Int.sub (TM h w s) 1) = Int.ofNat (M h.length (fn h) (fn w) (tb s) - 1) := by
     unfold TM
     have e : Int.sub (Int.ofNat (M h.length (fn h) (fn w) (tb s))) 1 = Int.ofNat (M h.length (fn h) (fn w) (tb s) - 1) := by show (M h.length (fn h) (fn w) (tb s) : Int) - 1 = ((M h.length (fn h) (fn w) (tb s) - 1 : Nat) : Int); omega
     rw [e]
     exact wrapI _ (by show _ ≤ ((M h.length (fn h) (fn w) (tb s) - 1 : Nat) : Int); omega) (by show ((M h.length (fn h) (fn w) (tb s) - 1 : Nat) : Int) ≤ _; omega)
    simp only [oo_some, toI_mk, toN_mk, List.headD_cons]
    rw [e1']
    simp only [oo_some, vTup_mk, ll_cons', ll_nil', vAgg_mk, toI_mk, toSl_mk, vMapO_mk, gd_closed q1.1, bb_true]
    rw [show isMp (Value.map (some 2)) 2 = true from rfl, bb_true, hsub, clear_eq s f hs10 (by omega)]
    have hRi := ri_all fl fl' k h w hN hw hk hkw (M h.length (fn h) (fn w) (tb s) - 1) 11 n
    obtain ⟨es2, c2, e2, q2⟩ := hRi (cl s f) [f] f f es1 c1 (Nat.lt_of_le_of_lt (card_le _ _) (by omega)) (cl_lt s f _ hs) q1 (by simp) f1 f1 rfl rfl
    have hdf : dfs h.length (fn h) (fn w) (Qr h w (M h.length (fn h) (fn w) (tb s) - 1)) f 11 (tb (cl s f)) f = some e := by
     rw [← hd, dfs_congr (Qr_congr h w _) f 11 _ _ f (del_cl hN), dfs_fuel f 11 (card h.length (tb s) + 1) (del (tb s) f) f (Nat.lt_of_le_of_lt (card_le _ _) (by omega)) (by omega)]
     congr 1
     funext R
     unfold Qr Qs
     exact propext (and_congr Iff.rfl ⟨fun x => by omega, fun x => by omega⟩)
    rw [hdf] at e2
    unfold led S mp ptr rres at e2
    have e2' : puN (n + 26) 10680 [.pointer (some ⟨1, 0, none⟩), Sl.v 1 (Sl.mk 1 0 (takeL (1 * 1) (dropL 0 ([I (Int.ofNat f)] : List Value)))), .int .u16 (Int.ofNat (cl s f)), .int .i64 (Int.ofNat (M h.length (fn h) (fn w) (tb s) - 1)), .agg ⟨[.int .i64 k, Sl.v 1 (sl fl h), Sl.v 1 (sl fl' w), .map (some 2)]⟩, encO (.map es1 c1)] = some (.tuple ⟨[Sl.v 1 (sl 0 (nI (f :: e))), .agg ⟨[.int .i64 k, Sl.v 1 (sl fl h), Sl.v 1 (sl fl' w), .map (some 2)]⟩, encO (.map es2 c2)]⟩) := e2
    rw [e2']
    simp only [oo_some, vTup_mk, ll_cons', ll_nil', vAgg_mk, toI_mk, toSl_mk, vMapO_mk, gd_closed q2.1, bb_true]
    rw [show isMp (Value.map (some 2)) 2 = true from rfl, bb_true]
    have gw := growG 1 24 L.length 1 (L.map rv) (roomyB (by omega) (by omega)) (by omega) (by simp)
    have sn := snocL L (f :: e)
    unfold S at sn
    rw [gw, bb_true, sn, clL, bb_true, sl_n, nI_len]
    have cap : 2 * (L.length + 1) + bb false 1 0 = 2 * (L.length + 1) := rfl
    rw [cap]
    have hlen : (L ++ [f :: e]).length = L.length + 1 := by simp
    have q3 := l48_rem fl fl' k h w (puN (n + 26)) 1000000 (l48_1 (puN (n + 26)) 1000000 g) (L.length + 1) (2 * (L.length + 1)) c2 (L ++ [f :: e]) es2 q2 (f :: e) (fun i hi => by have := hr i hi; omega) (by omega) 1000000 0 s (by omega) (by omega) hs10
    rw [List.drop_zero] at q3
    have hrm := clA_rem (m := h.length) hN (f :: e) s
    have q4 := ih g (clA s (f :: e)) c2 es2 (L ++ [f :: e]) (by rw [card_congr hrm]; exact hcl) (by omega) (clA_lt _ _ _ hs) ((Ev_congr hrm).2 g5) q2 (by rw [hlen]; omega)
    rw [hlen] at q4
    refine Eq.trans q3 (q4.trans ?_)
    rw [gr_congr kk _ _ hrm, List.append_assoc]
    rfl
theorem p48 (n : Nat) (hE : Ev h.length (fn h) (fn w) (tb (bv h w))) : puN (n + 27) 48 [tr fl fl' k h w] = some (Sl.v 1 (LL 0 (GR h w))) := by
 refine Eq.trans (b := m48_ (puN (n + 26)) 1000000 k (sl fl h) (sl fl' w)) (by kernel_rfl) ?_
 unfold m48_
 have e2 := p51 (n + 25) fl fl' k h w hN hw
 have e4 := p10650 (n + 25) fl fl' k h w
 unfold tr S at e2 e4
 unfold led S mp ptr at e4
 rw [e4]
 simp only [oo_some, vTup_mk, ll_cons', ll_nil', vAgg_mk, toI_mk, toSl_mk, vMapO_mk, gd_closed (gm0 h w).1, bb_true]
 rw [show isPt (Value.pointer (some ⟨1, 0, none⟩)) 1 0 = true from rfl, show isMp (Value.map (some 2)) 2 = true from rfl]
 simp only [bb_true]
 rw [e2]
 simp only [oo_some, toI_mk16]
 exact l48 fl fl' k h w hN hw hk hkw n h.length 1000000 (bv h w) 1 _ [] (card_le _ _) (by omega) (bv_lt h w) hE (gm0 h w) (by simp; omega)
end
end Go.MdRM
set_option maxRecDepth 100000
namespace Go.MdRM
open Go.Sp Go.MdR Go.MdM

theorem p16 (n f1 f2 : Nat) (k : Int) (h w : List Int) : ∃ s : Sl, puN (n + 30) 16 [tr f1 f2 k h w] = some (.tuple ⟨[Sl.v 1 s, I (chk k h w)]⟩) ∧ puN (n + 30) 17 [tr f1 f2 k h w] = some (.tuple ⟨[Sl.v 1 s, I (chk k h w)]⟩) ∧ ∃ L : List (List Nat), s = LL s.fl L ∧ L.length ≤ 10 ∧ ∀ r ∈ L, r.length < 50 := by
 have e1 : puN (n + 30) 16 [tr f1 f2 k h w] = m16_ (puN (n + 29)) 1000000 k (sl f1 h) (sl f2 w) := by kernel_rfl
 have e2 : puN (n + 30) 17 [tr f1 f2 k h w] = m17_ (puN (n + 29)) 1000000 k (sl f1 h) (sl f2 w) := by kernel_rfl
 have c1 := p47 (n + 27) f1 f2 k h w
 have c2 := p49 (n + 27) f1 f2 k h w
 unfold tr S at c1 c2
 rw [e1, e2]
 unfold m16_ m17_
 rw [c1, c2, oo_some, toI_mk, oo_some]
 by_cases hc : chk k h w = 0
 ·have ho := ok_of hc
  have hE := wrong_ev ho.len (K := k.toNat) (by have := ho.k1; rw [show ((k.toNat : Nat) : Int) = k by omega]; exact ho.kk.1) (by have := ho.k1; rw [show ((k.toNat : Nat) : Int) = k by omega]; exact ho.kk.2) ho.ev
  have q1 := p48 f1 f2 k h w ho.n10 ho.len ho.kh ho.kw (n + 2) hE
  have q2 := p50 (n + 14) f1 f2 k h w ho
  unfold tr S at q1 q2
  refine ⟨LL 0 (GR h w), ?_, ?_, GR h w, rfl, ?_, ?_⟩
  ·rw [hc, show nt (ieq 0 0) = false from rfl, bb_false, q1]; rfl
  ·rw [hc, oo_some, toI_mk, oo_some, show nt (ieq 0 0) = false from rfl, bb_false, q2]; rfl
  ·rw [ho.ln]; exact Nat.le_trans (M_lt _ _ _ _) ho.n10
  ·intro r hr
   have hd := ho.dv
   have : ∀ (L : List (List Nat)) (S : PS), Dv h.length (fn h) (fn w) S L → ∀ r ∈ L, r.length ≤ 11 := by
    intro L
    induction L with
    | nil => intro S _ r hr; cases hr
    | cons a L ih =>
     intro S hS r hr
     obtain ⟨f, e, rfl, h1, h2, h3⟩ := hS
     rcases List.mem_cons.1 hr with rfl | hr
     ·have := Rn_len e _ _ h2
      have := card_le h.length (del S f)
      have := ho.n10
      rw [List.length_cons]; omega
     ·exact ih _ h3 r hr
   have := this _ _ hd r hr
   omega
 ·refine ⟨⟨0, 2, []⟩, ?_, ?_, [], rfl, by simp, by simp⟩
  ·rw [ne_t hc, bb_true]
  ·rw [oo_some, toI_mk, oo_some, ne_t hc, bb_true]
theorem l20 (n f1 f2 : Nat) (L : List (List Nat)) (hL : L.length ≤ 10) (hr : ∀ r ∈ L, r.length < 50) : ∀ (g i : Nat), L.length - i < g → i ≤ L.length → l20_1 (puN (n + 1)) 1000000 g (LL f1 L) (LL f2 L) (Int.ofNat i) = some (.bool true) := by
 intro g
 induction g with
 | zero => intro i h; omega
 | succ g ih =>
  intro i h hi
  show b20_1 _ _ (l20_1 _ _ g) _ _ _ = _
  unfold b20_1
  by_cases hlt : i < L.length
  ·rw [show (LL f1 L).n = L.length from rfl, lt_true hlt]
   have p := p26 n 0 0 (nI L[i]) (by rw [nI_len]; exact hr _ (List.getElem_mem hlt))
   unfold S at p
   simp only [bb_true, toN_mk, oo_some, LL, blt_eq, hlt, decide_true, an_eq, Bool.true_and, nthL_eq, Nat.mul_one, getLL L i hlt, toSl_mk, p, vBool_mk, nt_eq, Bool.not_true, bb_false, wrapS i (by omega)]
   exact ih (i + 1) (by omega) (by omega)
  ·rw [show (LL f1 L).n = L.length from rfl, lt_false hlt]; rfl
theorem p20 (n f1 f2 : Nat) (L : List (List Nat)) (hL : L.length ≤ 10) (hr : ∀ r ∈ L, r.length < 50) : puN (n + 2) 20 [Sl.v 1 (LL f1 L), Sl.v 1 (LL f2 L)] = some (.bool true) := by
 refine Eq.trans (b := m20_ (puN (n + 1)) 1000000 (LL f1 L) (LL f2 L)) (by kernel_rfl) ?_
 unfold m20_
 have : nt (ieq (Int.ofNat (LL f1 L).n) (Int.ofNat (LL f2 L).n)) = false := by
  rw [show (LL f1 L).n = L.length from rfl, show (LL f2 L).n = L.length from rfl, ieqr]; rfl
 rw [this, bb_false]
 exact l20 n f1 f2 L hL hr 1000000 0 (by omega) (by omega)
def st (s k : Nat) : Nat := s ||| 2 ^ k
theorem allSet : belowAll (fun s => belowAll (fun k => ieq (aor .u16 (Int.ofNat s) (shlI .u16 1 k)) (Int.ofNat (st s k))) 10) 1024 = true := by kernel_rfl
theorem set_eq (s k : Nat) (hs : s < 1024) (hk : k < 10) : aor .u16 (Int.ofNat s) (shlI .u16 1 k) = Int.ofNat (st s k) := by
 have := belowAll_iff (belowAll_iff allSet s hs) k hk
 rw [ieq_eq] at this
 exact eq_of_beq this
theorem st_bit (s k i : Nat) : (st s k).testBit i = (s.testBit i || (i == k)) := by
 unfold st
 rw [Nat.testBit_or, Nat.testBit_two_pow]
 by_cases h : k = i
 ·subst h; simp
 ·have : ¬ i = k := fun e => h e.symm
  simp [h, this]
theorem st_lt (s k m : Nat) (hs : s < 2 ^ m) (hk : k < m) : st s k < 2 ^ m := Nat.or_lt_two_pow hs (Nat.pow_lt_pow_right (by decide) hk)
structure Mt (h w : List Int) (m : Nat) (X : List Nat) : Prop where
 lt : m < 2 ^ h.length
 nd : X.Nodup
 wr : ∀ i ∈ X, i < h.length ∧ (bv h w).testBit i = true
 iff : ∀ i, i < h.length → (m.testBit i = true ↔ i ∈ X)
theorem Mt.len {h w : List Int} {m : Nat} {X : List Nat} (a : Mt h w m X) : X.length = card h.length (tb m) := by
 rw [← els_len]
 have hp : X.Perm (els h.length (tb m)) := by
  rw [List.perm_ext_iff_of_nodup a.nd]
  ·intro i
   rw [mem_els]
   exact ⟨fun g => ⟨(a.wr i g).1, (a.iff i (a.wr i g).1).2 g⟩, fun g => (a.iff i g.1).1 g.2⟩
  ·exact (els_lt _).imp (fun h => Nat.ne_of_lt h)
 exact hp.length_eq
theorem Mt.le {h w : List Int} {m : Nat} {X : List Nat} (a : Mt h w m X) : X.length ≤ h.length := by
 rw [a.len]; exact card_le _ _
theorem Mt.sub {h w : List Int} {m : Nat} {X : List Nat} (a : Mt h w m X) : Sub h.length (tb m) (tb (bv h w)) := fun i hi g => (a.wr i ((a.iff i hi).1 g)).2
theorem Mt.full {h w : List Int} {m : Nat} {X : List Nat} (a : Mt h w m X) : m = bv h w ↔ ¬ X.length < card h.length (tb (bv h w)) := by
 rw [a.len]
 constructor
 ·intro e; rw [e]; omega
 ·intro e
  apply Nat.eq_of_testBit_eq
  intro i
  by_cases hi : i < h.length
  ·exact a.sub.eq (by omega) i hi
  ·rw [bit_out a.lt (by omega), bit_out (bv_lt h w) (by omega)]
theorem Mt.add {h w : List Int} {m : Nat} {X : List Nat} (a : Mt h w m X) {x : Nat} (hx : x < h.length) (hn : x ∉ X) (hw : (bv h w).testBit x = true) : Mt h w (st m x) (X ++ [x]) where
 lt := st_lt m x _ a.lt hx
 nd := by
  rw [List.nodup_append]
  exact ⟨a.nd, by simp, fun b hb c hc => by rw [List.mem_singleton.1 hc]; rintro rfl; exact hn hb⟩
 wr := fun i hi => by
  rcases List.mem_append.1 hi with hi | hi
  ·exact a.wr i hi
  ·rw [List.mem_singleton.1 hi]; exact ⟨hx, hw⟩
 iff := fun i hi => by
  rw [st_bit, Bool.or_eq_true, List.mem_append, List.mem_singleton, beq_iff_eq, a.iff i hi]
theorem Mt.nil (h w : List Int) : Mt h w 0 [] where
 lt := Nat.two_pow_pos _
 nd := List.nodup_nil
 wr := fun i hi => by cases hi
 iff := fun i _ => by simp
end Go.MdRM
set_option maxRecDepth 100000
namespace Go.MdRM
open Go.Sp Go.MdR Go.MdM

def lk (h w : List Int) : Nat → List Nat → Prop
 | _, [] => True
 | l, x :: t => fn w l = fn h x ∧ lk h w x t
def rk (h w : List Int) (f : Nat) : List Nat → Prop
 | [] => True
 | [x] => fn w x = fn h f
 | x :: y :: t => fn w x = fn h y ∧ rk h w f (y :: t)
theorem rk_lk (h w : List Int) (f : Nat) : ∀ (t : List Nat) (x : Nat), rk h w f (x :: t) ↔ lk h w x t ∧ fn w ((x :: t).getLast (by simp)) = fn h f
 | [], x => by simp [rk, lk]
 | y :: t, x => by
  have := rk_lk h w f t y
  rw [List.getLast_cons (by simp)]
  show (fn w x = fn h y ∧ rk h w f (y :: t)) ↔ (fn w x = fn h y ∧ lk h w y t) ∧ _
  rw [this, and_assoc]
def err (e : Int) : Option Value := some (.tuple ⟨[I 0, I e]⟩)
def Same (x y : Option Value) : Prop := ∃ a b : Int, x = some (.tuple ⟨[I a, I b]⟩) ∧ y = some (.tuple ⟨[I a, I b]⟩)
theorem same_err (e : Int) : Same (err e) (err e) := ⟨0, e, rfl, rfl⟩
section
variable (f1 f2 : Nat) (k : Int) (h w : List Int) (hN : h.length ≤ 10) (hw : w.length = h.length)
include hw
theorem l18_4r (pu : PureF) (m0 : Nat) (ih0 : Sl → Int → Int → Sl → Int → Int → Int → Sl → Sl → Option Value) (A B : Sl) (z1 z2 z3 z4 : Int) (fr : Nat) (r : List Nat) (hr : ∀ x ∈ r, x < h.length) (hrl : r.length < 1000) : ∀ (g i last : Nat), r.length - i < g → i ≤ r.length → last < h.length →
 (lk h w last (r.drop i) → l18_4 pu m0 ih0 g A z1 z2 (Int.ofNat last) B z3 z4 (sl fr (nI r)) (Int.ofNat r.length) (Int.ofNat i) k (sl f1 h) (sl f2 w) = m18_2 pu m0 ih0 A z1 z2 B z3 z4 k (sl f1 h) (sl f2 w)) ∧
 (¬ lk h w last (r.drop i) → l18_4 pu m0 ih0 g A z1 z2 (Int.ofNat last) B z3 z4 (sl fr (nI r)) (Int.ofNat r.length) (Int.ofNat i) k (sl f1 h) (sl f2 w) = err 14) := by
 intro g
 induction g with
 | zero => intro i last hi; omega
 | succ g ih =>
  intro i last hi hil hl
  have e : l18_4 pu m0 ih0 (g + 1) A z1 z2 (Int.ofNat last) B z3 z4 (sl fr (nI r)) (Int.ofNat r.length) (Int.ofNat i) k (sl f1 h) (sl f2 w) = b18_4 pu m0 ih0 (l18_4 pu m0 ih0 g) A z1 z2 (Int.ofNat last) B z3 z4 (sl fr (nI r)) (Int.ofNat r.length) (Int.ofNat i) k (sl f1 h) (sl f2 w) := rfl
  rw [e]
  unfold b18_4
  by_cases hlt : i < r.length
  ·have hx := hr r[i] (List.getElem_mem hlt)
   have hlw : last < w.length := by omega
   rw [lt_true hlt, List.drop_eq_getElem_cons hlt]
   simp only [bb_true, toN_mk, oo_some, sl_n, sl_cs, nI_len, blt_eq, hlt, hlw, hx, decide_true, an_eq, Bool.true_and, nthL_eq, Nat.mul_one, getN r i hlt, getI w last hlw, getI h _ hx, toI_mk, wrapS i (by omega)]
   obtain ⟨i1, i2⟩ := ih (i + 1) r[i] (by omega) (by omega) hx
   unfold lk
   by_cases hc : w[last] = h[r[i]]
   ·have q : nt (ieq w[last] h[r[i]]) = false := by rw [hc, ieqr]; rfl
    rw [q, bb_false]
    have hc' : fn w last = fn h r[i] := by rw [fn_get hlw, fn_get hx, hc]
    exact ⟨fun x => i1 x.2, fun x => i2 (fun y => x ⟨hc', y⟩)⟩
   ·have q : nt (ieq w[last] h[r[i]]) = true := by simp [ieq_eq, hc]
    rw [q, bb_true]
    have hc' : ¬ fn w last = fn h r[i] := by rw [fn_get hlw, fn_get hx]; exact hc
    exact ⟨fun x => absurd x.1 hc', fun _ => rfl⟩
  ·have : i = r.length := by omega
   subst this
   rw [lt_false hlt, bb_false, List.drop_length]
   exact ⟨fun _ => rfl, fun x => absurd trivial x⟩
theorem l19_4r (pu : PureF) (m0 : Nat) (ih0 : Sl → Nat → Nat → Int → Int → Sl → Sl → List Value → Option Value) (A : Sl) (n c : Nat) (z1 : Int) (q : List Value) (hq : allL closed1 q = true) (fr : Nat) (r : List Nat) (hr : ∀ x ∈ r, x < h.length) (hrl : r.length < 1000) (f : Nat) (hf : r[0]? = some f) : ∀ (g i : Nat), r.length - i < g → i ≤ r.length →
 (rk h w f (r.drop i) → l19_4 pu m0 ih0 g A n c z1 (sl fr (nI r)) (Int.ofNat i) k (sl f1 h) (sl f2 w) q = m19_2 pu m0 ih0 A n c z1 k (sl f1 h) (sl f2 w) q) ∧
 (¬ rk h w f (r.drop i) → l19_4 pu m0 ih0 g A n c z1 (sl fr (nI r)) (Int.ofNat i) k (sl f1 h) (sl f2 w) q = err 14) := by
 intro g
 induction g with
 | zero => intro i hi; omega
 | succ g ih =>
  intro i hi hil
  have e : l19_4 pu m0 ih0 (g + 1) A n c z1 (sl fr (nI r)) (Int.ofNat i) k (sl f1 h) (sl f2 w) q = b19_4 pu m0 ih0 (l19_4 pu m0 ih0 g) A n c z1 (sl fr (nI r)) (Int.ofNat i) k (sl f1 h) (sl f2 w) q := rfl
  rw [e]
  unfold b19_4
  rw [hq, bb_true, sl_n, nI_len]
  by_cases hlt : i < r.length
  ·have hx := hr r[i] (List.getElem_mem hlt)
   have hxw : r[i] < w.length := by omega
   have hn0 : nt (ieq (Int.ofNat r.length) 0) = true := ne_t (by intro e; simp only [Int.ofNat_eq_natCast] at e; omega)
   have hmod : Int.tmod (Int.ofNat (i + 1)) (Int.ofNat r.length) = Int.ofNat ((i + 1) % r.length) := (Int.ofNat_tmod _ _).symm
   have hml : (i + 1) % r.length < r.length := Nat.mod_lt _ (by omega)
   have hy := hr r[(i + 1) % r.length] (List.getElem_mem hml)
   rw [lt_true hlt]
   simp only [bb_true, toN_mk, oo_some, sl_n, sl_cs, blt_eq, hlt, hxw, decide_true, an_eq, Bool.true_and, nthL_eq, Nat.mul_one, getN r i hlt, getI w _ hxw, toI_mk, wrapS i (by omega), hn0, hmod, hml, getN r _ hml, hy, getI h _ hy]
   obtain ⟨i1, i2⟩ := ih (i + 1) (by omega) (by omega)
   have key : rk h w f (r.drop i) ↔ (w[r[i]] = h[r[(i + 1) % r.length]] ∧ rk h w f (r.drop (i + 1))) := by
    rw [List.drop_eq_getElem_cons hlt, ← fn_get hxw, ← fn_get hy]
    by_cases h2 : i + 1 < r.length
    ·rw [List.drop_eq_getElem_cons h2]
     have : (i + 1) % r.length = i + 1 := Nat.mod_eq_of_lt h2
     simp only [this]
     exact Iff.rfl
    ·have h3 : i + 1 = r.length := by omega
     have h4 : (i + 1) % r.length = 0 := by rw [h3, Nat.mod_self]
     rw [List.drop_of_length_le (by omega)]
     simp only [h4]
     have h5 : r[0] = f := by rw [List.getElem?_eq_getElem (by omega)] at hf; injection hf
     rw [h5]
     simp [rk]
   rw [key]
   by_cases hc : w[r[i]] = h[r[(i + 1) % r.length]]
   ·have q : nt (ieq w[r[i]] h[r[(i + 1) % r.length]]) = false := by rw [hc, ieqr]; rfl
    rw [q, bb_false]
    exact ⟨fun x => i1 x.2, fun x => i2 (fun y => x ⟨hc, y⟩)⟩
   ·have q : nt (ieq w[r[i]] h[r[(i + 1) % r.length]]) = true := by simp [ieq_eq, hc]
    rw [q, bb_true]
    exact ⟨fun x => absurd x.1 hc, fun _ => rfl⟩
  ·have : i = r.length := by omega
   subst this
   rw [lt_false hlt, bb_false, List.drop_length]
   exact ⟨fun _ => rfl, fun x => absurd trivial x⟩
end
end Go.MdRM
set_option maxRecDepth 100000
namespace Go.MdRM
open Go.Sp Go.MdR Go.MdM

def rV (p : Nat × List Int) : Value := Sl.v 1 (sl p.1 p.2)
def RS (fo : Nat) (R : List (Nat × List Int)) : Sl := ⟨R.length, fo, R.map rV⟩
theorem getRS (R : List (Nat × List Int)) (i : Nat) (h : i < R.length) : (R.map rV)[i]? = some (Sl.v 1 (sl R[i].1 R[i].2)) := by simp [h, rV]
theorem natL : ∀ (l : List Int) (N : Nat), (∀ a ∈ l, 0 ≤ a ∧ a < N) → ∃ r : List Nat, l = nI r ∧ ∀ x ∈ r, x < N
 | [], _, _ => ⟨[], rfl, by simp⟩
 | a :: l, N, h => by
  obtain ⟨r, e, hr⟩ := natL l N (fun b hb => h b (by simp [hb]))
  obtain ⟨a1, a2⟩ := h a (by simp)
  refine ⟨a.toNat :: r, ?_, ?_⟩
  ·rw [e]; show a :: nI r = Int.ofNat a.toNat :: nI r
   rw [show Int.ofNat a.toNat = a from by simp only [Int.ofNat_eq_natCast]; omega]
  ·intro x hx
   rcases List.mem_cons.1 hx with rfl | hx
   ·omega
   ·exact hr x hx
section
variable (f1 f2 : Nat) (k : Int) (h w : List Int) (hN : h.length ≤ 10) (hN1 : 1 ≤ h.length) (hw : w.length = h.length)
include hN hN1 hw
theorem in1 (n : Nat) (A A' B : Sl) (z3 : Int) (n1 : Nat) (i0 : Sl → Int → Int → Sl → Int → Int → Int → Sl → Sl → Option Value) (i1 : Sl → Nat → Nat → Int → Int → Sl → Sl → List Value → Option Value) (io fr : Nat) (r : List Int) (hrl : r.length ≤ 40) (hne : r.length ≠ 0) (hio : io ≤ 1000)
 (cont : ∀ m X, Mt h w m X → Same (i0 A (Int.ofNat (bv h w)) (Int.ofNat m) B z3 (Int.ofNat (io + 1)) k (sl f1 h) (sl f2 w)) (i1 A' X.length (2 * X.length) (Int.ofNat (io + 1)) k (sl f1 h) (sl f2 w) ((nI X).map I))) :
 ∀ (g j m : Nat) (X : List Nat), r.length - j < g → j ≤ r.length → Mt h w m X → (∀ a ∈ r.take j, 0 ≤ a ∧ a < h.length) →
  Same (l18_5 (puN (n + 2)) 1000000 i0 g A (Int.ofNat (bv h w)) (Int.ofNat m) (sl fr r) B z3 (Int.ofNat io) (sl fr r) (Int.ofNat r.length) (Int.ofNat j) k (sl f1 h) (sl f2 w))
   (l19_5 (puN (n + 2)) 1000000 i1 g A' X.length (2 * X.length) (Int.ofNat io) (sl fr r) (Int.ofNat j) k (sl f1 h) (sl f2 w) ((nI X).map I)) := by
 intro g
 induction g with
 | zero => intro j m X hj; omega
 | succ g ih =>
  intro j m X hj hjl hM hin
  have e1 : ∀ a b c d e f g' h' i' j' k' l' m', l18_5 (puN (n + 2)) 1000000 i0 (g + 1) a b c d e f g' h' i' j' k' l' m' = b18_5 (puN (n + 2)) 1000000 i0 (l18_5 (puN (n + 2)) 1000000 i0 g) a b c d e f g' h' i' j' k' l' m' := fun _ _ _ _ _ _ _ _ _ _ _ _ _ => rfl
  have e2 : ∀ a b c d e f g' h' i' j', l19_5 (puN (n + 2)) 1000000 i1 (g + 1) a b c d e f g' h' i' j' = b19_5 (puN (n + 2)) 1000000 i1 (l19_5 (puN (n + 2)) 1000000 i1 g) a b c d e f g' h' i' j' := fun _ _ _ _ _ _ _ _ _ _ => rfl
  rw [e1, e2]
  unfold b18_5 b19_5
  rw [clN, bb_true, sl_n]
  have hXl := hM.le
  by_cases hlt : j < r.length
  ·rw [lt_true hlt]
   have hsub : wrapF .i64 (Int.sub (Int.ofNat h.length) 1) = (h.length : Int) - 1 := wrapI _ (by show _ ≤ (h.length : Int) - 1; omega) (by show (h.length : Int) - 1 ≤ _; omega)
   have q52 := p52 (n + 1) 0 r[j] ((h.length : Int) - 1)
   have q54 := p54 (n + 1) r[j] 0 ((h.length : Int) - 1)
   simp only [bb_true, toN_mk, oo_some, sl_n, sl_cs, blt_eq, hlt, decide_true, an_eq, Bool.true_and, nthL_eq, Nat.mul_one, getI r j hlt, toI_mk, hsub]
   rw [q52, q54, oo_some, vBool_mk, oo_some, oo_some, vBool_mk, oo_some]
   by_cases hr : 0 ≤ r[j] ∧ r[j] < h.length
   ·obtain ⟨hr1, hr2⟩ := hr
    obtain ⟨x, hx⟩ : ∃ x : Nat, r[j] = Int.ofNat x := ⟨r[j].toNat, by simp only [Int.ofNat_eq_natCast]; omega⟩
    have hxl : x < h.length := by rw [hx] at hr2; simp only [Int.ofNat_eq_natCast] at hr2; omega
    have q : nt (decide (0 ≤ r[j]) && decide (r[j] ≤ (h.length : Int) - 1)) = false := by
     rw [decide_eq_true hr1, decide_eq_true (show r[j] ≤ (h.length : Int) - 1 by omega)]; rfl
    rw [q, bb_false, bb_false]
    have hm10 : m < 1024 := Nat.lt_of_lt_of_le hM.lt (p2le hN)
    have hb10 : bv h w < 1024 := Nat.lt_of_lt_of_le (bv_lt h w) (p2le hN)
    have q53 := p53 (n + 1) m x hm10 (by omega)
    have q53b := p53 (n + 1) (bv h w) x hb10 (by omega)
    have q55 := p10550 n X x (by omega)
    have hc : orr (Nat.ble 2 (2 * X.length)) (nilL ((nI X).map I)) = true := by
     cases X with
     | nil => rfl
     | cons a X =>
      have : Nat.ble 2 (2 * (a :: X).length) = true := by rw [ble_eq, List.length_cons]; exact decide_eq_true (by omega)
      rw [this]; rfl
    unfold lv at q55
    have hxw : x < w.length := by omega
    rw [hx, q53, oo_some, vBool_mk, oo_some, hc, bb_true, q55]
    simp only [oo_some, vTup_mk, ll_cons', ll_nil', vBool_mk, vAgg_mk, clN, bb_true]
    by_cases hmt : m.testBit x = true
    ·have hX : X.contains x = true := by rw [List.contains_iff_mem]; exact (hM.iff x hxl).1 hmt
     rw [hmt, hX, bb_true, bb_true]
     exact same_err 6
    ·have hX : X.contains x = false := by
      rw [← Bool.not_eq_true, List.contains_iff_mem]; exact fun g => hmt ((hM.iff x hxl).2 g)
     have hmf : m.testBit x = false := by simpa using hmt
     rw [hmf, hX, bb_false, bb_false, q53b, oo_some, vBool_mk, oo_some]
     simp only [toN_mk, oo_some, hxl, hxw, decide_true, getI h x hxl, getI w x hxw, toI_mk]
     have hbit := bv_bit h w x hxl hxw
     by_cases hhw : h[x] = w[x]
     ·have z1 : nt ((bv h w).testBit x) = true := by rw [hbit, hhw, nt_eq]; simp
      have z2 : ieq h[x] w[x] = true := by rw [hhw]; exact ieqr _
      rw [z1, z2, bb_true, bb_true]
      exact same_err 13
     ·have z0 : (bv h w).testBit x = true := by rw [hbit]; simp [hhw]
      have z1 : nt ((bv h w).testBit x) = false := by rw [z0]; rfl
      have z2 : ieq h[x] w[x] = false := by rw [ieq_eq]; simp [hhw]
      have hgr := growG 1 8 X.length 1 ((nI X).map I) (roomyB (by omega) (by omega)) (by omega) (by rw [List.length_map, nI_len, Nat.mul_one])
      have cap : 2 * (X.length + 1) + bb false 1 0 = 2 * (X.length + 1) := rfl
      rw [z1, z2, bb_false, bb_false, hgr, bb_true, snocN, clN, bb_true, cap, set_eq m x hm10 (by omega), wrapS j (by omega)]
      have hl : (X ++ [x]).length = X.length + 1 := by simp
      have := ih (j + 1) (st m x) (X ++ [x]) (by omega) (by omega) (hM.add hxl (fun g => by rw [← List.contains_iff_mem, hX] at g; cases g) z0) (by
       intro a ha
       rw [List.take_succ_eq_append_getElem hlt] at ha
       rcases List.mem_append.1 ha with ha | ha
       ·exact hin a ha
       ·rw [List.mem_singleton.1 ha]; exact ⟨hr1, hr2⟩)
      rw [hl] at this
      exact this
   ·have q : nt (decide (0 ≤ r[j]) && decide (r[j] ≤ (h.length : Int) - 1)) = true := by
     rw [nt_eq, Bool.not_eq_true', Bool.and_eq_false_iff]
     by_cases h0 : 0 ≤ r[j]
     ·right; exact decide_eq_false (by omega)
     ·left; exact decide_eq_false h0
    rw [q, bb_true, bb_true]
    exact same_err 2
  ·have hjr : j = r.length := by omega
   subst hjr
   rw [lt_false hlt, bb_false, bb_false]
   rw [List.take_length] at hin
   obtain ⟨r', rfl, hr'⟩ := natL r h.length hin
   rw [nI_len] at hrl hne
   unfold m18_3 m19_3
   have h1 : r'.length - 1 < r'.length := by omega
   have hsub : wrapF .i64 (Int.sub (Int.ofNat r'.length) 1) = Int.ofNat (r'.length - 1) := by
    have e : Int.sub (Int.ofNat r'.length) 1 = Int.ofNat (r'.length - 1) := by show (r'.length : Int) - 1 = ((r'.length - 1 : Nat) : Int); omega
    rw [e]
    exact wrapI _ (by show _ ≤ ((r'.length - 1 : Nat) : Int); omega) (by show ((r'.length - 1 : Nat) : Int) ≤ _; omega)
   rw [clN, bb_true]
   simp only [sl_n, nI_len, hsub, toN_mk, oo_some, sl_cs, blt_eq, h1, decide_true, an_eq, Bool.true_and, bb_true, nthL_eq, Nat.mul_one, getN r' _ h1, toI_mk]
   have hlast := hr' _ (List.getElem_mem h1)
   cases r' with
   | nil => exact absurd rfl hne
   | cons f t =>
    obtain ⟨a1, a2⟩ := l18_4r f1 f2 k h w hw (puN (n + 2)) 1000000 i0 A B (Int.ofNat (bv h w)) (Int.ofNat m) z3 (Int.ofNat io) fr (f :: t) hr' (by omega) 1000000 0 _ (by omega) (by omega) hlast
    obtain ⟨b1, b2⟩ := l19_4r f1 f2 k h w hw (puN (n + 2)) 1000000 i1 A' X.length (2 * X.length) (Int.ofNat io) ((nI X).map I) (clN X) fr (f :: t) hr' (by omega) f rfl 1000000 0 (by omega) (by omega)
    rw [List.drop_zero] at a1 a2 b1 b2
    have hgl : (f :: t)[(f :: t).length - 1] = (f :: t).getLast (by simp) := (List.getLast_eq_getElem _).symm
    have key : rk h w f (f :: t) ↔ lk h w ((f :: t)[(f :: t).length - 1]) (f :: t) := by
     rw [rk_lk, hgl]
     exact and_comm
    by_cases hc : rk h w f (f :: t)
    ·have x1 := a1 (key.1 hc)
     have x2 := b1 hc
     have := cont m X hM
     unfold m18_2 at x1
     unfold m19_2 at x2
     rw [wrapS io (by omega)] at x1
     rw [clN, bb_true, wrapS io (by omega)] at x2
     rw [← x1, ← x2] at this
     exact this
    ·have x1 := a2 (fun y => hc (key.2 y))
     have x2 := b2 hc
     exact ⟨0, 14, x1, x2⟩
theorem out1 (n fo : Nat) (R : List (Nat × List Int)) (hR : R.length ≤ 40) (hr : ∀ p ∈ R, p.2.length ≤ 40) : ∀ (g i m : Nat) (X : List Nat), R.length - i < g → i ≤ R.length → Mt h w m X →
 Same (l18_1 (puN (n + 2)) 1000000 g (RS fo R) (Int.ofNat (bv h w)) (Int.ofNat m) (RS fo R) (Int.ofNat R.length) (Int.ofNat i) k (sl f1 h) (sl f2 w))
  (l19_1 (puN (n + 2)) 1000000 g (RS fo R) X.length (2 * X.length) (Int.ofNat i) k (sl f1 h) (sl f2 w) ((nI X).map I)) := by
 intro g
 induction g with
 | zero => intro i m X hi; omega
 | succ g ih =>
  intro i m X hi hil hM
  have e1 : ∀ a b c d e f g' h' i', l18_1 (puN (n + 2)) 1000000 (g + 1) a b c d e f g' h' i' = b18_1 (puN (n + 2)) 1000000 (l18_1 (puN (n + 2)) 1000000 g) a b c d e f g' h' i' := fun _ _ _ _ _ _ _ _ _ => rfl
  have e2 : ∀ a b c d e f g' h', l19_1 (puN (n + 2)) 1000000 (g + 1) a b c d e f g' h' = b19_1 (puN (n + 2)) 1000000 (l19_1 (puN (n + 2)) 1000000 g) a b c d e f g' h' := fun _ _ _ _ _ _ _ _ => rfl
  rw [e1, e2]
  unfold b18_1 b19_1
  rw [clN, bb_true, show (RS fo R).n = R.length from rfl]
  by_cases hlt : i < R.length
  ·rw [lt_true hlt]
   simp only [bb_true, toN_mk, oo_some, RS, blt_eq, hlt, decide_true, an_eq, Bool.true_and, nthL_eq, Nat.mul_one, getRS R i hlt, toSl_mk, sl_n]
   by_cases h0 : R[i].2.length = 0
   ·rw [h0, show ieq (Int.ofNat 0) 0 = true from rfl, bb_true, bb_true]
    exact same_err 4
   ·have q : ieq (Int.ofNat R[i].2.length) 0 = false := by rw [ieq_eq]; simp only [Int.ofNat_eq_natCast]; exact decide_eq_false (by omega)
    rw [q, bb_false, bb_false]
    exact in1 f1 f2 k h w hN hN1 hw n (RS fo R) (RS fo R) (RS fo R) (Int.ofNat R.length) 0 (l18_1 (puN (n + 2)) 1000000 g) (l19_1 (puN (n + 2)) 1000000 g) i R[i].1 R[i].2 (hr _ (List.getElem_mem hlt)) h0 (by omega)
     (fun m' X' hM' => ih (i + 1) m' X' (by omega) (by omega) hM') 1000000 0 m X (by have := hr _ (List.getElem_mem hlt); omega) (by omega) hM (by simp)
  ·have : i = R.length := by omega
   subst this
   rw [lt_false hlt, bb_false, bb_false]
   unfold m18_0 m19_0
   have p := p56 (n + 1) f1 f2 k h w hN hw
   rw [wr_PL hN] at p
   unfold tr S at p
   rw [p, oo_some, toSl_mk, oo_some, sl_n, nI_len, show (PL h (bv h w)).length = card h.length (tb (bv h w)) from els_len _]
   by_cases hf : X.length < card h.length (tb (bv h w))
   ·have hne : m ≠ bv h w := fun e => (hM.full.1 e) hf
    have q : nt (ieq (Int.ofNat m) (Int.ofNat (bv h w))) = true := by
     rw [ieq_eq, nt_eq]; simp
     exact fun e => hne (Int.ofNat.inj e)
    rw [q, bb_true, lt_true hf, bb_true]
    exact same_err 21
   ·have he := hM.full.2 hf
    rw [he, ieqr, lt_false hf, show nt true = false from rfl, bb_false]
    exact ⟨_, _, rfl, rfl⟩
end
theorem p18 (n f1 f2 fo : Nat) (k : Int) (h w : List Int) (R : List (Nat × List Int)) (hR : R.length ≤ 40) (hr : ∀ p ∈ R, p.2.length ≤ 40) :
 Same (puN (n + 3) 18 [tr f1 f2 k h w, Sl.v 1 (RS fo R)]) (puN (n + 3) 19 [tr f1 f2 k h w, Sl.v 1 (RS fo R)]) := by
 have e1 : puN (n + 3) 18 [tr f1 f2 k h w, Sl.v 1 (RS fo R)] = m18_ (puN (n + 2)) 1000000 k (sl f1 h) (sl f2 w) (RS fo R) := by kernel_rfl
 have e2 : puN (n + 3) 19 [tr f1 f2 k h w, Sl.v 1 (RS fo R)] = m19_ (puN (n + 2)) 1000000 k (sl f1 h) (sl f2 w) (RS fo R) := by kernel_rfl
 have c1 := p47 n f1 f2 k h w
 have c2 := p49 n f1 f2 k h w
 unfold tr S at c1 c2
 rw [e1, e2]
 unfold m18_ m19_
 rw [c1, c2, oo_some, toI_mk, oo_some, oo_some, toI_mk, oo_some]
 by_cases hc : chk k h w = 0
 ·have ho := ok_of hc
  have p := p51 (n + 1) f1 f2 k h w ho.n10 ho.len
  unfold tr S at p
  rw [hc, show nt (ieq 0 0) = false from rfl, bb_false, bb_false, p, oo_some, toI_mk16, oo_some]
  exact out1 f1 f2 k h w ho.n10 ho.n1 ho.len n fo R hR hr 1000000 0 0 [] (by omega) (by omega) (Mt.nil h w)
 ·rw [ne_t hc, bb_true, bb_true]
  exact ⟨_, _, rfl, rfl⟩
end Go.MdRM
set_option maxRecDepth 100000
namespace Go.MdRM
open Go.Sp Go.MdR Go.MdM

section
variable (pu : PureF) (m : Nat) (k : Int) (s t : Sl) (e12 : pu 12 [] = some (Value.bool true))
include e12
theorem m4_true (u : Sl) : m4_0 pu m u true k s t = some (.bool true) := by
 unfold m4_0
 rw [bb_true, e12]; rfl
theorem l4 (fo : Nat) (R : List (Nat × List Int)) (hR : R.length ≤ 40) (hM : (∀ p ∈ R, p.2.length ≤ 40) → m4_1 pu m (RS fo R) k s t = some (.bool true)) : ∀ (g i : Nat), R.length - i < g → i ≤ R.length → (∀ p ∈ R.take i, p.2.length ≤ 40) → l4_3 pu m g (RS fo R) (Int.ofNat i) k s t = some (.bool true) := by
 intro g
 induction g with
 | zero => intro i h; omega
 | succ g ih =>
  intro i hi hil hin
  show b4_3 pu m (l4_3 pu m g) _ _ _ _ _ = _
  unfold b4_3
  rw [show (RS fo R).n = R.length from rfl]
  by_cases hlt : i < R.length
  ·rw [lt_true hlt]
   have hx : (RS fo R).cs[i]? = some (Sl.v 1 (sl R[i].1 R[i].2)) := getRS R i hlt
   simp only [bb_true, toN_mk, oo_some, blt_eq, hlt, decide_true, an_eq, Bool.true_and, nthL_eq, Nat.mul_one, hx, toSl_mk, sl_n]
   by_cases hb : 40 < R[i].2.length
   ·have q : ilt 40 (Int.ofNat R[i].2.length) = true := lt_true hb
    rw [q, bb_true, e12]; rfl
   ·have q : ilt 40 (Int.ofNat R[i].2.length) = false := lt_false hb
    rw [q, bb_false, wrapS i (by omega)]
    refine ih (i + 1) (by omega) (by omega) ?_
    intro p hp
    rw [List.take_succ_eq_append_getElem hlt] at hp
    rcases List.mem_append.1 hp with hp | hp
    ·exact hin p hp
    ·rw [List.mem_singleton.1 hp]; omega
  ·have : i = R.length := by omega
   subst this
   rw [lt_false hlt, bb_false]
   rw [List.take_length] at hin
   exact hM hin
end
theorem p4 (n f1 f2 fo : Nat) (k : Int) (h w : List Int) (R : List (Nat × List Int)) : puN (n + 31) 4 [tr f1 f2 k h w, Sl.v 1 (RS fo R)] = some (Value.bool true) := by
 refine Eq.trans (b := m4_ (puN (n + 30)) 1000000 k (sl f1 h) (sl f2 w) (RS fo R)) (by kernel_rfl) ?_
 unfold m4_
 have p := p11 (n + 29) f1 f2 k h w
 unfold tr S at p
 rw [p, oo_some, vBool_mk, oo_some]
 have e := e12 (n + 29)
 by_cases hb : (decide (40 < h.length) || decide (40 < w.length)) = true
 ·rw [hb, bb_true]
  exact m4_true (puN (n + 30)) 1000000 k (sl f1 h) (sl f2 w) e (RS fo R)
 ·have hb' : (decide (40 < h.length) || decide (40 < w.length)) = false := by simpa using hb
  rw [hb', bb_false]
  by_cases hR : 40 < R.length
  ·have q : ilt 40 (Int.ofNat (RS fo R).n) = true := lt_true hR
   rw [q]
   exact m4_true (puN (n + 30)) 1000000 k (sl f1 h) (sl f2 w) e (RS fo R)
  ·have q : ilt 40 (Int.ofNat (RS fo R).n) = false := lt_false hR
   rw [q]
   unfold m4_0
   rw [bb_false]
   refine l4 (puN (n + 30)) 1000000 k (sl f1 h) (sl f2 w) e fo R (by omega) ?_ 1000000 0 (by omega) (by omega) (by simp)
   intro hr
   unfold m4_1
   obtain ⟨u, a1, a2, L, hL, hL1, hL2⟩ := p16 n f1 f2 k h w
   obtain ⟨a, b, b1, b2⟩ := p18 (n + 27) f1 f2 fo k h w R (by omega) hr
   unfold tr S at a1 a2 b1 b2
   have p20' := p20 (n + 28) u.fl u.fl L hL1 hL2
   rw [← hL] at p20'
   rw [a1]
   simp only [oo_some, vTup_mk, ll_cons', ll_nil', toSl_mk, toI_mk]
   rw [a2]
   simp only [oo_some, vTup_mk, ll_cons', ll_nil', toSl_mk, toI_mk]
   rw [b1]
   simp only [oo_some, vTup_mk, ll_cons', ll_nil', toI_mk]
   rw [b2]
   simp only [oo_some, vTup_mk, ll_cons', ll_nil', toI_mk]
   rw [p20', oo_some, vBool_mk, oo_some, bb_true, ieqr, bb_true, ieqr, bb_true, ieqr, bb_true, e]
   rfl
theorem pRings (n f1 f2 fo : Nat) (k : Int) (h w : List Int) (R : List (List Int)) : puN (n + 31) 4 [tr f1 f2 k h w, Sl.v 1 ⟨R.length, fo, R.map (S 0)⟩] = some (Value.bool true) := by
 have := p4 n f1 f2 fo k h w (R.map fun l => (0, l))
 rw [show RS fo (R.map fun l => (0, l)) = ⟨R.length, fo, R.map (S 0)⟩ from by unfold RS; rw [List.length_map, List.map_map]; rfl] at this
 exact this
end Go.MdRM
