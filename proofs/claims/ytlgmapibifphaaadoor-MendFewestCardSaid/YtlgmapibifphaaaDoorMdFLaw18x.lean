/- Made from wip. -/
import Derived.Test.YtlgmapibifphaaaDoorMdFLaw12x

set_option maxRecDepth 100000
namespace Go.MdFM
open Go.Sp Go.MdF Go.MdM

def pq (P:List (Nat×Nat)):List Value:=P.flatMap fun p=>[I (Int.ofNat p.1),I (Int.ofNat p.2)]
theorem pq_len (P:List (Nat×Nat)):(pq P).length = P.length * 2:=by
 induction P with
 | nil=>rfl
 | cons p C ih=>simp only [pq,List.flatMap_cons,List.length_append,List.length_cons,List.length_nil] at ih ⊢;omega
theorem pq_app (C D:List (Nat×Nat)):pq (C ++ D) = pq C ++ pq D:=by simp [pq]
theorem clPq (C:List (Nat×Nat)):allL closed1 (pq C) = true:=by
 rw [allL_eq,List.all_eq_true];intro x hx
 simp [pq] at hx
 obtain ⟨a,b,_,h | h⟩:=hx <;> subst h <;> rfl
theorem snocPq (C:List (Nat×Nat)) (a b:Nat):appL (dropL 0 (pq C)) [I (Int.ofNat a),I (Int.ofNat b)] = pq (C ++ [(a,b)]):=by
 rw [appL_eq,dropL_eq,List.drop_zero,pq_app];rfl
def ps (P:List (Nat×Nat)):Sl:=⟨P.length,0,pq P⟩
theorem wholeP (P:List (Nat×Nat)):an (Nat.ble (0 + P.length * 2) (len (pq P))) (allL closed1 (takeL (P.length * 2) (dropL 0 (pq P)))) = true:=by
 rw [Nat.zero_add,←pq_len,dropL_eq,List.drop_zero,takeL_eq,List.take_length,clPq,len_eq,ble_eq]
 simp
theorem takeP (P:List (Nat×Nat)):takeL (P.length * 2) (dropL 0 (pq P)) = pq P:=by
 rw [←pq_len,dropL_eq,List.drop_zero,takeL_eq,List.take_length]
theorem ne_t {x:Int} (h:x ≠ 0):nt (ieq x 0) = true:=by simp [ieq_eq,h]
theorem ne_f:nt (ieq (0:Int) 0) = false:=rfl
theorem ieqr (x:Int):ieq x x = true:=by simp [ieq_eq]
theorem p29 (n f1 f2:Nat) (k:Int) (h w:List Int) (ho:Ok k h w) (hc:chk k h w = 0):puN (n + 17) 29 [tr f1 f2 k h w] = some (.tuple ⟨[I (FW h w),I 0]⟩):=by
 refine Eq.trans (b:=m29_ (puN (n + 16)) 1000000 k (sl f1 h) (sl f2 w)) (by kernel_rfl) ?_
 unfold m29_
 have e1:=p47 (n + 14) f1 f2 k h w
 have e2:=p44 (n + 2) f1 f2 k h w ho.n10 ho.len ho.kh ho.kw
 unfold tr S at e1 e2
 rw [e1,oo_some,toI_mk,oo_some,hc,ne_f,bb_false,e2];rfl
theorem p29e (n f1 f2:Nat) (k:Int) (h w:List Int) (hc:chk k h w ≠ 0):puN (n + 17) 29 [tr f1 f2 k h w] = some (.tuple ⟨[I 0,I (chk k h w)]⟩):=by
 refine Eq.trans (b:=m29_ (puN (n + 16)) 1000000 k (sl f1 h) (sl f2 w)) (by kernel_rfl) ?_
 unfold m29_
 have e1:=p47 (n + 14) f1 f2 k h w
 unfold tr S at e1
 rw [e1,oo_some,toI_mk,oo_some,ne_t hc,bb_true]
theorem p32 (n f1 f2:Nat) (k:Int) (h w:List Int) (ho:Ok k h w) (hc:chk k h w = 0):puN (n + 17) 32 [tr f1 f2 k h w] = some (.tuple ⟨[I (FW h w),I 0]⟩):=by
 refine Eq.trans (b:=m32_ (puN (n + 16)) 1000000 k (sl f1 h) (sl f2 w)) (by kernel_rfl) ?_
 unfold m32_
 have e1:=p49 (n + 14) f1 f2 k h w
 have e2:=p45 n f1 f2 k h w ho
 unfold tr S at e1 e2
 rw [e1,oo_some,toI_mk,oo_some,hc,ne_f,bb_false,e2];rfl
theorem p32e (n f1 f2:Nat) (k:Int) (h w:List Int) (hc:chk k h w ≠ 0):puN (n + 17) 32 [tr f1 f2 k h w] = some (.tuple ⟨[I 0,I (chk k h w)]⟩):=by
 refine Eq.trans (b:=m32_ (puN (n + 16)) 1000000 k (sl f1 h) (sl f2 w)) (by kernel_rfl) ?_
 unfold m32_
 have e1:=p49 (n + 14) f1 f2 k h w
 unfold tr S at e1
 rw [e1,oo_some,toI_mk,oo_some,ne_t hc,bb_true]
theorem e12 (n:Nat):puN (n + 1) 12 [] = some (Value.bool true):=by kernel_rfl
end Go.MdFM
set_option maxRecDepth 100000
namespace Go.MdM
theorem fs_ext {α β : Type} {f g : α → Option β} : ∀ (l : List α), (∀ a ∈ l, f a = g a) → l.findSome? f = l.findSome? g
 | [],_=>rfl
 | a :: l,h=>by rw [List.findSome?_cons,List.findSome?_cons,h a (by simp),fs_ext l (fun b hb=>h b (by simp [hb]))]
variable {N:Nat} {H W:Nat→Int}
theorem dfs_congr {Q : PS → Prop} (hQ : ∀ A B : PS, (∀ i, i < N → A i = B i) → (Q A ↔ Q B)) (f : Nat) : ∀ (k : Nat) (A B : PS) (last : Nat), (∀ i, i < N → A i = B i) → dfs N H W Q f k A last = dfs N H W Q f k B last
 | 0,_,_,_,_=>rfl
 | k + 1, A, B, last, h => by
  unfold dfs
  have this:(W last = H f∧Q A)↔(W last = H f∧Q B):=and_congr Iff.rfl (hQ A B h)
  have hf:(els N B).findSome? (fun i=>if H i = W last then (dfs N H W Q f k (del A i) i).map (i :: ·) else none) = (els N B).findSome? (fun i=>if H i = W last then (dfs N H W Q f k (del B i) i).map (i :: ·) else none):=fs_ext _ (fun i _=>by rw [dfs_congr hQ f k _ _ i (del_congr h i)])
  rw [els_congr h,hf]
  by_cases hc:W last = H f∧Q A
  ·rw [if_pos hc,if_pos (this.1 hc)]
  ·rw [if_neg hc,if_neg (fun g=>hc (this.2 g))]
theorem dfs_fuel {Q : PS → Prop} (f : Nat) : ∀ (k k' : Nat) (R : PS) (last : Nat), card N R < k → card N R < k' → dfs N H W Q f k R last = dfs N H W Q f k' R last
 | 0,_,_,_,h,_=>by omega
 | _ + 1,0,_,_,_,h=>by omega
 | k + 1, k' + 1, R, last, h1, h2 => by
  unfold dfs
  have hf:(els N R).findSome? (fun i=>if H i = W last then (dfs N H W Q f k (del R i) i).map (i :: ·) else none) = (els N R).findSome? (fun i=>if H i = W last then (dfs N H W Q f k' (del R i) i).map (i :: ·) else none):=fs_ext _ (fun i hi=>by
   obtain ⟨a,b⟩:=mem_els.1 hi
   have:=card_del a b
   rw [dfs_fuel f k k' (del R i) i (by omega) (by omega)])
  rw [hf]
end Go.MdM
namespace Go.MdFM
open Go.Sp Go.MdF Go.MdM

theorem p72 (n:Nat) (bg:List Nat):puN (n + 1) 72 [S 0 (nI bg)] = some (S 1 (nI bg)):=by
 have e:clipS 1 (sl 0 (nI bg)) = sl 1 (nI bg):=by
  unfold clipS
  rw [show Nat.beq (sl 0 (nI bg)).fl 2 = false from rfl,bb_false]
  have t:=takeN bg
  rw [sl_n,sl_cs,nI_len,Nat.zero_mul,Nat.sub_zero,t];unfold sl;rw [nI_len]
 refine Eq.trans (b:=m72_ (puN n) 1000000 (sl 0 (nI bg))) (by kernel_rfl) ?_
 unfold m72_
 rw [e];rfl
theorem snocN' (r:List Nat) (a:Nat):appL ((nI r).map I) [I (Int.ofNat a)] = (nI (r ++ [a])).map I:=by
 rw [appL_eq,nI_app,List.map_append];rfl
def Qr (h w:List Int) (r:Nat):PS→Prop:=fun R=>Ev h.length (fn h) (fn w) R∧M h.length (fn h) (fn w) R = r
theorem Qr_congr (h w:List Int) (r:Nat) (A B:PS) (g:∀ i,i < h.length→A i = B i):Qr h w r A↔Qr h w r B:=by
 unfold Qr;rw [Ev_congr g,M_congr g]
def rres (bg : List Nat) : Option (List Nat) → Value
 | some e=>S 0 (nI (bg ++ e))
 | none=>Sl.v 1 ⟨0,2,[]⟩
noncomputable def fd (h w:List Int) (r f d:Nat) (R:PS) (last:Nat):Nat→Option (List Nat):=fun i=>if fn h i = fn w last then (dfs h.length (fn h) (fn w) (Qr h w r) f d (del R i) i).map (i :: ·) else none
section
variable (fl fl':Nat) (k:Int) (h w:List Int) (hN:h.length≤10) (hw:w.length = h.length) (hk:kin h) (hkw:kin w)
def Ri (r n d : Nat) : Prop := ∀ s bg f last es c, card h.length (tb s) < d → s < 2 ^ h.length → Gm h w es → bg.length + d ≤ 900 → f < h.length → last < h.length → bg[0]? = some f → bg[bg.length - 1]? = some last →
 ∃ es' c',puN n 10680 [ptr,S 0 (nI bg),U s,I (Int.ofNat r),led fl fl' k h w,mp es c] = some (.tuple ⟨[rres bg (dfs h.length (fn h) (fn w) (Qr h w r) f d (tb s) last),led fl fl' k h w,mp es' c']⟩)∧Gm h w es'
include hN hw
theorem l10680 (r n d s : Nat) (bg : List Nat) (f last : Nat) (hs : s < 2 ^ h.length) (hd : card h.length (tb s) < d + 1) (hbg : bg.length + d < 900) (hf : f < h.length) (hl : last < h.length) (hb0 : bg[0]? = some f) (ih0 : Ri fl fl' k h w r (n + 1) d) : ∀ (g i c : Nat) (es : List Ent), (eL s).length - i < g → i ≤ (eL s).length → Gm h w es →
 ∃ es' c', l10680_2 (puN (n + 1)) 1000000 g (sl 0 (nI bg)) (Int.ofNat s) (Int.ofNat r) (Int.ofNat last) (sl 0 (eL s)) (Int.ofNat (eL s).length) (Int.ofNat i) k (sl fl h) (sl fl' w) es c =
  some (.tuple ⟨[rres bg (((els h.length (tb s)).drop i).findSome? (fd h w r f d (tb s) last)),led fl fl' k h w,mp es' c']⟩)∧Gm h w es':=by
 intro g
 have heL:=eL_m hN hs
 have hlen:(eL s).length = (els h.length (tb s)).length:=by rw [heL,List.length_map]
 have hcd:(els h.length (tb s)).length≤10:=by
  rw [els_len];unfold card;exact Nat.le_trans List.countP_le_length (by simpa using hN)
 induction g with
 | zero=>intro i c es hi;omega
 | succ g ih =>
  intro i c es hi hil hg
  show ∃ es' c',b10680_2 (puN (n + 1)) 1000000 (l10680_2 (puN (n + 1)) 1000000 g) _ _ _ _ _ _ _ _ _ _ _ _ = _∧_
  unfold b10680_2
  rw [gd_closed hg.1,bb_true]
  by_cases hlt:i < (eL s).length
  ·have hlt' : i < (els h.length (tb s)).length := by omega
   have hx:(eL s)[i] = Int.ofNat ((els h.length (tb s))[i]):=by simp only [heL,List.getElem_map]
   obtain ⟨x1,x2⟩:=mem_els.1 (List.getElem_mem hlt')
   rw [List.drop_eq_getElem_cons hlt',List.findSome?_cons]
   generalize hxe:(els h.length (tb s))[i] = x at *
   have hcl:=cl_lt s x h.length hs
   have hdel:∀ j,j < h.length→tb (cl s x) j = del (tb s) x j:=del_cl hN
   have hcd2:card h.length (tb (cl s x)) < d:=by
    rw [card_congr hdel];have:=card_del x1 x2;omega
   have next : ∀ (c1 : Nat) (es1 : List Ent), Gm h w es1 → ∃ es' c', m10680_3 (puN (n + 1)) 1000000 (l10680_2 (puN (n + 1)) 1000000 g) (sl 0 (nI bg)) (Int.ofNat s) (Int.ofNat r) (Int.ofNat last) (sl 0 (eL s)) (Int.ofNat (eL s).length) (Int.ofNat i) k (sl fl h) (sl fl' w) es1 c1 =
    some (.tuple ⟨[rres bg (((els h.length (tb s)).drop (i + 1)).findSome? (fd h w r f d (tb s) last)),led fl fl' k h w,mp es' c']⟩)∧Gm h w es':=by
    intro c1 es1 g1
    unfold m10680_3
    rw [gd_closed g1.1,bb_true,wrapS i (by omega)]
    exact ih (i + 1) c1 es1 (by omega) (by omega) g1
   rw [lt_true hlt]
   have hgx:((eL s).map I)[i]? = some (I (Int.ofNat x)):=by rw [getI _ i hlt,hx]
   have hlw:last < w.length:=by omega
   simp only [bb_true,toN_mk,oo_some,sl_n,sl_cs,blt_eq,hlt,x1,hlw,decide_true,an_eq,Bool.true_and,nthL_eq,Nat.mul_one,hgx,toI_mk,getI h x x1,getI w last hlw,clear_eq s x (Nat.lt_of_lt_of_le hs (p2le hN)) (by omega)]
   by_cases hc:h[x] = w[last]
   ·have q : ieq h[x] w[last] = true := by simp [ieq_eq, hc]
    have hfd:fd h w r f d (tb s) last x = (dfs h.length (fn h) (fn w) (Qr h w r) f d (tb (cl s x)) x).map (x :: ·):=by
     unfold fd
     rw [if_pos (by rw [fn_get x1,fn_get hlw,hc]),dfs_congr (Qr_congr h w r) f d _ _ x hdel]
    have hla:(bg ++ [x]).length = bg.length + 1:=by simp
    obtain ⟨es1, c1, e1, g1⟩ := ih0 (cl s x) (bg ++ [x]) f x es c hcd2 hcl hg (by rw [hla]; omega) hf x1 (by
     rw [List.getElem?_append_left];exact hb0
     exact (List.getElem?_eq_some_iff.1 hb0).1) (by rw [hla];simp)
    have p:=p72 n bg
    unfold S at p
    rw [q,bb_true,p,oo_some,toSl_mk,oo_some]
    have w1:=wholeN (bg ++ [x])
    have t1:=takeN (bg ++ [x])
    rw [hla] at w1 t1
    have r1:=roomyB (n:=bg.length + 1) (b:=8) (by omega) (by omega)
    rw [show Nat.beq (sl 1 (nI bg)).fl 1 = true from rfl]
    simp only [sl_n,sl_cs,nI_len,orr_eq,Bool.true_or,r1,an_eq,Bool.and_true,bb_true,snocN',Nat.mul_one] at w1 t1 ⊢
    rw [w1,bb_true,t1]
    have sR:Sl.v 1 (Sl.mk (bg.length + 1) 0 ((nI (bg ++ [x])).map I)) = S 0 (nI (bg ++ [x])):=by
     unfold S sl;rw [nI_len,hla]
    rw [sR]
    unfold led mp ptr at e1
    have e1':puN (n + 1) 10680 [.pointer (some ⟨1,0,none⟩),S 0 (nI (bg ++ [x])),.int .u16 (Int.ofNat (cl s x)),.int .i64 (Int.ofNat r),.agg ⟨[.int .i64 k,Sl.v 1 (sl fl h),Sl.v 1 (sl fl' w),.map (some 2)]⟩,encO (.map es c)] = some (.tuple ⟨[rres (bg ++ [x]) (dfs h.length (fn h) (fn w) (Qr h w r) f d (tb (cl s x)) x),.agg ⟨[.int .i64 k,Sl.v 1 (sl fl h),Sl.v 1 (sl fl' w),.map (some 2)]⟩,encO (.map es1 c1)]⟩):=e1
    rw [e1',hfd]
    cases hD:dfs h.length (fn h) (fn w) (Qr h w r) f d (tb (cl s x)) x with
    | none =>
     obtain ⟨es2,c2,e2,g2⟩:=next c1 es1 g1
     refine ⟨es2,c2,?_,g2⟩
     simp only [rres,oo_some,vTup_mk,ll_cons',ll_nil',vAgg_mk,toI_mk,toSl_mk,vMapO_mk,gd_closed g1.1,bb_true]
     rw [show isMp (Value.map (some 2)) 2 = true from rfl,bb_true,show Nat.beq 2 2 = true from rfl,show bq false true = false from rfl,bb_false,Bool.true_or,bb_true]
     exact e2
    | some e =>
     refine ⟨es1,c1,?_,g1⟩
     have hne:Nat.ble 1 (bg ++ [x] ++ e).length = true:=by rw [Nat.ble_eq];simp only [List.length_append,List.length_singleton];omega
     simp only [rres,S,oo_some,vTup_mk,ll_cons',ll_nil',vAgg_mk,toI_mk,toSl_mk,vMapO_mk,gd_closed g1.1,bb_true,Option.map_some,sl_n,nI_len,hne]
     rw [show isMp (Value.map (some 2)) 2 = true from rfl,bb_true,show Nat.beq (sl 0 (nI (bg ++ [x] ++ e))).fl 2 = false from rfl,show bq false false = true from rfl,bb_true,Bool.or_true,Bool.or_true,bb_true]
     rw [List.append_assoc];rfl
   ·have q : ieq h[x] w[last] = false := by simp [ieq_eq, hc]
    have hfd:fd h w r f d (tb s) last x = none:=by
     unfold fd
     rw [if_neg (by rw [fn_get x1,fn_get hlw];exact hc)]
    rw [q,bb_false,hfd]
    exact next c es hg
  ·have hi' : i = (eL s).length := by omega
   subst hi'
   rw [lt_false hlt,bb_false,List.drop_of_length_le (by omega)]
   unfold m10680_1
   rw [gd_closed hg.1,bb_true]
   exact ⟨es,c,rfl,hg⟩
include hk hkw
theorem ri_all (r:Nat):∀ (d n:Nat),Ri fl fl' k h w r (n + d + 15) d:=by
 intro d
 induction d with
 | zero=>intro n s bg f last es c hd;omega
 | succ d ih =>
  intro n s bg f last es c hd hs hg hbg hf hl hb0 hbl
  have e0:puN (n + (d + 1) + 15) 10680 [ptr,S 0 (nI bg),U s,I (Int.ofNat r),led fl fl' k h w,mp es c] = m10680_ (puN (n + (d + 1) + 14)) 1000000 (sl 0 (nI bg)) (Int.ofNat s) (Int.ofNat r) k (sl fl h) (sl fl' w) es c:=by
   show m10680 _ _ [ptr,S 0 (nI bg),U s,I (Int.ofNat r),led fl fl' k h w,mp es c] = _
   unfold m10680 led S mp ptr
   simp only [ll_cons',ll_nil',vMapO_mk,toI_mk16,toI_mk,vAgg_mk,toSl_mk,oo_some]
   rfl
  rw [e0]
  have h0:0 < bg.length:=(List.getElem?_eq_some_iff.1 hb0).1
  have hs10:=Nat.lt_of_lt_of_le hs (p2le hN)
  have loop : ∀ (b : Bool) (es1 : List Ent) (c1 : Nat), Gm h w es1 → (b = true → ¬ (fn w last = fn h f ∧ Qr h w r (tb s)) → False) → (b = false → (fn w last = fn h f ∧ Qr h w r (tb s)) → False) →
   ∃ es' c',m10680_0 (puN (n + (d + 1) + 14)) 1000000 (sl 0 (nI bg)) (Int.ofNat s) (Int.ofNat r) (Int.ofNat last) b k (sl fl h) (sl fl' w) es1 c1 = some (.tuple ⟨[rres bg (dfs h.length (fn h) (fn w) (Qr h w r) f (d + 1) (tb s) last),led fl fl' k h w,mp es' c']⟩)∧Gm h w es':=by
   intro b es1 c1 g1 hb1 hb2
   unfold m10680_0 dfs
   rw [gd_closed g1.1,bb_true]
   by_cases hc:fn w last = fn h f∧Qr h w r (tb s)
   ·cases b with
    | false=>exact (hb2 rfl hc).elim
    | true =>
     refine ⟨es1,c1,?_,g1⟩
     have e:rres bg (some []) = S 0 (nI bg):=by show S 0 (nI (bg ++ [])) = _;rw [List.append_nil]
     rw [if_pos hc,bb_true,e];rfl
   ·cases b with
    | true=>exact (hb1 rfl hc).elim
    | false =>
     rw [if_neg hc,bb_false]
     have p:=p62 (n + d + 13) s hs10
     rw [bl_eL s hs10] at p
     have p':puN (n + (d + 1) + 14) 62 [.int .u16 (Int.ofNat s)] = some (S 0 (eL s)):=by
      rw [show n + (d + 1) + 14 = n + d + 13 + 2 by omega];exact p
     rw [p',oo_some]
     unfold S
     rw [toSl_mk,oo_some,sl_n]
     have:=l10680 fl fl' k h w hN hw r (n + d + 14) d s bg f last hs hd (by omega) hf hl hb0 (ih n) 1000000 0 c1 es1 (by rw [eL_m hN hs,List.length_map,els_len];unfold card;have:=List.countP_le_length (l:=List.range h.length) (p:=tb s);rw [List.length_range] at this;omega) (by omega) g1
     rw [List.drop_zero] at this
     rw [show n + (d + 1) + 14 = n + d + 14 + 1 by omega]
     exact this
  unfold m10680_
  have hlw:last < w.length:=by omega
  have hb1:bg.length - 1 < bg.length:=by omega
  have hgl:((nI bg).map I)[bg.length - 1]? = some (I (Int.ofNat last)):=by
   rw [getN bg _ hb1];rw [List.getElem?_eq_getElem hb1] at hbl;injection hbl with hbl;rw [hbl]
  have hgf:((nI bg).map I)[0]? = some (I (Int.ofNat f)):=by
   rw [getN bg _ h0];rw [List.getElem?_eq_getElem h0] at hb0;injection hb0 with hb0;rw [hb0]
  have hsub:wrapF .i64 (Int.sub (Int.ofNat bg.length) 1) = Int.ofNat (bg.length - 1):=by
   have e:Int.sub (Int.ofNat bg.length) 1 = Int.ofNat (bg.length - 1):=by show (bg.length:Int) - 1 = ((bg.length - 1:Nat):Int);omega
   rw [e]
   exact wrapI _ (by show _≤((bg.length - 1:Nat):Int);omega) (by show ((bg.length - 1:Nat):Int)≤_;omega)
  rw [gd_closed hg.1,bb_true,sl_n,nI_len,hsub]
  simp only [bb_true,toN_mk,oo_some,sl_n,sl_cs,nI_len,blt_eq,hb1,h0,hf,hlw,decide_true,an_eq,Bool.true_and,nthL_eq,Nat.mul_one,Nat.zero_mul,hgl,hgf,toI_mk,getI h f hf,getI w last hlw]
  by_cases hc:w[last] = h[f]
  ·have q : ieq w[last] h[f] = true := by simp [ieq_eq, hc]
   rw [q,bb_true]
   obtain ⟨b,e,hb⟩:=p71 (n + d + 13) fl fl' s k h w hN hw hs10 hk hkw
   unfold tr S at e
   rw [show n + (d + 1) + 14 = n + d + 13 + 2 by omega,e,oo_some,vBool_mk,oo_some]
   rw [show n + (d + 1) + 14 = n + d + 13 + 2 by omega] at loop
   cases b with
   | false =>
    rw [bb_false]
    exact loop false es c hg (fun x=>by cases x) (fun _ g=>by simpa using hb.2 g.2.1)
   | true =>
    rw [bb_true]
    try rw [bb_true]
    have hMo:=mo_all fl fl' k h w hN hw hk hkw 10 (n + d + 2)
    rw [show n + d + 2 + 10 + 3 = n + d + 13 + 2 by omega] at hMo
    obtain ⟨es1,c1,e1,g1⟩:=hMo s es c (Nat.le_trans (card_le _ _) hN) hs hg
    unfold led S mp ptr at e1
    have e1':puN (n + d + 13 + 2) 10660 [.pointer (some ⟨1,0,none⟩),.int .u16 (Int.ofNat s),.agg ⟨[.int .i64 k,Sl.v 1 (sl fl h),Sl.v 1 (sl fl' w),.map (some 2)]⟩,encO (.map es c)] = some (.tuple ⟨[I (TM h w s),.agg ⟨[.int .i64 k,Sl.v 1 (sl fl h),Sl.v 1 (sl fl' w),.map (some 2)]⟩,encO (.map es1 c1)]⟩):=e1
    rw [e1']
    simp only [oo_some,vTup_mk,ll_cons',ll_nil',vAgg_mk,toI_mk,toSl_mk,vMapO_mk,gd_closed g1.1,bb_true]
    rw [show isMp (Value.map (some 2)) 2 = true from rfl,bb_true]
    refine loop _ es1 c1 g1 (fun x y=>y ⟨by rw [fn_get hlw,fn_get hf,hc],hb.1 rfl,?_⟩) (fun x y=>?_)
    ·rw [ieq_eq] at x
     have x:=of_decide_eq_true x
     unfold TM at x
     exact Int.ofNat.inj x
    ·have z := y.2.2
     unfold TM at x
     rw [z,ieq_eq] at x
     simp at x
  ·have q : ieq w[last] h[f] = false := by simp [ieq_eq, hc]
   rw [q,bb_false]
   exact loop false es c hg (fun x=>by cases x) (fun _ g=>hc (by have:=g.1;rwa [fn_get hlw,fn_get hf] at this))
end
end Go.MdFM
set_option maxRecDepth 100000
namespace Go.MdM
variable {N:Nat} {H W:Nat→Int}
theorem Qs_congr {A B:PS} (h:∀ i,i < N→A i = B i):Qs N H W A = Qs N H W B:=by
 funext R;unfold Qs;rw [M_congr h]
theorem rem_congr {A B:PS} (h:∀ i,i < N→A i = B i) (r:List Nat):∀ i,i < N→rem A r i = rem B r i:=fun i hi=>by unfold rem;rw [h i hi]
theorem Qs_inv (S:PS) (A B:PS) (h:∀ i,i < N→A i = B i):Qs N H W S A↔Qs N H W S B:=by
 unfold Qs;rw [Ev_congr h,M_congr h]
theorem gr_congr : ∀ (k : Nat) (A B : PS), (∀ i, i < N → A i = B i) → gr N H W k A = gr N H W k B
 | 0,_,_,_=>rfl
 | k + 1, A, B, h => by
  unfold gr
  rw [els_congr h]
  cases els N B with
  | nil=>rfl
  | cons f l =>
   dsimp only
   rw [Qs_congr (H:=H) (W:=W) h,card_congr h,dfs_congr (Qs_inv B) f _ _ _ f (del_congr h f),gr_congr k _ _ (rem_congr h _)]
theorem Rn_len {Q : PS → Prop} {f : Nat} : ∀ (e : List Nat) (R : PS) (last : Nat), Rn N H W Q f R last e → e.length ≤ card N R
 | [],_,_,_=>Nat.zero_le _
 | i :: e, R, last, hr => by
  obtain ⟨h1,h2,_,h4⟩:=hr
  have:=Rn_len e _ _ h4
  have:=card_del h1 h2
  rw [List.length_cons];omega
end Go.MdM
namespace Go.MdFM
open Go.Sp Go.MdF Go.MdM

theorem all67 (pu:PureF):belowAll (fun s=>isIv (m67_ pu 1000000 (Int.ofNat s)) (Int.ofNat ((els 10 (tb s)).headD 16))) 1024 = true:=by kernel_rfl
theorem p67 (n s:Nat) (hs:s < 1024):puN (n + 1) 67 [.int .u16 (Int.ofNat s)] = some (I (Int.ofNat ((els 10 (tb s)).headD 16))):=by
 refine Eq.trans (b:=m67_ (puN n) 1000000 (Int.ofNat s)) (by kernel_rfl) ?_
 exact isIv_ok (belowAll_iff (all67 _) s hs)
theorem els_m {s m:Nat} (hm:m≤10) (hs:s < 2 ^ m):els 10 (tb s) = els m (tb s):=by
 have:=eL_m hm hs
 unfold eL at this
 have inj:∀ (a b:List Nat),a.map Int.ofNat = b.map Int.ofNat→a = b:=by
  intro a
  induction a with
  | nil=>intro b h;cases b with | nil=>rfl | cons=>simp at h
  | cons x a ih => intro b h; cases b with
   | nil=>simp at h
   | cons y b=>rw [List.map_cons,List.map_cons] at h;injection h with h1 h2;rw [Int.ofNat.inj h1,ih b h2]
 exact inj _ _ this
def clA : Nat → List Nat → Nat
 | s,[]=>s
 | s,i :: r=>clA (cl s i) r
theorem clA_lt (m : Nat) : ∀ (r : List Nat) (s : Nat), s < 2 ^ m → clA s r < 2 ^ m
 | [],_,h=>h
 | i :: r,s,h=>clA_lt m r _ (cl_lt s i m h)
theorem clA_rem {m : Nat} (hm : m ≤ 10) : ∀ (r : List Nat) (s : Nat), ∀ i, i < m → tb (clA s r) i = rem (tb s) r i
 | [],s,i,_=>by rw [rem_nil];rfl
 | j :: r, s, i, hi => by
  rw [rem_cons]
  exact (clA_rem hm r (cl s j) i hi).trans (rem_congr (N:=m) (del_cl hm) r i hi)
section
variable (fl fl':Nat) (k:Int) (h w:List Int) (hN:h.length≤10) (hw:w.length = h.length) (hk:kin h) (hkw:kin w)
theorem l48_rem (pu : PureF) (m : Nat) (ih0 : Nat → Nat → Int → Int → Sl → Sl → List Value → List Ent → Nat → Option Value) (a b c : Nat) (L : List (List Nat)) (es : List Ent) (hg : Gm h w es) (r : List Nat) (hr : ∀ i ∈ r, i < 10) (hrl : r.length ≤ 900) :
 ∀ (g i s:Nat),r.length - i < g→i≤r.length→s < 1024→l48_2 pu m ih0 g a b (Int.ofNat s) (sl 0 (nI r)) (Int.ofNat r.length) (Int.ofNat i) k (sl fl h) (sl fl' w) (L.map rv) es c = ih0 a b (Int.ofNat (clA s (r.drop i))) k (sl fl h) (sl fl' w) (L.map rv) es c:=by
 intro g
 induction g with
 | zero=>intro i s hi;omega
 | succ g ih =>
  intro i s hi hil hs
  show b48_2 pu m ih0 (l48_2 pu m ih0 g) _ _ _ _ _ _ _ _ _ _ _ _ = _
  unfold b48_2
  rw [clL,bb_true,gd_closed hg.1,bb_true]
  by_cases hlt:i < r.length
  ·rw [lt_true hlt, List.drop_eq_getElem_cons hlt]
   have hx:=hr r[i] (List.getElem_mem hlt)
   simp only [bb_true,toN_mk,oo_some,sl_n,sl_cs,nI_len,blt_eq,hlt,decide_true,an_eq,Bool.true_and,nthL_eq,Nat.mul_one,getN r i hlt,toI_mk,clear_eq s r[i] hs hx,wrapS i (by omega)]
   rw [ih (i + 1) (cl s r[i]) (by omega) (by omega) (cl_lt s _ 10 hs)]
   rfl
  ·have : i = r.length := by omega
   subst this
   rw [lt_false hlt,bb_false,List.drop_length]
   rfl
include hN hw hk hkw
theorem l48 (n : Nat) : ∀ (kk g s c : Nat) (es : List Ent) (L : List (List Nat)), card h.length (tb s) ≤ kk → kk < g → s < 2 ^ h.length → Ev h.length (fn h) (fn w) (tb s) → Gm h w es → L.length + kk ≤ 100 →
 l48_1 (puN (n + 26)) 1000000 g L.length (2 * L.length) (Int.ofNat s) k (sl fl h) (sl fl' w) (L.map rv) es c = some (Sl.v 1 (LL 0 (L ++ gr h.length (fn h) (fn w) kk (tb s)))):=by
 intro kk
 have fin:∀ (g c:Nat) (es:List Ent) (L:List (List Nat)),Gm h w es→0 < g→l48_1 (puN (n + 26)) 1000000 g L.length (2 * L.length) (Int.ofNat 0) k (sl fl h) (sl fl' w) (L.map rv) es c = some (Sl.v 1 (LL 0 L)):=by
  intro g c es L hg h0
  cases g with
  | zero=>omega
  | succ g =>
   show b48_1 _ _ _ _ _ _ _ _ _ _ _ _ = _
   unfold b48_1
   rw [clL,bb_true,gd_closed hg.1,bb_true,show nt (ieq (Int.ofNat 0) 0) = false from rfl,bb_false]
   unfold m48_0
   rw [clL,bb_true,wholeL,bb_true,takeLL]
   rfl
 have zer:∀ s,s < 2 ^ h.length→els h.length (tb s) = []→s = 0:=by
  intro s hs he
  have hz:card h.length (tb s) = 0:=by rw [←els_len,he];rfl
  apply Nat.eq_of_testBit_eq
  intro i
  rw [Nat.zero_testBit]
  by_cases hi:i < h.length
  ·exact card_zero hz i hi
  ·exact bit_out hs (by omega)
 induction kk with
 | zero =>
  intro g s c es L hc hg0 hs hE hg hL
  have:s = 0:=zer s hs (by apply List.length_eq_zero_iff.1;rw [els_len];omega)
  subst this
  rw [show gr h.length (fn h) (fn w) 0 (tb 0) = [] from rfl,List.append_nil]
  exact fin g c es L hg hg0
 | succ kk ih =>
  intro g s c es L hc hg0 hs hE hg hL
  cases he:els h.length (tb s) with
  | nil =>
   have:=zer s hs he
   subst this
   unfold gr
   rw [he]
   dsimp only
   rw [List.append_nil]
   exact fin g c es L hg (by omega)
  | cons f l =>
   obtain ⟨f1,f2,f3⟩:=els_first he
   have hcd:=card_del f1 f2
   have hs10:=Nat.lt_of_lt_of_le hs (p2le hN)
   obtain ⟨d1,d2⟩:=dfs_ok (N:=h.length) (H:=fn h) (W:=fn w) (Q:=Qs h.length (fn h) (fn w) (tb s)) (f:=f) (card h.length (tb s) + 1) (del (tb s) f) f (by omega)
   unfold gr
   rw [he]
   dsimp only
   cases hd:dfs h.length (fn h) (fn w) (Qs h.length (fn h) (fn w) (tb s)) f (card h.length (tb s) + 1) (del (tb s) f) f with
   | none =>
    obtain ⟨e,he⟩:=ring_best (H:=fn h) (W:=fn w) (card h.length (tb s)) (tb s) f (Nat.le_refl _) hE f1 f2
    exact absurd he (d2 hd e)
   | some e =>
    obtain ⟨g1,g2⟩:=d1 e hd
    obtain ⟨g3,g4⟩:=(Rn_iff e _ _).1 g1
    obtain ⟨g5,g6⟩:=g4
    simp only [Option.getD_some]
    rw [←rem_cons] at g5 g6
    have hsub:Sub h.length (rem (tb s) (f :: e)) (del (tb s) f):=by intro j hj h;simp [rem,del] at h ⊢;exact ⟨h.1,h.2.1⟩
    have hcl:card h.length (rem (tb s) (f :: e))≤kk:=by
     have:card h.length (del (tb s) f) = card h.length (rem (tb s) (f :: e)) + _:=hsub.card
     omega
    have hr:∀ i ∈ f :: e,i < h.length:=by
     intro i hi
     rcases List.mem_cons.1 hi with rfl | hi
     ·exact f1
     ·exact (Rn_mem e _ _ g3 i hi).1
    have hrl:(f :: e).length≤11:=by
     have:=Rn_len e _ _ g3
     have:=card_le h.length (del (tb s) f)
     rw [List.length_cons];omega
    obtain ⟨g,rfl⟩:∃ g',g = g' + 1:=⟨g - 1,by omega⟩
    show b48_1 _ _ _ _ _ _ _ _ _ _ _ _ = _
    unfold b48_1
    have hs0:s ≠ 0:=by
     rintro rfl
     simp [tb] at f2
    have q0:nt (ieq (Int.ofNat s) 0) = true:=by
     rw [ieq_eq,nt_eq];simp;omega
    rw [clL,bb_true,gd_closed hg.1,bb_true,q0,bb_true]
    have p:=p67 (n + 25) s hs10
    rw [els_m hN hs,he] at p
    rw [p]
    have hMo:=mo_all fl fl' k h w hN hw hk hkw 10 (n + 13)
    rw [show n + 13 + 10 + 3 = n + 26 by omega] at hMo
    obtain ⟨es1,c1,e1,q1⟩:=hMo s es c (Nat.le_trans (card_le _ _) hN) hs hg
    unfold led S mp ptr at e1
    have e1':puN (n + 26) 10660 [.pointer (some ⟨1,0,none⟩),.int .u16 (Int.ofNat s),.agg ⟨[.int .i64 k,Sl.v 1 (sl fl h),Sl.v 1 (sl fl' w),.map (some 2)]⟩,encO (.map es c)] = some (.tuple ⟨[I (TM h w s),.agg ⟨[.int .i64 k,Sl.v 1 (sl fl h),Sl.v 1 (sl fl' w),.map (some 2)]⟩,encO (.map es1 c1)]⟩):=e1
    have hM:=M_lt h.length (fn h) (fn w) (tb s)
    have hsub:wrapF .i64 (Int.sub (TM h w s) 1) = Int.ofNat (M h.length (fn h) (fn w) (tb s) - 1):=by
     unfold TM
     have e:Int.sub (Int.ofNat (M h.length (fn h) (fn w) (tb s))) 1 = Int.ofNat (M h.length (fn h) (fn w) (tb s) - 1):=by show (M h.length (fn h) (fn w) (tb s):Int) - 1 = ((M h.length (fn h) (fn w) (tb s) - 1:Nat):Int);omega
     rw [e]
     exact wrapI _ (by show _≤((M h.length (fn h) (fn w) (tb s) - 1:Nat):Int);omega) (by show ((M h.length (fn h) (fn w) (tb s) - 1:Nat):Int)≤_;omega)
    simp only [oo_some,toI_mk,toN_mk,List.headD_cons]
    rw [e1']
    simp only [oo_some,vTup_mk,ll_cons',ll_nil',vAgg_mk,toI_mk,toSl_mk,vMapO_mk,gd_closed q1.1,bb_true]
    rw [show isMp (Value.map (some 2)) 2 = true from rfl,bb_true,hsub,clear_eq s f hs10 (by omega)]
    have hRi:=ri_all fl fl' k h w hN hw hk hkw (M h.length (fn h) (fn w) (tb s) - 1) 11 n
    obtain ⟨es2,c2,e2,q2⟩:=hRi (cl s f) [f] f f es1 c1 (Nat.lt_of_le_of_lt (card_le _ _) (by omega)) (cl_lt s f _ hs) q1 (by simp) f1 f1 rfl rfl
    have hdf:dfs h.length (fn h) (fn w) (Qr h w (M h.length (fn h) (fn w) (tb s) - 1)) f 11 (tb (cl s f)) f = some e:=by
     rw [←hd,dfs_congr (Qr_congr h w _) f 11 _ _ f (del_cl hN),dfs_fuel f 11 (card h.length (tb s) + 1) (del (tb s) f) f (Nat.lt_of_le_of_lt (card_le _ _) (by omega)) (by omega)]
     congr 1
     funext R
     unfold Qr Qs
     exact propext (and_congr Iff.rfl ⟨fun x=>by omega,fun x=>by omega⟩)
    rw [hdf] at e2
    unfold led S mp ptr rres at e2
    have e2':puN (n + 26) 10680 [.pointer (some ⟨1,0,none⟩),Sl.v 1 (Sl.mk 1 0 (takeL (1 * 1) (dropL 0 ([I (Int.ofNat f)]:List Value)))),.int .u16 (Int.ofNat (cl s f)),.int .i64 (Int.ofNat (M h.length (fn h) (fn w) (tb s) - 1)),.agg ⟨[.int .i64 k,Sl.v 1 (sl fl h),Sl.v 1 (sl fl' w),.map (some 2)]⟩,encO (.map es1 c1)] = some (.tuple ⟨[Sl.v 1 (sl 0 (nI (f :: e))),.agg ⟨[.int .i64 k,Sl.v 1 (sl fl h),Sl.v 1 (sl fl' w),.map (some 2)]⟩,encO (.map es2 c2)]⟩):=e2
    rw [e2']
    simp only [oo_some,vTup_mk,ll_cons',ll_nil',vAgg_mk,toI_mk,toSl_mk,vMapO_mk,gd_closed q2.1,bb_true]
    rw [show isMp (Value.map (some 2)) 2 = true from rfl,bb_true]
    have gw:=growG 1 24 L.length 1 (L.map rv) (roomyB (by omega) (by omega)) (by omega) (by simp)
    have sn:=snocL L (f :: e)
    unfold S at sn
    rw [gw,bb_true,sn,clL,bb_true,sl_n,nI_len]
    have cap:2 * (L.length + 1) + bb false 1 0 = 2 * (L.length + 1):=rfl
    rw [cap]
    have hlen:(L ++ [f :: e]).length = L.length + 1:=by simp
    have q3:=l48_rem fl fl' k h w (puN (n + 26)) 1000000 (l48_1 (puN (n + 26)) 1000000 g) (L.length + 1) (2 * (L.length + 1)) c2 (L ++ [f :: e]) es2 q2 (f :: e) (fun i hi=>by have:=hr i hi;omega) (by omega) 1000000 0 s (by omega) (by omega) hs10
    rw [List.drop_zero] at q3
    have hrm:=clA_rem (m:=h.length) hN (f :: e) s
    have q4:=ih g (clA s (f :: e)) c2 es2 (L ++ [f :: e]) (by rw [card_congr hrm];exact hcl) (by omega) (clA_lt _ _ _ hs) ((Ev_congr hrm).2 g5) q2 (by rw [hlen];omega)
    rw [hlen] at q4
    refine Eq.trans q3 (q4.trans ?_)
    rw [gr_congr kk _ _ hrm,List.append_assoc]
    rfl
theorem p48 (n:Nat) (hE:Ev h.length (fn h) (fn w) (tb (bv h w))):puN (n + 27) 48 [tr fl fl' k h w] = some (Sl.v 1 (LL 0 (GR h w))):=by
 refine Eq.trans (b:=m48_ (puN (n + 26)) 1000000 k (sl fl h) (sl fl' w)) (by kernel_rfl) ?_
 unfold m48_
 have e2:=p51 (n + 25) fl fl' k h w hN hw
 have e4:=p10650 (n + 25) fl fl' k h w
 unfold tr S at e2 e4
 unfold led S mp ptr at e4
 rw [e4]
 simp only [oo_some,vTup_mk,ll_cons',ll_nil',vAgg_mk,toI_mk,toSl_mk,vMapO_mk,gd_closed (gm0 h w).1,bb_true]
 rw [show isPt (Value.pointer (some ⟨1,0,none⟩)) 1 0 = true from rfl,show isMp (Value.map (some 2)) 2 = true from rfl]
 simp only [bb_true]
 rw [e2]
 simp only [oo_some,toI_mk16]
 exact l48 fl fl' k h w hN hw hk hkw n h.length 1000000 (bv h w) 1 _ [] (card_le _ _) (by omega) (bv_lt h w) hE (gm0 h w) (by simp;omega)
end
end Go.MdFM
set_option maxRecDepth 100000
namespace Go.MdFM
open Go.Sp Go.MdF Go.MdM

def pz (C:List (Int×Int)):List Value:=C.flatMap fun p=>[I p.1,I p.2]
theorem pz_len (C:List (Int×Int)):(pz C).length = C.length * 2:=by
 induction C with
 | nil=>rfl
 | cons p C ih=>simp only [pz,List.flatMap_cons,List.length_append,List.length_cons,List.length_nil] at ih ⊢;omega
theorem pz_get : ∀ (C : List (Int × Int)) (i : Nat) (h : i < C.length), (pz C)[i * 2]? = some (I C[i].1) ∧ (pz C)[i * 2 + 1]? = some (I C[i].2)
 | [],i,h=>by simp at h
 | p :: C,0,_=>⟨rfl,rfl⟩
 | p :: C, i + 1, h => by
  have ih:=pz_get C i (by simpa using h)
  have e:pz (p :: C) = I p.1 :: I p.2 :: pz C:=rfl
  have e2:(i + 1) * 2 = i * 2 + 1 + 1:=by omega
  rw [e,e2]
  simp only [List.getElem?_cons_succ,List.getElem_cons_succ]
  exact ih
def zz (P:List (Nat×Nat)):List (Int×Int):=P.map fun p=>(Int.ofNat p.1,Int.ofNat p.2)
theorem pz_zz (P:List (Nat×Nat)):pz (zz P) = pq P:=by
 unfold pz zz pq
 rw [List.flatMap_map]
noncomputable def fin (h w:List Int):Int:=ifp (bv h w = 0) 0 14
noncomputable def mds (w : List Int) : List Int → List (Int × Int) → Int
 | h,[]=>fin h w
 | h,p :: C=>ifp (exg p.1 p.2 h.length = 0) (mds w (swp h p.1.toNat p.2.toNat) C) (exg p.1 p.2 h.length)
theorem exg_in {a b:Int} {N:Nat} (h:exg a b N = 0):0≤a∧a < N∧0≤b∧b < N∧a < b:=by
 unfold exg at h
 by_cases c:0≤a∧a < N∧0≤b∧b < N
 ·rw [ifp_t c] at h
  by_cases d:a < b
  ·exact ⟨c.1,c.2.1,c.2.2.1,c.2.2.2,d⟩
  ·rw [ifp_f d] at h;cases h
 ·rw [ifp_f c] at h;cases h
theorem bv_card {h w:List Int}:card h.length (tb (bv h w)) = 0↔bv h w = 0:=by
 constructor
 ·intro e
  apply Nat.eq_of_testBit_eq
  intro i
  rw [Nat.zero_testBit]
  by_cases hi:i < h.length
  ·exact card_zero e i hi
  ·exact bit_out (bv_lt h w) (by omega)
 ·intro e
  rw [e]
  unfold card
  rw [List.countP_eq_zero]
  intro i _
  show ¬ (Nat.testBit 0 i = true)
  rw [Nat.zero_testBit];simp
section
variable (k:Int) (w:List Int)
theorem end34 (n f1 f2:Nat) (h:List Int) (hN:h.length≤10) (hw:w.length = h.length):m34_0 (puN (n + 1)) 1000000 k (sl f1 h) (sl f2 w) = some (I (fin h w)):=by
 unfold m34_0
 have e:=p51 n f1 f2 k h w hN hw
 unfold tr S at e
 rw [e,oo_some,toI_mk16,oo_some]
 unfold fin
 by_cases c:bv h w = 0
 ·rw [ifp_t c,c];rfl
 ·rw [ifp_f c,ne_t (by intro e;exact c (Int.ofNat.inj e))];rfl
theorem end35e (n:Nat) (e:Int) (he:e ≠ 0) (s t:Sl):m35_0 (puN n) 1000000 e k s t = some (I e):=by
 unfold m35_0
 have:ieq e 0 = false:=by rw [ieq_eq];simp [he]
 rw [this];rfl
theorem end35 (n f1 f2:Nat) (h:List Int) (hN:h.length≤10) (hw:w.length = h.length):m35_0 (puN (n + 1)) 1000000 0 k (sl f1 h) (sl f2 w) = some (I (fin h w)):=by
 unfold m35_0
 have e:=p56 n f1 f2 k h w hN hw
 rw [wr_PL hN] at e
 unfold tr S at e
 rw [show ieq (0:Int) 0 = true from rfl,bb_true,e,oo_some,toSl_mk,oo_some,sl_n,nI_len,show (PL h (bv h w)).length = card h.length (tb (bv h w)) from els_len _]
 unfold fin
 by_cases c:bv h w = 0
 ·rw [ifp_t c,bv_card.2 c];rfl
 ·have : 0 < card h.length (tb (bv h w)) := Nat.pos_of_ne_zero fun g => c (bv_card.1 g)
  rw [ifp_f c,show ilt 0 (Int.ofNat (card h.length (tb (bv h w)))) = true from lt_true this];rfl
theorem l34 (n fC : Nat) (C : List (Int × Int)) (hC : C.length ≤ 1000) : ∀ (g i f1 f2 : Nat) (h : List Int), C.length - i < g → i ≤ C.length → h.length ≤ 10 → w.length = h.length →
 l34_1 (puN (n + 2)) 1000000 g (Sl.mk C.length fC (pz C)) (Int.ofNat C.length) (Int.ofNat i) k (sl f1 h) (sl f2 w) = some (I (mds w h (C.drop i))):=by
 intro g
 induction g with
 | zero=>intro i f1 f2 h hi;omega
 | succ g ih =>
  intro i f1 f2 h hi hil hN hw
  show b34_1 (puN (n + 2)) 1000000 (l34_1 (puN (n + 2)) 1000000 g) _ _ _ _ _ _ = _
  unfold b34_1
  by_cases hlt:i < C.length
  ·obtain ⟨g1, g2⟩ := pz_get C i hlt
   have hb:decide (i * 2 + 2≤(pz C).length) = true:=by rw [pz_len];simp;omega
   have q1:=p57 (n + 1) f1 f2 k C[i].1 C[i].2 h w
   unfold tr S at q1
   rw [lt_true hlt,List.drop_eq_getElem_cons hlt]
   simp only [bb_true,toN_mk,oo_some,blt_eq,hlt,decide_true,an_eq,Bool.true_and,ble_eq,len_eq,hb,nthL_eq,g1,g2,toI_mk]
   rw [q1,oo_some,toI_mk,oo_some]
   unfold mds
   by_cases he:exg C[i].1 C[i].2 h.length = 0
   ·obtain ⟨a1, a2, a3, a4, a5⟩ := exg_in he
    have ea:C[i].1 = Int.ofNat C[i].1.toNat:=by simp only [Int.ofNat_eq_natCast];omega
    have eb:C[i].2 = Int.ofNat C[i].2.toNat:=by simp only [Int.ofNat_eq_natCast];omega
    have q2:=p43 (n + 1) f1 f2 C[i].1.toNat C[i].2.toNat k h w (by omega) (by omega) (by omega) (by omega)
    rw [←ea,←eb] at q2
    unfold tr S at q2
    rw [ifp_t he,he,ne_f,bb_false,q2]
    simp only [oo_some,vAgg_mk,ll_cons',ll_nil',toI_mk,toSl_mk,wrapS i (by omega)]
    exact ih (i + 1) 0 0 _ (by omega) (by omega) (by rw [swp_len];exact hN) (by rw [swp_len];exact hw)
   ·rw [ifp_f he,ne_t he,bb_true]
  ·have : i = C.length := by omega
   subst this
   rw [lt_false hlt,bb_false,List.drop_length]
   exact end34 k w (n + 1) f1 f2 h hN hw
theorem l35e (n fC g:Nat) (C:List (Int×Int)) (e:Int) (he:e ≠ 0) (i:Int) (s t:Sl):l35_3 (puN n) 1000000 (g + 1) (Sl.mk C.length fC (pz C)) e i k s t = some (I e):=by
 show b35_3 (puN n) 1000000 (l35_3 (puN n) 1000000 g) _ _ _ _ _ _ = _
 unfold b35_3
 have:ieq e 0 = false:=by rw [ieq_eq];simp [he]
 rw [this]
 have q:m35_4 (puN n) 1000000 (l35_3 (puN n) 1000000 g) (Sl.mk C.length fC (pz C)) e i false k s t = some (I e):=by
  unfold m35_4
  rw [bb_false];exact end35e k n e he s t
 rw [q]
 cases ilt i (Int.ofNat (Sl.mk C.length fC (pz C)).n) <;> rfl
theorem l35 (n fC : Nat) (C : List (Int × Int)) (hC : C.length ≤ 1000) : ∀ (g i f1 f2 : Nat) (h : List Int), C.length - i < g → i ≤ C.length → h.length ≤ 10 → w.length = h.length →
 l35_3 (puN (n + 2)) 1000000 (g + 1) (Sl.mk C.length fC (pz C)) 0 (Int.ofNat i) k (sl f1 h) (sl f2 w) = some (I (mds w h (C.drop i))):=by
 intro g
 induction g with
 | zero=>intro i f1 f2 h hi;omega
 | succ g ih =>
  intro i f1 f2 h hi hil hN hw
  show b35_3 (puN (n + 2)) 1000000 (l35_3 (puN (n + 2)) 1000000 (g + 1)) _ _ _ _ _ _ = _
  unfold b35_3
  rw [show (Sl.mk C.length fC (pz C)).n = C.length from rfl]
  by_cases hlt:i < C.length
  ·obtain ⟨g1, g2⟩ := pz_get C i hlt
   have q1:=p59 n f1 f2 k C[i].1 C[i].2 h w (by omega)
   unfold tr S at q1
   rw [lt_true hlt,bb_true,List.drop_eq_getElem_cons hlt,show ieq (0:Int) 0 = true from rfl]
   unfold m35_4 m35_5
   simp only [bb_true,toN_mk,oo_some,blt_eq,hlt,decide_true,an_eq,Bool.true_and,nthL_eq,Nat.add_zero,g1,g2,toI_mk]
   rw [q1,oo_some,toI_mk,oo_some]
   unfold mds
   by_cases he:exg C[i].1 C[i].2 h.length = 0
   ·obtain ⟨a1, a2, a3, a4, a5⟩ := exg_in he
    have ea:C[i].1 = Int.ofNat C[i].1.toNat:=by simp only [Int.ofNat_eq_natCast];omega
    have eb:C[i].2 = Int.ofNat C[i].2.toNat:=by simp only [Int.ofNat_eq_natCast];omega
    have q2:=p46 (n + 1) f1 f2 C[i].1.toNat C[i].2.toNat k h w (by omega) hw (by omega) (by omega)
    rw [←ea,←eb] at q2
    unfold tr S at q2
    rw [ifp_t he,he,show ieq (0:Int) 0 = true from rfl,bb_true,q2]
    simp only [oo_some,vAgg_mk,ll_cons',ll_nil',toI_mk,toSl_mk,wrapS i (by omega)]
    exact ih (i + 1) 0 0 _ (by omega) (by omega) (by rw [swp_len];exact hN) (by rw [swp_len];exact hw)
   ·have z : ieq (exg C[i].1 C[i].2 h.length) 0 = false := by rw [ieq_eq]; simp [he]
    rw [ifp_f he,z,bb_false,wrapS i (by omega)]
    exact l35e k (n + 2) fC g C _ he _ _ _
  ·have : i = C.length := by omega
   subst this
   rw [lt_false hlt,bb_false,List.drop_length]
   unfold m35_4
   rw [bb_false]
   exact end35 k w (n + 1) f1 f2 h hN hw
end
noncomputable def men (k:Int) (h w:List Int) (C:List (Int×Int)):Int:=ifp (chk k h w = 0) (mds w h C) (chk k h w)
theorem p34 (n f1 f2 fC:Nat) (k:Int) (h w:List Int) (C:List (Int×Int)) (hC:C.length≤1000):puN (n + 3) 34 [tr f1 f2 k h w,Sl.v 2 (Sl.mk C.length fC (pz C))] = some (I (men k h w C)):=by
 refine Eq.trans (b:=m34_ (puN (n + 2)) 1000000 k (sl f1 h) (sl f2 w) (Sl.mk C.length fC (pz C))) (by kernel_rfl) ?_
 unfold m34_
 have e1:=p47 n f1 f2 k h w
 unfold tr S at e1
 rw [e1,oo_some,toI_mk,oo_some]
 unfold men
 by_cases hc:chk k h w = 0
 ·have ho := ok_of hc
  rw [ifp_t hc,hc,ne_f,bb_false]
  exact l34 k w n fC C hC 1000000 0 f1 f2 h (by omega) (by omega) ho.n10 ho.len
 ·rw [ifp_f hc,ne_t hc,bb_true]
theorem p35 (n f1 f2 fC:Nat) (k:Int) (h w:List Int) (C:List (Int×Int)) (hC:C.length≤1000):puN (n + 3) 35 [tr f1 f2 k h w,Sl.v 2 (Sl.mk C.length fC (pz C))] = some (I (men k h w C)):=by
 refine Eq.trans (b:=m35_ (puN (n + 2)) 1000000 k (sl f1 h) (sl f2 w) (Sl.mk C.length fC (pz C))) (by kernel_rfl) ?_
 unfold m35_
 have e1:=p49 n f1 f2 k h w
 unfold tr S at e1
 rw [e1,oo_some,toI_mk,oo_some]
 unfold men
 by_cases hc:chk k h w = 0
 ·have ho := ok_of hc
  rw [ifp_t hc,hc]
  exact l35 k w n fC C hC 999999 0 f1 f2 h (by omega) (by omega) ho.n10 ho.len
 ·rw [ifp_f hc]
  exact l35e k (n + 2) fC 999999 C _ hc _ _ _
end Go.MdFM
set_option maxRecDepth 100000
namespace Go.MdFM
open Go.Sp Go.MdF Go.MdM

def exR : List Nat → List (Nat × Nat)
 | a :: b :: t=>(min a b,max a b) :: exR (b :: t)
 | _=>[]
def exL (L:List (List Nat)):List (Nat×Nat):=L.flatMap exR
theorem exR_len : ∀ (t : List Nat) (x : Nat), (exR (x :: t)).length = t.length
 | [],_=>rfl
 | y :: t, x => by
  have:=exR_len t y
  unfold exR
  rw [List.length_cons,this,List.length_cons]
theorem Rn_card {N : Nat} {H W : Nat → Int} {Q : PS → Prop} {f : Nat} : ∀ (e : List Nat) (R : PS) (last : Nat), Rn N H W Q f R last e → card N R = card N (rem R e) + e.length
 | [],R,_,_=>by rw [rem_nil];rfl
 | i :: e, R, _, h => by
  obtain ⟨h1,h2,_,h4⟩:=h
  have:=Rn_card e _ _ h4
  rw [rem_cons,card_del h1 h2,this,List.length_cons]
  omega
theorem Dv_exL {N : Nat} {H W : Nat → Int} : ∀ (L : List (List Nat)) (S : PS), Dv N H W S L → (exL L).length + L.length = card N S
 | [], S, h => by
  have h:∀ i,i < N→S i = false:=h
  have:card N S = 0:=by
   unfold card
   rw [List.countP_eq_zero]
   intro i hi
   rw [h i (by simpa using hi)];simp
  rw [this];rfl
 | r :: L, S, h => by
  obtain ⟨f,e,rfl,⟨h1,h2,_⟩,h3,h4⟩:=h
  have ih:=Dv_exL L _ h4
  have c1:=card_del h1 h2
  have c2:=Rn_card e _ _ h3
  rw [rem_cons] at ih
  have:exL ((f :: e) :: L) = exR (f :: e) ++ exL L:=by unfold exL;rw [List.flatMap_cons]
  rw [this,List.length_append,exR_len,List.length_cons]
  omega
theorem fn_set (l:List Int) (a i:Nat) (x:Int) (ha:a < l.length):fn (l.set a x) i = if i = a then x else fn l i:=by
 unfold fn
 rw [List.getD_eq_getElem?_getD,List.getD_eq_getElem?_getD,List.getElem?_set]
 by_cases h:a = i
 ·subst h;simp [ha]
 ·have : ¬ i = a := fun e => h e.symm
  simp [h,this]
theorem fn_swp {h:List Int} {A B:Nat} (hA:A < h.length) (hB:B < h.length) (i:Nat):fn (swp h A B) i = if i = B then fn h A else if i = A then fn h B else fn h i:=by
 unfold swp
 rw [fn_set _ _ _ _ (by rw [List.length_set];exact hB),fn_set _ _ _ _ hA]
 rfl
def chn (h w : List Int) (c : Int) : Nat → List Nat → Prop
 | x,[]=>fn w x = c
 | x,y :: t=>fn h y = fn w x∧chn h w c y t
theorem chn_congr {h h' w : List Int} {c : Int} : ∀ (t : List Nat) (x : Nat), (∀ y ∈ t, fn h' y = fn h y) → chn h w c x t → chn h' w c x t
 | [],_,_,h=>h
 | y :: t,x,g,h=>⟨by rw [g y (by simp)];exact h.1,chn_congr t y (fun z hz=>g z (by simp [hz])) h.2⟩
theorem Rn_chn {N : Nat} {h w : List Int} {Q : PS → Prop} {f : Nat} : ∀ (e : List Nat) (R : PS) (last : Nat), Rn N (fn h) (fn w) Q f R last e → chn h w (fn h f) last e
 | [],_,_,g=>g.1
 | i :: e,_,_,g=>⟨g.2.2.1,Rn_chn e _ _ g.2.2.2⟩
theorem zz_app (P Q:List (Nat×Nat)):zz (P ++ Q) = zz P ++ zz Q:=by simp [zz]
theorem mds_one (w h : List Int) (x y : Nat) (C : List (Int × Int)) (hx : x < h.length) (hy : y < h.length) (hne : x ≠ y) :
 ∃ h',h'.length = h.length∧(∀ i,fn h' i = if i = y then fn h x else if i = x then fn h y else fn h i)∧mds w h ((Int.ofNat (min x y),Int.ofNat (max x y)) :: C) = mds w h' C:=by
 have he:exg (Int.ofNat (min x y)) (Int.ofNat (max x y)) h.length = 0:=by
  unfold exg
  simp only [Int.ofNat_eq_natCast]
  rw [ifp_t (by omega),ifp_t (by omega)]
 refine ⟨swp h (min x y) (max x y),swp_len _ _ _,fun i=>?_,?_⟩
 ·by_cases hl : x < y
  ·rw [Nat.min_eq_left (by omega),Nat.max_eq_right (by omega),fn_swp hx hy]
  ·rw [Nat.min_eq_right (by omega), Nat.max_eq_left (by omega), fn_swp hy hx]
   by_cases h1:i = x
   ·by_cases h2 : i = y
    ·omega
    ·rw [if_pos h1,if_neg h2,if_pos h1]
   ·by_cases h2 : i = y
    ·rw [if_neg h1,if_pos h2,if_pos h2]
    ·rw [if_neg h1,if_neg h2,if_neg h2,if_neg h1]
 ·show ifp (exg _ _ _ = 0) _ _ = _
  rw [ifp_t he];rfl
theorem mds_ring (w : List Int) (C : List (Int × Int)) : ∀ (t : List Nat) (x : Nat) (h : List Int), (∀ y ∈ x :: t, y < h.length) → (x :: t).Nodup → chn h w (fn h x) x t →
 ∃ h',h'.length = h.length∧(∀ i,fn h' i = if i ∈ x :: t then fn w i else fn h i)∧mds w h (zz (exR (x :: t)) ++ C) = mds w h' C
 | [], x, h, _, _, hc => by
  refine ⟨h,rfl,fun i=>?_,rfl⟩
  have hc:fn w x = fn h x:=hc
  by_cases hi:i = x
  ·subst hi;rw [if_pos (by simp),hc]
  ·rw [if_neg (by simpa using hi)]
 | y :: t, x, h, hin, hnd, hc => by
  obtain ⟨c1,c2⟩:=hc
  have hnx:x ∉ y :: t:=(List.nodup_cons.1 hnd).1
  have hnd':=(List.nodup_cons.1 hnd).2
  have hny:y ∉ t:=(List.nodup_cons.1 hnd').1
  have hxy:x ≠ y:=fun e=>hnx (by simp [e])
  obtain ⟨h1,l1,f1,m1⟩:=mds_one w h x y (zz (exR (y :: t)) ++ C) (hin x (by simp)) (hin y (by simp)) hxy
  have e1:fn h1 y = fn h x:=by rw [f1,if_pos rfl]
  have hc':chn h1 w (fn h1 y) y t:=by
   rw [e1]
   refine chn_congr t y (fun z hz=>?_) c2
   have z1:¬ z = y:=fun e=>hny (e ▸ hz)
   have z2:¬ z = x:=fun e=>hnx (by rw [←e];simp [hz])
   rw [f1,if_neg z1,if_neg z2]
  obtain ⟨h2,l2,f2,m2⟩:=mds_ring w C t y h1 (fun z hz=>by rw [l1];exact hin z (by simp only [List.mem_cons] at hz ⊢;exact Or.inr hz)) hnd' hc'
  refine ⟨h2,by omega,fun i=>?_,?_⟩
  ·rw [f2]
   by_cases hi:i ∈ y :: t
   ·rw [if_pos hi,if_pos (List.mem_cons_of_mem _ hi)]
   ·have i1 : ¬ i = y := fun e => hi (by simp [e])
    rw [if_neg hi,f1,if_neg i1]
    by_cases hx:i = x
    ·rw [if_pos hx,if_pos (by simp [hx]),hx,c1]
    ·rw [if_neg hx,if_neg (by simp only [List.mem_cons,not_or] at hi ⊢;exact ⟨hx,hi⟩)]
  ·rw [←m2,←m1];rfl
theorem bv_right (h w:List Int) (hw:w.length = h.length) (hr:∀ i,i < h.length→fn h i = fn w i):bv h w = 0:=by
 apply Nat.eq_of_testBit_eq
 intro i
 rw [Nat.zero_testBit]
 by_cases hi:i < h.length
 ·have := hr i hi
  rw [fn_get hi,fn_get (by omega)] at this
  rw [bv_bit h w i hi (by omega),this];simp
 ·exact bit_out (bv_lt h w) (by omega)
theorem mds_div (h0 w : List Int) (hw : w.length = h0.length) : ∀ (L : List (List Nat)) (S : PS) (h : List Int), Dv h0.length (fn h0) (fn w) S L → h.length = h0.length →
 (∀ i,i < h0.length→S i = true→fn h i = fn h0 i)→(∀ i,i < h0.length→S i = false→fn h i = fn w i)→mds w h (zz (exL L)) = 0
 | [], S, h, hd, hl, _, h2 => by
  have hd:∀ i,i < h0.length→S i = false:=hd
  show fin h w = 0
  unfold fin
  rw [ifp_t (bv_right h w (by omega) (fun i hi=>h2 i (by omega) (hd i (by omega))))]
 | r :: L, S, h, hd, hl, h1, h2 => by
  obtain ⟨f,e,rfl,⟨d1,d2,_⟩,d3,d4⟩:=hd
  have hm:=Rn_mem e _ _ d3
  have hnd:=Rn_nodup e _ _ d3
  have hS:∀ i ∈ e,S i = true∧i ≠ f:=fun i hi=>by
   have:=(hm i hi).2
   simpa [del] using this
  have hnf:(f :: e).Nodup:=List.nodup_cons.2 ⟨fun g=>(hS f g).2 rfl,hnd⟩
  have hc:chn h w (fn h f) f e:=by
   rw [h1 f d1 d2]
   exact chn_congr e f (fun y hy=>h1 y (hm y hy).1 (hS y hy).1) (Rn_chn e _ _ d3)
  obtain ⟨h',l',f',m'⟩:=mds_ring w (zz (exL L)) e f h (fun y hy=>by
   rcases List.mem_cons.1 hy with rfl | hy
   ·omega
   ·have:=(hm y hy).1;omega) hnf hc
  have:exL ((f :: e) :: L) = exR (f :: e) ++ exL L:=by unfold exL;rw [List.flatMap_cons]
  rw [this,zz_app,m']
  refine mds_div h0 w hw L _ h' d4 (by omega) (fun i hi hs=>?_) (fun i hi hs=>?_)
  ·have := (rem_mem.1 hs)
   rw [f',if_neg this.2,h1 i hi this.1]
  ·rw [f']
   by_cases hi2:i ∈ f :: e
   ·rw [if_pos hi2]
   ·rw [if_neg hi2]
    refine h2 i hi ?_
    cases hsi:S i with
    | false=>rfl
    | true=>rw [rem_mem.2 ⟨hsi,hi2⟩] at hs;cases hs
theorem men_ex {k:Int} {h w:List Int} (ho:Ok k h w) (hc:chk k h w = 0):men k h w (zz (exL (GR h w))) = 0:=by
 unfold men
 rw [ifp_t hc]
 refine mds_div h w ho.len (GR h w) _ h ho.dv rfl (fun _ _ _=>rfl) (fun i hi hs=>?_)
 have hw:=ho.len
 have hs:(bv h w).testBit i = false:=hs
 rw [bv_bit h w i hi (by omega)] at hs
 rw [fn_get hi,fn_get (by omega)]
 simpa using hs
theorem ex_few {k:Int} {h w:List Int} (ho:Ok k h w):Int.ofNat (exL (GR h w)).length = FW h w:=by
 have h1:=Dv_exL _ _ ho.dv
 have h2:=ho.ln
 unfold FW TM
 simp only [Int.ofNat_eq_natCast]
 omega
end Go.MdFM
set_option maxRecDepth 100000
namespace Go.MdFM
open Go.Sp Go.MdF Go.MdM

theorem end33 (pu:PureF) (n:Nat) (P:List (Nat×Nat)):m33_0 pu n P.length (2 * P.length) (pq P) = some (.tuple ⟨[Sl.v 2 (ps P),I 0]⟩):=by
 unfold m33_0;rw [clPq,bb_true,wholeP,bb_true,takeP];rfl
theorem l33_in (pu : PureF) (n : Nat) (ih0 : Nat → Nat → Sl → Int → Int → List Value → Option Value) (r : List Nat) (fr : Nat) (A : Sl) (z : Int) (i : Nat) (hr : r.length ≤ 100) (h1 : 1 ≤ r.length) (hi : i ≤ 100) : ∀ (f j : Nat) (P : List (Nat × Nat)), r.length - j < f → 1 ≤ j → j ≤ r.length → P.length + r.length ≤ 800 + j →
 l33_3 pu n ih0 f P.length (2 * P.length) (sl fr (nI r)) (Int.ofNat j) A z (Int.ofNat i) (pq P) =
  ih0 (P ++ exR (r.drop (j - 1))).length (2 * (P ++ exR (r.drop (j - 1))).length) A z (Int.ofNat (i + 1)) (pq (P ++ exR (r.drop (j - 1)))):=by
 intro f
 induction f with
 | zero=>intro j P h;omega
 | succ f ih =>
  intro j P hf hj hjl hP
  show b33_3 pu n ih0 (l33_3 pu n ih0 f) _ _ _ _ _ _ _ _ = _
  unfold b33_3
  rw [clPq,bb_true,sl_n,nI_len]
  by_cases hlt:j < r.length
  ·obtain ⟨m, rfl⟩ : ∃ m, j = m + 1 := ⟨j - 1, by omega⟩
   have hm:m < r.length:=by omega
   have hsub:wrapF .i64 (Int.sub (Int.ofNat (m + 1)) 1) = Int.ofNat m:=by
    have e:Int.sub (Int.ofNat (m + 1)) 1 = Int.ofNat m:=by show ((m + 1:Nat):Int) - 1 = ((m:Nat):Int);omega
    rw [e]
    exact wrapI _ (by show _≤((m:Nat):Int);omega) (by show ((m:Nat):Int)≤_;omega)
   have g1:=growG 2 16 P.length 1 (pq P) (roomyB (by omega) (by omega)) (by omega) (pq_len P)
   have e1:bb (ilt (Int.ofNat r[m + 1]) (Int.ofNat r[m])) (Int.ofNat r[m + 1]) (Int.ofNat r[m]) = Int.ofNat (min r[m] r[m + 1]):=by
    rw [bbmin];simp only [Int.ofNat_eq_natCast];omega
   have e2:bb (ilt (Int.ofNat r[m]) (Int.ofNat r[m + 1])) (Int.ofNat r[m + 1]) (Int.ofNat r[m]) = Int.ofNat (max r[m] r[m + 1]):=by
    rw [bbmax];simp only [Int.ofNat_eq_natCast];omega
   rw [lt_true hlt]
   simp only [bb_true,toN_mk,oo_some,hsub,sl_cs,blt_eq,hm,hlt,decide_true,an_eq,Bool.true_and,nthL_eq,Nat.mul_one,getN r m hm,getN r (m + 1) hlt,toI_mk,e1,e2,g1,snocPq,clPq,wrapS (m + 1) (by omega)]
   have:=ih (m + 1 + 1) (P ++ [(min r[m] r[m + 1],max r[m] r[m + 1])]) (by omega) (by omega) (by omega) (by simp;omega)
   rw [List.length_append,List.length_singleton] at this
   have ed:r.drop (m + 1 - 1) = r[m] :: r[m + 1] :: r.drop (m + 1 + 1):=by
    rw [Nat.add_sub_cancel,List.drop_eq_getElem_cons hm,List.drop_eq_getElem_cons hlt]
   have ed2:r.drop (m + 1 + 1 - 1) = r[m + 1] :: r.drop (m + 1 + 1):=by
    rw [Nat.add_sub_cancel,List.drop_eq_getElem_cons hlt]
   rw [ed2] at this
   rw [ed]
   unfold exR
   rw [show P ++ (min r[m] r[m + 1],max r[m] r[m + 1]) :: exR (r[m + 1] :: r.drop (m + 1 + 1)) = P ++ [(min r[m] r[m + 1],max r[m] r[m + 1])] ++ exR (r[m + 1] :: r.drop (m + 1 + 1)) by simp]
   exact this
  ·have hjr : j = r.length := by omega
   subst hjr
   rw [lt_false hlt,bb_false]
   unfold m33_2
   have ed:r.drop (r.length - 1) = [r[r.length - 1]]:=by
    rw [List.drop_eq_getElem_cons (by omega),show r.length - 1 + 1 = r.length by omega,List.drop_length]
   rw [clPq,bb_true,wrapS i (by omega),ed]
   unfold exR
   rw [List.append_nil]
theorem l33 (pu : PureF) (fo : Nat) (L : List (List Nat)) (hL : L.length ≤ 10) (hr : ∀ r ∈ L, 1 ≤ r.length ∧ r.length ≤ 11) : ∀ (f i : Nat) (P : List (Nat × Nat)), L.length - i < f → i ≤ L.length → P.length ≤ 11 * i →
 l33_1 pu 1000000 f P.length (2 * P.length) (LL fo L) (Int.ofNat L.length) (Int.ofNat i) (pq P) = some (.tuple ⟨[Sl.v 2 (ps (P ++ exL (L.drop i))),I 0]⟩):=by
 intro f
 induction f with
 | zero=>intro i P h;omega
 | succ f ih =>
  intro i P hf hi hP
  show b33_1 pu 1000000 (l33_1 pu 1000000 f) _ _ _ _ _ _ = _
  unfold b33_1
  rw [clPq,bb_true]
  by_cases hlt:i < L.length
  ·obtain ⟨r1, r2⟩ := hr _ (List.getElem_mem hlt)
   rw [lt_true hlt]
   simp only [bb_true,toN_mk,oo_some,LL,blt_eq,hlt,decide_true,an_eq,Bool.true_and,nthL_eq,Nat.mul_one,getLL L i hlt,toSl_mk]
   have q:=l33_in pu 1000000 (l33_1 pu 1000000 f) L[i] 0 (LL fo L) (Int.ofNat L.length) i (by omega) r1 (by omega) 1000000 1 P (by omega) (by omega) r1 (by omega)
   have hx:(exR (L[i].drop (1 - 1))).length≤11:=by
    rw [Nat.sub_self,List.drop_zero]
    cases hc:L[i] with
    | nil=>rw [hc] at r1;simp at r1
    | cons x t=>rw [exR_len];rw [hc] at r2;simp at r2;omega
   have p:=ih (i + 1) (P ++ exR (L[i].drop (1 - 1))) (by omega) (by omega) (by rw [List.length_append];omega)
   rw [p] at q
   refine Eq.trans q ?_
   rw [List.drop_eq_getElem_cons hlt,Nat.sub_self,List.drop_zero]
   unfold exL
   rw [List.flatMap_cons,List.append_assoc]
  ·have : i = L.length := by omega
   subst this
   rw [lt_false hlt,bb_false,end33,List.drop_length]
   unfold exL
   rw [List.flatMap_nil,List.append_nil]
theorem Dv_lens {N : Nat} {H W : Nat → Int} (hN : N ≤ 10) : ∀ (L : List (List Nat)) (S : PS), Dv N H W S L → ∀ r ∈ L, 1 ≤ r.length ∧ r.length ≤ 11
 | [],_,_,r,hr=>by cases hr
 | a :: L, S, h, r, hr => by
  obtain ⟨f,e,rfl,h1,h2,h3⟩:=h
  rcases List.mem_cons.1 hr with rfl | hr
  ·have := Rn_len e _ _ h2
   have:=card_le N (del S f)
   rw [List.length_cons];omega
  ·exact Dv_lens hN L _ h3 r hr
theorem p33 (n f1 f2:Nat) (k:Int) (h w:List Int) (ho:Ok k h w) (hc:chk k h w = 0):puN (n + 28) 33 [tr f1 f2 k h w] = some (.tuple ⟨[Sl.v 2 (ps (exL (GR h w))),I 0]⟩):=by
 refine Eq.trans (b:=m33_ (puN (n + 27)) 1000000 k (sl f1 h) (sl f2 w)) (by kernel_rfl) ?_
 have e1:=p47 (n + 25) f1 f2 k h w
 have hE:=wrong_ev ho.len (K:=k.toNat) (by have:=ho.k1;rw [show ((k.toNat:Nat):Int) = k by omega];exact ho.kk.1) (by have:=ho.k1;rw [show ((k.toNat:Nat):Int) = k by omega];exact ho.kk.2) ho.ev
 have q1:=p48 f1 f2 k h w ho.n10 ho.len ho.kh ho.kw n hE
 unfold tr S at e1 q1
 unfold m33_
 rw [e1,oo_some,toI_mk,oo_some,hc,ne_f,bb_false,q1,oo_some,toSl_mk,oo_some]
 have:=l33 (puN (n + 27)) 0 (GR h w) (by rw [ho.ln];exact Nat.le_trans (M_lt _ _ _ _) ho.n10) (Dv_lens ho.n10 _ _ ho.dv) 1000000 0 [] (by have:=ho.ln;have:=M_lt h.length (fn h) (fn w) (tb (bv h w));have:=ho.n10;omega) (by omega) (by simp)
 rw [List.drop_zero,List.nil_append] at this
 exact this
theorem p33e (n f1 f2:Nat) (k:Int) (h w:List Int) (hc:chk k h w ≠ 0):puN (n + 28) 33 [tr f1 f2 k h w] = some (.tuple ⟨[Sl.v 2 ⟨0,2,[]⟩,I (chk k h w)]⟩):=by
 refine Eq.trans (b:=m33_ (puN (n + 27)) 1000000 k (sl f1 h) (sl f2 w)) (by kernel_rfl) ?_
 have e1:=p47 (n + 25) f1 f2 k h w
 unfold tr S at e1
 unfold m33_
 rw [e1,oo_some,toI_mk,oo_some,ne_t hc,bb_true]
section
variable (pu:PureF) (n:Nat) (k:Int) (s t:Sl) (e12:pu 12 [] = some (Value.bool true))
include e12
theorem m9_big (u:Sl):m9_0 pu n u true k s t = some (Value.bool true):=by
 unfold m9_0
 simp only [e12,oo_some,vBool_mk,bb_true]
theorem m9_gen {c d m : Int} {u x : Sl} (e29 : pu 29 [.agg ⟨[.int .i64 k, s.v 1, t.v 1]⟩] = some (.tuple ⟨[.int .i64 m, .int .i64 c]⟩)) (e32 : pu 32 [.agg ⟨[.int .i64 k, s.v 1, t.v 1]⟩] = some (.tuple ⟨[.int .i64 m, .int .i64 c]⟩))
 (e33:pu 33 [.agg ⟨[.int .i64 k,s.v 1,t.v 1]⟩] = some (.tuple ⟨[x.v 2,.int .i64 c]⟩)) (hx:Int.ofNat x.n = m)
 (e34:pu 34 [.agg ⟨[.int .i64 k,s.v 1,t.v 1]⟩,u.v 2] = some (.int .i64 d)) (e35:pu 35 [.agg ⟨[.int .i64 k,s.v 1,t.v 1]⟩,u.v 2] = some (.int .i64 d))
 (ex:c = 0→pu 35 [.agg ⟨[.int .i64 k,s.v 1,t.v 1]⟩,x.v 2] = some (.int .i64 0)) (b:Bool):m9_0 pu n u b k s t = some (Value.bool true):=by
 have t2:∀ s:Sl,toSl 2 (s.v 2) = some s:=fun _=>rfl
 have nr:∀ a:Int,nt (ieq a a) = false:=fun a=>by rw [ieqr];rfl
 cases b with
 | true=>exact m9_big pu n k s t e12 u
 | false =>
  unfold m9_0
  rw [bb_false,e29]
  simp only [oo_some,vTup_mk,ll_cons',ll_nil',toI_mk]
  rw [e32]
  simp only [oo_some,vTup_mk,ll_cons',ll_nil',toI_mk]
  rw [e33]
  simp only [oo_some,vTup_mk,ll_cons',ll_nil',toI_mk,t2,hx,nr,bb_false]
  rw [e34,oo_some,toI_mk,oo_some,e35,oo_some,toI_mk,oo_some,nr]
  unfold m9_1 m9_2
  rw [bb_false]
  by_cases hc:c = 0
  ·rw [hc,ne_f,bb_false,ex hc,oo_some,toI_mk,oo_some,show ieq (0:Int) 0 = true from rfl,bb_true,e12];rfl
  ·rw [ne_t hc,bb_true,e12];rfl
end
theorem p9 (n f1 f2 fC:Nat) (k:Int) (h w:List Int) (C:List (Int×Int)):puN (n + 30) 9 [tr f1 f2 k h w,Sl.v 2 (Sl.mk C.length fC (pz C))] = some (Value.bool true):=by
 refine Eq.trans (b:=m9_ (puN (n + 29)) 1000000 k (sl f1 h) (sl f2 w) (Sl.mk C.length fC (pz C))) (by kernel_rfl) ?_
 unfold m9_
 have p:=p11 (n + 28) f1 f2 k h w
 unfold tr S at p
 rw [p,oo_some,vBool_mk,oo_some]
 have e:=e12 (n + 28)
 by_cases hb:(decide (40 < h.length) || decide (40 < w.length)) = true
 ·rw [hb, bb_true]
  exact m9_big (puN (n + 29)) 1000000 k (sl f1 h) (sl f2 w) e _
 ·have hb' : (decide (40 < h.length) || decide (40 < w.length)) = false := by simpa using hb
  rw [hb',bb_false,show (Sl.mk C.length fC (pz C)).n = C.length from rfl]
  by_cases hR:40 < C.length
  ·have q : ilt 40 (Int.ofNat C.length) = true := lt_true hR
   rw [q]
   exact m9_big (puN (n + 29)) 1000000 k (sl f1 h) (sl f2 w) e _
  ·have q : ilt 40 (Int.ofNat C.length) = false := lt_false hR
   rw [q]
   have a1:=p34 (n + 26) f1 f2 fC k h w C (by omega)
   have a2:=p35 (n + 26) f1 f2 fC k h w C (by omega)
   by_cases hc:chk k h w = 0
   ·have ho := ok_of hc
    have b1:=p29 (n + 12) f1 f2 k h w ho hc
    have b2:=p32 (n + 12) f1 f2 k h w ho hc
    have b3:=p33 (n + 1) f1 f2 k h w ho hc
    have hx:=Dv_exL _ _ ho.dv
    have b4:=p35 (n + 26) f1 f2 0 k h w (zz (exL (GR h w))) (by rw [zz,List.length_map];have:=card_le h.length (tb (bv h w));have:=ho.n10;omega)
    rw [men_ex ho hc,pz_zz,show (zz (exL (GR h w))).length = (exL (GR h w)).length from by rw [zz,List.length_map]] at b4
    exact m9_gen (puN (n + 29)) 1000000 k (sl f1 h) (sl f2 w) e b1 b2 b3 (ex_few ho) a1 a2 (fun _=>b4) false
   ·have b1 := p29e (n + 12) f1 f2 k h w hc
    have b2:=p32e (n + 12) f1 f2 k h w hc
    have b3:=p33e (n + 1) f1 f2 k h w hc
    exact m9_gen (puN (n + 29)) 1000000 k (sl f1 h) (sl f2 w) e b1 b2 b3 rfl a1 a2 (fun g=>absurd g hc) false
theorem pFewest (n f1 f2:Nat) (k:Int) (h w:List Int) (C:List (Int×Int)):puN (n + 30) 9 [tr f1 f2 k h w,Sl.v 2 ⟨C.length,0,C.flatMap fun p=>[I p.1,I p.2]⟩] = some (Value.bool true):=p9 n f1 f2 0 k h w C
end Go.MdFM
