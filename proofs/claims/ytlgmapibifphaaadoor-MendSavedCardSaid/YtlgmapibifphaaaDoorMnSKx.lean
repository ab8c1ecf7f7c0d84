/- The law's distances: a search in breadth. -/
import Derived.Test.YtlgmapibifphaaaDoorMdKeyx
import Derived.Test.YtlgmapibifphaaaDoorMnSF6x
set_option maxRecDepth 100000
set_option maxHeartbeats 4000000
namespace Go.MnSM
open Go Go.Sp Go.MnS Go.MdM Go.MdV Go.RgP
theorem q23 (k:Nat) (args:List Value):FK (k+1) 23 args=m23 (FK k) L args:=by kernel_rfl
theorem AcT:∀ (l:List Int) (a:Nat),X7 l→Eo l a < (a+1)*8 ^ l.length:=λl a h=>tL l a (a+1) h (by omega)
theorem Ahg (a b:Nat) (h:8*a+b < 1000000000):Aj .i64 (Int.add (Aj .i64 (Int.mul 8 (Int.ofNat a))) (Int.ofNat b))=Int.ofNat (8*a+b):=by
 have e1:Int.mul 8 (Int.ofNat a)=((8*a:Nat):Int):=by show (8:Int)*(a:Int)=_;omega
 rw[e1,show Aj .i64 ((8*a:Nat):Int)=((8*a:Nat):Int) from Oe _ (by omega) (by omega)]
 have e2:Int.add ((8*a:Nat):Int) (Int.ofNat b)=((8*a+b:Nat):Int):=by show ((8*a:Nat):Int)+(b:Int)=_;omega
 rw[e2];exact Oe _ (by omega) (by omega)
theorem lU (pu:Af) (M fl:Nat) (l:List Int) (h8:X7 l) (hl:l.length≤6):∀ (d w i a:Nat),i+d=l.length→d < w→a < 8 ^ i →
 QR pu M w (Int.ofNat a) (sl fl l) (Int.ofNat l.length) (Int.ofNat i)=some (I (Int.ofNat (Eo (l.drop i) a)))
 | _,0,_,_,_,h,_=>by omega
 | 0, w + 1, i, a, hd, _, _ => by
  show QO pu M (QR pu M w) _ _ _ _=_
  unfold QO
  rw[FL (by omega),AA,List.drop_eq_nil_of_le (by omega)];rfl
 | d + 1, w + 1, i, a, hd, hw, ha => by
  have hlt:i < l.length:=by omega
  have e:l.drop i=l[i]::l.drop (i+1):=List.drop_eq_getElem_cons hlt
  have hx:=h8 l[i] (List.getElem_mem hlt)
  have hp:(8:Nat) ^ (i+1)≤8 ^ 6:=Nat.pow_le_pow_right (by decide) (by omega)
  have hps:(8:Nat) ^ (i+1)=8*8 ^ i:=by rw[Nat.pow_succ,Nat.mul_comm]
  have h6:(8:Nat) ^ 6=262144:=rfl
  have ex:l[i]=Int.ofNat l[i].toNat:=(Int.toNat_of_nonneg hx.1).symm
  have ih:=lU pu M fl l h8 hl d w (i+1) (8*a+l[i].toNat) (by omega) (by omega) (by omega)
  rw[e]
  show QO pu M (QR pu M w) _ _ _ _=some (I (Int.ofNat (Eo (l.drop (i+1)) (8*a+l[i].toNat))))
  rw[←ih]
  unfold QO
  rw[FM hlt]
  simp only[Ak,Cx,Ac,I4,GX,blt_eq,hlt,decide_true,CF,Bool.true_and,BZ,Nat.mul_one,Aja l i hlt,BP,DC i (by omega:i < 1000000)]
  have hw2:Aj .i64 (Int.add (Aj .i64 (Int.mul 8 (Int.ofNat a))) l[i])=Int.ofNat (8*a+l[i].toNat):=by
   conv=>lhs;rw[ex]
   exact Ahg a l[i].toNat (by omega)
  rw[hw2]
theorem p23 (n fl:Nat) (l:List Int) (h8:X7 l) (hl:l.length≤6):FK (n+1) 23 [S fl l]=some (I (Int.ofNat (Eo l 0))):=by
 rw[q23]
 have h:=lU (FK n) L fl l h8 hl l.length L 0 0 (by omega) (by show _ < 1000000;omega) (by decide)
 rw[List.drop_zero] at h
 exact h
theorem q24 (k:Nat) (args:List Value):FK (k+1) 24 args=m24 (FK k) L args:=by kernel_rfl
theorem AiA (pu:Af) (fl:Nat) (l:List Int) (a b:Int):m24 pu L [S fl l,I a,I b]=mQ pu L (sl fl l) a b:=by kernel_rfl
theorem p24 (n fl:Nat) (l:List Int) {a b:Nat} (hl:l.length≤6) (ha:a < l.length) (hb:b < l.length):FK (n+1) 24 [S fl l,I (Int.ofNat a),I (Int.ofNat b)]=some (S 0 (sw l a b)):=by
 rw[q24,AiA]
 unfold mQ
 have hn:Nat.beq (sl fl l).n 0=false:=lL (show l.length≠0 by omega)
 have rm:EQ (0+l.length) 8=true:=by rw[Nat.zero_add];exact K8 (by omega)
 have ht:Aq (l.length*1) (l.map I)=l.map I:=by rw[Cg,Nat.mul_one];exact List.take_of_length_le (by simp)
 have ga:AL (l.map I) (0+a*1)=some (I (l.getD a 0)):=by rw[BZ,Nat.zero_add,Nat.mul_one,Aja l a ha];simp[ha]
 have gb:AL (l.map I) (0+b*1)=some (I (l.getD b 0)):=by rw[BZ,Nat.zero_add,Nat.mul_one,Aja l b hb];simp[hb]
 have s1:BM ([I (l.getD b 0)]:List Value) (0+a*1) (l.map I)=(l.set a (l.getD b 0)).map I:=by rw[Nat.zero_add,Nat.mul_one,Jh _ _ _ (by simpa using ha),List.map_set]
 have s2:BM ([I (l.getD a 0)]:List Value) (0+b*1) ((l.set a (l.getD b 0)).map I)=(sw l a b).map I:=by rw[Nat.zero_add,Nat.mul_one,Jh _ _ _ (by simpa using hb),←List.map_set];rfl
 have c1:an (Nat.ble (0+a*1+1) (len (l.map I))) true=true:=by rw[CF,Bool.and_true,AV,List.length_map];exact Nat.ble_eq_true_of_le (by omega)
 have c2:an (Nat.ble (0+b*1+1) (len ((l.set a (l.getD b 0)).map I))) true=true:=by rw[CF,Bool.and_true,AV,List.length_map,List.length_set];exact Nat.ble_eq_true_of_le (by omega)
 have c3:an (Nat.ble (0+(0+l.length)*1) (len ((sw l a b).map I))) (Au Ah ((sw l a b).map I))=true:=by
  rw[dQ,AV,List.length_map,Jd,Nat.ble_eq_true_of_le (by omega)];rfl
 have c4:Aq ((0+l.length)*1) (Am 0 ((sw l a b).map I))=(sw l a b).map I:=by rw[Cg,Bz,List.drop_zero];exact List.take_of_length_le (by rw[List.length_map,Jd];omega)
 have c5:Au Ah (Aq ((0+l.length)*1) (Am 0 ((sw l a b).map I)))=true:=by rw[c4,dQ]
 rw[hn,AA]
 simp only[I4,GX,rm,Ak,ht,dQ,Cx,Ac,ltn (show a < 0+l.length by omega),ltn (show b < 0+l.length by omega),ga,gb,BP,c1,s1,c2,s2,c4]
 have c6:an (Nat.ble (0+(0+l.length)*1) (len ((sw l a b).map I))) true=true:=by rw[CF,Bool.and_true,AV,List.length_map,Jd];exact Nat.ble_eq_true_of_le (by omega)
 rw[c6,Ak]
 unfold S sl
 rw[Jd,Nat.zero_add]
theorem bS {M:List (List Int)} {x:List Int} (h:x∈M):Bfs.news M [x]=M:=by unfold Bfs.news;rw[if_pos h];rfl
theorem XZ {M:List (List Int)} {x:List Int} (h:x ∉ M):Bfs.news M [x]=M++[x]:=by unfold Bfs.news;rw[if_neg h];rfl
theorem AcU:Bi .i64 (Wd (none:Option (Nat×Value)) (.int .i64 (0:Int)))=some 0:=rfl
theorem Yn (j:Nat) (v:Int):Bi .i64 (Wd (some (j,IV v)) (.int .i64 (0:Int)))=some v:=rfl
theorem AcV:nt (isS (none:Option (Nat×Value)))=true:=rfl
theorem AcW (p:Nat×Value):nt (isS (some p))=false:=rfl
def QS (M:List (List Int)) (i off n c:Nat) (q:List Value):Prop:=n+i=M.length∧c / 2=n∧c % 2=0∧off+n=len q∧Am off q=(M.drop i).map (S 0)∧Au Ah q=true
theorem AiB (l:List (List Int)):Au Ah (l.map (S 0))=true:=by
 rw[Bh,List.all_eq_true]
 intro v hv
 obtain⟨z,_,rfl⟩:=List.mem_map.1 hv
 rfl
theorem pF {M:List (List Int)} {i off n c:Nat} {q:List Value} (h:QS M i off n c q) (hM:M.length≤300000):Ou 1 24 off n c 1 q=true:=by
 obtain⟨h1,h2,h3,h4,_,_⟩:=h
 unfold Ou
 have k1:EQ (n+1) 24=true:=by
  unfold EQ
  exact Nat.ble_eq_true_of_le (by show (4*(n+1)+4096)*24≤281474976710656;omega)
 have k2:nt (Nat.ble (n+1) (c / 2))=true:=by
  rw[h2]
  cases h:Nat.ble (n+1) n with
  | false=>rfl
  | true=>have:=Nat.le_of_ble_eq_true h;omega
 have k3:Nat.ble (off+n*1) (len q)=true:=Nat.ble_eq_true_of_le (by omega)
 have k4:Nat.beq (off+n*1) (len q)=true:=by rw[Nat.mul_one,h4];exact Nat.beq_refl _
 rw[k1,k2,k3,k4,h3];rfl
theorem bT {M:List (List Int)} {i off n c:Nat} {q:List Value} (h:QS M i off n c q) (x:List Int):QS (M++[x]) i 0 (n+1) (2*(n+1)+bb false 1 0) (Br (Am off q) [S 0 x]):=by
 obtain⟨h1,h2,h3,h4,h5,h6⟩:=h
 have e:Br (Am off q) [S 0 x]=((M++[x]).drop i).map (S 0):=by
  rw[h5,BH,List.drop_append_of_le_length (by omega)];simp
 refine⟨by rw[List.length_append,List.length_singleton];omega,by show (2*(n+1)+0) / 2=n+1;omega,by show (2*(n+1)+0) % 2=0;omega,?_,?_,?_⟩
 ·rw[e,AV,List.length_map,List.length_drop,List.length_append,List.length_singleton];omega
 ·rw[e,Bz,List.drop_zero]
 ·rw[e];exact AiB _
theorem AcX {M:List (List Int)} {i off n c:Nat} {q:List Value} (h:QS M i off n c q) (hi:i < M.length):QS M (i+1) (off+1*1) (n - 1) (2*(c / 2 - 1)+bb (Dp false (Nat.beq (c % 2) 1)) 1 0) q:=by
 obtain⟨h1,h2,h3,h4,h5,h6⟩:=h
 have e:bb (Dp false (Nat.beq (c % 2) 1)) 1 0=0:=by rw[h3];rfl
 refine⟨by omega,by rw[e,h2];omega,by rw[e];omega,by omega,?_,h6⟩
 have:Am (off+1*1) q=(Am off q).drop 1:=by rw[Bz,Bz,List.drop_drop]
 rw[this,h5,←List.map_drop,List.drop_drop]
theorem pG {M:List (List Int)} {i off n c:Nat} {q:List Value} (h:QS M i off n c q) (hi:i < M.length):AL q (off+0*1)=some (S 0 M[i]):=by
 obtain⟨h1,h2,h3,h4,h5,h6⟩:=h
 rw[BZ,Nat.zero_mul,Nat.add_zero]
 have:q[off]?=(q.drop off)[0]?:=by rw[List.getElem?_drop,Nat.add_zero]
 rw[this,←Bz,h5,List.getElem?_map,List.getElem?_drop,Nat.add_zero,List.getElem?_eq_getElem hi];rfl
section
variable {w:List Int} {F:List Int→Nat} (h8:X7 w) (hl:w.length≤6) (near:Bool) (n:Nat)
theorem JN {x : List Int} (h8 : X7 w) (h : Pp w x) : X7 x := fun z hz => h8 z (by
 have:=h.2 z
 rw[←List.count_pos_iff,←this,List.count_pos_iff];exact hz)
include h8 hl
theorem Ahh (ih0:Bool→Nat→Nat→Nat→List EO→Nat→List Value→Option Value) (ih1:Bool→Nat→Nat→Nat→Sl→Int→Int→List EO→Nat→List Value→Option Value) (ih2:Bool→Nat→Nat→Nat→Sl→Int→Int→Int→Int→List EO→Nat→List Value→Option Value)
 {M:List (List Int)} (hM:∀ x∈M,Pp w x) (hMl:M.length≤300000) {l:List Int} (hlM:l∈M) {a b:Nat} (ha:a < l.length) (hb:b < l.length) (hab:a≠b) (hF:sw l a b ∉ M→F (sw l a b)=F l+1) (hFl:F l≤1000) {i off nn c:Nat} {q:List Value} (hq:QS M i off nn c q) :
 ∃ off' nn' c' q', QS (Bfs.news M [sw l a b]) i off' nn' c' q' ∧ Iy (FK (n + 1)) L ih0 ih1 ih2 near off nn c (sl 0 l) (Int.ofNat a) (Int.ofNat b) (Int.ofNat l.length) (Int.ofNat a) true (Gw (OB F M)) M.length q =
  LJ (FK (n+1)) L ih0 ih1 ih2 near off' nn' c' (sl 0 l) (Int.ofNat a) (Int.ofNat b) (Int.ofNat l.length) (Int.ofNat a) (Gw (OB F (Bfs.news M [sw l a b]))) (Bfs.news M [sw l a b]).length q':=by
 have ol:=hM l hlM
 have ox:=Wl ol ha hb hab
 have ln:l.length≤6:=by rw[ol.1];exact hl
 have e24:FK (n+1) 24 [Sl.v 1 (sl 0 l),.int .i64 (Int.ofNat a),.int .i64 (Int.ofNat b)]=some (Sl.v 1 (sl 0 (sw l a b))):=p24 n 0 l ln ha hb
 have e23x:FK (n+1) 23 [Sl.v 1 (sl 0 (sw l a b))]=some (.int .i64 (Int.ofNat (Eo (sw l a b) 0))):=p23 n 0 _ (JN h8 ox) (by rw[Jd];exact ln)
 have e23l:FK (n+1) 23 [Sl.v 1 (sl 0 l)]=some (.int .i64 (Int.ofNat (Eo l 0))):=p23 n 0 l (JN h8 ol) ln
 have hall:∀ y∈M,y.length=w.length∧X7 y:=λy hy=>⟨(hM y hy).1,JN h8 (hM y hy)⟩
 have fx:=OJ (Eo (sw l a b) 0) (OB F M)
 have flk:=OJ (Eo l 0) (OB F M)
 obtain⟨j,pl⟩:=O9 (F:=F) ol.1 (JN h8 ol) M hall hlM
 rw[pl] at flk
 have flk:GD (.int .i64 (Int.ofNat (Eo l 0))) (Gw (OB F M)) 0=some (some (j,IV (Int.ofNat (F l)))):=flk
 have hc:=hq.2.2.2.2.2
 by_cases hx:sw l a b∈M
 ·obtain⟨j2,px⟩:=O9 (F:=F) ox.1 (JN h8 ox) M hall hx
  rw[px] at fx
  have fx:GD (.int .i64 (Int.ofNat (Eo (sw l a b) 0))) (Gw (OB F M)) 0=some (some (j2,IV (Int.ofNat (F (sw l a b))))):=fx
  have en:=bS hx
  refine⟨off,nn,c,q,by rw[en];exact hq,?_⟩
  rw[en]
  unfold Iy
  rw[Ak,FN,Ak,hc,Ak,e24,Ac,Dc,Ac,e23x,Ac,BP,Ac,fx,Ac,Yn,Ac,AcW,AA]
 ·have px:=UA (F:=F) ox.1 (JN h8 ox) M hall hx
  rw[px] at fx
  have fx:GD (.int .i64 (Int.ofNat (Eo (sw l a b) 0))) (Gw (OB F M)) 0=some none:=fx
  have en:=XZ hx
  refine⟨0,nn+1,2*(nn+1)+bb false 1 0,Br (Am off q) [S 0 (sw l a b)],by rw[en];exact bT hq _,?_⟩
  rw[en]
  have hv:=hF hx
  obtain⟨u1,u2⟩:=pE (Eo (sw l a b) 0) (F l+1) (OB F M)
  rw[bR] at u1 u2
  have hps:OB F M++[(Eo (sw l a b) 0,F l+1)]=OB F (M++[sw l a b]):=by rw[lT,hv]
  rw[hps] at u1 u2
  rw[bR] at u2
  have hw1:Aj .i64 (Int.add (Int.ofNat (F l)) 1)=Int.ofNat (F l+1):=DC (F l) (by omega)
  have hcl:Au Ah (Br (Am off q) [Sl.v 1 (sl 0 (sw l a b))])=true:=(bT hq (sw l a b)).2.2.2.2.2
  unfold Iy
  rw[Ak,FN,Ak,hc,Ak,e24,Ac,Dc,Ac,e23x,Ac,BP,Ac,fx,Ac,AcU,Ac,AcV,Ak,Ac,BP,Ac,e23l,Ac,BP,Ac,flk,Ac,Yn,Ac,fx,Ac,hw1,u1,u2,FN,Ak,pF hq hMl,Ak,hcl,Ak]
  rfl
end
end Go.MnSM
set_option maxRecDepth 100000
set_option maxHeartbeats 4000000
namespace Go.MnSM
open Go Go.Sp Go.MnS Go.MdM Go.MdV Go.RgP
theorem X0 {α:Type} [DecidableEq α] (xs ys:List α):∀ (M:List α),Bfs.news M (xs++ys)=Bfs.news (Bfs.news M xs) ys:=by
 induction xs with
 | nil=>intro M;rfl
 | cons x xs ih =>
  intro M
  show Bfs.news (if x∈M then M else M++[x]) (xs++ys)=Bfs.news (Bfs.news (if x∈M then M else M++[x]) xs) ys
  exact ih _
theorem Ahi (x:Int):Bd x x=true:=by rw[Lr];simp
theorem X3 {α β:Type} {f g:α→List β}:∀ {l:List α},(∀ a∈l,f a=g a)→l.flatMap f=l.flatMap g
 | [],_=>rfl
 | a::l,h=>by rw[List.flatMap_cons,List.flatMap_cons,h a (by simp),X3 λb hb=>h b (by simp[hb])]
theorem dB (x:List Int) (ys M:List (List Int)):Bfs.news M (x::ys)=Bfs.news (Bfs.news M [x]) ys:=X0 [x] ys M
def Pb (near:Bool) (n a:Nat):List Nat:=if near then (if a+1 < n then [a+1] else []) else (List.range n).drop (a+1)
def Yo (near:Bool) (l:List Int):List (List Int):=(List.range l.length).flatMap λa=>(Pb near l.length a).map λb=>sw l a b
theorem Ahj (l:List Int):Yo false l=nbx l:=by
 unfold Yo nbx prs Pb
 rw[List.map_flatMap]
 apply X3
 intro a _
 show ((if (false:Bool)=true then _ else (List.range l.length).drop (a+1)).map λb=>sw l a b)=(((List.range l.length).drop (a+1)).map λb=>(a,b)).map λp=>sw l p.1 p.2
 rw[if_neg (by decide),List.map_map];rfl
section
variable {w:List Int} {F:List Int→Nat} (h8:X7 w) (hl:w.length≤6) (near:Bool) (n:Nat)
include h8 hl
theorem tN (ih0:Bool→Nat→Nat→Nat→List EO→Nat→List Value→Option Value) (ih1:Bool→Nat→Nat→Nat→Sl→Int→Int→List EO→Nat→List Value→Option Value)
 {L0:List (List Int)} {l:List Int} (hlL:l∈L0) (hol:Pp w l) {a:Nat} (ha:a < l.length) (hFl:F l≤1000) (hF:∀ b,a < b→b < l.length→(near=true→b=a+1)→sw l a b ∉ L0→F (sw l a b)=F l+1) (hL0:L0.length≤270000) {i:Nat}:∀ (d ww b:Nat) (M:List (List Int)) (off nn c:Nat) (q:List Value),b+d=l.length→d < ww→a < b→(∀ x∈L0,x∈M)→(∀ x∈M,Pp w x)→M.length≤280000+b→QS M i off nn c q →
 ∃ off' nn' c' q', QS (Bfs.news M ((if near then (if b = a + 1 ∧ b < l.length then [b] else []) else (List.range l.length).drop b).map fun b => sw l a b)) i off' nn' c' q' ∧
  Iz (FK (n+1)) L ih0 ih1 ww near off nn c (sl 0 l) (Int.ofNat a) (Int.ofNat b) (Int.ofNat l.length) (Int.ofNat a) (Gw (OB F M)) M.length q=MF (FK (n+1)) L ih0 ih1 near off' nn' c' (sl 0 l) (Int.ofNat l.length) (Int.ofNat a) (Gw (OB F (Bfs.news M ((if near then (if b=a+1∧b < l.length then [b] else []) else (List.range l.length).drop b).map λb=>sw l a b)))) (Bfs.news M ((if near then (if b=a+1∧b < l.length then [b] else []) else (List.range l.length).drop b).map λb=>sw l a b)).length q'
 | _,0,_,_,_,_,_,_,_,h,_,_,_,_,_=>by omega
 | 0, ww + 1, b, M, off, nn, c, q, hd, _, hab, hLM, hM, hMl, hq => by
  have hc:=hq.2.2.2.2.2
  have e:(if near then (if b=a+1∧b < l.length then [b] else []) else (List.range l.length).drop b)=[]:=by
   cases near with
   | true=>rw[if_pos rfl,if_neg (by omega)]
   | false=>rw[if_neg (by decide),List.drop_eq_nil_of_le (by simp;omega)]
  rw[e,List.map_nil]
  refine⟨off,nn,c,q,hq,?_⟩
  show JO (FK (n+1)) L ih0 ih1 (Iz (FK (n+1)) L ih0 ih1 ww) _ _ _ _ _ _ _ _ _ _ _ _=_
  unfold JO
  rw[I4,FL (by omega),AA,FN,hc,Ak,Ak]
  unfold Iy
  rw[AA,FN,hc,Ak,Ak]
  rfl
 | d + 1, ww + 1, b, M, off, nn, c, q, hd, hw, hab, hLM, hM, hMl, hq => by
  have hc:=hq.2.2.2.2.2
  have hb:b < l.length:=by omega
  have hll:l.length≤6:=by rw[hol.1];exact hl
  show ∃ off' nn' c' q',_∧JO (FK (n+1)) L ih0 ih1 (Iz (FK (n+1)) L ih0 ih1 ww) _ _ _ _ _ _ _ _ _ _ _ _=_
  by_cases hgo:near=true∧b≠a+1
  ·-- no neighbour
   obtain⟨rfl,hne⟩:=hgo
   rw[if_pos rfl,if_neg (λk=>hne k.1),List.map_nil]
   refine⟨off,nn,c,q,hq,?_⟩
   unfold JO
   have e1:Bd (Int.ofNat b) (Aj .i64 (Int.add (Int.ofNat a) 1))=false:=by rw[DC a (by omega),Lr];exact decide_eq_false (λk=>hne (Int.ofNat.inj k))
   rw[I4,FM hb,Ak,show nt true=false from rfl,AA,FN,hc,Ak,Ak,e1]
   unfold Iy
   rw[AA,FN,hc,Ak,Ak]
   rfl
  ·have hok:near=true→b=a+1:=λk=>Classical.byContradiction λk2=>hgo ⟨k,k2⟩
   obtain⟨off1,nn1,c1,q1,hq1,e1⟩:=Ahh h8 hl near n ih0 ih1 (Iz (FK (n+1)) L ih0 ih1 ww) hM (by omega) (hLM l hlL) ha hb (by omega) (λk=>hF b hab hb hok λk2=>k (hLM _ k2)) hFl hq
   have hM1:∀ x∈Bfs.news M [sw l a b],Pp w x:=fun x hx=>by
    obtain⟨E,e,h1,_⟩:=Bfs.news_ext [sw l a b] M
    rw[e] at hx
    rcases List.mem_append.1 hx with hx | hx
    ·exact hM x hx
    ·rw[List.mem_singleton.1 (h1 x hx).1];exact Wl hol ha hb (by omega)
   have hlen1:(Bfs.news M [sw l a b]).length≤M.length+1:=by
    by_cases hx:sw l a b∈M
    ·rw[bS hx];omega
    ·rw[XZ hx];simp
   have hc1:=hq1.2.2.2.2.2
   obtain⟨off2,nn2,c2,q2,hq2,e2⟩:=tN ih0 ih1 hlL hol ha hFl hF hL0 (i:=i) d ww (b+1) (Bfs.news M [sw l a b]) off1 nn1 c1 q1 (by omega) (by omega) (by omega) (λx hx=>(Bfs.news_has [sw l a b] M).2 x (hLM x hx)) hM1 (by omega) hq1
   have el:Bfs.news M ((if near then (if b=a+1∧b < l.length then [b] else []) else (List.range l.length).drop b).map fun b=>sw l a b)=Bfs.news (Bfs.news M [sw l a b]) ((if near then (if b+1=a+1∧b+1 < l.length then [b+1] else []) else (List.range l.length).drop (b+1)).map fun b=>sw l a b):=by
    cases hn:near with
    | true =>
     have:=hok hn
     rw[if_pos rfl,if_pos rfl,if_pos ⟨this,hb⟩,if_neg (by omega)]
     rfl
    | false =>
     rw[if_neg (by decide),if_neg (by decide)]
     have yY:(List.range l.length).drop b=b::(List.range l.length).drop (b+1):=by
      rw[List.drop_eq_getElem_cons (by simpa using hb)];simp
     rw[yY,List.map_cons,dB]
   rw[el]
   refine⟨off2,nn2,c2,q2,hq2,?_⟩
   rw[←e2]
   unfold JO
   have K4:Iy (FK (n+1)) L ih0 ih1 (Iz (FK (n+1)) L ih0 ih1 ww) near off nn c (sl 0 l) (Int.ofNat a) (Int.ofNat b) (Int.ofNat l.length) (Int.ofNat a) true (Gw (OB F M)) M.length q=Iz (FK (n+1)) L ih0 ih1 ww near off1 nn1 c1 (sl 0 l) (Int.ofNat a) (Int.ofNat (b+1)) (Int.ofNat l.length) (Int.ofNat a) (Gw (OB F (Bfs.news M [sw l a b]))) (Bfs.news M [sw l a b]).length q1:=by
    rw[e1]
    unfold LJ
    rw[FN,hc1,Ak,Ak,DC b (by omega)]
   rw[I4,FM hb,Ak]
   cases hn:near with
   | true =>
    have hba:=hok hn
    have e3:Bd (Int.ofNat b) (Aj .i64 (Int.add (Int.ofNat a) 1))=true:=by rw[DC a (by omega),hba];exact Ahi _
    rw[show nt true=false from rfl,AA,FN,hc,Ak,Ak,e3]
    rw[hn] at K4
    exact K4
   | false =>
    rw[show nt false=true from rfl,Ak,FN,hc,Ak,Ak]
    rw[hn] at K4
    exact K4
omit h8 hl in
theorem Ahk (near:Bool) (n a:Nat):(if near then (if a+1=a+1∧a+1 < n then [a+1] else []) else (List.range n).drop (a+1))=Pb near n a:=by
 unfold Pb
 cases near with
 | true =>
  rw[if_pos rfl,if_pos rfl]
  by_cases c:a+1 < n
  ·rw[if_pos ⟨rfl,c⟩,if_pos c]
  ·rw[if_neg (λk=>c k.2),if_neg c]
 | false=>rfl
def LY (near:Bool) (l:List Int) (a:Nat):List (List Int):=((List.range l.length).drop a).flatMap λa=>(Pb near l.length a).map λb=>sw l a b
omit h8 hl in
theorem Yp {near:Bool} {l:List Int} {a b:Nat} (hab:a < b) (hb:b < l.length) (hn:near=true→b=a+1):sw l a b∈Yo near l:=by
 unfold Yo
 refine List.mem_flatMap.2 ⟨a,List.mem_range.2 (by omega),List.mem_map.2 ⟨b,?_,rfl⟩⟩
 unfold Pb
 cases near with
 | true=>rw[if_pos rfl,hn rfl,if_pos (by have:=hn rfl;omega)];simp
 | false =>
  rw[if_neg (by decide),List.mem_iff_getElem]
  refine⟨b - (a+1),by simp;omega,?_⟩
  simp;omega
omit h8 hl in
theorem lV {α:Type} [DecidableEq α] (xs:List α):∀ (M:List α),(Bfs.news M xs).length≤M.length+xs.length:=by
 induction xs with
 | nil=>intro M;exact Nat.le_refl _
 | cons x xs ih =>
  intro M
  have:=ih (if x∈M then M else M++[x])
  show (Bfs.news (if x∈M then M else M++[x]) xs).length≤_
  have h2:(if x∈M then M else M++[x]).length≤M.length+1:=by split <;> simp
  rw[List.length_cons];omega
omit h8 hl in
theorem AcY (near:Bool) (n a:Nat):(Pb near n a).length≤n:=by
 unfold Pb
 split
 ·split
  ·simp;omega
  ·simp
 ·simp
omit h8 hl in
theorem AcZ {near:Bool} {n a b:Nat} (h:b∈Pb near n a):a < b∧b < n∧(near=true→b=a+1):=by
 unfold Pb at h
 cases near with
 | true =>
  rw[if_pos rfl] at h
  split at h
  ·have:=List.mem_singleton.1 h;exact⟨by omega,by omega,λ_=>this⟩
  ·cases h
 | false =>
  rw[if_neg (by decide)] at h
  obtain⟨k,hk,e⟩:=List.getElem_of_mem h
  simp at e hk
  exact⟨by omega,by omega,λk=>by cases k⟩
theorem tO (ih0:Bool→Nat→Nat→Nat→List EO→Nat→List Value→Option Value)
 {L0:List (List Int)} {l:List Int} (hlL:l∈L0) (hol:Pp w l) (hFl:F l≤1000) (hF:∀ z∈Yo near l,z ∉ L0→F z=F l+1) (hL0:L0.length≤262144) {i:Nat}:∀ (d ww a:Nat) (M:List (List Int)) (off nn c:Nat) (q:List Value),a+d=l.length→d < ww→(∀ x∈L0,x∈M)→(∀ x∈M,Pp w x)→M.length≤270000+6*a→QS M i off nn c q →
 ∃ off' nn' c' q', QS (Bfs.news M (LY near l a)) i off' nn' c' q' ∧
  G9 (FK (n+1)) L ih0 ww near off nn c (sl 0 l) (Int.ofNat l.length) (Int.ofNat a) (Gw (OB F M)) M.length q=L6 (FK (n+1)) L ih0 near off' nn' c' (Gw (OB F (Bfs.news M (LY near l a)))) (Bfs.news M (LY near l a)).length q'
 | _,0,_,_,_,_,_,_,_,h,_,_,_,_=>by omega
 | 0, ww + 1, a, M, off, nn, c, q, hd, _, hLM, hM, hMl, hq => by
  have hc:=hq.2.2.2.2.2
  have e:LY near l a=[]:=by unfold LY;rw[List.drop_eq_nil_of_le (by simp;omega)];rfl
  rw[e]
  refine⟨off,nn,c,q,hq,?_⟩
  show Kh (FK (n+1)) L ih0 (G9 (FK (n+1)) L ih0 ww) _ _ _ _ _ _ _ _ _ _=_
  unfold Kh
  rw[FN,hc,Ak,Ak,FL (by omega),AA]
  rfl
 | d + 1, ww + 1, a, M, off, nn, c, q, hd, hw, hLM, hM, hMl, hq => by
  have hc:=hq.2.2.2.2.2
  have ha:a < l.length:=by omega
  have hll:l.length≤6:=by rw[hol.1];exact hl
  obtain⟨off1,nn1,c1,q1,hq1,e1⟩:=tN h8 hl near n ih0 (G9 (FK (n+1)) L ih0 ww) (L0:=L0) hlL hol ha hFl (λb hab hb hn k=>hF _ (Yp hab hb hn) k) (by omega) (i:=i) (l.length - (a+1)) L (a+1) M off nn c q (by omega) (by show _ < 1000000;omega) (by omega) hLM hM (by omega) hq
  rw[Ahk] at e1 hq1
  have hc1:=hq1.2.2.2.2.2
  have hM1:∀ x∈Bfs.news M ((Pb near l.length a).map fun b=>sw l a b),Pp w x:=fun x hx=>by
   obtain⟨E,e,h1,_⟩:=Bfs.news_ext ((Pb near l.length a).map λb=>sw l a b) M
   rw[e] at hx
   rcases List.mem_append.1 hx with hx | hx
   ·exact hM x hx
   ·obtain⟨b,hb,rfl⟩:=List.mem_map.1 (h1 x hx).1
    obtain⟨k1,k2,_⟩:=AcZ hb
    exact Wl hol (by omega) k2 (by omega)
  have hlen:=lV ((Pb near l.length a).map λb=>sw l a b) M
  rw[List.length_map] at hlen
  have hbl:=AcY near l.length a
  obtain⟨off2,nn2,c2,q2,hq2,e2⟩:=tO ih0 hlL hol hFl hF hL0 (i:=i) d ww (a+1) _ off1 nn1 c1 q1 (by omega) (by omega) (λx hx=>(Bfs.news_has _ M).2 x (hLM x hx)) hM1 (by omega) hq1
  have el:LY near l a=((Pb near l.length a).map fun b=>sw l a b)++LY near l (a+1):=by
   unfold LY
   have yY:(List.range l.length).drop a=a::(List.range l.length).drop (a+1):=by
    rw[List.drop_eq_getElem_cons (by simpa using ha)];simp
   rw[yY,List.flatMap_cons]
  rw[el,X0]
  refine⟨off2,nn2,c2,q2,hq2,?_⟩
  rw[←e2]
  show Kh (FK (n+1)) L ih0 (G9 (FK (n+1)) L ih0 ww) _ _ _ _ _ _ _ _ _ _=_
  unfold Kh
  rw[FN,hc,Ak,Ak,FM ha,Ak,DC a (by omega),e1]
  unfold MF
  rw[FN,hc1,Ak,Ak,DC a (by omega)]
theorem dC {M:List (List Int)} (hn:M.Nodup) (hM:∀ x∈M,Pp w x):M.length≤262144:=by
 have h1:(M.map fun x=>Eo x 0).Nodup:=by
  rw[List.Nodup,List.pairwise_map]
  refine(List.Pairwise.and_mem.1 hn).imp ?_
  rintro a b ⟨ha,hb,hne⟩ e
  exact hne (Wm a b 0 0 (by rw[(hM a ha).1,(hM b hb).1]) (JN h8 (hM a ha)) (JN h8 (hM b hb)) e).1
 have:=tK (M.map fun x=>Eo x 0) (List.range 262144) h1 fun y hy=>by
  obtain⟨x,hx,rfl⟩:=List.mem_map.1 hy
  have h2:=AcT x 0 (JN h8 (hM x hx))
  have h3:(8:Nat) ^ x.length≤8 ^ 6:=Nat.pow_le_pow_right (by decide) (by rw[(hM x hx).1];exact hl)
  rw[List.mem_range]
  have:(8:Nat) ^ 6=262144:=rfl
  omega
 rw[List.length_map,List.length_range] at this
 exact this
theorem tQ (W:Bfs.World (Yo near) (Pp w) F w) (hFb:∀ x,Pp w x→F x≤1000):∀ (d ww i:Nat) (M:List (List Int)) (off nn c:Nat) (q:List Value),Bfs.Inv (Yo near) (Pp w) F w M i→262145≤i+d→d < ww→QS M i off nn c q →
 ∃ L',Bfs.Inv (Yo near) (Pp w) F w L' L'.length∧FX (FK (n+1)) L ww near off nn c (Gw (OB F M)) M.length q=some (.tuple ⟨[.map (some 1),Ef (.map (Gw (OB F L')) L'.length)]⟩)
 | _,0,_,_,_,_,_,_,_,_,h,_=>by omega
 | d, ww + 1, i, M, off, nn, c, q, hI, hd, hw, hq => by
  have hc:=hq.2.2.2.2.2
  have hb:=dC h8 hl hI.nd hI.mem
  by_cases hi:i < M.length
  ·have hol:=hI.mem _ (List.getElem_mem hi)
   have hn:nn≠0:=by have:=hq.1;omega
   have hnn:0 < nn:=by omega
   have hd0:0 < d:=by omega
   obtain⟨d',rfl⟩:∃ d',d=d'+1:=⟨d - 1,by omega⟩
   obtain⟨off1,nn1,c1,q1,hq1,e1⟩:=tO h8 hl near n (FX (FK (n+1)) L ww) (L0:=M) (List.getElem_mem hi) hol (hFb _ hol) (λz hz k=>Bfs.new_val W hI hi hz k) (by omega) (i:=i) M[i].length L 0 M off nn c q (by omega) (by show _ < 1000000;have:=hol.1;omega) (λx hx=>hx) hI.mem (by omega) hq
   have hf:LY near M[i] 0=Yo near M[i]:=rfl
   rw[hf] at hq1 e1
   have hI1:=Bfs.inv_step W hI hi
   have hc1:=hq1.2.2.2.2.2
   have hi1:i < (Bfs.news M (Yo near M[i])).length:=by
    obtain⟨E,e,_,_⟩:=Bfs.news_ext (Yo near M[i]) M
    rw[e,List.length_append];omega
   obtain⟨L',hL',e2⟩:=tQ W hFb d' ww (i+1) _ _ _ _ q1 hI1 (by omega) (by omega) (AcX hq1 hi1)
   refine⟨L',hL',?_⟩
   rw[←e2]
   show Ki (FK (n+1)) L (FX (FK (n+1)) L ww) _ _ _ _ _ _ _=_
   unfold Ki
   have hlt:AY (0:Int) (Int.ofNat nn)=true:=by rw[Acc];show (0:Int) < (nn:Int);omega
   rw[FN,hc,Ak,Ak,hlt,Ak,ltn hnn,Ak,pG hq hi,Ac,show Bj 1 (S 0 M[i])=some (sl 0 M[i]) from rfl,Ac,I4]
   refine Eq.trans e1 ?_
   unfold L6
   have h1n:Nat.ble 1 nn1=true:=Nat.ble_eq_true_of_le (by have:=hq1.1;omega)
   rw[h1n,FN,hc1,Ak,Ak,Ak]
  ·have hle:=hI.le
   have hiM:i=M.length:=by omega
   subst hiM
   have hn:nn=0:=by have:=hq.1;omega
   refine⟨M,hI,?_⟩
   show Ki (FK (n+1)) L (FX (FK (n+1)) L ww) _ _ _ _ _ _ _=_
   unfold Ki
   rw[FN,hc,Ak,Ak,hn,show AY (0:Int) (Int.ofNat 0)=false from rfl,AA]
   unfold LZ
   rw[FN,Ak]
theorem Ac0 (W:Bfs.World (Yo near) (Pp w) F w) (hFb:∀ x,Pp w x→F x≤1000):∃ L',Bfs.Inv (Yo near) (Pp w) F w L' L'.length∧FK (n+2) 10220 [S 0 w,.bool near]=some (.tuple ⟨[.map (some 1),Ef (.map (Gw (OB F L')) L'.length)]⟩):=by
 have e:FK (n+2) 10220 [S 0 w,.bool near]=Nh (FK (n+1)) L (sl 0 w) near:=by kernel_rfl
 have e23:FK (n+1) 23 [Sl.v 1 (sl 0 w)]=some (.int .i64 (Int.ofNat (Eo w 0))):=p23 n 0 w h8 hl
 obtain⟨L',hL',e1⟩:=tQ h8 hl near n W hFb 262145 L 0 [w] 0 1 2 [S 0 w] (Bfs.inv_start W) (by omega) (by show _ < 1000000;omega) ⟨rfl,rfl,rfl,rfl,rfl,rfl⟩
 refine⟨L',hL',?_⟩
 rw[e];unfold Nh
 have hps:OB F [w]=[(Eo w 0,0)]:=by unfold OB;rw[List.map_cons,List.map_nil,W.h0]
 rw[hps] at e1
 rw[e23,Ac,BP,Ac,show GD (.int .i64 (Int.ofNat (Eo w 0))) ([]:List EO) 0=some none from rfl,Ac]
 exact e1
end
end Go.MnSM
set_option maxRecDepth 100000
set_option maxHeartbeats 4000000
namespace Go.MnSM
open Go Go.Sp Go.MnS Go.MdM Go.RgP
theorem Ng.ord {K:Nat} {h w:List Int} (t:Ng K h w):Pp w h:=⟨by have:=t.len;omega,t.cnt⟩
theorem lW {K:Nat} {l:List Int} (hK:K≤8) (h:OO K l):X7 l:=fun x hx=>by
 obtain⟨a,b⟩:=h x hx
 exact⟨a,by omega⟩
theorem Ac1 {K:Nat} {h w:List Int} (t:Ng K h w):C8 h w=Int.ofNat (Qu w h):=by
 have hl:=t.len
 rw[Yl hl]
 have hm:=V9 (N:=h.length) (H:=fn h) (W:=fn w) h.length al (by rw[O7];exact Nat.le_refl _)
 rw[O7] at hm
 have e:(fun i=>al i && !decide (fn h i=fn w i))=QB h w:=by
  funext i
  unfold QB
  show (true && !decide (fn h i=fn w i)) = !(fn h i == fn w i)
  by_cases c:fn h i=fn w i
  ·simp[c]
  ·simp[c]
 rw[e] at hm
 have h1:=Ahe (N:=h.length) (H:=fn h) (W:=fn w) (QB h w)
 unfold Qu
 rw[hl]
 have e2:h.length - M h.length (fl h) (fl w) al=card h.length (QB h w) - M h.length (fn h) (fn w) (QB h w):=hm
 rw[e2]
 show ((card h.length (QB h w):Nat):Int) - ((M h.length (fn h) (fn w) (QB h w):Nat):Int)=((card h.length (QB h w) - M h.length (fn h) (fn w) (QB h w):Nat):Int)
 omega
section
variable (f1 f2:Nat) (k:Int) (h w:List Int) (hN:h.length≤10) (hw:w.length=h.length)
include hN hw
theorem l37 (pu:Af):∀ (f i:Nat),h.length - i < f→i≤h.length →
 PI pu 1000000 f (Int.ofNat (wl h w i).length) (Int.ofNat h.length) (Int.ofNat i) k (sl f1 h) (sl f2 w)=some (I (Int.ofNat (wl h w h.length).length)):=by
 intro f
 induction f with
 | zero=>intro i hi;omega
 | succ f ih =>
  intro i hi hil
  have e1:PI pu 1000000 (f+1)=WI pu 1000000 (PI pu 1000000 f):=rfl
  rw[e1]
  unfold WI
  have hlw:=kR h w i
  by_cases hlt:i < h.length
  ·have hiw:i < w.length:=by omega
   have hbit:=Nc h w i hlt hiw
   have hs:=ZR h w i
   have next:=ih (i+1) (by omega) (by omega)
   rw[FM hlt]
   simp only[Ak,Cx,Ac,I4,GX,blt_eq,hlt,hiw,decide_true,CF,Bool.true_and,BZ,Nat.mul_one,Aja h i hlt,Aja w i hiw,BP]
   unfold WH
   rw[DC i (by omega),DC (wl h w i).length (by omega)]
   by_cases c:h[i]=w[i]
   ·have q:nt (Bd h[i] w[i])=false:=by rw[Lr,c];simp
    have hb:(bv h w).testBit i=false:=by rw[hbit,c];simp
    rw[q,AA]
    rw[hs,hb,if_neg (by simp),List.append_nil] at next
    exact next
   ·have q:nt (Bd h[i] w[i])=true:=by rw[Lr];simp[c]
    have hb:(bv h w).testBit i=true:=by rw[hbit];simp[c]
    rw[q,Ak]
    rw[hs,hb,if_pos rfl,List.length_append,List.length_singleton] at next
    exact next
  ·have:i=h.length:=by omega
   subst this
   rw[FL hlt,AA];rfl
theorem p37 (n:Nat):FK (n+1) 37 [tr f1 f2 k h w]=some (I (Int.ofNat (card h.length (tb (bv h w))))):=by
 have e0:FK (n+1) 37 [tr f1 f2 k h w]=PI (FK n) 1000000 1000000 (Int.ofNat (wl h w 0).length) (Int.ofNat h.length) (Int.ofNat 0) k (sl f1 h) (sl f2 w):=by
  refine Eq.trans (b:=nK (FK n) 1000000 k (sl f1 h) (sl f2 w)) (by kernel_rfl) ?_
  unfold nK
  rw[I4];rfl
 rw[e0,l37 f1 f2 k h w hN hw (FK n) 1000000 0 (by omega) (by omega)]
 have:wl h w h.length=els h.length (tb (bv h w)):=rfl
 rw[this,Ha]
end
theorem Ac2 {h w:List Int} (hl:w.length=h.length) (hf:K4 h w=0):h=w:=by
 unfold K4 at hf
 by_cases c:bv h w=0
 ·refine List.ext_getElem hl.symm λi hi hj=>?_
  have:=Nc h w i hi hj
  rw[c,Nat.zero_testBit] at this
  by_cases e:h[i]=w[i]
  ·exact e
  ·rw[beq_eq_false_iff_ne.2 e] at this;cases this
 ·rw[I8 c] at hf;cases hf
section
variable {K:Nat} {h w:List Int} (t:Ng K h w) (h6:h.length≤6) (n:Nat)
include h6
theorem AiC {P:List (Nat×Nat)} (hP:P.length≤100) (fin':QJ (FK (n+1)) 1000000 (C8 h w) (ps P) (LL 0 (Dn h w)) (sl 0 w) K (sl 0 h) (sl 0 w)=some (.bool true)):∀ (f i:Nat) (g:List Int),P.length - i < f→i≤P.length→g.length=h.length→w.length=h.length→kW w g (zz (P.drop i))=0 →
 QK (FK (n+1)) 1000000 f (C8 h w) (ps P) (LL 0 (Dn h w)) (sl 0 g) (ps P) (Int.ofNat P.length) (Int.ofNat i) K (sl 0 h) (sl 0 w)=some (.bool true):=by
 intro f
 induction f with
 | zero=>intro i g hi;omega
 | succ f ih =>
  intro i g hi hil hg hw hm
  have e1:QK (FK (n+1)) 1000000 (f+1)=Wp (FK (n+1)) 1000000 (QK (FK (n+1)) 1000000 f):=rfl
  rw[e1]
  unfold Wp
  by_cases hlt:i < P.length
  ·obtain⟨g1,g2⟩:=kS P i hlt
   have hbb:Nat.ble (i*2+2) (len (pq P))=true:=by rw[ble_eq,AV,VW];simp;omega
   rw[List.drop_eq_getElem_cons hlt] at hm
   have hm:Sn (ZA (Int.ofNat P[i].1) (Int.ofNat P[i].2) g.length=0) (kW w (swp g (Int.ofNat P[i].1).toNat (Int.ofNat P[i].2).toNat) (zz (P.drop (i+1)))) (ZA (Int.ofNat P[i].1) (Int.ofNat P[i].2) g.length)=0:=hm
   have hx:ZA (Int.ofNat P[i].1) (Int.ofNat P[i].2) g.length=0:=by
    by_cases c:ZA (Int.ofNat P[i].1) (Int.ofNat P[i].2) g.length=0
    ·exact c
    ·rw[I8 c] at hm;exact absurd hm c
   rw[Hz hx] at hm
   obtain⟨_,a2,_,a4,a5⟩:=kX hx
   have a2:P[i].1 < g.length:=by simp only[Int.ofNat_eq_natCast] at a2;omega
   have a4:P[i].2 < g.length:=by simp only[Int.ofNat_eq_natCast] at a4;omega
   have a5:P[i].1 < P[i].2:=by simp only[Int.ofNat_eq_natCast] at a5;omega
   have e24:=p24 n 0 g (a:=P[i].1) (b:=P[i].2) (by omega) a2 a4
   unfold S at e24
   have hn:(ps P).n=P.length:=rfl
   have hcs:(ps P).cs=pq P:=rfl
   rw[FM hlt]
   simp only[Ak,Cx,Ac,hn,hcs,blt_eq,hlt,decide_true,CF,Bool.true_and,hbb,BZ,g1,g2,BP]
   have q0:AY (Int.ofNat P[i].1) 0=false:=FL (Nat.not_lt_zero P[i].1)
   rw[q0,AA,FM a5,show nt true=false from rfl,AA,I4,FM (show P[i].2 < g.length from a4),show nt true=false from rfl]
   unfold SC
   rw[AA,e24,Ac,O1,Ac,DC i (by omega)]
   exact ih (i+1) _ (by omega) (by omega) (by rw[Jd];exact hg) hw hm
  ·have:i=P.length:=by omega
   subst this
   rw[List.drop_length] at hm
   have:g=w:=Ac2 (by omega) hm
   subst this
   rw[FL hlt,AA]
   exact fin'
end
theorem q10 (k:Nat) (args:List Value):FK (k+1) 10 args=m10 (FK k) L args:=by kernel_rfl
theorem p12 (n:Nat):FK (n+1) 12 []=some (.bool true):=by kernel_rfl
theorem dP (n:Nat) (q:List Value) (x:Nat→Int) (hl:len q=22) (hq:∀ i,i < 22→AL q i=some (.int .u8 (x i))) (hc:Au Ah q=true) (hx:∀ i,0≤x i∧x i < 256) (h2:Au closed2 [.agg ⟨q⟩,.int .i64 6,.int .i64 4]=true) (ht:Aq 22 (Am 0 q)=q) :
 FK (n+32) 10 [.agg ⟨q⟩]=some (.bool true):=by
 obtain⟨K,h,w,e1,t0,h6,hK⟩:=oU (n+30) q x hl hq hc hx
 have hlw:=t0.len
 have ord:=t0.ord
 have ho:=t0.ok
 have hch:=t0.chk
 have h8:=lW (show K≤8 by omega) t0.iw
 have h8h:=lW (show K≤8 by omega) t0.ih
 have hw6:w.length≤6:=by omega
 have W:Bfs.World (Yo false) (Pp w) (Qu w) w:=by
  have e:Yo false=nbx:=funext Ahj
  rw[e];exact AcS w
 have hFb:∀ y,Pp w y→Qu w y≤1000:=λy _=>by unfold Qu;omega
 obtain⟨L',hI,e2⟩:=Ac0 h8 hw6 false (n+29) W hFb
 have hall:∀ y,Pp w y→y∈L':=λy hy=>Bfs.inv_end W hI _ y rfl hy
 obtain⟨j,pl⟩:=O9 (F:=Qu w) (n:=w.length) ord.1 h8h L' (λy hy=>⟨(hI.mem y hy).1,JN h8 (hI.mem y hy)⟩) (hall h ord)
 have fk:=OJ (Eo h 0) (OB (Qu w) L')
 rw[pl] at fk
 have fk:GD (.int .i64 (Int.ofNat (Eo h 0))) (Gw (OB (Qu w) L')) 0=some (some (j,IV (Int.ofNat (Qu w h)))):=fk
 have e29:=p29 (n+14) 0 0 K h w ho hch
 have e33:=p33 (n+3) 0 0 K h w ho hch
 have e16:=p16 (n+1) 0 0 t0
 have e23:FK (n+31) 23 [Sl.v 1 (sl 0 h)]=some (.int .i64 (Int.ofNat (Eo h 0))):=p23 (n+30) 0 h h8h h6
 have e26:=p26 (n+30) 0 0 w (by omega)
 have hxl:(Qv (Dn h w)).length≤100:=by
  have:=Yk _ _ ho.dv
  have:=Ji h.length (tb (bv h w))
  omega
 have e34:=p34 (n+28) 0 0 0 K h w (zz (Qv (Dn h w))) (by unfold zz;rw[List.length_map];omega)
 have hzz:Sl.mk (zz (Qv (Dn h w))).length 0 (pz (zz (Qv (Dn h w))))=ps (Qv (Dn h w)):=by
  rw[Ag6];unfold zz ps;rw[List.length_map]
 rw[lJ ho hch,hzz] at e34
 obtain⟨fd,e36⟩:=p36 (n+11) 0 0 hch
 have hgl:(Dn h w).length≤10:=Nat.le_trans (iR ho.dv) ho.n10
 have hgr:∀ r∈Dn h w,r.length < 50:=λr hr=>by have:=Yf _ _ ho.dv r hr;omega
 have e20:=p20 (n+29) 0 fd (Dn h w) hgl hgr
 have e37:=p37 0 0 K h w ho.n10 ho.len (n+30)
 have e18:=p18 (n+28) 0 0 0 hch hgl ho.dv
 have hFF:=Ac1 t0
 have hmen:=lJ ho hch
 unfold men at hmen
 rw[Hz hch] at hmen
 unfold tr S at e1 e29 e33 e16 e34 e36 e37 e18
 unfold S at e2 e26
 rw[q10]
 have e0:m10 (FK (n+31)) L [.agg ⟨q⟩]=fP (FK (n+31)) L q:=by
  show bb (an (Nat.beq (len q) 22) (Au Ah q)) (fP (FK (n+31)) L q) none=_
  rw[hl,hc];rfl
 rw[e0]
 have hb':Nat.ble (0+22) (len q)=true:=by rw[hl];rfl
 have hvm:Fj (Ef (.map (Gw (OB (Qu w) L')) L'.length))=some ⟨Gw (OB (Qu w) L'),L'.length⟩:=CX _ _
 have him:FC (.map (some 1)) 1=true:=rfl
 have h3:Au closed2 [.agg ⟨q⟩,I 6,I 4]=true:=h2
 have hps:Bj 2 (Sl.v 2 (ps (Qv (Dn h w))))=some (ps (Qv (Dn h w))):=rfl
 have hpn:Sl.n (ps (Qv (Dn h w)))=(Qv (Dn h w)).length:=rfl
 have hgn:Sl.n (LL 0 (Dn h w))=(Dn h w).length:=rfl
 -- the end
 have hlast:SA (FK (n+31)) 1000000 (LL 0 (Dn h w)) false K (sl 0 h) (sl 0 w)=some (.bool true):=by
  unfold SA
  rw[AA,e18,Ac,FW,Ac,Dj,Dj,EG,BP,Ac,BP,Ac,show Bd (0:Int) 0=true from rfl,Ak,hgn,Yi,Ak,p12 (n+30),Ac,BU,Ac]
  rfl
 have h102:SB (FK (n+31)) 1000000 (C8 h w) (LL 0 (Dn h w)) false K (sl 0 h) (sl 0 w)=some (.bool true):=by
  unfold SB
  have hsub:Aj .i64 (Int.sub (Int.ofNat (card h.length (tb (bv h w)))) (Int.ofNat (Dn h w).length))=C8 h w:=by
   have e:Int.sub (Int.ofNat (card h.length (tb (bv h w)))) (Int.ofNat (Dn h w).length)=C8 h w:=by
    unfold C8 Cs
    rw[ho.ln];rfl
   rw[e,hFF]
   have:=hFb h ord
   exact Oe _ (by show _≤((Qu w h:Nat):Int);omega) (by show ((Qu w h:Nat):Int)≤_;omega)
  rw[AA,e36,Ac,show Bj 1 (Sl.v 1 (LL fd (Dn h w)))=some (LL fd (Dn h w)) from rfl,Ac,e20,Ac,BU,Ac,show nt true=false from rfl,AA,e37,Ac,BP,Ac,hgn,hsub,Yi,show nt true=false from rfl]
  exact hlast
 have h101:QJ (FK (n+31)) 1000000 (C8 h w) (ps (Qv (Dn h w))) (LL 0 (Dn h w)) (sl 0 w) K (sl 0 h) (sl 0 w)=some (.bool true):=by
  unfold QJ
  rw[e26,Ac,BU,Ac,show nt true=false from rfl,AA,e34,Ac,BP,Ac,show nt (Bd (0:Int) 0)=false from rfl]
  exact h102
 have h105:=AiC (K:=K) h6 (n+30) hxl h101 1000000 0 h (by omega) (by omega) rfl hlw (by rw[List.drop_zero];exact hmen)
 unfold fP
 rw[hc,Ak,hb',Ak,ht,e1,Ac,RL,Ac,Dj,Dj,Dj,EG,BP,Ac,Dc,Ac,Dc,Ac,h3,Ak,e2,Ac,FW,Ac,Dj,Dj,EG,him,Ak,hvm,Ac]
 rw[FN,Ak,Ak,e29,Ac,FW,Ac,Dj,Dj,EG,BP,Ac,BP,Ac,e33,Ac,FW,Ac,Dj,Dj,EG,hps,Ac,BP,Ac,e16,Ac,FW,Ac,Dj,Dj,EG,show Bj 1 (Sl.v 1 (LL 0 (Dn h w)))=some (LL 0 (Dn h w)) from rfl,Ac,BP,Ac,nt0,AA,AA,AA,e23,Ac,BP,Ac,fk,Ac,Yn,Ac,hFF,Yi,show nt true=false from rfl,AA,hpn,AcM ho,hFF,Yi,show nt true=false from rfl]
 unfold Ps
 rw[AA,hpn,←hFF]
 exact h105
theorem X4 (l:List Int) (h22:l.length=22) (hl:∀ z∈l,0≤z∧z < 256):FK 32 10 [.agg ⟨l.map (Value.int .u8)⟩]=some (.bool true):=by
 have hc:Au Ah (l.map (Value.int .u8))=true:=by
  rw[Bh,List.all_eq_true]
  intro v hv
  obtain⟨z,_,rfl⟩:=List.mem_map.1 hv
  rfl
 refine dP 0 (l.map (Value.int .u8)) (λi=>l.getD i 0) (by rw[AV,List.length_map,h22]) (λi hi=>?_) hc (Aiz hl) ?_ ?_
 ·rw[BZ,List.getElem?_map,List.getElem?_eq_getElem (by omega)]
  simp[List.getD_eq_getElem?_getD,show i < l.length from by omega]
 ·show Au closed2 _=true
  match l,h22 with
  | [a0,a1,a2,a3,a4,a5,a6,a7,a8,a9,b0,b1,b2,b3,b4,b5,b6,b7,b8,b9,c0,c1],_=>rfl
 ·rw[Cg,Bz,List.drop_zero,List.take_of_length_le (by simp[h22])]
end Go.MnSM
