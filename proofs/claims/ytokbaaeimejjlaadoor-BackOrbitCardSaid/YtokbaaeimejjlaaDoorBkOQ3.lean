/- BackOrbit: the law. -/
import Derived.Test.YtokbaaeimejjlaaDoorBkOQ2x

set_option maxRecDepth 100000
set_option maxHeartbeats 4000000
namespace Go.BkQ
open Go Go.Sp Go.BkOM Go.BkH
theorem We (k:Nat) (args:List Value):Bp (k+1) 10160 args=MG (Bp k) L args:=by kernel_rfl
theorem OC (n M f1 f2:Nat) {m:Nat} (hm:m < 900000) {K:List (List Int)} (hK:K.length < 900000) (he:CY m K):∀ (d w i:Nat),i+d=K.length→d < w→Ha (Bp (n+1)) M w ⟨K.length,f1,RW K⟩ ⟨K.length,f2,RW K⟩ (.ofNat i)=some (.tuple ⟨[.bool true]⟩)
 | _,0,_,_,h=>by omega
 | 0, w + 1, i, hd, _ => by
  show G9 (Bp (n+1)) M (Ha (Bp (n+1)) M w) ⟨K.length,f1,RW K⟩ ⟨K.length,f2,RW K⟩ (.ofNat i)=_
  unfold G9
  simp only[Eo (show ¬ i < K.length from by omega),AA]
  rfl
 | d + 1, w + 1, i, hd, hw => by
  have h1:i < K.length:=by omega
  have gi:AL (RW K) (i*1)=some (Sl.v 1 (sl 0 K[i])):=L6 (l:=K) (i:=i) (by simp[h1]) _ (by omega)
  have hi:K[i].length=m:=he _ (List.getElem_mem h1)
  have e4:Bp (n+1) 10120 [Sl.v 1 (sl 0 K[i]),Sl.v 1 (sl 0 K[i])]=some (.tuple ⟨[.bool true]⟩):=by
   have:=Gn n 0 0 (a:=K[i]) (b:=K[i]) (by omega)
   rw[decide_eq_true rfl] at this;exact this
  have ih:=OC n M f1 f2 hm hK he d w (i+1) (by omega) (by omega)
  show G9 (Bp (n+1)) M (Ha (Bp (n+1)) M w) ⟨K.length,f1,RW K⟩ ⟨K.length,f2,RW K⟩ (.ofNat i)=_
  unfold G9
  simp only[Fj h1,Ak,Cx,Ac,Dn h1,gi,Dc,e4,FW,Dj,EG,BU,show nt true=false from rfl,AA,DC i (by omega),ih]
theorem Yn (n f1 f2:Nat) {m:Nat} (hm:m < 900000) {K:List (List Int)} (hK:K.length < 900000) (he:CY m K):Bp (n+2) 10160 [Sl.v 1 ⟨K.length,f1,RW K⟩,Sl.v 1 ⟨K.length,f2,RW K⟩]=some (.tuple ⟨[.bool true]⟩):=by
 rw[We]
 show bb (nt (Bd (Int.ofNat K.length) (Int.ofNat K.length))) (some (Value.tuple ⟨[.bool false]⟩)) (Ha (Bp (n+1)) L L ⟨K.length,f1,RW K⟩ ⟨K.length,f2,RW K⟩ (.ofNat 0))=_
 rw[DL,decide_eq_true rfl,show nt true=false from rfl,AA]
 exact OC n L f1 f2 hm hK he K.length L 0 (by omega) (by show _ < 1000000;omega)
theorem Aab (l:List (List Int)):Aq (l.length*1) (Am 0 (RW l))=RW l:=by
 have:=dS l []
 rwa [List.append_nil] at this
theorem AgB (l:List (List Int)):an (Nat.ble (0+l.length*1) (len (RW l))) (Au Ah (RW l))=true:=by
 have:=lV l []
 rwa [List.append_nil] at this
theorem mulN (a b:Nat) (h:a*b < 1000000):Aj .i64 (Int.mul (.ofNat a) (.ofNat b)) = .ofNat (a*b):=by
 have e:Int.mul (.ofNat a) (.ofNat b)=((a*b:Nat):Int):=(Int.natCast_mul a b).symm
 rw[e]
 exact Oe _ (by omega) (by omega)
section
variable (n f g:Nat) {r c k:Nat} {us:List Nat} {x:List Int}
theorem iD (hg:(r,c,us)∈Bq) (hk:k=1∨k=2∨k=3∨k=4) (hR:FL r c k x) (c1 c2:Nat) {K:List (List Int)} (hK:K=M9 r c x us) {q:List Int} (hq:q=Ey r c x us) :
 V5 (Bp (n+9)) L (sl f x) K.length c1 q.length c2 (.ofNat r) (.ofNat c) (.ofNat k) ⟨len us,g,CX us⟩ (RW K) (q.map I)=some (.bool true):=by
 have hp:=Co hg
 have hrc:r*c≤16:=Nat.mul_le_mul hp.r4 hp.c4
 have h8:=hp.len8
 have ho:=Wx (x:=x) hg hR.1
 rw[←hK,←hq] at ho
 obtain⟨tl,hh⟩:=PM (x:=x) hg hR.1
 rw[←hK] at hh
 have hK1:1≤K.length:=by rw[hh];simp
 have hz:=List.length_pos_of_mem (Kb hg)
 have hK8:K.length≤8:=by
  by_cases h0:q.length=0
  ·rw[h0] at ho;omega
  ·have:=Nat.le_mul_of_pos_right K.length (Nat.pos_of_ne_zero h0);omega
 have hq8:q.length≤8:=by
  have:=Nat.le_mul_of_pos_left q.length hK1;omega
 have heK:CY (r*c) K:=fun z hz=>by
  rw[hK] at hz
  exact Dr hg (fun t h=>h) _ (((FM (Dr (x:=x) hg fun t h=>h)).2 z).1 hz)
 have e14:=Agy (n+1) g f hg hk hR
 rw[←hK] at e14
 have e14:Bp (n+9) 14 [.agg ⟨[.int .i64 (.ofNat r),.int .i64 (.ofNat c),.int .i64 (.ofNat k),Sl.v 1 ⟨len us,g,CX us⟩]⟩,Sl.v 1 (sl f x)]=some (.tuple ⟨[Sl.v 1 ⟨K.length,0,RW K⟩,I 0]⟩):=e14
 have e15:=gV (n+1) g f hg hk hR
 rw[←hq] at e15
 have e15:Bp (n+9) 15 [.agg ⟨[.int .i64 (.ofNat r),.int .i64 (.ofNat c),.int .i64 (.ofNat k),Sl.v 1 ⟨len us,g,CX us⟩]⟩,Sl.v 1 (sl f x)]=some (.tuple ⟨[Sl.v 1 (sl 0 q),I 0]⟩):=e15
 have e16:Bp (n+9) 10160 [Sl.v 1 ⟨K.length,0,RW K⟩,Sl.v 1 ⟨K.length,0,RW K⟩]=some (.tuple ⟨[.bool true]⟩):=Yn (n+7) 0 0 (by omega) (by omega) heK
 have e12:Bp (n+9) 10120 [Sl.v 1 (sl 0 q),Sl.v 1 (Sl.mk q.length 0 (q.map I))]=some (.tuple ⟨[.bool true]⟩):=by
  have:=Gn (n+8) 0 0 (a:=q) (b:=q) (by omega)
  rw[decide_eq_true rfl] at this;exact this
 have hmul:Bd (Aj .i64 (Int.mul (Int.ofNat K.length) (Int.ofNat q.length))) (Int.ofNat (len us))=true:=by
  rw[mulN _ _ (by rw[ho];omega),ho,AV,DL];simp
 have ke:=VL n L f g hg hk hR (by show 100 < 1000000;omega) hK (by omega) K.length L 0 (by omega) (by show _ < 1000000;omega)
 have f1:an (Nat.ble (0+K.length*1) (len (RW K))) true=true:=by rw[CF,ble_eq,decide_eq_true (by rw[KZ];omega)];rfl
 have f2:an (Nat.ble (0+q.length*1) (len (q.map I))) true=true:=by rw[CF,ble_eq,decide_eq_true (by rw[AV];simp)];rfl
 unfold V5 Ug
 simp only[f1,f2,e14,Ac,FW,Dj,EG,Dc,BP,Ca,CK,Ak,e15,Aab,AgB,Wt,AA,e16,BU,show nt true=false from rfl,lT,Agw,I4,e12,hmul]
 exact ke
theorem Aac (k:Nat) (args:List Value):Bp (k+1) 3 args=m3 (Bp k) L args:=by kernel_rfl
theorem orbit_law (y0 y1 y2 y3:Int) (x:Nat→Int) (h0:0≤y0∧y0 < 256) (h1:0≤y1∧y1 < 256) (h2:0≤y2∧y2 < 256) (h3:0≤y3∧y3 < 256) (hx:∀ i,0≤x i∧x i < 256):Bp (n+10) 3 [.agg ⟨[.int .u8 y0,.int .u8 y1,.int .u8 y2,.int .u8 y3,.int .u8 (x 0),.int .u8 (x 1),.int .u8 (x 2),.int .u8 (x 3),.int .u8 (x 4),.int .u8 (x 5),.int .u8 (x 6),.int .u8 (x 7),.int .u8 (x 8),.int .u8 (x 9),.int .u8 (x 10),.int .u8 (x 11),.int .u8 (x 12),.int .u8 (x 13),.int .u8 (x 14),.int .u8 (x 15)]⟩]=some (.bool true):=by
 obtain⟨r,c,k,us,X,e9,hg,hk,hR⟩:=iB (n+8) y0 y1 y2 y3 x h0 h1 h2 h3 hx
 have e9:Bp (n+9) 9 [.agg ⟨[.int .u8 y0,.int .u8 y1,.int .u8 y2,.int .u8 y3,.int .u8 (x 0),.int .u8 (x 1),.int .u8 (x 2),.int .u8 (x 3),.int .u8 (x 4),.int .u8 (x 5),.int .u8 (x 6),.int .u8 (x 7),.int .u8 (x 8),.int .u8 (x 9),.int .u8 (x 10),.int .u8 (x 11),.int .u8 (x 12),.int .u8 (x 13),.int .u8 (x 14),.int .u8 (x 15)]⟩,I 4,I 4]=some (.tuple ⟨[.agg ⟨[.int .i64 (.ofNat r),.int .i64 (.ofNat c),.int .i64 (.ofNat k),Sl.v 1 ⟨len us,0,CX us⟩]⟩,Sl.v 1 (sl 0 X)]⟩):=e9
 have hp:=Co hg
 have hrc:r*c≤16:=Nat.mul_le_mul hp.r4 hp.c4
 have h8:=hp.len8
 obtain⟨c1,c2,k1,k2,k3,k4,k5⟩:=Nc (n+1) L 0 0 hg hk hR (by show 100 < 1000000;omega) us L 0 0 0 [] [] List.drop_zero (by show _ < 1000000;omega) (Nat.le_refl _) (Nat.le_refl _) (fun z hz=>by cases hz) rfl rfl rfl rfl
 rw[List.nil_append] at k3 k5
 rw[Aac]
 show m3_ (Bp (n+9)) L [.int .u8 y0,.int .u8 y1,.int .u8 y2,.int .u8 y3,.int .u8 (x 0),.int .u8 (x 1),.int .u8 (x 2),.int .u8 (x 3),.int .u8 (x 4),.int .u8 (x 5),.int .u8 (x 6),.int .u8 (x 7),.int .u8 (x 8),.int .u8 (x 9),.int .u8 (x 10),.int .u8 (x 11),.int .u8 (x 12),.int .u8 (x 13),.int .u8 (x 14),.int .u8 (x 15)]=_
 have ec:Au Ah ([.int .u8 y0,.int .u8 y1,.int .u8 y2,.int .u8 y3,.int .u8 (x 0),.int .u8 (x 1),.int .u8 (x 2),.int .u8 (x 3),.int .u8 (x 4),.int .u8 (x 5),.int .u8 (x 6),.int .u8 (x 7),.int .u8 (x 8),.int .u8 (x 9),.int .u8 (x 10),.int .u8 (x 11),.int .u8 (x 12),.int .u8 (x 13),.int .u8 (x 14),.int .u8 (x 15)]:List Value)=true:=rfl
 have eb:Nat.ble (0+20) (len ([.int .u8 y0,.int .u8 y1,.int .u8 y2,.int .u8 y3,.int .u8 (x 0),.int .u8 (x 1),.int .u8 (x 2),.int .u8 (x 3),.int .u8 (x 4),.int .u8 (x 5),.int .u8 (x 6),.int .u8 (x 7),.int .u8 (x 8),.int .u8 (x 9),.int .u8 (x 10),.int .u8 (x 11),.int .u8 (x 12),.int .u8 (x 13),.int .u8 (x 14),.int .u8 (x 15)]:List Value))=true:=rfl
 have et:Aq 20 (Am 0 ([.int .u8 y0,.int .u8 y1,.int .u8 y2,.int .u8 y3,.int .u8 (x 0),.int .u8 (x 1),.int .u8 (x 2),.int .u8 (x 3),.int .u8 (x 4),.int .u8 (x 5),.int .u8 (x 6),.int .u8 (x 7),.int .u8 (x 8),.int .u8 (x 9),.int .u8 (x 10),.int .u8 (x 11),.int .u8 (x 12),.int .u8 (x 13),.int .u8 (x 14),.int .u8 (x 15)]:List Value))=[.int .u8 y0,.int .u8 y1,.int .u8 y2,.int .u8 y3,.int .u8 (x 0),.int .u8 (x 1),.int .u8 (x 2),.int .u8 (x 3),.int .u8 (x 4),.int .u8 (x 5),.int .u8 (x 6),.int .u8 (x 7),.int .u8 (x 8),.int .u8 (x 9),.int .u8 (x 10),.int .u8 (x 11),.int .u8 (x 12),.int .u8 (x 13),.int .u8 (x 14),.int .u8 (x 15)]:=rfl
 have e2:Au closed2 [.agg ⟨[.int .u8 y0,.int .u8 y1,.int .u8 y2,.int .u8 y3,.int .u8 (x 0),.int .u8 (x 1),.int .u8 (x 2),.int .u8 (x 3),.int .u8 (x 4),.int .u8 (x 5),.int .u8 (x 6),.int .u8 (x 7),.int .u8 (x 8),.int .u8 (x 9),.int .u8 (x 10),.int .u8 (x 11),.int .u8 (x 12),.int .u8 (x 13),.int .u8 (x 14),.int .u8 (x 15)]⟩,.int .i64 4,.int .i64 4]=true:=rfl
 unfold m3_
 simp only[ec,eb,et,e2,Ak,e9,Ac,FW,Dj,EG,RL,BP,Dc]
 refine Eq.trans k5 ?_
 unfold XQ
 rw[Ca,CK,Ak,Ak]
 have heA:CY (r*c) (FN [] (BB r c X us)):=KU (fun z hz=>by cases hz) (Dr hg fun t h=>h)
 have hAl:(FN [] (BB r c X us)).length≤8:=by
  have:=U0 (l:=BB r c X us) (K:=[])
  rw[show (BB r c X us).length=us.length from by unfold BB;simp] at this
  simp at this;omega
 refine Eq.trans (OA (n+8) L (sl 0 X) ⟨len us,0,CX us⟩ (Ey r c X us).length c1 c2 (.ofNat r) (.ofNat c) (.ofNat k) ((Ey r c X us).map I) (CK _) (m:=r*c) (by omega) (N:=(FN [] (BB r c X us)).length) (by omega) (by show 1000 < 1000000;omega) (FN [] (BB r c X us)).length L 0 (FN [] (BB r c X us)) (by show _ < 1000000;omega) (by omega) rfl heA) ?_
 have hpl:(Je Gp (FN [] (BB r c X us)).length (FN [] (BB r c X us))).length=(FN [] (BB r c X us)).length:=(Ki _ _).length_eq
 have hpk:=Wz (x:=X) hg
 rw[←hpl,hpl,hpk]
 rw[hpk] at hpl
 rw[←hpl]
 exact iD n 0 0 hg hk hR c1 c2 rfl rfl
end
end Go.BkQ
