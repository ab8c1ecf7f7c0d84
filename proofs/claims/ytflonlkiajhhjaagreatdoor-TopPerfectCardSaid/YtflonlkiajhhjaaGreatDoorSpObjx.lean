/- Made from wip. -/
import Derived.Test.YtflonlkiajhhjaaGreatDoorSpNextx
import Derived.ChangeKeysEq
import Derived.RowKit3
import Derived.Lib.LaidTab
import Derived.WalkKit
import Derived.ProofKit
import Derived.OpenShut
import Derived.Deep.DeepHandedRow
import Derived.Test.YtflonlkiajhhjaaGreatDoorSpSymx
import Derived.ReadAgain

namespace Go.Sp

def kJ (p:TypeId→List Value→Prop):List Field→Nat→List Value→Prop
 | [],_,zs=>zs=[]
 | f :: r, off, zs => f.name ≠ "_" ∧ f.offset = off ∧ ∃ z1 z2, zs = z1 ++ z2 ∧ p f.type z1 ∧ kJ p r (off + z1.length) z2

def Fl (P:Program):Nat→TypeId→List Value→Prop
 | 0,_,_=>False
 | d + 1, t, zs => P.cellsOf t = zs.length ∧ (
  ((∃ k,P.underlying t=some (.int k))∧(∃ k n,zs=[.int k n]))∨(P.underlying t=some .bool∧∃ b,zs=[.bool b])∨(P.underlying t=some .string∧∃ s,zs=[.string s]) ∨
  (∃ l e z1,P.underlying t=some (.array l e)∧Fl P d e z1∧zs=AF z1 l) ∨
  (∃ fs,P.underlying t=some (.struct fs)∧P.stoodInHeld t=false∧kJ (Fl P d) fs.toList 0 zs))

theorem Iw {z1 z2 xs:List Value} (h:Bo (z1++z2) xs=true):Bo z1 (xs.take z1.length)=true∧Bo z2 (xs.drop z1.length)=true:=by
 induction z1 generalizing xs with
 | nil=>exact⟨rfl,h⟩
 | cons z z1 ih => cases xs with
  | nil=>cases h
  | cons x xs =>
   obtain⟨h3,h4⟩:=Av (show an (EB z x) (Bo (z1++z2) xs)=true from h)
   obtain⟨h5,h6⟩:=ih h4
   exact⟨by show an (EB z x) (Bo z1 (xs.take z1.length))=true;rw[h3,h5];rfl,h6⟩

theorem JL {n:Nat} {xs ys:List Value} {b:Bool} (h:Cj xs ys=some b):∃ p q,Cj (xs.take n) (ys.take n)=some p∧Cj (xs.drop n) (ys.drop n)=some q∧b=(p && q):=by
 induction xs generalizing ys b n with
 | nil => cases ys with
  | nil=>refine⟨true,true,?_,?_,?_⟩ <;> first | (simp;rfl) | (injection h with h;simp[←h])
  | cons y ys=>cases h
 | cons x xs ih => cases ys with
  | nil=>cases h
  | cons y ys =>
   cases n with
   | zero=>exact⟨true,b,rfl,h,by simp⟩
   | succ n =>
    obtain⟨p,hp,h1⟩:=Ab (show oo (DK x y) none (fun b=>oo (Cj xs ys) none fun c=>some (an b c))=some b from h)
    obtain⟨q,hq,h2⟩:=Ab h1
    obtain⟨p',q',h3,h4,rfl⟩:=ih (n:=n) hq
    injection h2 with h2
    refine⟨an p p',q',?_,h4,?_⟩
    ·show oo (DK x y) none (fun b=>oo (Cj (xs.take n) (ys.take n)) none fun c=>some (an b c))=_
     rw[hp,Ac,h3,Ac]
    ·rw[←h2];simp[CF,Bool.and_assoc]

section
variable {P:Program}

theorem Qm {t:TypeId} {d:TypeDesc} (h:P.underlying t=some d) (w:World):(isAgg t).run P w = .ok (DU d) w:=by
 simp only[isAgg,Sem.run_bind,run_underlying h,Result.andThen_ok]
 cases d <;> rfl

def Boxed (P:Program) (t:TypeId) (zs:List Value) (v:Value):Prop:=∃ d,P.underlying t=some d∧((DU d=true∧v = .agg ⟨zs⟩)∨(DU d=false∧zs=[v]))

theorem Fl.info {d:Nat} {t:TypeId} {zs:List Value} (h:Fl P d t zs):∃ k i,P.underlying t=some k∧P.info? t=some i∧P.cellsOf t=zs.length:=by
 cases d with
 | zero=>exact h.elim
 | succ d =>
  obtain⟨hc,h⟩:=h
  have:∃ k,P.underlying t=some k:=by
   rcases h with⟨⟨k,h⟩,_⟩ | ⟨h,_⟩ | ⟨h,_⟩ | ⟨l,e,z1,h,_⟩ | ⟨fs,h,_⟩ <;> exact⟨_,h⟩
  obtain⟨k,hk⟩:=this
  obtain⟨i,hi⟩:=info_of_underlying hk
  exact⟨k,i,hk,hi,hc⟩

theorem Fl.part {d:Nat} {t:TypeId} {zs:List Value} (h:Fl P d t zs) {xs:List Value} {off:Nat} (hle:off+zs.length≤xs.length) (w:World) :
 ∃ v,(Go.part t ⟨xs⟩ off).run P w = .ok v w∧Boxed P t ((xs.drop off).take zs.length) v:=by
 obtain⟨k,i,hk,hi,hc⟩:=h.info
 by_cases ha:DU k=true
 ·refine⟨.agg ⟨(xs.drop off).take zs.length⟩,?_,k,hk,.inl ⟨ha,rfl⟩⟩
  simp only[Go.part,Sem.run_bind,Qm hk,ha,Result.andThen_ok,if_true,run_sizeOf w hi,Sem.run_pure,hc]
  congr 2
  simp[List.extract_toArray,List.extract_eq_take_drop]
 ·have ha:DU k=false:=by simpa using ha
  have hn:zs.length=1:=by
   cases d with
   | zero=>exact h.elim
   | succ d =>
    rcases h.2 with⟨_,_,_,h⟩ | ⟨_,_,h⟩ | ⟨_,_,h⟩ | ⟨l,e,z1,h,_⟩ | ⟨fs,h,_⟩
    ·rw[h];rfl
    ·rw[h];rfl
    ·rw[h];rfl
    ·rw[hk] at h;cases h;cases ha
    ·rw[hk] at h;cases h;cases ha
  rw[hn] at hle ⊢
  have hlt:off < xs.length:=by omega
  refine⟨xs[off],?_,k,hk,.inr ⟨ha,?_⟩⟩
  ·simp only[Go.part,Sem.run_bind,Qm hk,ha,Result.andThen_ok,Bool.false_eq_true,if_false]
   simp[List.getElem?_eq_getElem hlt]
  ·rw[List.drop_eq_getElem_cons hlt];rfl

theorem Mv (z:List Value) (n:Nat):(AF z n).length=n*z.length:=by
 induction n with
 | zero=>show ([]:List Value).length=_;simp
 | succ n ih=>show (Br z (AF z n)).length=_;rw[BH,List.length_append,ih,Nat.succ_mul];omega

theorem VG {d:Nat} {e:TypeId} {z1:List Value} (he:Fl P d e z1) {D:Nat}
 (ih:∀ (xs ys:List Value) (x y:Value) (b:Bool) (w:World),Bo z1 xs=true→Boxed P e xs x→Boxed P e ys y→Cj xs ys=some b→(Op.equalIn D e x y).run P w = .ok b w) (w:World) :
 ∀ (k i : Nat) (xs ys : List Value) (b : Bool), xs.length = (i + k) * z1.length → Bo (AF z1 k) (xs.drop (i * z1.length)) = true → Cj (xs.drop (i * z1.length)) (ys.drop (i * z1.length)) = some b → ys.length = xs.length →
  (Op.eqItems D e z1.length ⟨xs⟩ ⟨ys⟩ (List.range' i k)).run P w = .ok b w:=by
 intro k
 induction k with
 | zero =>
  intro i xs ys b hl _ h hy
  rw[List.drop_eq_nil_of_le (by simp at hl;omega),List.drop_eq_nil_of_le (by simp at hl;omega)] at h
  injection h with h;subst h
  simp[Op.eqItems]
 | succ k ihk =>
  intro i xs ys b hl hk h hy
  have e1:(i+(k+1))*z1.length=i*z1.length+z1.length+k*z1.length:=by rw[Nat.add_mul,Nat.succ_mul];omega
  have hl':=hl
  rw[e1] at hl'
  obtain⟨x,hx,bx⟩:=he.part (xs:=xs) (off:=i*z1.length) (by omega) w
  obtain⟨y,hy',byy⟩:=he.part (xs:=ys) (off:=i*z1.length) (by omega) w
  obtain⟨p,q,h1,h2,rfl⟩:=JL (n:=z1.length) h
  have hk:Bo (z1++AF z1 k) (xs.drop (i*z1.length))=true:=by have:=hk;rwa [show AF z1 (k+1)=Br z1 (AF z1 k) from rfl,BH] at this
  obtain⟨hk1,hk2⟩:=Iw hk
  rw[List.drop_drop] at hk2
  rw[List.drop_drop,List.drop_drop] at h2
  have hrun:=ih _ _ x y p w hk1 bx byy h1
  simp only[List.range',Op.eqItems,Sem.run_bind,hx,hy',hrun,Result.andThen_ok]
  cases p with
  | false=>simp
  | true =>
   simp only[Bool.true_and,if_true]
   have e2:(i+1)*z1.length=i*z1.length+z1.length:=by rw[Nat.succ_mul]
   refine ihk (i+1) xs ys q (by rw[hl];congr 1;omega) (by rw[e2];exact hk2) ?_ hy
   rw[e2]
   exact h2

theorem Jz (D:Nat) {t:TypeId} {fs:Array Field} (xs ys:Array Value) (hu:P.underlying t=some (.struct fs)) (hst:P.stoodInHeld t=false) (w:World) :
 (Op.equalIn (D+1) t (.agg xs) (.agg ys)).run P w=(Op.eqFields D xs ys fs.toList).run P w:=by
 have hf:P.fieldsOf t=fs:=by unfold Program.fieldsOf;rw[hu]
 have:=run_equalIn_struct w D t xs ys (by rw[hf];exact hu) hst
 rw[this,hf]

theorem TJ {d:Nat} {D:Nat}
 (ih:∀ (t:TypeId) (zs:List Value),Fl P d t zs→∀ (xs ys:List Value) (x y:Value) (b:Bool) (w:World),Bo zs xs=true→Boxed P t xs x→Boxed P t ys y→Cj xs ys=some b→(Op.equalIn D t x y).run P w = .ok b w) (w:World) :
 ∀ (fs : List Field) (off : Nat) (zs xs ys : List Value) (b : Bool), kJ (Fl P d) fs off zs → Bo zs (xs.drop off) = true → off ≤ xs.length → Cj (xs.drop off) (ys.drop off) = some b → ys.length = xs.length →
  (Op.eqFields D ⟨xs⟩ ⟨ys⟩ fs).run P w = .ok b w:=by
 intro fs
 induction fs with
 | nil =>
  intro off zs xs ys b hf hk ho h hy
  have hf:zs=[]:=hf
  subst hf
  have hl:=Fg hk
  simp only[List.length_drop,List.length_nil] at hl
  rw[List.drop_eq_nil_of_le (by omega),List.drop_eq_nil_of_le (by omega)] at h
  injection h with h;subst h
  simp[Op.eqFields]
 | cons f fs ihf =>
  intro off zs xs ys b hf hk ho h hy
  obtain⟨h1,h2,z1,z2,rfl,h3,h4⟩:=hf
  have hl:=Fg hk
  simp only[List.length_drop,List.length_append] at hl
  obtain⟨x,hx,bx⟩:=h3.part (xs:=xs) (off:=off) (by omega) w
  obtain⟨y,hy',byy⟩:=h3.part (xs:=ys) (off:=off) (by omega) w
  obtain⟨p,q,g1,g2,rfl⟩:=JL (n:=z1.length) h
  obtain⟨hk1,hk2⟩:=Iw hk
  rw[List.drop_drop] at hk2
  rw[List.drop_drop,List.drop_drop] at g2
  have hrun:=ih f.type z1 h3 _ _ x y p w hk1 bx byy g1
  simp only[Op.eqFields,if_pos h1,Sem.run_bind,h2,hx,hy',hrun,Result.andThen_ok]
  cases p with
  | false=>simp
  | true =>
   simp only[Bool.not_true,Bool.false_eq_true,if_false,Sem.run_pure,Result.andThen_ok,Bool.true_and]
   exact ihf _ z2 xs ys q h4 hk2 (by omega) g2 hy

theorem Fl.equal {d:Nat}:∀ {t:TypeId} {zs:List Value},Fl P d t zs→∀ (D:Nat) (xs ys:List Value) (x y:Value) (b:Bool) (w:World),Bo zs xs=true→Boxed P t xs x→Boxed P t ys y→Cj xs ys=some b →
 (Op.equalIn (D+d) t x y).run P w = .ok b w:=by
 induction d with
 | zero=>intro t zs h;exact h.elim
 | succ d ih =>
  intro t zs h D xs ys x y b w hn hx hy hb
  obtain⟨kx,hkx,hx⟩:=hx
  obtain⟨ky,hky,hy⟩:=hy
  rw[hkx] at hky;cases hky
  have hlen:=Mj hb
  have hlz:=Fg hn
  have leaf:DU kx=false→xs=[x]∧ys=[y]∧DK x y=some b:=fun hag=>by
   rcases hx with⟨h',_⟩ | ⟨_,rfl⟩
   ·rw[hag] at h';cases h'
   rcases hy with⟨h',_⟩ | ⟨_,rfl⟩
   ·rw[hag] at h';cases h'
   obtain⟨p,hp,h1⟩:=Ab (show oo (DK x y) none (fun b=>oo (Cj [] []) none fun c=>some (an b c))=some b from hb)
   have h1:some (an p true)=some b:=h1
   injection h1 with h1
   have hpb:p=b:=by simpa [CF] using h1
   exact⟨rfl,rfl,by rw[hp,hpb]⟩
  have agg:DU kx=true→x = .agg ⟨xs⟩∧y = .agg ⟨ys⟩:=fun hag=>by
   rcases hx with⟨_,h1⟩ | ⟨h',_⟩
   ·rcases hy with⟨_,h2⟩ | ⟨h',_⟩
    ·exact⟨h1,h2⟩
    ·rw[hag] at h';cases h'
   ·rw[hag] at h';cases h'
  show (Op.equalIn ((D+d)+1) t x y).run P w=_
  rcases h.2 with⟨⟨k,hu⟩,_,_,rfl⟩ | ⟨hu,_,rfl⟩ | ⟨hu,_,rfl⟩ | ⟨l,e,z1,hu,he,rfl⟩ | ⟨fs,hu,hst,hf⟩
  ·rw[hkx] at hu;cases hu
   obtain⟨rfl,rfl,hc⟩:=leaf rfl
   obtain⟨h3,_⟩:=Av (show an (isS (ES x)) _=true from hn)
   cases hv:ES x with
   | none=>rw[hv] at h3;cases h3
   | some p =>
    have:=Cm hv;subst this
    obtain⟨q,hq,h5⟩:=Ab (show oo (ES y) none (fun q=>pp q fun j b=>bb (De p.1 j) (some (Bd p.2 b)) none)=some b from hc)
    rw[Bg] at h5
    obtain⟨h6,h7⟩:=Ae h5
    have:=Cm hq;subst this
    have:=CZ h6
    rw[←this,run_equalIn_int w (D+d) t p.1 k p.2 q.2 hkx]
    injection h7 with h7
    rw[←h7,Lr]
  ·rw[hkx] at hu;cases hu
   obtain⟨rfl,rfl,hc⟩:=leaf rfl
   obtain⟨h3,_⟩:=Av (show an (isS (Bf x)) _=true from hn)
   cases hv:Bf x with
   | none=>rw[hv] at h3;cases h3
   | some p =>
    have:=BV hv;subst this
    obtain⟨q,hq,h5⟩:=Ab (show oo (Bf y) none (fun b=>some (bq p b))=some b from hc)
    have:=BV hq;subst this
    rw[run_equalIn_bool w (D+d) t p q hkx]
    injection h5 with h5
    rw[←h5];cases p <;> cases q <;> rfl
  ·rw[hkx] at hu;cases hu
   obtain⟨rfl,rfl,hc⟩:=leaf rfl
   obtain⟨h3,_⟩:=Av (show an (isS (Gx x)) _=true from hn)
   cases hv:Gx x with
   | none=>rw[hv] at h3;cases h3
   | some p =>
    have:=Cw hv;subst this
    obtain⟨q,hq,h5⟩:=Ab (show oo (Gx y) none (fun b=>some (p == b))=some b from hc)
    have:=Cw hq;subst this
    rw[run_equalIn_string w (D+d) t p q hkx]
    injection h5 with h5
    rw[←h5,beq_toListBytes]
  ·rw[hkx] at hu;cases hu
   obtain⟨rfl,rfl⟩:=agg rfl
   obtain⟨k,i,hk,hi,hc⟩:=he.info
   rw[run_equalIn_array (d:=D+d) w ⟨xs⟩ ⟨ys⟩ hkx hi,List.range_eq_range',hc]
   exact VG he (fun xs ys x y b w hk bx byy hb=>ih he D xs ys x y b w hk bx byy hb) w l 0 xs ys b (by rw[hlz,Mv,Nat.zero_add]) (by simpa using hn) (by simpa using hb) hlen.symm
  ·rw[hkx] at hu;cases hu
   obtain⟨rfl,rfl⟩:=agg rfl
   rw[Jz (D+d) ⟨xs⟩ ⟨ys⟩ hkx hst w]
   exact TJ (fun t zs hf xs ys x y b w hk bx byy hb=>ih hf D xs ys x y b w hk bx byy hb) w fs.toList 0 zs xs ys b hf (by simpa using hn) (Nat.zero_le _) (by simpa using hb) hlen.symm

theorem TK {α:Type} {l:List α} {f:α→Unit→Sem (ForInStep Unit)} {w:World} (h:∀ a∈l,(f a ()).run P w = .ok (.yield ()) w):(forIn l () f).run P w = .ok () w:=by
 induction l with
 | nil=>simp
 | cons a l ih =>
  simp only[List.forIn_cons,Sem.run_bind,h a (by simp),Result.andThen_ok]
  exact ih fun b hb=>h b (by simp[hb])

theorem Fl.check {d:Nat}:∀ {t:TypeId} {zs:List Value},Fl P d t zs→∀ (e:Bool) (D:Nat) (xs:List Value) (x:Value) (w:World),xs.length=zs.length→Boxed P t xs x →
 (Instr.checkKey e (D+d) t x).run P w = .ok () w:=by
 induction d with
 | zero=>intro t zs h;exact h.elim
 | succ d ih =>
  intro t zs h e D xs x w hn hx
  obtain⟨kx,hkx,hx⟩:=hx
  have agg:DU kx=true→x = .agg ⟨xs⟩:=fun hag=>by
   rcases hx with⟨_,h1⟩ | ⟨h',_⟩
   ·exact h1
   ·rw[hag] at h';cases h'
  show (Instr.checkKey e ((D+d)+1) t x).run P w=_
  rcases h.2 with⟨⟨k,hu⟩,_⟩ | ⟨hu,_⟩ | ⟨hu,_⟩ | ⟨l,el,z1,hu,he,rfl⟩ | ⟨fs,hu,hst,hf⟩
  ·simp[Instr.checkKey,run_underlying hu]
  ·simp[Instr.checkKey,run_underlying hu]
  ·simp[Instr.checkKey,run_underlying hu]
  ·rw[hkx] at hu;cases hu
   obtain rfl:=agg rfl
   obtain⟨k,i,hk,hi,hc⟩:=he.info
   rw[Mv] at hn
   simp only[Instr.checkKey,Sem.run_bind,run_underlying hkx,Result.andThen_ok,Std.Legacy.Range.forIn_eq_forIn_range',Std.Legacy.Range.size,Nat.sub_zero,Nat.add_one_sub_one,Nat.div_one]
   have hall:∀ j∈List.range' 0 l,(do let n ←sizeOf el;let v ←Go.part el ⟨xs⟩ (j*n);Instr.checkKey e (D+d) el v;pure (ForInStep.yield PUnit.unit):Sem (ForInStep PUnit)).run P w = .ok (.yield ()) w:=fun j hj=>by
    have hj:j < l:=by simpa using hj
    have hle:j*z1.length+z1.length≤xs.length:=by
     rw[hn,←Nat.succ_mul];exact Nat.mul_le_mul_right _ hj
    obtain⟨v,hv,bv⟩:=he.part (xs:=xs) (off:=j*z1.length) hle w
    have:=ih he e D _ v w (by simp;omega) bv
    simp[run_sizeOf w hi,hc,hv,this]
   rw[TK hall];rfl
  ·rw[hkx] at hu;cases hu
   obtain rfl:=agg rfl
   have main:∀ (fs:List Field) (off:Nat) (zs:List Value),kJ (Fl P d) fs off zs→off+zs.length=xs.length→∀ f∈fs,∃ v,(Go.part f.type ⟨xs⟩ f.offset).run P w = .ok v w∧(Instr.checkKey e (D+d) f.type v).run P w = .ok () w:=by
    intro fs
    induction fs with
    | nil=>intro _ _ _ _ f hf;cases hf
    | cons g gs ihg =>
     intro off zs hf hl f hfm
     obtain⟨h1,h2,z1,z2,rfl,h3,h4⟩:=hf
     simp only[List.length_append] at hl
     rcases List.mem_cons.1 hfm with rfl | hm
     ·obtain⟨v,hv,bv⟩:=h3.part (xs:=xs) (off:=off) (by omega) w
      exact⟨v,by rw[h2];exact hv,ih h3 e D _ v w (by simp;omega) bv⟩
     ·exact ihg _ _ h4 (by omega) f hm
   simp only[Instr.checkKey,Sem.run_bind,run_underlying hkx,Result.andThen_ok]
   rw[←Array.forIn_toList]
   have hall : ∀ f ∈ fs.toList, (if f.name ≠ "_" then do let v ← Go.part f.type ⟨xs⟩ f.offset; Instr.checkKey e (D + d) f.type v; pure (ForInStep.yield PUnit.unit) else pure (ForInStep.yield PUnit.unit) : Sem (ForInStep PUnit)).run P w = .ok (.yield ()) w := fun f hfm => by
    by_cases hne : f.name ≠ "_"
    ·obtain⟨v,hv,hc⟩:=main fs.toList 0 zs hf (by omega) f hfm
     simp[hne,hv,hc]
    ·simp[hne]
   rw[TK hall];rfl

theorem Fl.ok {d:Nat} {t:TypeId} {zs:List Value} (h:Fl P d t zs) (hd:d≤10000) (hag:∃ k,P.underlying t=some k∧DU k=true) (hg:P.eqGuardType P.depth t=false):Q7 P t zs:=by
 obtain⟨k,hk,ha⟩:=hag
 refine⟨fun xs ys b w hl hb=>?_,hg,fun xs w e hl=>?_⟩
 ·have:=h.equal (10000 - d) xs ys (.agg ⟨xs⟩) (.agg ⟨ys⟩) b w hl ⟨k,hk,.inl ⟨ha,rfl⟩⟩ ⟨k,hk,.inl ⟨ha,rfl⟩⟩ hb
  rwa [Nat.sub_add_cancel hd] at this
 ·have:=h.check e (10000 - d) xs (.agg ⟨xs⟩) w hl ⟨k,hk,.inl ⟨ha,rfl⟩⟩
  rwa [Nat.sub_add_cancel hd] at this
end
end Go.Sp
namespace Go.Sp

def Tr.All {α:Type} (p:Nat→α→Prop):Tr α→Prop
 | .nil=>True
 | .node v l r=>(match v with | some a=>p 0 a | none=>True)∧Tr.All (fun i=>p (2*i+1)) l∧Tr.All (fun i=>p (2*i+2)) r

theorem Tr.All.get {α:Type} {t:Tr α}:∀ {p:Nat→α→Prop},t.All p→∀ {i:Nat} {a:α},t.get i=some a→p i a:=by
 induction t with
 | nil=>intro p _ i a h;cases h
 | node v l r ihl ihr =>
  intro p h i a hg
  obtain⟨h0,h1,h2⟩:=h
  cases i with
  | zero =>
   have:v=some a:=hg
   subst this;exact h0
  | succ j =>
   have hg:Bool.rec (motive:=fun _=>Option α) (r.get (Nat.div j 2)) (l.get (Nat.div j 2)) (Nat.beq (Nat.mod j 2) 0)=some a:=hg
   have e1:Nat.div j 2=j / 2:=rfl
   have e2:Nat.mod j 2=j % 2:=rfl
   rw[e1,e2] at hg
   cases hb:Nat.beq (j % 2) 0 with
   | true =>
    rw[hb] at hg
    have:=ihl h1 hg
    have hm:=Nat.eq_of_beq_eq_true hb
    have:p (2*(j / 2)+1) a:=this
    rwa [show 2*(j / 2)+1=j+1 by omega] at this
   | false =>
    rw[hb] at hg
    have:=ihr h2 hg
    have hm:j % 2≠0:=fun e=>by rw[e] at hb;cases hb
    have:p (2*(j / 2)+2) a:=this
    rwa [show 2*(j / 2)+2=j+1 by omega] at this

theorem Ar.by {P : Program} {gl : List Nat} {f : FuncId} {n : Nat} {x : RC} {rs : List ResultVar} {fd : Func} (h1 : P.funcs[f]? = some fd)
 (h2:(match fd.body with | some c=>BF c x | none=>none)=some x) (h3:(match fd.body with | some c=>AU gl c | none=>false)=true)
 (h4 : fd.ntmps = n) (h5 : fd.results.toList = rs) (h6 : (fd.name == "runtime.NumGoroutine") = false) : Ar P gl f ⟨n, x, rs⟩ := by
 cases hb:fd.body with
 | none=>rw[hb] at h2;cases h2
 | some c =>
  rw[hb] at h2 h3
  exact⟨fd,c,h1,hb,h4,h5,h6,Y7 h2,h3⟩

structure Cu (P:Program) (t:TypeId) (i:TI):Prop where
 ok:P.underlying t=some i.und∧∃ inf,P.info? t=some inf∧inf.size=i.size∧inf.bytes=i.bytes∧inf.zero=i.zero
 plain:oo i.zero true Ee=true
 flat:i.flat=true→∃ zs,i.zero=some (.agg ⟨zs⟩)∧Q7 P t zs
theorem Cu.by {P : Program} {t : TypeId} {i : TI} {inf : TypeInfo} (h1 : P.underlying t = some i.und) (h2 : P.info? t = some inf) (h3 : inf.size = i.size) (h4 : inf.bytes = i.bytes) (h5 : inf.zero = i.zero)
 (h6:oo i.zero true Ee=true) (h7:i.flat=true→∃ zs,i.zero=some (.agg ⟨zs⟩)∧Q7 P t zs):Cu P t i:=⟨⟨h1,inf,h2,h3,h4,h5⟩,h6,h7⟩
theorem Jm.of_all {P:Program} {t:Tr TI} (h:t.All (Cu P)):Jm P t.get where
 ok:=fun _ _ e=>(h.get e).ok
 plain:=fun _ i z e hz=>by have:=(h.get e).plain;rw[hz] at this;exact this
 flat:=fun _ _ zs e hf hz=>by
  obtain⟨zs',h1,h2⟩:=(h.get e).flat hf
  rw[hz] at h1;cases h1;exact h2
end Go.Sp
namespace Go.Sp
open Go.RowKit

def J9 (W w':World):Prop:=W.keptBut w' (fun _=>False)∧(∀ a,a.block < W.heap.size→w'.frozen? a=W.frozen? a)∧W.heap.size≤w'.heap.size
theorem grown_of {H H':Aa} {R R':Ren} {w w':World} (hp:Ba H R w H' R' w') (himm:∀ id p,R.f id=some p→(H.get id).immB=true):J9 w w':=by
 have hk:∀ c,c < w.heap.size→w'.heap[c]?=w.heap[c]?:=fun c hc=>hp.frame c hc fun id β h=>himm id _ h
 refine⟨⟨hp.side.1,hp.side.2.1,fun i hi=>?_⟩,hp.side.2.2,hp.grow⟩
 rw[hk i hi]
 cases w.heap[i]? with
 | none=>trivial
 | some o=>cases o <;> simp

theorem bD {H:Aa} {R:Ren} {w:World} (hwf:H.wf) (hR:∀ id c β,R.f id=some (c,β)→id=c∧β=0∧∃ xs C t fz,H.get id = .cells xs true false []∧w.heap[c]?=some (.cells C t fz)∧C.size=R.sz c∧xs.length≤C.size∧Du R xs 0 C)
 (hanc:∀ id,(H.get id).ancOf=[]) (hro:∀ c C,R.ro c=some C→(∃ t fz,w.heap[c]?=some (.cells C t fz))):Ck H R w:=by
 refine ⟨fun id c β h => ?_, fun id c β h => ?_, fun id c β id' β' h h' hne => ?_, fun id a ha => ?_, hwf, fun c C hc => ⟨hro c C hc, fun id β h => ?_⟩⟩
 ·obtain⟨rfl,rfl,xs,C,t,fz,h1,h2,_⟩:=hR id c β h
  exact⟨hwf.lt (by rw[h1];simp),(Array.getElem?_eq_some_iff.1 h2).1⟩
 ·obtain⟨rfl,rfl,xs,C,t,fz,h1,h2,h3,h4,h5⟩:=hR id c β h
  rw[h1]
  exact⟨C,t,fz,h2,h3,by omega,h5,fun e=>by cases e⟩
 ·exact absurd ((hR id c β h).1.trans (hR id' c β' h').1.symm) hne
 ·rw[hanc id] at ha;cases ha
 ·obtain⟨_,_,xs,C,t,fz,h1,_⟩:=hR id c β h
  rw[h1];rfl

end Go.Sp
namespace Go.Sp
open Go.ChangeShapes Go.WideShapes Go.ChangeAt Go.RowKit

theorem bE {H:Type} {enc:TypeId×Value→H} {P:Program} {f:Func} {s:ChangeSpec} {apart fresh handsOn again:Bool} {W W':World} {args:Array Value} {v:Value} {ds gs:List (DataW H)} {before pa pv:List MemPlace}
 (hW:DataW.Whole enc P f.params.toList s.vars apart W args.toList ds gs before)
 (hres:∀ (b:Nat) (sp:Nat→Bool) (hd:Bool),DataW.TrodAll enc P W' b sp hd f.resultTypes.toList (v.resultList f.resultTypes.size) (s.fn H (ds++gs)).results [])
 (hargs:∀ sp:Nat→Bool,(∀ p∈before,sp p.block=true)→DataW.TrodAll enc P W' 0 sp true f.params.toList args.toList (s.fn H (ds++gs)).args pa)
 (hvars:∀ sp:Nat→Bool,(∀ p∈before,sp p.block=true)→DataW.TrodVars enc P W' sp s.vars (s.fn H (ds++gs)).vars pv)
 (hps:before=pa++pv) (hg:J9 W W')
 (hok:∀ (j:Nat) (t:TypeId) (r:Value),f.resultTypes[j]?=some t→(v.resultList f.resultTypes.size)[j]?=some r→Value.okWide P W' .any 0 t r) :
 s.post enc P f apart fresh handsOn again W args v W':=by
 have hlt:=hW.lt
 have hold:∀ p∈before,(fun b=>decide (b < W.heap.size)) p.block=true:=fun p hp=>decide_eq_true (hlt p hp)
 have hkeep:W.keptBut W' (fun p=>p∈before∧p∈[]++pa++pv):=World.keptBut_mono (fun p hp=>hp.elim) hg.1
 subst hps
 have hW2:=hW
 obtain⟨_,_,_,_,_,hz,hn⟩:=hW2
 have hv0:=hvars (fun _=>true) (fun _ _=>rfl)
 have ha0:=hargs (fun _=>true) (fun _ _=>rfl)
 refine⟨ds,gs,pa++pv,[],pa,pv,hW,hres _ _ _,hargs _ hold,hvars _ hold,?_,fun _=>⟨hok,_,_,([]++pa)++pv,⟨[]++pa,pv,trodAll_append ha0 (hres _ _ _),hv0,rfl,fun b off hp=>?_,fun ha=>?_⟩,fun p hp _=>?_⟩⟩
 ·exact World.keptBut_mono (fun p hp=>by simpa using hp) hkeep
 ·have hp:MemPlace.cell b off∈pa++pv:=by simpa using hp
  rw[hg.2.1 _ (hlt _ hp)]
  exact hz b off hp
 ·simpa using hn ha
 ·simpa using hp

theorem Zg {H:Type} {enc:TypeId×Value→H} {P:Program} {f:Func} {s:ChangeSpec} {apart fresh handsOn again:Bool} {W W':World} {args:Array Value} {ds gs:List (DataW H)} {before pa pv:List MemPlace} {t:TypeId}
 (hW:DataW.Whole enc P f.params.toList s.vars apart W args.toList ds gs before)
 (hres:(s.fn H (ds++gs)).results=[.lit (.bool true)])
 (hargs:∀ sp:Nat→Bool,(∀ p∈before,sp p.block=true)→DataW.TrodAll enc P W' 0 sp true f.params.toList args.toList (s.fn H (ds++gs)).args pa)
 (hvars:∀ sp:Nat→Bool,(∀ p∈before,sp p.block=true)→DataW.TrodVars enc P W' sp s.vars (s.fn H (ds++gs)).vars pv)
 (hps:before=pa++pv) (hg:J9 W W') (hr:f.resultTypes = #[t]) (ht:P.underlying t=some .bool) :
 s.post enc P f apart fresh handsOn again W args (.bool true) W':=
 bE (pa:=pa) (pv:=pv) hW (fun _ _ _=>by rw[hr,hres];exact trodAll_cons_mk (shut_bool ht _) trodAll_mk0) hargs hvars hps hg (ok_one hr rfl (okWide_bool_mk ht _))

end Go.Sp
namespace Go.Sp
open Go.ChangeShapes Go.WideShapes Go.ChangeAt Go.RowKit

theorem Ck.congr {H H2:Aa} {R:Ren} {w:World} (hg:∀ i,H2.get i=H.get i) (hn:H2.next=H.next) (hs:Ck H R w):Ck H2 R w:=
 ⟨fun id c β h => by rw [hn]; exact hs.dom id c β h, fun id c β h => by rw [hg]; exact hs.obj id c β h, fun id c β id' β' h h' hne hw => by rw [hg] at hw; rw [hg, hg]; exact hs.sep id c β id' β' h h' hne hw,
   fun id a ha=>by rw[hg] at ha;rw[hn,hg];exact hs.anc id a ha,fun id hid=>by rw[hn] at hid;rw[hg];exact hs.wf id hid,fun c C h=>⟨(hs.ro c C h).1,fun id β h'=>by rw[hg];exact(hs.ro c C h).2 id β h'⟩⟩
theorem Ba.congrL {H H2 H':Aa} {R R':Ren} {w w':World} (hg:∀ i,H2.get i=H.get i) (hn:H2.next=H.next) (hp:Ba H R w H' R' w'):Ba H2 R w H' R' w':=
 ⟨hp.le, fun id p h => by rw [hn]; exact hp.new id p h, hp.sim, by rw [hn]; exact hp.next, hp.grow, fun c hc h => hp.frame c hc fun id β hid => by rw [← hg]; exact h id β hid, fun id hi hr Q c β ob h => by rw [hn] at hi; rw [hg] at h; exact hp.calm id hi hr Q c β ob h,
   fun id hi h=>by rw[hn] at hi;rw[hg] at h ⊢;exact hp.imm id hi h,fun id c β h hr=>by rcases hp.fresh id c β h hr with h1 | ⟨i,b,h1,h2⟩;exact .inl h1;exact .inr ⟨i,b,h1,by rw[hg];exact h2⟩,hp.side,
   fun c C h=>by rcases hp.rofresh c C h with h1 | h1 | ⟨i,b,h1,h2⟩;exact .inl h1;exact .inr (.inl h1);exact .inr (.inr ⟨i,b,h1,by rw[hg];exact h2⟩)⟩

theorem VI {W W':World} (h:J9 W W') {p:MemPlace} (hp:p.block < W.heap.size):W.sameAt W' p:=by
 have hk:=h.1.2.2 p.block hp
 cases p with
 | cell b off =>
  show W'.cell? ⟨b,off,none⟩=W.cell? ⟨b,off,none⟩
  unfold World.cell?
  simp only
  show _=_
  have hk:match W.heap[b]?,W'.heap[b]? with
   | some (.cells c t fr),some (.cells c' t' fr')=>t'=t∧fr'=fr∧c'.size=c.size∧∀ j:Nat,¬ False→c'[j]?=c[j]?
   | some (.map es clock),some (.map es' clock')=>False∨(es'=es∧clock'=clock)
   | o,o'=>o'=o:=hk
  split at hk
  ·rename_i e1 e2;rw[e1,e2];simp[hk.2.2.2 off (fun h=>h)]
  ·rename_i e1 e2;rw[e1,e2]
  ·rw[hk]
 | map b =>
  show W'.heap[b]?=W.heap[b]?
  have hk:match W.heap[b]?,W'.heap[b]? with
   | some (.cells c t fr),some (.cells c' t' fr')=>t'=t∧fr'=fr∧c'.size=c.size∧∀ j:Nat,¬ False→c'[j]?=c[j]?
   | some (.map es clock),some (.map es' clock')=>False∨(es'=es∧clock'=clock)
   | o,o'=>o'=o:=hk
  split at hk
  ·rename_i e1 e2
   rw[e1,e2]
   obtain⟨rfl,rfl,h1,h2⟩:=hk
   congr 2
   exact Array.ext_getElem? fun j=>h2 j (fun h=>h)
  ·rename_i e1 e2
   rw[e1,e2]
   rcases hk with h9 | ⟨rfl,rfl⟩
   ·exact h9.elim
   ·rfl
  ·exact hk

theorem JM {H:Type} {enc:TypeId×Value→H} {P:Program} {w w':World} {base:Nat} {spare:Nat→Bool} {held:Bool}:∀ {ts:List TypeId} {vs:List Value} {ds:List (DataW H)} {ps:List MemPlace},
 DataW.TrodAll enc P w base spare held ts vs ds ps→(∀ p∈ps,w.sameAt w' p)→DataW.TrodAll enc P w' base spare held ts vs ds ps
 | [],[],[],_,h,_=>h
 | _::_,_::_,_::_,_,⟨p,q,⟨n,h1⟩,h2,e⟩,hs=>⟨p,q,⟨n,DataW.trod_carry n _ _ _ h1 fun x hx=>hs x (by rw[e];exact List.mem_append_left _ hx)⟩,JM h2 fun x hx=>hs x (by rw[e];exact List.mem_append_right _ hx),e⟩

theorem VJ {H:Type} {enc:TypeId×Value→H} {P:Program} {f:Func} {s:ChangeSpec} {W:World} {args:Array Value} {ds gs:List (DataW H)} {before:List MemPlace} {t:TypeId} {fid:FuncId} (K:Kids P (· < P.types.size))
 (hz:∀ t e,t < P.types.size→P.underlying t=some (.slice e)→0 < P.cellsOf e) (hp:∀ t∈f.params.toList,t < P.types.size)
 (hW:DataW.Whole enc P f.params.toList s.vars false W args.toList ds gs before) (hsv:s.vars=[])
 (hfn:s.fn H ds = { results:=[.lit (.bool true)],args:=ds })
 (hr:f.resultTypes = #[t]) (ht:P.underlying t=some .bool)
 (walk:Calls P fid args W fun e W'=>e = .returned (.bool true)∧J9 W W') :
 Calls P fid args W fun e W'=>∃ v,e = .returned v∧s.post enc P f false true false false W args v W':=by
 have hW':=hW
 obtain⟨p,q,hA,hV,rfl,hfz,hnd⟩:=hW
 rw[hsv] at hV
 obtain⟨rfl,rfl⟩:=trodVars_none hV
 refine walk.mono fun e W' ⟨he,hg⟩=>?_
 subst he
 refine⟨_,rfl,Zg (pa:=p) (pv:=[]) hW' (by rw[List.append_nil,hfn]) (fun sp hsp=>?_) (fun _ _=>by rw[hsv,List.append_nil,hfn];rfl) rfl hg hr ht⟩
 rw[List.append_nil,hfn]
 exact JM (hA.respare K hz hp fun x hx=>hsp x (List.mem_append_left _ hx)) fun x hx=>VI hg (hW'.lt x (List.mem_append_left _ hx))
end Go.Sp
namespace Go.Sp
noncomputable section
abbrev I (n:Int):Value:=.int .i64 n
def sl (fl:Nat) (l:List Int):Sl:=⟨l.length,fl,l.map I⟩
def S (fl:Nat) (l:List Int):Value:=Sl.v 1 (sl fl l)
end
@[simp] theorem I4 (fl:Nat) (l:List Int):(sl fl l).n=l.length:=rfl
@[simp] theorem GX (fl:Nat) (l:List Int):(sl fl l).cs=l.map I:=rfl
@[simp] theorem EG {α β:Type} (z:β) (s:α→List α→β):ll [] z s=z:=rfl
@[simp] theorem Dj {α β:Type} (a:α) (r:List α) (z:β) (s:α→List α→β):ll (a::r) z s=s a r:=rfl
@[simp] theorem BP (n:Int):Bi .i64 (.int .i64 n)=some n:=rfl
@[simp] theorem Ab7 (n:Int):Bi .u16 (.int .u16 n)=some n:=rfl
@[simp] theorem Aik (n:Int):Bi .u8 (.int .u8 n)=some n:=rfl
@[simp] theorem Dc (s:Sl):Bj 1 (s.v 1)=some s:=rfl
@[simp] theorem RL (l:List Value):Bt (.agg ⟨l⟩)=some l:=rfl
@[simp] theorem FW (l:List Value):CQ (.tuple ⟨l⟩)=some l:=rfl
@[simp] theorem BU (b:Bool):Bf (.bool b)=some b:=rfl
@[simp] theorem Cx (n:Nat):EA (Int.ofNat n)=some n:=rfl
@[simp] theorem Aj1:EA 0=some 0:=rfl
theorem blt_eq (a b:Nat):Nat.blt a b=decide (a < b):=by
 rw[Bool.eq_iff_iff,decide_eq_true_iff,Nat.blt_eq]
theorem ble_eq (a b:Nat):Nat.ble a b=decide (a≤b):=by
 rw[Bool.eq_iff_iff,decide_eq_true_iff,Nat.ble_eq]
theorem Oe (n:Int) (h1:-9223372036854775808≤n) (h2:n≤9223372036854775807):Aj .i64 n=n:=by rw[IM];exact IntWalk.i64_in _ ⟨h1,h2⟩
theorem DC (i:Nat) (h:i < 1000000):Aj .i64 (Int.add (Int.ofNat i) 1)=Int.ofNat (i+1):=by
 show Aj .i64 (Int.ofNat i+1)=_
 rw[Oe _ (by simp;omega) (by simp;omega)];simp
end Go.Sp
namespace Go.Sp
open Go.ChangeShapes Go.WideShapes Go.ChangeAt Go.RowKit

section
variable {H:Type} {enc:TypeId×Value→H} {P:Program} {W:World} {R:Ren} {held:Bool} {v:Value} {d:DataW H} {ps:List MemPlace} {t:TypeId} {base:Nat} {r:Reach}

theorem kM {k:IntKind} (ht:P.underlying t=some (.int k)) (hok:Value.okWide P W r base t v):∃ n,v = .int k n∧(Lit.int k n).wf=true:=by
 unfold Value.okWide at hok
 rw[ht] at hok
 unfold Cell.okWide at hok
 rw[ht] at hok
 cases v <;> simp[Cell.ok,ht] at hok
 rename_i k' n
 obtain⟨rfl,h⟩:=hok
 refine⟨n,rfl,?_⟩
 simp only[Lit.wf,Bool.and_eq_true,decide_eq_true_eq]
 exact h
theorem VK {fs:Array Field} (ht:P.underlying t=some (.struct fs)) (hok:Value.okWide P W r base t v):∃ cs:List Value,v = .agg ⟨cs⟩:=by
 unfold Value.okWide at hok
 rw[ht] at hok
 obtain⟨⟨cs⟩,rfl,_⟩:=hok
 exact⟨cs,rfl⟩
theorem Zh {e:TypeId} {n:Nat} (ht:P.underlying t=some (.array n e)) (hok:Value.okWide P W r base t v):∃ cs:List Value,v = .agg ⟨cs⟩:=by
 unfold Value.okWide at hok
 rw[ht] at hok
 obtain⟨⟨cs⟩,rfl,_⟩:=hok
 exact⟨cs,rfl⟩
theorem Zi {e:TypeId} (ht:P.underlying t=some (.slice e)) (hok:Value.okWide P W r base t v):∃ a l c,v = .slice a l c:=by
 unfold Value.okWide at hok
 rw[ht] at hok
 unfold Cell.okWide at hok
 rw[ht] at hok
 cases v <;> simp[Cell.ok,ht] at hok
 exact⟨_,_,_,rfl⟩
end

def Dw (P:Program) (f:Func) (W:World) (base:Nat) (args:Array Value):Prop:=∀ (j:Nat) t v,f.params[j]?=some t→args[j]?=some v→Value.okWide P W .any base t v
section
variable {P:Program} {f:Func} {W:World} {base:Nat} {t0 t1 t2 t3:TypeId} {v0 v1 v2 v3:Value}
theorem Dw.one (h:Dw P f W base #[v0]) (hp:f.params = #[t0]):Value.okWide P W .any base t0 v0:=h 0 _ _ (by rw[hp];rfl) rfl
theorem Dw.two (h:Dw P f W base #[v0,v1]) (hp:f.params = #[t0,t1]):Value.okWide P W .any base t0 v0∧Value.okWide P W .any base t1 v1:=⟨h 0 _ _ (by rw[hp];rfl) rfl,h 1 _ _ (by rw[hp];rfl) rfl⟩
theorem Dw.three (h:Dw P f W base #[v0,v1,v2]) (hp:f.params = #[t0,t1,t2]):Value.okWide P W .any base t0 v0∧Value.okWide P W .any base t1 v1∧Value.okWide P W .any base t2 v2:=
 ⟨h 0 _ _ (by rw[hp];rfl) rfl,h 1 _ _ (by rw[hp];rfl) rfl,h 2 _ _ (by rw[hp];rfl) rfl⟩
end
section
variable {P:Program} {f:Func} {W:World} {base:Nat} {args:Array Value} {t:TypeId} {v:Value}
theorem Dw.int {k:IntKind} (h:Dw P f W base args) (j:Nat) (hp:f.params[j]?=some t) (hv:args[j]?=some v) (ht:P.underlying t=some (.int k)):∃ n,v = .int k n∧(Lit.int k n).wf=true:=kM ht (h j t v hp hv)
theorem Dw.struct {fs:Array Field} (h:Dw P f W base args) (j:Nat) (hp:f.params[j]?=some t) (hv:args[j]?=some v) (ht:P.underlying t=some (.struct fs)):∃ cs:List Value,v = .agg ⟨cs⟩:=VK ht (h j t v hp hv)
theorem Dw.array {e:TypeId} {n:Nat} (h:Dw P f W base args) (j:Nat) (hp:f.params[j]?=some t) (hv:args[j]?=some v) (ht:P.underlying t=some (.array n e)):∃ cs:List Value,v = .agg ⟨cs⟩:=Zh ht (h j t v hp hv)
theorem Dw.slice {e:TypeId} (h:Dw P f W base args) (j:Nat) (hp:f.params[j]?=some t) (hv:args[j]?=some v) (ht:P.underlying t=some (.slice e)):∃ a l c,v = .slice a l c:=Zi ht (h j t v hp hv)
end
section
variable {P:Program} {t:TypeId} {xs:List Value}
end
end Go.Sp
namespace Go.Sp
section
variable {P:Program} {t:TypeId} {xs:List Value}
end
end Go.Sp
namespace Go.Sp
noncomputable section
def Mw (tabs:List (List Value)) (isP:FuncId→Bool) (pu:Af) (inl:A8) (tt:TT) (IB:FuncId→Option Xq) (n:Nat):A8:=
 Nat.rec (motive := fun _ => A8) (fun _ _ _ => none)
  (fun m ih f args H=>oo (Bb tabs isP pu inl f args H) (oo (IB f) none fun fn=>bb (Nat.ble (len args) fn.n) (Xr tt fn.results (MZ tt ih m fn.body (Fr.made fn.n args) H)) none) fun r=>some r) n
def KF (tabs:List (List Value)):Aa:=⟨len tabs,JJ (KD tabs) 0 .nil,false⟩
def kN (k:Nat) (r:Option (Value×Aa)):Option Value:=oo r none fun p=>pp p fun q H1=>oo (Cq k false q H1) none fun p2=>pp p2 fun v' _=>some v'
def kP (r:Option (Value×Aa)):Option Value:=oo r none fun p=>pp p fun q _=>some q
end
section
variable {P:Program} {tt:TT} {tabs:List (List Value)}
theorem TL (hT:Jm P tt) (hne:∀ t∈tabs,t=t) (hpl:∀ t∈tabs,∀ x∈t,BR x=true) {IB:FuncId→Option Xq} (hf:∀ f r,IB f=some r→Ar P (List.range tabs.length) f r) (hm:P.follows .mixedOrders=true)
 {isP:FuncId→Bool} {pu:Af} {inl:A8} (hpu:∀ g,isP g=true→BA P tabs g (pu g)) (hinl:CO P (List.range tabs.length) inl) (n:Nat):CO P (List.range tabs.length) (Mw tabs isP pu inl tt IB n):=by
 induction n with
 | zero=>intro g args H v H' h;cases h
 | succ n ih =>
  intro g args H v H' h
  have h:oo (Bb tabs isP pu inl g args H) (aY tt IB (Mw tabs isP pu inl tt IB n) n g args H) (fun r=>some r)=some (v,H'):=h
  cases hc:Bb tabs isP pu inl g args H with
  | some r =>
   rw[hc,Ac] at h
   injection h with h;subst h
   exact TG hne hpl hinl hpu g args H v H' hc
  | none =>
   rw[hc,Az] at h
   exact Qd hT hf hm ih n g args H v H' h
theorem RN (i:Nat):(KF tabs).get i=(Ao tabs).get i:=by
 unfold KF Ao
 rw[Aa.get_mk,Aa.get_mk]
theorem I5 (hT:Jm P tt) (hne:∀ t∈tabs,t=t) (hpl:∀ t∈tabs,∀ x∈t,BR x=true) {IB:FuncId→Option Xq} (hf:∀ f r,IB f=some r→Ar P (List.range tabs.length) f r) (hm:P.follows .mixedOrders=true)
 {isP:FuncId→Bool} {pu:Af} {inl:A8} (hpu:∀ g,isP g=true→BA P tabs g (pu g)) (hinl:CO P (List.range tabs.length) inl) {g n:Nat} {H:Aa} (hH:∀ i,H.get i=(Ao tabs).get i) (hHn:H.next=(Ao tabs).next) {f:List Value→Option Value}
 (hen:∀ (as:Array Value) (w:World),(callFunc g as).run P w = .ok (.enter g as) w)
 (hrun:∀ args v,f args=some v→Fe v=true∧(kP (Mw tabs isP pu inl tt IB n g args H)=some v∨kN tabs.length (Mw tabs isP pu inl tt IB n g args H)=some v)):BA P tabs g f:=by
 refine⟨hen,fun args v hv _ R w args' hR hs ha=>?_⟩
 obtain⟨hcv,hr⟩:=hrun args v hv
 have hs':Ck H R w:=hs.congr hH hHn
 have hgl:JH (List.range tabs.length) R:=fun g hg=>by rw[hR];simp at hg;simp[hg]
 rcases hr with hr | hr
 ·obtain⟨q,hq,h1⟩:=Ab (show oo (Mw tabs isP pu inl tt IB n g args H) none (fun p=>pp p fun q _=>some q)=some v from hr)
  rw[Bg] at h1
  injection h1 with h1
  have hok:=(TL hT hne hpl hf hm hpu hinl n) g args H q.1 q.2 hq
  refine(hok.2 R w args' hs' hgl ha).mono fun e w' ⟨u,R',he,hu,hp⟩=>?_
  rw[h1] at hu
  exact⟨u,q.2,R',he,hcv,hu,Ba.congrL (fun i=>(hH i).symm) hHn.symm hp⟩
 ·obtain⟨q,hq,h1⟩:=Ab (show oo (Mw tabs isP pu inl tt IB n g args H) none (fun p=>pp p fun q H1=>oo (Cq tabs.length false q H1) none fun p2=>pp p2 fun v' _=>some v')=some v from hr)
  rw[Bg] at h1
  obtain⟨p2,hp2,h2⟩:=Ab h1
  rw[Bg] at h2
  injection h2 with h2
  have hok:=(TL hT hne hpl hf hm hpu hinl n) g args H q.1 q.2 hq
  refine(hok.2 R w args' hs' hgl ha).mono fun e w' ⟨u,R',he,hu,hp⟩=>?_
  have hn:H.next≤tabs.length:=by rw[hHn];show len tabs≤_;rw[AV];exact Nat.le_refl _
  have hp2':Cq tabs.length false q.1 q.2=some (p2.1,p2.2):=hp2
  obtain⟨R2,_,_,k2,k3⟩:=Gg hp2' hs' hn hp hu
  rw[h2] at k3
  exact⟨u,p2.2,R2,he,hcv,k3,Ba.congrL (fun i=>(hH i).symm) hHn.symm k2⟩

end
end Go.Sp
namespace Go.Sp
open Go
theorem O4 {P:Program} {w:World} {name:String} {k:IntKind} {zs:List Int} {g:Nat} (h:Lib.TabIs P w name k zs) (hg:P.globalNamed name=some g) (hne:0 < zs.length) :
 ∃ C t fz,w.heap[g]?=some (.cells C t fz)∧zs.length≤C.size∧∀ (i:Nat) (x:Value),(zs.map fun z=>Value.int k z)[i]?=some x→C[i]?=some x∧∃ z,x=Value.int k z:=by
 have h0:=h.cell hg 0 hne
 obtain⟨C,t,fz,hC⟩:∃ C t fz,w.heap[g]?=some (.cells C t fz):=by
  unfold World.cell? at h0
  split at h0
  ·rename_i c t fz hc;exact⟨c,t,fz,hc⟩
  ·cases h0
 have hcell:∀ i,i < zs.length→C[i]?=some (.int k (zs.getD i 0)):=fun i hi=>by
  have:=h.cell hg i hi
  unfold World.cell? at this
  rw[hC] at this
  simpa using this
 refine⟨C,t,fz,hC,?_,fun i x hx=>?_⟩
 ·have:=hcell (zs.length - 1) (by omega)
  have:=(Array.getElem?_eq_some_iff.1 this).1
  omega
 ·rw[List.getElem?_map] at hx
  have hi:i < zs.length:=by
   cases hz:zs[i]? with
   | none=>rw[hz] at hx;cases hx
   | some z=>exact(List.getElem?_eq_some_iff.1 hz).1
  have hv:=hcell i hi
  simp[hi] at hx
  simp[hi] at hv
  exact⟨by rw[hv,hx],_,hx.symm⟩
theorem startX {P : Program} {w : World} {n1 : String} {k1 : IntKind} {z1 : List Int} {t00 : TypeId} {zero : Array Value} (hsh : w.ShapedOpen P) (hg : 0 < P.globals.size) (hz : (((begin P (fun _ _ => 0) default).world.heap[0]?).bind Obj.row?) = some (zero, t00))
 (h1:Lib.TabIs P w n1 k1 z1) (g1:P.globalNamed n1=some 1) (e1:0 < z1.length) :
 ∃ R:Ren,R.f=(fun i=>if i < 2 then some (i,0) else none)∧R.ro=Hq w∧Ck (Ao [[],z1.map fun z=>.int k1 z]) R w:=by
 obtain⟨cs,a0,_⟩:=hsh.1 0 zero _ hg hz
 obtain⟨C1,t1,f1,a1,b1,c1⟩:=O4 h1 g1 e1
 let H:Aa:=((⟨0,.nil,false⟩:Aa).push (.cells [] true false [])).push (.cells (z1.map fun z=>.int k1 z) true false [])
 have hget:∀ i,H.get i=if 1=i then .cells (z1.map fun z=>.int k1 z) true false [] else if 0=i then .cells [] true false [] else .dead:=fun i=>by
  show (Aa.push (Aa.push ⟨0,.nil,false⟩ _) _).get i=_
  rw[Aa.get_push,Aa.get_push,Aa.next_push]
  rfl
 let R0:Ren:=⟨fun i=>if i < 2 then some (i,0) else none,fun i=>if i=0 then cs.size else C1.size,fun _=>none⟩
 have hs:Ck H R0 w:=by
  refine bD ((Aa.wf.push (fun id hid=>rfl) _).push _) (fun id c β hid=>?_) (fun id=>?_) (fun c C h=>by cases h)
  ·obtain⟨h2,rfl,rfl⟩:=Jr (show (if id < 2 then some (id,0) else none)=some (c,β) from hid)
   obtain rfl | rfl:c=0∨c=1:=by omega
   ·exact⟨rfl,rfl,_,cs,_,_,by rw[hget,if_neg (by decide),if_pos rfl],a0,rfl,Nat.zero_le _,fun i x hx=>by simp at hx⟩
   ·refine⟨rfl,rfl,_,C1,t1,f1,by rw[hget,if_pos rfl],a1,rfl,by simpa using b1,fun i x hx=>?_⟩
    obtain⟨k,z,rfl⟩:=c1 i x hx
    exact⟨_,by rw[Nat.zero_add];exact k,.int _ _⟩
  ·rw[hget];split
   ·rfl
   ·split <;> rfl
 have hself:∀ (k:IntKind) (l:List Int),FE (l.map fun z=>Value.int k z) (l.map fun z=>.int k z)=true:=fun k l=>by
  induction l with
  | nil=>rfl
  | cons z l ih =>
   show an (an (De k k) (Bd z z)) (FE (l.map fun z=>Value.int k z) (l.map fun z=>.int k z))=true
   rw[ih]
   have h1:De k k=true:=by cases k <;> rfl
   have h2:Bd z z=true:=by cases z <;> simp[Bd,ii]
   rw[h1,h2];rfl
 have hc0:Ei H 0=[]:=by
  unfold Ei;rw[hget];rfl
 have hc1:Ei H 1=z1.map fun z=>.int k1 z:=by
  unfold Ei;rw[hget];rfl
 have:=KE (tabs:=[[],z1.map fun z=>.int k1 z]) hs (fun g hg=>by
  have hg:g < 2:=List.mem_range.1 hg
  exact if_pos hg) (by
  show an (isS (Bv (H.get 0))) (an (FE (Ei H 0) _) (an (isS (Bv (H.get 1))) (an (FE (Ei H 1) _) true)))=true
  rw[show isS (Bv (H.get 0))=true by rw[hget];rfl,show isS (Bv (H.get 1))=true by rw[hget];rfl]
  rw[hc0,hc1,hself];rfl) (Hq w) (TF w) (N8 hs) (fun _ _=>rfl) (by
  intro t ht x hx
  simp only[List.mem_cons,List.not_mem_nil,or_false] at ht
  rcases ht with rfl | rfl
  ·cases hx
  ·simp only[List.mem_map] at hx;obtain⟨z,_,rfl⟩:=hx;rfl)
 exact⟨_,rfl,rfl,this⟩
theorem R7 {P:Program} {tabs:List (List Value)} {g:FuncId} {f:List Value→Option Value} (hpu:BA P tabs g f) {args args':List Value} {W:World} {R:Ren} (hm:f args=some (.bool true)) (hcl:∀ x∈args,closed2 x=true)
 (hR:R.f=fun i=>if i < tabs.length then some (i,0) else none) (hs:Ck (Ao tabs) R W) (ha:Cf R args args'):Calls P g ⟨args'⟩ W fun e W'=>e = .returned (.bool true)∧J9 W W':=
 (hpu.2 args _ hm hcl R W args' hR hs ha).mono fun e W' ⟨u, H', R', he, _, hu, hp⟩ => by
   rw[hu.bool_l] at he
   exact⟨he,grown_of hp fun id p h=>by rw[hR] at h;obtain⟨h1,_⟩:=Jr (show (if id < tabs.length then some (id,0) else none)=some (p.1,p.2) from h);exact FV h1⟩
open Go.ChangeShapes Go.WideShapes Go.ChangeAt Go.RowKit in
theorem SC {H:Type} {enc:TypeId×Value→H} {a:Assume} {C:Checked} {os:Os} {f:FuncId} {fn:Func} {s:OpenSpec} {F:Stop.Interp} {conds:List PathCond} {apart fresh handsOn again:Bool} {laid:List (String×DataW Unit)}
 (own:ownKnob C.prog.godebug=none) (started:os.Started) (noInit:C.prog.inits.idxOf? f=none) (hfn:C.prog.funcs[f]?=some fn)
 (witness : ∃ (w : World) (tape : Tape) (i : Input), w.os = os ∧ (w.forCall tape i).Shaped C.prog ∧ i.vars = [] ∧ Input.okWide C.prog (w.forCall tape i) .any w.heap.size f i ∧
   s.preRow enc C.prog fn conds apart laid (w.forCall tape i).memory i.args∧a.holds C.prog (lone (Frame.enter C.prog f i.args .normal) [] (w.forCall tape i)))
 (contract : ∀ (W : World) (base : Nat) (args : Array Value) (ds gs : List (DataW H)) (before : List MemPlace), Dw C.prog fn W base args →
   DataW.Whole enc C.prog fn.params.toList s.vars apart W args.toList ds gs before→laidMetH C.prog laid W→W.ShapedOpen C.prog →
   Calls C.prog f args W fun e W'=>∃ v,e = .returned v∧(s.at F).post enc C.prog fn apart fresh handsOn again W args v W') :
 ReturnsInHanded a C os f .any (s.preRow enc C.prog fn conds apart laid) ((s.at F).post enc C.prog fn apart fresh handsOn again):=
 returnsInHanded_of_row own started noInit hfn witness fun W base args ds gs before hval hW _ _ _ hL hsh _=>contract W base args ds gs before hval hW hL hsh
end Go.Sp
namespace Go.Sp

noncomputable section
end

section
variable {P:Program} {tabs:List (List Value)}

end

noncomputable section
def ER (z:Nat) (v:Value) (H:Aa):Option (Value×Aa):=
 oo (IA v) (bb (DN v) (some (FP z 0 2 [],H)) (bb (closed2 v) (some (v,H)) none)) fun s=>oo (Bv (H.get s.id)) none fun o=>
  bb (an (nt o.imm) (an (nt o.spent) (an (Nat.ble (s.off + s.len * s.sz) (len o.xs)) (Au Ah (Aq (s.len * s.sz) (Am s.off o.xs))))))
   (some (FP s.sz s.len 0 (Aq (s.len*s.sz) (Am s.off o.xs)),H.set s.id .dead)) none
def KG (z:Nat) (l:List Value):Aa→Option (List Value×Aa):=
 List.rec (motive:=fun _=>Aa→Option (List Value×Aa)) (fun H=>some ([],H)) (fun v _ ih H=>oo (ER z v H) none fun p=>pp p fun v' H1=>oo (ih H1) none fun q=>pp q fun r H2=>some (v'::r,H2)) l
def Hr (tabs:List (List Value)) (z:Nat) (f:List Value→Option Value) (args:List Value) (H:Aa):Option (Value×Aa):=
 oo (KG z args H) none fun p=>pp p fun as H1=>bb (IZ H1 tabs 0) (oo (f as) none fun v=>some (v,H1)) none
end

theorem TM {z:Nat} {v v' u:Value} {H H':Aa} {R:Ren} {w:World} (h:ER z v H=some (v',H')) (hs:Ck H R w) (hx:VR R v u) :
 ∃ R',R.le R'∧R'.f=R.f∧Ba H R w H' R' w∧VR R' v' u∧closed2 v'=true:=by
 unfold ER at h
 cases hsl:IA v with
 | none =>
  rw[hsl,Az] at h
  rcases Ag h with⟨hn,h⟩ | ⟨_,h⟩
  ·injection h with h;injection h with e1 e2;subst e1;subst e2
   refine⟨R,R.le_refl,rfl,.refl hs,?_,rfl⟩
   rw[CB hn] at hx
   rw[hx.slNil_l];exact .fsN z 2 (by decide)
  ·obtain⟨hc,h⟩:=Ae h
   injection h with h;injection h with e1 e2;subst e1;subst e2
   exact⟨R,R.le_refl,rfl,.refl hs,hx,hc⟩
 | some s=>
 rw[hsl,Ac] at h
 obtain⟨o,ho,h1⟩:=Ab h
 obtain⟨hc,h2⟩:=Ae h1
 obtain⟨c1,hc⟩:=Av hc
 obtain⟨c3,hc⟩:=Av hc
 obtain⟨c4,c5⟩:=Av hc
 have c1:=Dh c1
 have c3:=Dh c3
 simp only[AV] at c4
 have c4:=Nat.le_of_ble_eq_true c4
 rw[Bh,List.all_eq_true] at c5
 simp only[Cg,Bz] at c5 h2
 injection h2 with h2;injection h2 with e1 e2;subst e1;subst e2
 have ho':=Et ho
 rw[c1,c3] at ho'
 have dead : ∀ (R' : Ren), R.le R' → R'.f = R.f → R'.sz = R.sz → (∀ c C, R'.ro c = some C → R.ro c = some C ∨ ∃ β, R.f s.id = some (c, β) ∧ ∃ ty fz, w.heap[c]? = some (.cells C ty fz)) →
  Ba H R w (H.set s.id .dead) R' w:=fun R' hle hRf hRs hro=>by
  have hget:∀ id,(H.set s.id .dead).get id=if s.id=id then .dead else H.get id:=fun id=>Aa.get_set _ _ _ _
  have hnext:(H.set s.id .dead).next=H.next:=by simp
  have hwr:∀ id,(H.get id).writable=false→((H.set s.id .dead).get id).writable=false:=fun id h=>by
   rw[hget];split
   ·rfl
   ·exact h
  have hp:=Ba.refl hs
  refine ⟨⟨fun id c β h0 => by rw [hRf, hRs]; exact ⟨h0, rfl⟩, hle.ro⟩, fun id p h0 => by rw [hRf] at h0; exact .inl h0, ?_, by rw [hnext]; exact Nat.le_refl _, Nat.le_refl _, fun _ _ _ => rfl,
   fun id hi hr Q c β ob h0=>?_,fun id hi him=>?_,fun id c β h0 hr=>by rw[hRf] at h0;exact hp.fresh id c β h0 hr,hp.side,fun c C h0=>?_⟩
  ·refine ⟨fun id c β h0 => by rw [hRf] at h0; rw [hnext]; exact hs.dom id c β h0, fun id c β h0 => ?_, fun id c β id' β' h0 h0' hne hw => ?_, fun id a ha => ?_, fun id hi => ?_, fun c C h0 => ?_⟩
   ·rw[hRf] at h0
    rw[hget];split
    ·trivial
    ·exact(hs.obj id c β h0).mono hle (by rw[hRs])
   ·rw[hRf] at h0 h0'
    have hg1:=hget id
    have hg2:=hget id'
    by_cases hn:s.id=id
    ·rw[if_pos hn] at hg1;rw[hg1] at hw;cases hw
    ·rw[if_neg hn] at hg1
     rw[hg1] at hw ⊢
     by_cases hn':s.id=id'
     ·rw[if_pos hn'] at hg2;exact .inl hg2
     ·rw [if_neg hn'] at hg2; rw [hg2]; exact hs.sep id c β id' β' h0 h0' hne hw
   ·rw[hget] at ha
    split at ha
    ·cases ha
    ·have:=hs.anc id a ha
     rw[hnext,hget]
     refine⟨this.1,?_⟩
     split
     ·exact⟨rfl,rfl⟩
     ·exact this.2
   ·rw[hnext] at hi
    rw[hget];split
    ·rfl
    ·exact hs.wf id hi
   ·rcases hro c C h0 with h1 | ⟨β,h1,ty,fz,h2⟩
    ·exact⟨(hs.ro c C h1).1,fun id β h9=>by rw[hRf] at h9;exact hwr id ((hs.ro c C h1).2 id β h9)⟩
    ·refine ⟨⟨ty, fz, h2⟩, fun id β' h9 => ?_⟩
     rw[hRf] at h9
     rw[hget]
     split
     ·rfl
     ·rename_i hn
      cases hwi:(H.get id).writable with
      | false=>rfl
      | true =>
       rcases hs.sep id c β' s.id β h9 h1 (fun e => hn e.symm) hwi with h3 | ⟨h3, _⟩
       ·rw[ho'] at h3;cases h3
       ·have h4:=hs.anc id s.id h3
        rw[ho'] at h4
        have h5:true=false:=h4.2.2
        cases h5
  ·rw[hget];split
   ·trivial
   ·exact h0
  ·rw[hget];split
   ·rename_i he
    rw[←he,ho'] at him;cases him
   ·rfl
  ·rcases hro c C h0 with h1 | ⟨β,h1,_⟩
   ·exact .inl h1
   ·exact .inr (.inr ⟨s.id,β,h1,by rw[ho'];rfl⟩)
 have hcl:closed2 (FP s.sz s.len 0 ((o.xs.drop s.off).take (s.len*s.sz)))=true:=rfl
 rcases hx.sl_l hsl with⟨c,β,cap,hid,hv,k1,k2,k3,k4⟩ | ⟨c,o2,hv,k0,k00⟩ | ⟨hv,k0,k00⟩
 ·obtain⟨C,ty,fz,hC,hsz,hcf,hcr⟩:=hs.cells hid ho
  let R':Ren:=⟨R.f,R.sz,fun c'=>if c'=c then some C else R.ro c'⟩
  have hle:R.le R':=⟨fun id c β h=>⟨h,rfl⟩,fun c' C' h=>by
   show (if c'=c then some C else R.ro c')=some C'
   split
   ·rename_i he;subst he
    obtain⟨⟨t',fz',h9⟩,_⟩:=hs.ro c' C' h
    rw[hC] at h9;injection h9 with h9;injection h9 with h9;rw[h9]
   ·exact h⟩
  refine⟨R',hle,rfl,dead R' hle rfl rfl fun c' C' h=>?_,?_,hcl⟩
  ·have h:(if c'=c then some C else R.ro c')=some C':=h
   by_cases he:c'=c
   ·rw[if_pos he] at h
    have h:C=C':=by injection h
    subst h;subst he
    exact .inr ⟨β,hid,ty,fz,hC⟩
   ·rw[if_neg he] at h;exact .inl h
  ·rw[hv]
   refine .mkFs (C:=C) (by show (if c=c then some C else R.ro c)=some C;simp) (by simp;omega) (by omega) (fun he=>by cases he) (by decide) (by simp;omega) ?_ c5
   exact(hcr.mono hle).part _ _
 ·refine⟨R,R.le_refl,rfl,dead R R.le_refl rfl rfl fun c' C' h=>.inl h,?_,hcl⟩
  rw[hv,k0]
  simp only[Nat.zero_mul,List.take_zero]
  exact .fsE (by decide)
 ·refine⟨R,R.le_refl,rfl,dead R R.le_refl rfl rfl fun c' C' h=>.inl h,?_,hcl⟩
  rw[hv,k0]
  simp only[Nat.zero_mul,List.take_zero]
  exact .fsN _ _ (by decide)

theorem bG {z:Nat} {l as:List Value} {H H':Aa} (h:KG z l H=some (as,H')):∀ {R:Ren} {w:World} {us:List Value},Ck H R w→Cf R l us →
 ∃ R',R.le R'∧R'.f=R.f∧Ba H R w H' R' w∧Cf R' as us∧∀ x∈as,closed2 x=true:=by
 induction l generalizing as H with
 | nil =>
  injection h with h;injection h with e1 e2;subst e1;subst e2
  intro R w us hs hx
  exact⟨R,R.le_refl,rfl,.refl hs,hx,by simp⟩
 | cons v l ih =>
  obtain⟨p,hp,h⟩:=Ab (show oo (ER z v H) none (fun p=>pp p fun v' H1=>oo (KG z l H1) none fun q=>pp q fun r H2=>some (v'::r,H2))=some (as,H') from h)
  obtain⟨v',H1⟩:=p
  obtain⟨q,hq,h⟩:=Ab (show oo (KG z l H1) none (fun q=>pp q fun r H2=>some (v'::r,H2))=some (as,H') from h)
  obtain⟨r,H2⟩:=q
  injection (show some (v'::r,H2)=some (as,H') from h) with h;injection h with e1 e2;subst e1;subst e2
  intro R w us hs hx
  obtain⟨u,us',rfl,h1,h2⟩:=hx.uncons
  obtain⟨R1,k1,k2,k3,k4,k5⟩:=TM hp hs h1
  obtain⟨R2,j1,j2,j3,j4,j5⟩:=ih hq k3.sim (h2.mono k1)
  refine⟨R2,Ren.le_trans k1 j1,j2.trans k2,k3.trans j3 hs,.cons (k4.mono j1) j4,fun x hx=>?_⟩
  simp at hx
  rcases hx with rfl | hx
  ·exact k5
  ·exact j5 x hx

theorem Og {P:Program} {tabs:List (List Value)} (hne:∀ t∈tabs,t=t) (hpl:∀ t∈tabs,∀ x∈t,BR x=true) {g:FuncId} {z:Nat} {f:List Value→Option Value} (hok:BA P tabs g f) {args:List Value} {H H':Aa} {v:Value} (h:Hr tabs z f args H=some (v,H')) :
 (∀ (as:Array Value) (w:World),(callFunc g as).run P w = .ok (.enter g as) w) ∧
 ∀ R w args',Ck H R w→JH (List.range tabs.length) R→Cf R args args'→Calls P g ⟨args'⟩ w fun e w'=>∃ u R',e = .returned u∧VR R' v u∧Ba H R w H' R' w':=by
 refine⟨hok.1,fun R w args' hs hgl ha=>?_⟩
 obtain⟨p,hp,h⟩:=Ab h
 obtain⟨as,H1⟩:=p
 obtain⟨htab,h⟩:=Ae (show bb (IZ H1 tabs 0) (oo (f as) none fun v=>some (v,H1)) none=some (v,H') from h)
 obtain⟨v',hv',h2⟩:=Ab h
 injection h2 with h2;injection h2 with e1 e2;subst e1;subst e2
 obtain⟨R1,k1,k2,k3,k4,k5⟩:=bG hp hs ha
 have hs1:=k3.sim
 have hgl1:JH (List.range tabs.length) R1:=hgl.mono k1
 have hs0:=KE hs1 hgl1 htab R1.ro (fun c C h=>(hs1.ro c C h).1) (fun c C h=>h) hne hpl
 refine(hok.2 as v' hv' k5 _ w args' rfl hs0 (Mt (R:=R1) (R':=⟨fun i=>if i < tabs.length then some (i,0) else none,R1.sz,R1.ro⟩) (fun _ _ h=>h) k4 k5)).mono fun e w' ⟨u,H2,R2,he,hcv,hu,hp2⟩=>?_
 refine⟨u,⟨R1.f,R1.sz,R2.ro⟩,he,N7 (R:=R2) (R':=⟨R1.f,R1.sz,R2.ro⟩) (fun _ _ h=>h) hu hcv,k3.trans (LG hs1 rfl hp2 rfl rfl (fun c C h=>hp2.le.ro c C h) fun c C h=>?_) hs⟩
 rcases hp2.rofresh c C h with h3 | h3 | ⟨id,β,h3,h4⟩
 ·exact .inl h3
 ·exact .inr ⟨h3,h⟩
 ·have:=FV (Jr (show (if id < tabs.length then some (id,0) else none)=some (c,β) from h3)).1
  rw[this] at h4;cases h4

theorem CV {z:Nat} {v:Value} {H:Aa} (h1:IA v=none) (h2:closed2 v=true) (h3:DN v=false):ER z v H=some (v,H):=by
 unfold ER;rw[h1,Az,h3,AA,h2,Ak]
theorem KH {z:Nat} {v:Value} {H:Aa} (id off sz ln c2:Nat) (xs:List Value) (anc:List Nat) (hx:IA v=some ⟨id,off,sz,ln,c2⟩) (hg:H.get id = .cells xs false false anc)
 (hc:an (Nat.ble (off+ln*sz) (len xs)) (Au Ah (Aq (ln*sz) (Am off xs)))=true):ER z v H=some (Sl.v sz ⟨ln,0,Aq (ln*sz) (Am off xs)⟩,H.set id .dead):=by
 unfold ER
 rw[hx,Ac]
 show oo (Bv (H.get id)) none _=_
 rw[hg]
 show bb (an (Nat.ble (off+ln*sz) (len xs)) (Au Ah (Aq (ln*sz) (Am off xs)))) _ none=_
 rw[hc];rfl
noncomputable section
def oT (l:List Value):AJ:=.cells l true false []
def oC (l:List Value):AJ:=.cells l false false []
def d2 (n:Nat):Nat:=2*n+bb false 1 0
def hp (n:Nat) (l:List AJ):Aa:=⟨n,JJ l 0 .nil,true⟩
def fr (n:Nat) (l:List (Nat×Value)):Fr:=⟨n,kE l .nil⟩
def pt (b o:Nat):Value:=.pointer (some ⟨b,o,none⟩)
def sc (b o z n c:Nat):Value:=.slice (some ⟨b,o,some z⟩) n c
def zI (z:Int):Value:=.int .i64 z
def zU (z:Int):Value:=.int .u64 z
def zB (b:Bool):Value:=.bool b
end
end Go.Sp
namespace Go.Sp
section
variable {tt:TT} {call:A8} {n0:Nat}
theorem NY.ghs {os:List Fs} {F F':Fr} {H H':Aa} (F1:Fr) (H1:Aa) (h:E9 n0 F H F1 H1) (r:NY tt call n0 os F1 H1 F' H'):NY tt call n0 os F H F' H':=by
 induction h with
 | id=>exact r
 | step hg _ ih=>exact .gh hg (ih r)
end
end Go.Sp
namespace Go.Sp
noncomputable section
def Zk (e:EO):Value:=EO.rec (motive:=fun _=>Value) (fun k v b=>.tuple ⟨[k,v,gi b]⟩) e
def Zl (v:Value):Option EO:=oo (CQ v) none fun l=>ll l none fun k l=>ll l none fun x l=>ll l none fun b l=>ll l (oo (MN b) none fun n=>some ⟨k,x,n⟩) fun _ _=>none
def Ef (o:AJ):Value:=AJ.rec (motive:=fun _=>Value) (fun xs _ _ _=>.agg ⟨xs⟩) (fun es c=>.tuple ⟨gi c::AP Zk es⟩) (fun _ _ _ _=>EP) EP o
def TP (v:Value):Option AJ:=
 oo (Bt v) (oo (CQ v) (bb (Nq v) (some .dead) none) fun l=>ll l none fun c r=>oo (MN c) none fun n=>oo (CG Zl r) none fun es=>some (.map es n)) fun xs=>some (.cells xs false false [])
structure Akd where
 es:List EO
 clock:Nat
def Fj (v:Value):Option Akd:=oo (CQ v) none fun l=>ll l none fun c r=>oo (MN c) none fun n=>oo (CG Zl r) none fun es=>some ⟨es,n⟩

def BK (tabs:List (List Value)) (os:List AJ):Aa:=⟨len tabs+len os,JJ (Br (KD tabs) os) 0 .nil,true⟩
def TQ (H:Aa) (i:Nat):Bool:=oo (Bv (H.get i)) false fun o=>o.imm
def KL (H:Aa) (tabs:List (List Value)):Nat→Bool:=List.rec (motive:=fun _=>Nat→Bool) (fun _=>true) (fun t _ ih i=>an (FE (Ei H i) t) (an (TQ H i) (ih (Nat.succ i)))) tabs
def MQ {α:Type} (l:List α):Bool:=ll l true fun _ _=>false
def dD (o:AJ):Bool:=AJ.rec (motive:=fun _=>Bool) (fun xs _ _ _=>MQ xs) (fun _ _=>false) (fun _ _ _ _=>false) true o
def wH (o:AJ):Bool:=AJ.rec (motive:=fun _=>Bool) (fun _ imm spent _=>an (nt imm) (nt spent)) (fun _ _=>true) (fun _ _ _ _=>false) false o
def Qn (H:Aa) (l:List (Option Nat)):Bool:=Au (fun o=>oo o true fun id=>wH (H.get id)) l
def XV (H:Aa) (id:Nat):List Nat:=oo (Bv (H.get id)) [] fun o=>o.anc
def I6 (H:Aa) (l:List (Option Nat)):List Nat:=List.rec (motive:=fun _=>List Nat) [] (fun o _ ih=>Br (oo o [] fun id=>XV H id) ih) l
def VN (H:Aa) (v:Value):Bool:=oo (IA v) true fun s=>Dp (Nat.ble 2 s.cap) (dD (H.get s.id))
def Na (F:Fr) (H:Aa) (rs:List Rt):List (Option Nat)→Bool:=
 List.rec (motive:=fun _=>List (Option Nat)→Bool) (fun _=>true) (fun r _ ih o=>an (VN H (r.val F H o)) (ih (NT o (r.val F H o)))) rs
def Su (n:Nat):List Nat:=Nat.rec (motive:=fun _=>List Nat) [] (fun m r=>Br r [m]) n
def Oj (olds:List (Option Nat)) (next extra:Nat):List (Option Nat):=Br (AP (fun p=>idxOf p olds 0) (Su next)) (AP (fun q=>some (len olds+q)) (Su extra))
def Mx (obs:List AJ):Aa→Aa:=List.rec (motive:=fun _=>Aa→Aa) (fun H=>H) (fun o _ ih H=>ih (H.push o)) obs
def Ht (js:List (Option Nat)):List AJ→Aa→Aa:=
 List.rec (motive:=fun _=>List AJ→Aa→Aa) (fun obs H=>Mx obs H) (fun j _ ih obs H=>ll obs H fun o r=>ih r (oo j H fun id=>H.set id o)) js
def KM (inv:List (Option Nat)) (p:Bool×AJ):Option AJ:=pp p fun deep o=>EE inv deep false o

def VO (tabs:List (List Value)) (na:Nat) (rs:List Rt) (outs:List Bool) (f:List Value→Option Value) (args:List Value) (H:Aa):Option (Value×Aa):=
 (fun F => (fun olds => bb (an (KL H tabs 0) (an (NS olds olds 0) (an (Nat.beq (len olds) (len tabs + len rs)) (an (Nat.beq (len args) na) (Qn H (Am (len tabs) olds))))))
   (bb (Na F H rs (DY (len tabs)))
     (oo (CG (newObj H [] olds) (Gf (AP Rt.deep rs) (Am (len tabs) olds))) none fun os =>
       oo (CG (Rz olds) args) none fun as=>oo (f (Br as (AP Ef os))) none fun z=>oo (CQ z) none fun l=>ll l none fun v es=>oo (CG TP es) none fun os'=>
        bb (an (Nat.beq (len outs) (len os')) (Nat.ble (len rs) (len os')))
         (oo (CG (KM (Oj olds H.next (len os' - len rs))) (Gf outs os')) none fun ns => oo (Rz (Oj olds H.next (len os' - len rs)) v) none fun v' =>
           some (v',Ht (Am (len tabs) olds) ns (H.kill (I6 H (Am (len tabs) olds))))) none) none) none)
  (E8 F H rs (DY (len tabs)))) (Fr.made (len args) args)
end

def plainO (o:AJ):Prop:=o = .dead∨(∃ xs,o = .cells xs false false [])∨∃ es c,o = .map es c
def Cn (P:Program) (tabs:List (List Value)) (na k:Nat) (g:FuncId) (f:List Value→Option Value):Prop:=
 (∀ (as:Array Value) (w:World),(callFunc g as).run P w = .ok (.enter g as) w) ∧
 ∀ args os z, args.length = na → os.length = k → (∀ o ∈ os, plainO o) → f (args ++ os.map Ef) = some z →
  ∀ R w args', (∀ i, i < tabs.length → R.f i = some (i, 0)) → (∀ i o, os[i]? = some o → R.f (tabs.length + i) = none → Em o) → Ck (BK tabs os) R w → Cf R args args' →
   Calls P g ⟨args'⟩ w fun e w' => ∃ (u v : Value) (os' : List AJ) (H' : Aa) (R' : Ren), e = .returned u ∧ z = .tuple ⟨v :: os'.map Ef⟩ ∧ VR R' v u ∧ Ba (BK tabs os) R w H' R' w' ∧ k ≤ os'.length ∧
    ∀ i o,os'[i]?=some o→H'.get (tabs.length+i)=o∧plainO o
def AaU (tt:TT) (T k:Nat) (rs:List ResultVar) (z:Value) (F:Fr) (H:Aa):Prop:=
 ∃ (v:Value) (os':List AJ),z = .tuple ⟨v::os'.map Ef⟩∧DV tt F H rs=some v∧k≤os'.length∧∀ i o,os'[i]?=some o→H.get (T+i)=o∧plainO o
def FJ (tt:TT) (T k:Nat) (rs:List ResultVar) (z:Value):Ex→Fr→Aa→Prop
 | .exit _,_,_=>False
 | .goto _,_,_=>False
 | .normal,F,H=>∃ F1 H1,E9 (T+k) F H F1 H1∧AaU tt T k rs z F1 H1
 | .ret,F,H=>AaU tt T k rs z F H
theorem E9.trans {n0:Nat} {F F1 F2:Fr} {H H1 H2:Aa} (h:E9 n0 F H F1 H1) (r:E9 n0 F1 H1 F2 H2):E9 n0 F H F2 H2:=by
 induction h with
 | id=>exact r
 | step hg _ ih=>exact .step hg (ih r)
theorem FJ.ghs {tt:TT} {T k:Nat} {rs:List ResultVar} {z:Value} {F:Fr} {H:Aa} (F':Fr) (H':Aa) (h:E9 (T+k) F H F' H') (r:FJ tt T k rs z .normal F' H'):FJ tt T k rs z .normal F H:=by
 obtain⟨F1,H1,h1,h2⟩:=r
 exact⟨F1,H1,h.trans h1,h2⟩

theorem MB (tabs:List (List Value)) (os:List AJ) (i:Nat):(BK tabs os).get i=if i < tabs.length then (match tabs[i]? with | some t=>.cells t true false [] | none=>.dead) else (os[i - tabs.length]?).getD .dead:=by
 unfold BK
 rw[Aa.get_mk,LF]
 have hl:(KD tabs).length=tabs.length:=by simp[KD]
 simp only[BH,List.length_append,hl,Nat.zero_add,Nat.zero_le,true_and,Nat.sub_zero]
 by_cases h:i < tabs.length
 ·rw[if_pos (by omega),if_pos h,List.getElem?_append_left (by rw[hl];exact h),Qf,List.getElem?_eq_getElem h];rfl
 ·rw[if_neg h]
  by_cases h2:i < tabs.length+os.length
  ·rw[if_pos h2,List.getElem?_append_right (by rw[hl];omega),hl]
  ·rw[if_neg h2,List.getElem?_eq_none (by omega)];rfl
theorem CW (tabs:List (List Value)) (os:List AJ):(BK tabs os).next=tabs.length+os.length:=by show len tabs+len os=_;rw[AV,AV]
theorem Ew {tabs:List (List Value)} {os:List AJ} {i:Nat} {t:List Value} (h:tabs[i]?=some t):(BK tabs os).get i = .cells t true false []:=by
 rw[MB,if_pos (List.getElem?_eq_some_iff.1 h).1,h]
theorem Fz (tabs:List (List Value)) (os:List AJ) (i:Nat):(BK tabs os).get (tabs.length+i)=(os[i]?).getD .dead:=by
 rw[MB,if_neg (by omega),show tabs.length+i - tabs.length=i by omega]
theorem Ol {o:AJ} (h:plainO o):o.ancOf=[]:=by
 rcases h with rfl | ⟨xs,rfl⟩ | ⟨es,c,rfl⟩ <;> rfl
theorem dE (e:EO):Zl (Zk e)=some e:=by obtain⟨k,v,b⟩:=e;rfl
theorem Zm (es:List EO):CG Zl (es.map Zk)=some es:=by
 induction es with
 | nil=>rfl
 | cons e es ih =>
  show oo (Zl (Zk e)) none (fun b=>oo (CG Zl (es.map Zk)) none fun r=>some (b::r))=_
  rw[dE,Ac,ih];rfl
theorem dF {o:AJ} (h:plainO o):TP (Ef o)=some o:=by
 rcases h with rfl | ⟨xs,rfl⟩ | ⟨es,c,rfl⟩
 ·rfl
 ·rfl
 ·show oo (CG Zl (AP Zk es)) none (fun es=>some (AJ.map es c))=_
  rw[Cc,Zm];rfl
theorem Zn {os:List AJ} (h:∀ o∈os,plainO o):CG TP (os.map Ef)=some os:=by
 induction os with
 | nil=>rfl
 | cons o os ih =>
  show oo (TP (Ef o)) none (fun b=>oo (CG TP (os.map Ef)) none fun r=>some (b::r))=_
  rw[dF (h o (by simp)),Ac,ih fun o ho=>h o (by simp[ho])];rfl

theorem KN {H:Aa} {tabs:List (List Value)} {j:Nat} (h:KL H tabs j=true):∀ i t,tabs[i]?=some t→Ei H (j+i)=t∧TQ H (j+i)=true:=by
 induction tabs generalizing j with
 | nil=>intro i t h;simp at h
 | cons a tabs ih =>
  obtain⟨h1,h2⟩:=Av (show an (FE (Ei H j) a) (an (TQ H j) (KL H tabs (j+1)))=true from h)
  obtain⟨h2,h3⟩:=Av h2
  intro i t hi
  cases i with
  | zero=>simp at hi;subst hi;exact⟨LB h1,h2⟩
  | succ i=>have:=ih h3 i t (by simpa using hi);rwa [show j+(i+1)=j+1+i by omega]
theorem XW {H:Aa} {i:Nat} {t:List Value} (h1:Ei H i=t) (h2:TQ H i=true) (hne:t=t):∃ sp anc,H.get i = .cells t true sp anc:=by
 unfold Ei at h1
 unfold TQ at h2
 cases ho:H.get i with
 | cells xs imm sp anc =>
  rw[ho] at h1 h2
  have h1:xs=t:=h1
  have h2:imm=true:=h2
  exact⟨sp,anc,by rw[h1,h2]⟩
 | dead=>rw[ho] at h2;cases h2
 | map=>rw[ho] at h2;cases h2
 | iter=>rw[ho] at h2;cases h2

theorem Zo {o:AJ} (h:dD o=true):Em o:=by
 cases o with
 | dead=>trivial
 | cells xs i s a =>
  cases xs with
  | nil=>rfl
  | cons x xs=>cases h
 | map=>cases h
 | iter=>cases h
theorem dG {o:AJ} (h:wH o=true):o.writable=true∧o.immB=false:=by
 cases o with
 | dead=>cases h
 | iter=>cases h
 | map=>exact⟨rfl,rfl⟩
 | cells xs i s a =>
  obtain⟨h1,h2⟩:=Av (show an (nt i) (nt s)=true from h)
  rw[Dh h1,Dh h2];exact⟨rfl,rfl⟩
theorem lC {H:Aa} {l:List (Option Nat)} (h:Qn H l=true) {i id:Nat} (hi:l[i]?=some (some id)):wH (H.get id)=true:=by
 unfold Qn at h
 rw[Bh,List.all_eq_true] at h
 exact h _ (List.mem_of_getElem? hi)
theorem dH {H:Aa} {l:List (Option Nat)} (h:Qn H l=true) {i id:Nat} (hi:l[i]?=some (some id)):(H.get id).writable=true∧(H.get id).immB=false:=by
 unfold Qn at h
 rw[Bh,List.all_eq_true] at h
 exact dG (h _ (List.mem_of_getElem? hi))
theorem VP {H:Aa} {l:List (Option Nat)} {a:Nat}:a∈I6 H l↔∃ (i id:Nat),l[i]?=some (some id)∧a∈(H.get id).ancOf:=by
 have key:∀ id,XV H id=(H.get id).ancOf:=fun id=>by
  unfold XV
  cases H.get id <;> rfl
 induction l with
 | nil=>simp[I6]
 | cons o l ih =>
  show a∈Br (oo o [] fun id=>XV H id) (I6 H l)↔_
  rw[BH,List.mem_append]
  constructor
  ·rintro(h | h)
   ·cases o with
    | none=>cases h
    | some id=>exact⟨0,id,rfl,by rw[←key];exact h⟩
   ·obtain⟨i,id,h1,h2⟩:=ih.1 h
    exact⟨i+1,id,by simpa using h1,h2⟩
  ·rintro⟨i,id,h1,h2⟩
   cases i with
   | zero=>simp at h1;subst h1;left;rw[Ac,key];exact h2
   | succ i=>right;exact ih.2 ⟨i,id,by simpa using h1,h2⟩

theorem Zp (n:Nat):Su n=List.range n:=by
 induction n with
 | zero=>rfl
 | succ n ih=>show Br (Su n) [n]=_;rw[ih,BH,List.range_succ]
theorem dI (olds:List (Option Nat)) (next extra p:Nat):(Oj olds next extra)[p]?=if p < next then some (idxOf p olds 0) else if p < next+extra then some (some (olds.length+(p - next))) else none:=by
 unfold Oj
 simp only[BH,Cc,Zp,AV]
 by_cases h:p < next
 ·rw[if_pos h,List.getElem?_append_left (by simpa using h)];simp[h]
 ·rw[if_neg h,List.getElem?_append_right (by simp;omega)]
  simp only[List.length_map,List.length_range,List.getElem?_map]
  by_cases h2:p < next+extra
  ·rw[if_pos h2,List.getElem?_range (by omega)];rfl
  ·rw[if_neg h2,List.getElem?_eq_none (by simp;omega)];rfl

theorem VQ (obs:List AJ) (H:Aa):(Mx obs H).next=H.next+obs.length:=by
 induction obs generalizing H with
 | nil=>rfl
 | cons o obs ih=>show (Mx obs (H.push o)).next=_;rw[ih,Aa.next_push];simp;omega
theorem Zq (obs:List AJ) (H:Aa) (p:Nat):(Mx obs H).get p=if H.next≤p∧p < H.next+obs.length then (obs[p - H.next]?).getD .dead else H.get p:=by
 induction obs generalizing H with
 | nil=>show H.get p=_;rw[if_neg (by simp)]
 | cons o obs ih =>
  show (Mx obs (H.push o)).get p=_
  rw[ih,Aa.next_push,Aa.get_push]
  by_cases h:H.next+1≤p∧p < H.next+1+obs.length
  ·rw[if_pos h,if_pos (by simp;omega),show p - H.next=(p - (H.next+1))+1 by omega,List.getElem?_cons_succ]
  ·rw[if_neg h]
   by_cases h2:H.next=p
   ·rw[if_pos h2,if_pos (by simp;omega)];subst h2;simp
   ·rw[if_neg h2,if_neg (by simp;omega)]
theorem dJ {obs:List AJ} {H:Aa} (h:H.wf):(Mx obs H).wf:=by
 induction obs generalizing H with
 | nil=>exact h
 | cons o obs ih=>exact ih (h.push o)
theorem VS (js:List (Option Nat)) (obs:List AJ) (H:Aa) (hl:js.length≤obs.length):(Ht js obs H).next=H.next+(obs.length - js.length):=by
 induction js generalizing obs H with
 | nil=>show (Mx obs H).next=_;rw[VQ];simp
 | cons j js ih =>
  cases obs with
  | nil=>simp at hl
  | cons o obs =>
   show (Ht js obs (oo j H fun id=>H.set id o)).next=_
   rw[ih _ _ (by simpa using hl)]
   cases j with
   | none=>simp
   | some id=>simp
theorem dK {js:List (Option Nat)} {obs:List AJ} {H:Aa} (h:H.wf) (hj:∀ (i id:Nat),js[i]?=some (some id)→id < H.next):(Ht js obs H).wf:=by
 induction js generalizing obs H with
 | nil=>exact dJ h
 | cons j js ih =>
  cases obs with
  | nil=>exact h
  | cons o obs =>
   show (Ht js obs (oo j H fun id=>H.set id o)).wf
   cases j with
   | none=>exact ih h fun i id hi=>hj (i+1) id (by simpa using hi)
   | some id =>
    refine ih (h.set (hj 0 id rfl) o) fun i id' hi=>?_
    rw[Ac,Aa.next_set]
    exact hj (i+1) id' (by simpa using hi)
theorem GY (js:List (Option Nat)) (obs:List AJ) (H:Aa) (p:Nat) (hl:js.length≤obs.length) (hp:∀ i:Nat,js[i]?≠some (some p)) :
 (Ht js obs H).get p=if H.next≤p∧p < H.next+(obs.length - js.length) then (obs[js.length+(p - H.next)]?).getD .dead else H.get p:=by
 induction js generalizing obs H with
 | nil=>show (Mx obs H).get p=_;rw[Zq];simp
 | cons j js ih =>
  cases obs with
  | nil=>simp at hl
  | cons o obs =>
   show (Ht js obs (oo j H fun id=>H.set id o)).get p=_
   rw[ih _ _ (by simpa using hl) fun i hi=>hp (i+1) (by simpa using hi)]
   have e : ∀ H' : Aa, H'.next = H.next → H'.get p = H.get p → (if H'.next ≤ p ∧ p < H'.next + (obs.length - js.length) then (obs[js.length + (p - H'.next)]?).getD AJ.dead else H'.get p) =
    if H.next≤p∧p < H.next+((o::obs).length - (j::js).length) then ((o::obs)[(j::js).length+(p - H.next)]?).getD .dead else H.get p:=fun H' h1 h2=>by
    rw[h1,h2]
    simp only[List.length_cons,Nat.add_sub_add_right]
    rw[show js.length+1+(p - H.next)=js.length+(p - H.next)+1 by omega,List.getElem?_cons_succ]
   cases j with
   | none=>exact e H rfl rfl
   | some id =>
    refine e _ (by rw[Ac,Aa.next_set]) ?_
    rw[Ac,Aa.get_set,if_neg]
    intro h;subst h;exact hp 0 rfl
theorem dL (js:List (Option Nat)) (obs:List AJ) (H:Aa) (p i:Nat) (hl:js.length≤obs.length) (hi:js[i]?=some (some p)) (hu:∀ i':Nat,js[i']?=some (some p)→i'=i) (hlt:p < H.next):(Ht js obs H).get p=(obs[i]?).getD .dead:=by
 induction js generalizing obs H i with
 | nil=>simp at hi
 | cons j js ih =>
  cases obs with
  | nil=>simp at hl
  | cons o obs =>
   show (Ht js obs (oo j H fun id=>H.set id o)).get p=_
   cases i with
   | zero =>
    simp at hi;subst hi
    rw[GY _ _ _ _ (by simpa using hl) fun i' h=>by have:=hu (i'+1) (by simpa using h);omega,Ac,Aa.next_set,if_neg (by omega),Aa.get_set,if_pos rfl]
    rfl
   | succ i =>
    rw[ih _ _ i (by simpa using hl) (by simpa using hi) (fun i' h=>by have:=hu (i'+1) (by simpa using h);omega) (by cases j with
     | none=>exact hlt
     | some id=>rw[Ac,Aa.next_set];exact hlt)]
    simp
end Go.Sp
