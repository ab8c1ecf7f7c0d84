/- Made from wip. -/
import Derived.Test.YtenlanbdolnhhaaSpNextx
import Derived.ChangeKeysEq
import Derived.RowKit3
import Derived.Lib.LaidTab
import Derived.WalkKit
import Derived.ProofKit
import Derived.OpenShut
import Derived.Deep.DeepHandedRow
import Derived.Test.YtenlanbdolnhhaaSpSymx
import Derived.ReadAgain

namespace Go.Sp

def FlFs (p:TypeId→List Value→Prop):List Field→Nat→List Value→Prop
 | [],_,zs=>zs=[]
 | f :: r, off, zs => f.name ≠ "_" ∧ f.offset = off ∧ ∃ z1 z2, zs = z1 ++ z2 ∧ p f.type z1 ∧ FlFs p r (off + z1.length) z2

def Fl (P:Program):Nat→TypeId→List Value→Prop
 | 0,_,_=>False
 | d + 1, t, zs => P.cellsOf t = zs.length ∧ (
  ((∃ k,P.underlying t=some (.int k))∧(∃ k n,zs=[.int k n]))∨(P.underlying t=some .bool∧∃ b,zs=[.bool b])∨(P.underlying t=some .string∧∃ s,zs=[.string s]) ∨
  (∃ l e z1,P.underlying t=some (.array l e)∧Fl P d e z1∧zs=zeroRow z1 l) ∨
  (∃ fs,P.underlying t=some (.struct fs)∧P.stoodInHeld t=false∧FlFs (Fl P d) fs.toList 0 zs))

theorem kindsLike_split {z1 z2 xs:List Value} (h:kindsLike (z1++z2) xs=true):kindsLike z1 (xs.take z1.length)=true∧kindsLike z2 (xs.drop z1.length)=true:=by
 induction z1 generalizing xs with
 | nil=>exact⟨rfl,h⟩
 | cons z z1 ih => cases xs with
  | nil=>cases h
  | cons x xs =>
   obtain⟨h3,h4⟩:=an_inv (show an (kindLike z x) (kindsLike (z1++z2) xs)=true from h)
   obtain⟨h5,h6⟩:=ih h4
   exact⟨by show an (kindLike z x) (kindsLike z1 (xs.take z1.length))=true;rw[h3,h5];rfl,h6⟩

theorem cellsEq_split {n:Nat} {xs ys:List Value} {b:Bool} (h:cellsEq xs ys=some b):∃ p q,cellsEq (xs.take n) (ys.take n)=some p∧cellsEq (xs.drop n) (ys.drop n)=some q∧b=(p && q):=by
 induction xs generalizing ys b n with
 | nil => cases ys with
  | nil=>refine⟨true,true,?_,?_,?_⟩ <;> first | (simp;rfl) | (injection h with h;simp[←h])
  | cons y ys=>cases h
 | cons x xs ih => cases ys with
  | nil=>cases h
  | cons y ys =>
   cases n with
   | zero=>exact⟨true,b,rfl,h,by simp⟩
   | succ n =>
    obtain⟨p,hp,h1⟩:=oo_inv (show oo (cellEq x y) none (fun b=>oo (cellsEq xs ys) none fun c=>some (an b c))=some b from h)
    obtain⟨q,hq,h2⟩:=oo_inv h1
    obtain⟨p',q',h3,h4,rfl⟩:=ih (n:=n) hq
    injection h2 with h2
    refine⟨an p p',q',?_,h4,?_⟩
    ·show oo (cellEq x y) none (fun b=>oo (cellsEq (xs.take n) (ys.take n)) none fun c=>some (an b c))=_
     rw[hp,oo_some,h3,oo_some]
    ·rw[←h2];simp[an_eq,Bool.and_assoc]

section
variable {P:Program}

theorem isAgg_run {t:TypeId} {d:TypeDesc} (h:P.underlying t=some d) (w:World):(isAgg t).run P w = .ok (isAggT d) w:=by
 simp only[isAgg,Sem.run_bind,run_underlying h,Result.andThen_ok]
 cases d <;> rfl

def Boxed (P:Program) (t:TypeId) (zs:List Value) (v:Value):Prop:=∃ d,P.underlying t=some d∧((isAggT d=true∧v = .agg ⟨zs⟩)∨(isAggT d=false∧zs=[v]))

theorem Fl.info {d:Nat} {t:TypeId} {zs:List Value} (h:Fl P d t zs):∃ k i,P.underlying t=some k∧P.info? t=some i∧P.cellsOf t=zs.length:=by
 cases d with
 | zero=>exact h.elim
 | succ d =>
  obtain⟨hc,h⟩:=h
  have:∃ k,P.underlying t=some k:=by
   rcases h with⟨⟨k,h⟩,_⟩ | ⟨h,_⟩ | ⟨h,_⟩ | ⟨l,e,z1,h,_⟩ | ⟨fs,h,_⟩ <;> exact⟨_,h⟩
  obtain⟨k,hk⟩:=this
  obtain⟨i,hi⟩:=info_of_underlying hk
  exact⟨k,i,hk,hi,hc⟩

theorem Fl.part {d:Nat} {t:TypeId} {zs:List Value} (h:Fl P d t zs) {xs:List Value} {off:Nat} (hle:off+zs.length≤xs.length) (w:World) :
 ∃ v,(Go.part t ⟨xs⟩ off).run P w = .ok v w∧Boxed P t ((xs.drop off).take zs.length) v:=by
 obtain⟨k,i,hk,hi,hc⟩:=h.info
 by_cases ha:isAggT k=true
 ·refine⟨.agg ⟨(xs.drop off).take zs.length⟩,?_,k,hk,.inl ⟨ha,rfl⟩⟩
  simp only[Go.part,Sem.run_bind,isAgg_run hk,ha,Result.andThen_ok,if_true,run_sizeOf w hi,Sem.run_pure,hc]
  congr 2
  simp[List.extract_toArray,List.extract_eq_take_drop]
 ·have ha:isAggT k=false:=by simpa using ha
  have hn:zs.length=1:=by
   cases d with
   | zero=>exact h.elim
   | succ d =>
    rcases h.2 with⟨_,_,_,h⟩ | ⟨_,_,h⟩ | ⟨_,_,h⟩ | ⟨l,e,z1,h,_⟩ | ⟨fs,h,_⟩
    ·rw[h];rfl
    ·rw[h];rfl
    ·rw[h];rfl
    ·rw[hk] at h;cases h;cases ha
    ·rw[hk] at h;cases h;cases ha
  rw[hn] at hle ⊢
  have hlt:off < xs.length:=by omega
  refine⟨xs[off],?_,k,hk,.inr ⟨ha,?_⟩⟩
  ·simp only[Go.part,Sem.run_bind,isAgg_run hk,ha,Result.andThen_ok,Bool.false_eq_true,if_false]
   simp[List.getElem?_eq_getElem hlt]
  ·rw[List.drop_eq_getElem_cons hlt];rfl

theorem zeroRow_len (z:List Value) (n:Nat):(zeroRow z n).length=n*z.length:=by
 induction n with
 | zero=>show ([]:List Value).length=_;simp
 | succ n ih=>show (appL z (zeroRow z n)).length=_;rw[appL_eq,List.length_append,ih,Nat.succ_mul];omega

theorem eqItems_ok {d:Nat} {e:TypeId} {z1:List Value} (he:Fl P d e z1) {D:Nat}
 (ih:∀ (xs ys:List Value) (x y:Value) (b:Bool) (w:World),kindsLike z1 xs=true→Boxed P e xs x→Boxed P e ys y→cellsEq xs ys=some b→(Op.equalIn D e x y).run P w = .ok b w) (w:World) :
 ∀ (k i : Nat) (xs ys : List Value) (b : Bool), xs.length = (i + k) * z1.length → kindsLike (zeroRow z1 k) (xs.drop (i * z1.length)) = true → cellsEq (xs.drop (i * z1.length)) (ys.drop (i * z1.length)) = some b → ys.length = xs.length →
  (Op.eqItems D e z1.length ⟨xs⟩ ⟨ys⟩ (List.range' i k)).run P w = .ok b w:=by
 intro k
 induction k with
 | zero =>
  intro i xs ys b hl _ h hy
  rw[List.drop_eq_nil_of_le (by simp at hl;omega),List.drop_eq_nil_of_le (by simp at hl;omega)] at h
  injection h with h;subst h
  simp[Op.eqItems]
 | succ k ihk =>
  intro i xs ys b hl hk h hy
  have e1:(i+(k+1))*z1.length=i*z1.length+z1.length+k*z1.length:=by rw[Nat.add_mul,Nat.succ_mul];omega
  have hl':=hl
  rw[e1] at hl'
  obtain⟨x,hx,bx⟩:=he.part (xs:=xs) (off:=i*z1.length) (by omega) w
  obtain⟨y,hy',byy⟩:=he.part (xs:=ys) (off:=i*z1.length) (by omega) w
  obtain⟨p,q,h1,h2,rfl⟩:=cellsEq_split (n:=z1.length) h
  have hk:kindsLike (z1++zeroRow z1 k) (xs.drop (i*z1.length))=true:=by have:=hk;rwa [show zeroRow z1 (k+1)=appL z1 (zeroRow z1 k) from rfl,appL_eq] at this
  obtain⟨hk1,hk2⟩:=kindsLike_split hk
  rw[List.drop_drop] at hk2
  rw[List.drop_drop,List.drop_drop] at h2
  have hrun:=ih _ _ x y p w hk1 bx byy h1
  simp only[List.range',Op.eqItems,Sem.run_bind,hx,hy',hrun,Result.andThen_ok]
  cases p with
  | false=>simp
  | true =>
   simp only[Bool.true_and,if_true]
   have e2:(i+1)*z1.length=i*z1.length+z1.length:=by rw[Nat.succ_mul]
   refine ihk (i+1) xs ys q (by rw[hl];congr 1;omega) (by rw[e2];exact hk2) ?_ hy
   rw[e2]
   exact h2

theorem run_equalIn_struct' (D:Nat) {t:TypeId} {fs:Array Field} (xs ys:Array Value) (hu:P.underlying t=some (.struct fs)) (hst:P.stoodInHeld t=false) (w:World) :
 (Op.equalIn (D+1) t (.agg xs) (.agg ys)).run P w=(Op.eqFields D xs ys fs.toList).run P w:=by
 have hf:P.fieldsOf t=fs:=by unfold Program.fieldsOf;rw[hu]
 have:=run_equalIn_struct w D t xs ys (by rw[hf];exact hu) hst
 rw[this,hf]

theorem eqFields_ok {d:Nat} {D:Nat}
 (ih:∀ (t:TypeId) (zs:List Value),Fl P d t zs→∀ (xs ys:List Value) (x y:Value) (b:Bool) (w:World),kindsLike zs xs=true→Boxed P t xs x→Boxed P t ys y→cellsEq xs ys=some b→(Op.equalIn D t x y).run P w = .ok b w) (w:World) :
 ∀ (fs : List Field) (off : Nat) (zs xs ys : List Value) (b : Bool), FlFs (Fl P d) fs off zs → kindsLike zs (xs.drop off) = true → off ≤ xs.length → cellsEq (xs.drop off) (ys.drop off) = some b → ys.length = xs.length →
  (Op.eqFields D ⟨xs⟩ ⟨ys⟩ fs).run P w = .ok b w:=by
 intro fs
 induction fs with
 | nil =>
  intro off zs xs ys b hf hk ho h hy
  have hf:zs=[]:=hf
  subst hf
  have hl:=kindsLike_len hk
  simp only[List.length_drop,List.length_nil] at hl
  rw[List.drop_eq_nil_of_le (by omega),List.drop_eq_nil_of_le (by omega)] at h
  injection h with h;subst h
  simp[Op.eqFields]
 | cons f fs ihf =>
  intro off zs xs ys b hf hk ho h hy
  obtain⟨h1,h2,z1,z2,rfl,h3,h4⟩:=hf
  have hl:=kindsLike_len hk
  simp only[List.length_drop,List.length_append] at hl
  obtain⟨x,hx,bx⟩:=h3.part (xs:=xs) (off:=off) (by omega) w
  obtain⟨y,hy',byy⟩:=h3.part (xs:=ys) (off:=off) (by omega) w
  obtain⟨p,q,g1,g2,rfl⟩:=cellsEq_split (n:=z1.length) h
  obtain⟨hk1,hk2⟩:=kindsLike_split hk
  rw[List.drop_drop] at hk2
  rw[List.drop_drop,List.drop_drop] at g2
  have hrun:=ih f.type z1 h3 _ _ x y p w hk1 bx byy g1
  simp only[Op.eqFields,if_pos h1,Sem.run_bind,h2,hx,hy',hrun,Result.andThen_ok]
  cases p with
  | false=>simp
  | true =>
   simp only[Bool.not_true,Bool.false_eq_true,if_false,Sem.run_pure,Result.andThen_ok,Bool.true_and]
   exact ihf _ z2 xs ys q h4 hk2 (by omega) g2 hy

theorem Fl.equal {d:Nat}:∀ {t:TypeId} {zs:List Value},Fl P d t zs→∀ (D:Nat) (xs ys:List Value) (x y:Value) (b:Bool) (w:World),kindsLike zs xs=true→Boxed P t xs x→Boxed P t ys y→cellsEq xs ys=some b →
 (Op.equalIn (D+d) t x y).run P w = .ok b w:=by
 induction d with
 | zero=>intro t zs h;exact h.elim
 | succ d ih =>
  intro t zs h D xs ys x y b w hn hx hy hb
  obtain⟨kx,hkx,hx⟩:=hx
  obtain⟨ky,hky,hy⟩:=hy
  rw[hkx] at hky;cases hky
  have hlen:=cellsEq_len hb
  have hlz:=kindsLike_len hn
  have leaf:isAggT kx=false→xs=[x]∧ys=[y]∧cellEq x y=some b:=fun hag=>by
   rcases hx with⟨h',_⟩ | ⟨_,rfl⟩
   ·rw[hag] at h';cases h'
   rcases hy with⟨h',_⟩ | ⟨_,rfl⟩
   ·rw[hag] at h';cases h'
   obtain⟨p,hp,h1⟩:=oo_inv (show oo (cellEq x y) none (fun b=>oo (cellsEq [] []) none fun c=>some (an b c))=some b from hb)
   have h1:some (an p true)=some b:=h1
   injection h1 with h1
   have hpb:p=b:=by simpa [an_eq] using h1
   exact⟨rfl,rfl,by rw[hp,hpb]⟩
  have agg:isAggT kx=true→x = .agg ⟨xs⟩∧y = .agg ⟨ys⟩:=fun hag=>by
   rcases hx with⟨_,h1⟩ | ⟨h',_⟩
   ·rcases hy with⟨_,h2⟩ | ⟨h',_⟩
    ·exact⟨h1,h2⟩
    ·rw[hag] at h';cases h'
   ·rw[hag] at h';cases h'
  show (Op.equalIn ((D+d)+1) t x y).run P w=_
  rcases h.2 with⟨⟨k,hu⟩,_,_,rfl⟩ | ⟨hu,_,rfl⟩ | ⟨hu,_,rfl⟩ | ⟨l,e,z1,hu,he,rfl⟩ | ⟨fs,hu,hst,hf⟩
  ·rw[hkx] at hu;cases hu
   obtain⟨rfl,rfl,hc⟩:=leaf rfl
   obtain⟨h3,_⟩:=an_inv (show an (isS (vInt x)) _=true from hn)
   cases hv:vInt x with
   | none=>rw[hv] at h3;cases h3
   | some p =>
    have:=vInt_some hv;subst this
    obtain⟨q,hq,h5⟩:=oo_inv (show oo (vInt y) none (fun q=>pp q fun j b=>bb (intKindEq p.1 j) (some (ieq p.2 b)) none)=some b from hc)
    rw[pp_eta] at h5
    obtain⟨h6,h7⟩:=bb_inv h5
    have:=vInt_some hq;subst this
    have:=intKindEq_iff h6
    rw[←this,run_equalIn_int w (D+d) t p.1 k p.2 q.2 hkx]
    injection h7 with h7
    rw[←h7,ieq_eq]
  ·rw[hkx] at hu;cases hu
   obtain⟨rfl,rfl,hc⟩:=leaf rfl
   obtain⟨h3,_⟩:=an_inv (show an (isS (vBool x)) _=true from hn)
   cases hv:vBool x with
   | none=>rw[hv] at h3;cases h3
   | some p =>
    have:=vBool_some hv;subst this
    obtain⟨q,hq,h5⟩:=oo_inv (show oo (vBool y) none (fun b=>some (bq p b))=some b from hc)
    have:=vBool_some hq;subst this
    rw[run_equalIn_bool w (D+d) t p q hkx]
    injection h5 with h5
    rw[←h5];cases p <;> cases q <;> rfl
  ·rw[hkx] at hu;cases hu
   obtain⟨rfl,rfl,hc⟩:=leaf rfl
   obtain⟨h3,_⟩:=an_inv (show an (isS (vStr x)) _=true from hn)
   cases hv:vStr x with
   | none=>rw[hv] at h3;cases h3
   | some p =>
    have:=vStr_some hv;subst this
    obtain⟨q,hq,h5⟩:=oo_inv (show oo (vStr y) none (fun b=>some (p == b))=some b from hc)
    have:=vStr_some hq;subst this
    rw[run_equalIn_string w (D+d) t p q hkx]
    injection h5 with h5
    rw[←h5,beq_toListBytes]
  ·rw[hkx] at hu;cases hu
   obtain⟨rfl,rfl⟩:=agg rfl
   obtain⟨k,i,hk,hi,hc⟩:=he.info
   rw[run_equalIn_array (d:=D+d) w ⟨xs⟩ ⟨ys⟩ hkx hi,List.range_eq_range',hc]
   exact eqItems_ok he (fun xs ys x y b w hk bx byy hb=>ih he D xs ys x y b w hk bx byy hb) w l 0 xs ys b (by rw[hlz,zeroRow_len,Nat.zero_add]) (by simpa using hn) (by simpa using hb) hlen.symm
  ·rw[hkx] at hu;cases hu
   obtain⟨rfl,rfl⟩:=agg rfl
   rw[run_equalIn_struct' (D+d) ⟨xs⟩ ⟨ys⟩ hkx hst w]
   exact eqFields_ok (fun t zs hf xs ys x y b w hk bx byy hb=>ih hf D xs ys x y b w hk bx byy hb) w fs.toList 0 zs xs ys b hf (by simpa using hn) (Nat.zero_le _) (by simpa using hb) hlen.symm

theorem forIn_ok {α:Type} {l:List α} {f:α→Unit→Sem (ForInStep Unit)} {w:World} (h:∀ a∈l,(f a ()).run P w = .ok (.yield ()) w):(forIn l () f).run P w = .ok () w:=by
 induction l with
 | nil=>simp
 | cons a l ih =>
  simp only[List.forIn_cons,Sem.run_bind,h a (by simp),Result.andThen_ok]
  exact ih fun b hb=>h b (by simp[hb])

theorem Fl.check {d:Nat}:∀ {t:TypeId} {zs:List Value},Fl P d t zs→∀ (e:Bool) (D:Nat) (xs:List Value) (x:Value) (w:World),xs.length=zs.length→Boxed P t xs x →
 (Instr.checkKey e (D+d) t x).run P w = .ok () w:=by
 induction d with
 | zero=>intro t zs h;exact h.elim
 | succ d ih =>
  intro t zs h e D xs x w hn hx
  obtain⟨kx,hkx,hx⟩:=hx
  have agg:isAggT kx=true→x = .agg ⟨xs⟩:=fun hag=>by
   rcases hx with⟨_,h1⟩ | ⟨h',_⟩
   ·exact h1
   ·rw[hag] at h';cases h'
  show (Instr.checkKey e ((D+d)+1) t x).run P w=_
  rcases h.2 with⟨⟨k,hu⟩,_⟩ | ⟨hu,_⟩ | ⟨hu,_⟩ | ⟨l,el,z1,hu,he,rfl⟩ | ⟨fs,hu,hst,hf⟩
  ·simp[Instr.checkKey,run_underlying hu]
  ·simp[Instr.checkKey,run_underlying hu]
  ·simp[Instr.checkKey,run_underlying hu]
  ·rw[hkx] at hu;cases hu
   obtain rfl:=agg rfl
   obtain⟨k,i,hk,hi,hc⟩:=he.info
   rw[zeroRow_len] at hn
   simp only[Instr.checkKey,Sem.run_bind,run_underlying hkx,Result.andThen_ok,Std.Legacy.Range.forIn_eq_forIn_range',Std.Legacy.Range.size,Nat.sub_zero,Nat.add_one_sub_one,Nat.div_one]
   have hall:∀ j∈List.range' 0 l,(do let n ←sizeOf el;let v ←Go.part el ⟨xs⟩ (j*n);Instr.checkKey e (D+d) el v;pure (ForInStep.yield PUnit.unit):Sem (ForInStep PUnit)).run P w = .ok (.yield ()) w:=fun j hj=>by
    have hj:j < l:=by simpa using hj
    have hle:j*z1.length+z1.length≤xs.length:=by
     rw[hn,←Nat.succ_mul];exact Nat.mul_le_mul_right _ hj
    obtain⟨v,hv,bv⟩:=he.part (xs:=xs) (off:=j*z1.length) hle w
    have:=ih he e D _ v w (by simp;omega) bv
    simp[run_sizeOf w hi,hc,hv,this]
   rw[forIn_ok hall];rfl
  ·rw[hkx] at hu;cases hu
   obtain rfl:=agg rfl
   have main:∀ (fs:List Field) (off:Nat) (zs:List Value),FlFs (Fl P d) fs off zs→off+zs.length=xs.length→∀ f∈fs,∃ v,(Go.part f.type ⟨xs⟩ f.offset).run P w = .ok v w∧(Instr.checkKey e (D+d) f.type v).run P w = .ok () w:=by
    intro fs
    induction fs with
    | nil=>intro _ _ _ _ f hf;cases hf
    | cons g gs ihg =>
     intro off zs hf hl f hfm
     obtain⟨h1,h2,z1,z2,rfl,h3,h4⟩:=hf
     simp only[List.length_append] at hl
     rcases List.mem_cons.1 hfm with rfl | hm
     ·obtain⟨v,hv,bv⟩:=h3.part (xs:=xs) (off:=off) (by omega) w
      exact⟨v,by rw[h2];exact hv,ih h3 e D _ v w (by simp;omega) bv⟩
     ·exact ihg _ _ h4 (by omega) f hm
   simp only[Instr.checkKey,Sem.run_bind,run_underlying hkx,Result.andThen_ok]
   rw[←Array.forIn_toList]
   have hall : ∀ f ∈ fs.toList, (if f.name ≠ "_" then do let v ← Go.part f.type ⟨xs⟩ f.offset; Instr.checkKey e (D + d) f.type v; pure (ForInStep.yield PUnit.unit) else pure (ForInStep.yield PUnit.unit) : Sem (ForInStep PUnit)).run P w = .ok (.yield ()) w := fun f hfm => by
    by_cases hne : f.name ≠ "_"
    ·obtain⟨v,hv,hc⟩:=main fs.toList 0 zs hf (by omega) f hfm
     simp[hne,hv,hc]
    ·simp[hne]
   rw[forIn_ok hall];rfl

theorem Fl.ok {d:Nat} {t:TypeId} {zs:List Value} (h:Fl P d t zs) (hd:d≤10000) (hag:∃ k,P.underlying t=some k∧isAggT k=true) (hg:P.eqGuardType P.depth t=false):FlatOk P t zs:=by
 obtain⟨k,hk,ha⟩:=hag
 refine⟨fun xs ys b w hl hb=>?_,hg,fun xs w e hl=>?_⟩
 ·have:=h.equal (10000 - d) xs ys (.agg ⟨xs⟩) (.agg ⟨ys⟩) b w hl ⟨k,hk,.inl ⟨ha,rfl⟩⟩ ⟨k,hk,.inl ⟨ha,rfl⟩⟩ hb
  rwa [Nat.sub_add_cancel hd] at this
 ·have:=h.check e (10000 - d) xs (.agg ⟨xs⟩) w hl ⟨k,hk,.inl ⟨ha,rfl⟩⟩
  rwa [Nat.sub_add_cancel hd] at this
end
end Go.Sp
namespace Go.Sp

def Tr.All {α:Type} (p:Nat→α→Prop):Tr α→Prop
 | .nil=>True
 | .node v l r=>(match v with | some a=>p 0 a | none=>True)∧Tr.All (fun i=>p (2*i+1)) l∧Tr.All (fun i=>p (2*i+2)) r

theorem Tr.All.get {α:Type} {t:Tr α}:∀ {p:Nat→α→Prop},t.All p→∀ {i:Nat} {a:α},t.get i=some a→p i a:=by
 induction t with
 | nil=>intro p _ i a h;cases h
 | node v l r ihl ihr =>
  intro p h i a hg
  obtain⟨h0,h1,h2⟩:=h
  cases i with
  | zero =>
   have:v=some a:=hg
   subst this;exact h0
  | succ j =>
   have hg:Bool.rec (motive:=fun _=>Option α) (r.get (Nat.div j 2)) (l.get (Nat.div j 2)) (Nat.beq (Nat.mod j 2) 0)=some a:=hg
   have e1:Nat.div j 2=j / 2:=rfl
   have e2:Nat.mod j 2=j % 2:=rfl
   rw[e1,e2] at hg
   cases hb:Nat.beq (j % 2) 0 with
   | true =>
    rw[hb] at hg
    have:=ihl h1 hg
    have hm:=Nat.eq_of_beq_eq_true hb
    have:p (2*(j / 2)+1) a:=this
    rwa [show 2*(j / 2)+1=j+1 by omega] at this
   | false =>
    rw[hb] at hg
    have:=ihr h2 hg
    have hm:j % 2≠0:=fun e=>by rw[e] at hb;cases hb
    have:p (2*(j / 2)+2) a:=this
    rwa [show 2*(j / 2)+2=j+1 by omega] at this

theorem FnOk.by {P : Program} {gl : List Nat} {f : FuncId} {n : Nat} {x : RC} {rs : List ResultVar} {fd : Func} (h1 : P.funcs[f]? = some fd)
 (h2:(match fd.body with | some c=>rcOf c x | none=>none)=some x) (h3:(match fd.body with | some c=>codeB gl c | none=>false)=true)
 (h4 : fd.ntmps = n) (h5 : fd.results.toList = rs) (h6 : (fd.name == "runtime.NumGoroutine") = false) : FnOk P gl f ⟨n, x, rs⟩ := by
 cases hb:fd.body with
 | none=>rw[hb] at h2;cases h2
 | some c =>
  rw[hb] at h2 h3
  exact⟨fd,c,h1,hb,h4,h5,h6,rcOf_Comp h2,h3⟩

structure TyOk (P:Program) (t:TypeId) (i:TI):Prop where
 ok:P.underlying t=some i.und∧∃ inf,P.info? t=some inf∧inf.size=i.size∧inf.bytes=i.bytes∧inf.zero=i.zero
 plain:oo i.zero true plainB=true
 flat:i.flat=true→∃ zs,i.zero=some (.agg ⟨zs⟩)∧FlatOk P t zs
theorem TyOk.by {P : Program} {t : TypeId} {i : TI} {inf : TypeInfo} (h1 : P.underlying t = some i.und) (h2 : P.info? t = some inf) (h3 : inf.size = i.size) (h4 : inf.bytes = i.bytes) (h5 : inf.zero = i.zero)
 (h6:oo i.zero true plainB=true) (h7:i.flat=true→∃ zs,i.zero=some (.agg ⟨zs⟩)∧FlatOk P t zs):TyOk P t i:=⟨⟨h1,inf,h2,h3,h4,h5⟩,h6,h7⟩
theorem TOk.of_all {P:Program} {t:Tr TI} (h:t.All (TyOk P)):TOk P t.get where
 ok:=fun _ _ e=>(h.get e).ok
 plain:=fun _ i z e hz=>by have:=(h.get e).plain;rw[hz] at this;exact this
 flat:=fun _ _ zs e hf hz=>by
  obtain⟨zs',h1,h2⟩:=(h.get e).flat hf
  rw[hz] at h1;cases h1;exact h2
end Go.Sp
namespace Go.Sp
open Go.RowKit

def GrownB (W w':World):Prop:=W.keptBut w' (fun _=>False)∧(∀ a,a.block < W.heap.size→w'.frozen? a=W.frozen? a)∧W.heap.size≤w'.heap.size
theorem grown_of {H H':AHeap} {R R':Ren} {w w':World} (hp:Post H R w H' R' w') (himm:∀ id p,R.f id=some p→(H.get id).immB=true):GrownB w w':=by
 have hk:∀ c,c < w.heap.size→w'.heap[c]?=w.heap[c]?:=fun c hc=>hp.frame c hc fun id β h=>himm id _ h
 refine⟨⟨hp.side.1,hp.side.2.1,fun i hi=>?_⟩,hp.side.2.2,hp.grow⟩
 rw[hk i hi]
 cases w.heap[i]? with
 | none=>trivial
 | some o=>cases o <;> simp

end Go.Sp
namespace Go.Sp
open Go.ChangeShapes Go.WideShapes Go.ChangeAt Go.RowKit

theorem post_ofB {H:Type} {enc:TypeId×Value→H} {P:Program} {f:Func} {s:ChangeSpec} {apart fresh handsOn again:Bool} {W W':World} {args:Array Value} {v:Value} {ds gs:List (DataW H)} {before pa pv:List MemPlace}
 (hW:DataW.Whole enc P f.params.toList s.vars apart W args.toList ds gs before)
 (hres:∀ (b:Nat) (sp:Nat→Bool) (hd:Bool),DataW.TrodAll enc P W' b sp hd f.resultTypes.toList (v.resultList f.resultTypes.size) (s.fn H (ds++gs)).results [])
 (hargs:∀ sp:Nat→Bool,(∀ p∈before,sp p.block=true)→DataW.TrodAll enc P W' 0 sp true f.params.toList args.toList (s.fn H (ds++gs)).args pa)
 (hvars:∀ sp:Nat→Bool,(∀ p∈before,sp p.block=true)→DataW.TrodVars enc P W' sp s.vars (s.fn H (ds++gs)).vars pv)
 (hps:before=pa++pv) (hg:GrownB W W')
 (hok:∀ (j:Nat) (t:TypeId) (r:Value),f.resultTypes[j]?=some t→(v.resultList f.resultTypes.size)[j]?=some r→Value.okWide P W' .any 0 t r) :
 s.post enc P f apart fresh handsOn again W args v W':=by
 have hlt:=hW.lt
 have hold:∀ p∈before,(fun b=>decide (b < W.heap.size)) p.block=true:=fun p hp=>decide_eq_true (hlt p hp)
 have hkeep:W.keptBut W' (fun p=>p∈before∧p∈[]++pa++pv):=World.keptBut_mono (fun p hp=>hp.elim) hg.1
 subst hps
 have hW2:=hW
 obtain⟨_,_,_,_,_,hz,hn⟩:=hW2
 have hv0:=hvars (fun _=>true) (fun _ _=>rfl)
 have ha0:=hargs (fun _=>true) (fun _ _=>rfl)
 refine⟨ds,gs,pa++pv,[],pa,pv,hW,hres _ _ _,hargs _ hold,hvars _ hold,?_,fun _=>⟨hok,_,_,([]++pa)++pv,⟨[]++pa,pv,trodAll_append ha0 (hres _ _ _),hv0,rfl,fun b off hp=>?_,fun ha=>?_⟩,fun p hp _=>?_⟩⟩
 ·exact World.keptBut_mono (fun p hp=>by simpa using hp) hkeep
 ·have hp:MemPlace.cell b off∈pa++pv:=by simpa using hp
  rw[hg.2.1 _ (hlt _ hp)]
  exact hz b off hp
 ·simpa using hn ha
 ·simpa using hp

theorem post_true {H:Type} {enc:TypeId×Value→H} {P:Program} {f:Func} {s:ChangeSpec} {apart fresh handsOn again:Bool} {W W':World} {args:Array Value} {ds gs:List (DataW H)} {before pa pv:List MemPlace} {t:TypeId}
 (hW:DataW.Whole enc P f.params.toList s.vars apart W args.toList ds gs before)
 (hres:(s.fn H (ds++gs)).results=[.lit (.bool true)])
 (hargs:∀ sp:Nat→Bool,(∀ p∈before,sp p.block=true)→DataW.TrodAll enc P W' 0 sp true f.params.toList args.toList (s.fn H (ds++gs)).args pa)
 (hvars:∀ sp:Nat→Bool,(∀ p∈before,sp p.block=true)→DataW.TrodVars enc P W' sp s.vars (s.fn H (ds++gs)).vars pv)
 (hps:before=pa++pv) (hg:GrownB W W') (hr:f.resultTypes = #[t]) (ht:P.underlying t=some .bool) :
 s.post enc P f apart fresh handsOn again W args (.bool true) W':=
 post_ofB (pa:=pa) (pv:=pv) hW (fun _ _ _=>by rw[hr,hres];exact trodAll_cons_mk (shut_bool ht _) trodAll_mk0) hargs hvars hps hg (ok_one hr rfl (okWide_bool_mk ht _))

end Go.Sp
namespace Go.Sp
open Go.ChangeShapes Go.WideShapes Go.ChangeAt Go.RowKit

theorem read_ok {P:Program} {w:World} {R:Ren} (K:Kids P (· < P.types.size)) (hz:∀ t e,t < P.types.size→P.underlying t=some (.slice e)→0 < P.cellsOf e) (hR:R.ro=allRo w) {H:Type} {enc:TypeId×Value→H} {held:Bool} :
 ∀ (m n : Nat) (t : TypeId) (cs : List Value) (x : DataW H × List MemPlace), t < P.types.size → plainTy P m t = true → DataW.trod enc P w 0 (fun _ => true) held n t cs = some x →
  ∃ xs,VRL R xs cs∧(∀ y∈xs,closed1 y=true)∧Shp P t xs:=by
 intro m
 induction m with
 | zero=>intro n t cs x _ h;cases h
 | succ m ih =>
  intro n t cs x ht hp h
  unfold plainTy at hp
  cases hu:P.underlying t with
  | none=>rw[hu] at hp;cases hp
  | some d =>
   rw[hu] at hp
   cases d <;> simp only at hp <;> first | (cases hp;done) | skip
   case bool=>
    obtain⟨b,rfl,_⟩:=DataW.trod_bool hu h
    exact⟨[.bool b],.one (.bool b),by simp[closed1,vv],.bool hu b⟩
   case int k=>
    obtain⟨z,rfl,_,hw⟩:=DataW.trod_int hu h
    exact⟨[.int k z],.one (.int k z),by simp[closed1,vv],.int hu z hw⟩
   case slice e=>
    have he:=K.slice ht hu
    have hpos:=hz t e ht hu
    rcases DataW.trod_slice hu h with⟨rfl,_⟩ | ⟨a,ln,cap,elems,rest,n',_,rfl,_,_,hlc,hcm,hel,h1,h2,_⟩
    ·exact⟨[fsV (P.cellsOf e) 0 0 []],.one (.fsN _ 0 (by decide)),by intro y hy;simp at hy;subst hy;rfl,.slice hu [] (by simp) (by simp)⟩
    ·obtain⟨h2,h3⟩:=h2 rfl
     have cellOf:∀ (i:Nat) (ci:List Value),w.cells? 0 (a.add (i*P.cellsOf e)) (P.cellsOf e)=some ci→ci.length=P.cellsOf e∧∀ j,j < P.cellsOf e→w.cell? ((a.add (i*P.cellsOf e)).add j)=ci[j]?:=fun i ci hc=>by
      unfold World.cells? at hc
      rw[if_pos (Nat.zero_le _)] at hc
      have hl:=mapM_some_length hc
      refine⟨by simpa using hl,fun j hj=>?_⟩
      exact mapM_some_get hc j j (by simp[hj])
     -- the elements
     obtain⟨ls,hlen,hls⟩:=build_list (p:=fun i (l:List Value)=>∃ ci,w.cells? 0 (a.add (i*P.cellsOf e)) (P.cellsOf e)=some ci∧VRL R l ci∧(∀ y∈l,closed1 y=true)∧Shp P e l) ln fun i hi=>by
      have h9:=h1 i hi
      have hlt:i < elems.length:=by omega
      rw[List.getElem?_eq_getElem hlt] at h9
      obtain⟨ci,hc,ht9⟩:=Option.bind_eq_some_iff.1 h9
      obtain⟨l,k1,k2,k3⟩:=ih n' e ci _ he hp ht9
      exact⟨l,ci,hc,k1,k2,k3⟩
     have hsz:∀ l∈ls,l.length=P.cellsOf e:=fun l hl=>by
      obtain⟨i,hi⟩:=List.mem_iff_getElem?.1 hl
      obtain⟨ci,hc,hv,_⟩:=hls i l hi
      rw[hv.1];exact(cellOf i ci hc).1
     have hcl:∀ y∈ls.flatten,closed1 y=true:=fun y hy=>by
      obtain⟨l,hl,hy⟩:=mem_flatten_get hy
      obtain⟨i,hi⟩:=List.mem_iff_getElem?.1 hl
      obtain⟨ci,_,_,hc,_⟩:=hls i l hi
      exact hc y hy
     have hsh:∀ l∈ls,Shp P e l:=fun l hl=>by
      obtain⟨i,hi⟩:=List.mem_iff_getElem?.1 hl
      obtain⟨ci,_,_,_,hs⟩:=hls i l hi
      exact hs
     refine⟨[fsV (P.cellsOf e) ls.length 0 ls.flatten],?_,by intro y hy;simp at hy;subst hy;rfl,.slice hu ls (by omega) hsh⟩
     obtain⟨hfl,hfg⟩:=flatten_get hsz
     by_cases hcap:cap=0
     ·have:ln=0:=by omega
      subst hcap;subst this
      have:ls=[]:=List.eq_nil_of_length_eq_zero hlen
      subst this
      obtain⟨c,o,s⟩:=a
      exact .one (.fsE (by decide))
     ·-- there is a cell: the block is known
      have first:∃ ci,w.cells? 0 (a.add (0*P.cellsOf e)) (P.cellsOf e)=some ci:=by
       by_cases hl0:ln=0
       ·have h9:=h3 0 (by omega)
        rw[List.getElem?_eq_getElem (by omega)] at h9
        obtain⟨ci,hc,_⟩:=Option.bind_eq_some_iff.1 h9
        rw[hl0] at hc
        exact⟨ci,hc⟩
       ·have h9:=h1 0 (by omega)
        rw[List.getElem?_eq_getElem (by omega)] at h9
        obtain⟨ci,hc,_⟩:=Option.bind_eq_some_iff.1 h9
        exact⟨ci,hc⟩
      obtain⟨ci,hci⟩:=first
      obtain⟨k1,k2⟩:=cellOf 0 ci hci
      have hc0:=k2 0 hpos
      rw[List.getElem?_eq_getElem (by omega)] at hc0
      simp only[Nat.zero_mul] at hc0
      have hsp:=World.cell?_spot hc0
      obtain⟨c,o,s⟩:=a
      simp[Addr.add] at hsp
      subst hsp
      have hblock:∃ C ty fz,w.heap[c]?=some (.cells C ty fz):=by
       unfold World.cell? at hc0
       simp only[Addr.add,if_true] at hc0
       split at hc0
       ·rename_i C ty fz hC;exact⟨C,ty,fz,hC⟩
       ·cases hc0
      obtain⟨C,ty,fz,hC⟩:=hblock
      have cellC:∀ (i j:Nat) (ci:List Value),w.cells? 0 ((⟨c,o,none⟩:Addr).add (i*P.cellsOf e)) (P.cellsOf e)=some ci→j < P.cellsOf e→C[o+(i*P.cellsOf e+j)]?=ci[j]?:=fun i j ci hc hj=>by
       have h9:=(cellOf i ci hc).2 j hj
       rw[add_plain,add_plain] at h9
       unfold World.cell? at h9
       simp only[hC] at h9
       rw[←h9,Nat.add_assoc];rfl
      have hro:R.ro c=some C:=by rw[hR];simp[allRo,hC]
      -- the row
      have row:∀ q,q < ls.flatten.length→∃ y,C[o+q]?=some y∧VR R (ls.flatten[q]?.getD undef) y:=fun q hq=>by
       rw[hfl] at hq
       have hd:=Nat.div_add_mod q (P.cellsOf e)
       have hm:=Nat.mod_lt q hpos
       have hi:q / P.cellsOf e < ls.length:=(Nat.div_lt_iff_lt_mul hpos).2 hq
       have hq':q=q / P.cellsOf e*P.cellsOf e+q % P.cellsOf e:=by rw[Nat.mul_comm];exact hd.symm
       obtain⟨l,hl⟩:∃ l,ls[q / P.cellsOf e]?=some l:=⟨_,List.getElem?_eq_getElem hi⟩
       obtain⟨ci,hc,hv,_⟩:=hls _ l hl
       have hcl:=(cellOf _ ci hc).1
       refine ⟨ci[q % P.cellsOf e]'(by omega), ?_, ?_⟩
       ·have:=cellC _ _ ci hc hm
        rw[←hq'] at this
        rw[this,List.getElem?_eq_getElem (by omega)]
       ·have h9:=hfg _ _ hm hi
        rw[←hq',hl] at h9
        simp only[Option.bind_some] at h9
        rw[h9,List.getElem?_eq_getElem (by rw[hv.1];omega)]
        exact hv.2 _ _ _ (List.getElem?_eq_getElem (by rw[hv.1];omega)) (List.getElem?_eq_getElem (by omega))
      have hfit:o+ls.flatten.length≤C.size:=by
       by_cases h0:ls.flatten.length=0
       ·rw[h0]
        have h9:=cellC 0 0 ci hci hpos
        rw[List.getElem?_eq_getElem (by omega)] at h9
        have:=(Array.getElem?_eq_some_iff.1 h9).1
        omega
       ·obtain⟨y,hy,_⟩:=row (ls.flatten.length - 1) (by omega)
        have:=(Array.getElem?_eq_some_iff.1 hy).1
        omega
      obtain⟨ys,hyl,hys⟩:=build_list (p:=fun q y=>C[o+q]?=some y∧VR R (ls.flatten[q]?.getD undef) y) ls.flatten.length row
      refine .one ?_
      have:ln=ls.length:=hlen.symm
      subst this
      refine .fs hro hfl hlc (fun h=>by cases h) (by decide) hfit (fun i y hy=>(hys i y hy).1) hcl hyl.symm fun i x y hx hy=>?_
      have:=(hys i y hy).2
      rw[hx] at this
      exact this
   case array len e=>
    obtain⟨he,hce⟩:=K.array ht hu
    obtain⟨xs,n',_,_,hcl,hxl,hget⟩:=DataW.trod_array hu h
    obtain⟨ls,hlen,hls⟩:=build_list (p:=fun i (l:List Value)=>VRL R l ((cs.drop (i*P.cellsOf e)).take (P.cellsOf e))∧(∀ y∈l,closed1 y=true)∧Shp P e l) len fun i hi=>by
     have h9:=hget i hi
     rw[List.getElem?_eq_getElem (by omega)] at h9
     obtain⟨l,k1,k2,k3⟩:=ih n' e _ _ he hp h9
     exact⟨l,k1,k2,k3⟩
    have hmem:∀ l∈ls,(∀ y∈l,closed1 y=true)∧Shp P e l:=fun l hl=>by
     obtain⟨i,hi⟩:=List.mem_iff_getElem?.1 hl
     exact(hls i l hi).2
    refine⟨ls.flatten,pieces (szs:=List.replicate len (P.cellsOf e)) (by simp[hlen]) (by simp[hcl,hce]) fun i l hl=>?_,fun y hy=>?_,.array hu ls hlen fun l hl=>(hmem l hl).2⟩
    ·have hi:i < len:=by rw[←hlen];exact(List.getElem?_eq_some_iff.1 hl).1
     have h9:=(hls i l hl).1
     have e1:((List.replicate len (P.cellsOf e)).take i).sum=i*P.cellsOf e:=by rw[List.take_replicate,Nat.min_eq_left (by omega)];simp
     have e2:(List.replicate len (P.cellsOf e)).getD i 0=P.cellsOf e:=by simp[hi]
     rw[e1,e2];exact h9
    ·obtain⟨l,hl,hy⟩:=mem_flatten_get hy
     exact(hmem l hl).1 y hy
   case struct fs=>
    obtain⟨hk,hsum,hoff⟩:=K.struct ht hu
    obtain⟨xs,n',_,_,hcl,hxl,hget⟩:=DataW.trod_struct hu h
    rw[List.all_eq_true] at hp
    obtain⟨ls,hlen,hls⟩:=build_list (p:=fun i (l:List Value)=>∀ f,fs[i]?=some f→VRL R l ((cs.drop f.offset).take (P.cellsOf f.type))∧(∀ y∈l,closed1 y=true)∧Shp P f.type l) fs.size fun i hi=>by
     have hf:=Array.getElem?_eq_getElem hi
     have h9:=hget i _ hf
     rw[List.getElem?_eq_getElem (by omega)] at h9
     have hmem:fs[i]∈fs.toList:=by simp
     obtain⟨l,k1,k2,k3⟩:=ih n' _ _ _ (hk _ hmem) (hp _ hmem) h9
     exact⟨l,fun f hf'=>by rw[hf] at hf';injection hf' with hf';subst hf';exact⟨k1,k2,k3⟩⟩
    refine⟨ls.flatten,pieces (szs:=fs.toList.map fun f=>P.cellsOf f.type) (by simp[hlen]) (by rw[hcl,hsum]) fun i l hl=>?_,fun y hy=>?_,.struct hu ls hlen fun i f l hf hl=>((hls i l hl) f hf).2.2⟩
    ·have hi:i < fs.size:=by rw[←hlen];exact(List.getElem?_eq_some_iff.1 hl).1
     have hf:=Array.getElem?_eq_getElem hi
     have h9:=((hls i l hl) _ hf).1
     rw[hoff i fs[i] (by simp)] at h9
     have e2:(fs.toList.map fun f=>P.cellsOf f.type).getD i 0=P.cellsOf fs[i].type:=by simp[hi]
     rw[e2,←List.map_take];exact h9
    ·obtain⟨l,hl,hy⟩:=mem_flatten_get hy
     obtain⟨i,hi⟩:=List.mem_iff_getElem?.1 hl
     have hlt:i < fs.size:=by rw[←hlen];exact(List.getElem?_eq_some_iff.1 hi).1
     exact((hls i l hi) _ (Array.getElem?_eq_getElem hlt)).2.1 y hy

theorem Sim.congr {H H2:AHeap} {R:Ren} {w:World} (hg:∀ i,H2.get i=H.get i) (hn:H2.next=H.next) (hs:Sim H R w):Sim H2 R w:=
 ⟨fun id c β h => by rw [hn]; exact hs.dom id c β h, fun id c β h => by rw [hg]; exact hs.obj id c β h, fun id c β id' β' h h' hne hw => by rw [hg] at hw; rw [hg, hg]; exact hs.sep id c β id' β' h h' hne hw,
   fun id a ha=>by rw[hg] at ha;rw[hn,hg];exact hs.anc id a ha,fun id hid=>by rw[hn] at hid;rw[hg];exact hs.wf id hid,fun c C h=>⟨(hs.ro c C h).1,fun id β h'=>by rw[hg];exact(hs.ro c C h).2 id β h'⟩⟩
theorem Post.congrL {H H2 H':AHeap} {R R':Ren} {w w':World} (hg:∀ i,H2.get i=H.get i) (hn:H2.next=H.next) (hp:Post H R w H' R' w'):Post H2 R w H' R' w':=
 ⟨hp.le, fun id p h => by rw [hn]; exact hp.new id p h, hp.sim, by rw [hn]; exact hp.next, hp.grow, fun c hc h => hp.frame c hc fun id β hid => by rw [← hg]; exact h id β hid, fun id hi hr Q c β ob h => by rw [hn] at hi; rw [hg] at h; exact hp.calm id hi hr Q c β ob h,
   fun id hi h=>by rw[hn] at hi;rw[hg] at h ⊢;exact hp.imm id hi h,fun id c β h hr=>by rcases hp.fresh id c β h hr with h1 | ⟨i,b,h1,h2⟩;exact .inl h1;exact .inr ⟨i,b,h1,by rw[hg];exact h2⟩,hp.side,
   fun c C h=>by rcases hp.rofresh c C h with h1 | h1 | ⟨i,b,h1,h2⟩;exact .inl h1;exact .inr (.inl h1);exact .inr (.inr ⟨i,b,h1,by rw[hg];exact h2⟩)⟩

theorem grown_same {W W':World} (h:GrownB W W') {p:MemPlace} (hp:p.block < W.heap.size):W.sameAt W' p:=by
 have hk:=h.1.2.2 p.block hp
 cases p with
 | cell b off =>
  show W'.cell? ⟨b,off,none⟩=W.cell? ⟨b,off,none⟩
  unfold World.cell?
  simp only
  show _=_
  have hk:match W.heap[b]?,W'.heap[b]? with
   | some (.cells c t fr),some (.cells c' t' fr')=>t'=t∧fr'=fr∧c'.size=c.size∧∀ j:Nat,¬ False→c'[j]?=c[j]?
   | some (.map es clock),some (.map es' clock')=>False∨(es'=es∧clock'=clock)
   | o,o'=>o'=o:=hk
  split at hk
  ·rename_i e1 e2;rw[e1,e2];simp[hk.2.2.2 off (fun h=>h)]
  ·rename_i e1 e2;rw[e1,e2]
  ·rw[hk]
 | map b =>
  show W'.heap[b]?=W.heap[b]?
  have hk:match W.heap[b]?,W'.heap[b]? with
   | some (.cells c t fr),some (.cells c' t' fr')=>t'=t∧fr'=fr∧c'.size=c.size∧∀ j:Nat,¬ False→c'[j]?=c[j]?
   | some (.map es clock),some (.map es' clock')=>False∨(es'=es∧clock'=clock)
   | o,o'=>o'=o:=hk
  split at hk
  ·rename_i e1 e2
   rw[e1,e2]
   obtain⟨rfl,rfl,h1,h2⟩:=hk
   congr 2
   exact Array.ext_getElem? fun j=>h2 j (fun h=>h)
  ·rename_i e1 e2
   rw[e1,e2]
   rcases hk with h9 | ⟨rfl,rfl⟩
   ·exact h9.elim
   ·rfl
  ·exact hk

theorem trodAll_carry {H:Type} {enc:TypeId×Value→H} {P:Program} {w w':World} {base:Nat} {spare:Nat→Bool} {held:Bool}:∀ {ts:List TypeId} {vs:List Value} {ds:List (DataW H)} {ps:List MemPlace},
 DataW.TrodAll enc P w base spare held ts vs ds ps→(∀ p∈ps,w.sameAt w' p)→DataW.TrodAll enc P w' base spare held ts vs ds ps
 | [],[],[],_,h,_=>h
 | _::_,_::_,_::_,_,⟨p,q,⟨n,h1⟩,h2,e⟩,hs=>⟨p,q,⟨n,DataW.trod_carry n _ _ _ h1 fun x hx=>hs x (by rw[e];exact List.mem_append_left _ hx)⟩,trodAll_carry h2 fun x hx=>hs x (by rw[e];exact List.mem_append_right _ hx),e⟩

theorem post_trueA {H:Type} {enc:TypeId×Value→H} {P:Program} {f:Func} {s:ChangeSpec} {W:World} {args:Array Value} {ds gs:List (DataW H)} {before:List MemPlace} {t:TypeId} {fid:FuncId} (K:Kids P (· < P.types.size))
 (hz:∀ t e,t < P.types.size→P.underlying t=some (.slice e)→0 < P.cellsOf e) (hp:∀ t∈f.params.toList,t < P.types.size)
 (hW:DataW.Whole enc P f.params.toList s.vars false W args.toList ds gs before) (hsv:s.vars=[])
 (hfn:s.fn H ds = { results:=[.lit (.bool true)],args:=ds })
 (hr:f.resultTypes = #[t]) (ht:P.underlying t=some .bool)
 (walk:Calls P fid args W fun e W'=>e = .returned (.bool true)∧GrownB W W') :
 Calls P fid args W fun e W'=>∃ v,e = .returned v∧s.post enc P f false true false false W args v W':=by
 have hW':=hW
 obtain⟨p,q,hA,hV,rfl,hfz,hnd⟩:=hW
 rw[hsv] at hV
 obtain⟨rfl,rfl⟩:=trodVars_none hV
 refine walk.mono fun e W' ⟨he,hg⟩=>?_
 subst he
 refine⟨_,rfl,post_true (pa:=p) (pv:=[]) hW' (by rw[List.append_nil,hfn]) (fun sp hsp=>?_) (fun _ _=>by rw[hsv,List.append_nil,hfn];rfl) rfl hg hr ht⟩
 rw[List.append_nil,hfn]
 exact trodAll_carry (hA.respare K hz hp fun x hx=>hsp x (List.mem_append_left _ hx)) fun x hx=>grown_same hg (hW'.lt x (List.mem_append_left _ hx))
end Go.Sp
namespace Go.Sp
noncomputable section
abbrev I (n:Int):Value:=.int .i64 n
def sl (fl:Nat) (l:List Int):Sl:=⟨l.length,fl,l.map I⟩
def S (fl:Nat) (l:List Int):Value:=Sl.v 1 (sl fl l)
end
@[simp] theorem sl_n (fl:Nat) (l:List Int):(sl fl l).n=l.length:=rfl
@[simp] theorem sl_cs (fl:Nat) (l:List Int):(sl fl l).cs=l.map I:=rfl
@[simp] theorem ll_nil' {α β:Type} (z:β) (s:α→List α→β):ll [] z s=z:=rfl
@[simp] theorem ll_cons' {α β:Type} (a:α) (r:List α) (z:β) (s:α→List α→β):ll (a::r) z s=s a r:=rfl
@[simp] theorem toI_mk (n:Int):toI .i64 (.int .i64 n)=some n:=rfl
@[simp] theorem toI_mk16 (n:Int):toI .u16 (.int .u16 n)=some n:=rfl
@[simp] theorem toI_mk8 (n:Int):toI .u8 (.int .u8 n)=some n:=rfl
@[simp] theorem toSl_mk (s:Sl):toSl 1 (s.v 1)=some s:=rfl
@[simp] theorem vAgg_mk (l:List Value):vAgg (.agg ⟨l⟩)=some l:=rfl
@[simp] theorem vTup_mk (l:List Value):vTup (.tuple ⟨l⟩)=some l:=rfl
@[simp] theorem vBool_mk (b:Bool):vBool (.bool b)=some b:=rfl
@[simp] theorem toN_mk (n:Nat):toN (Int.ofNat n)=some n:=rfl
@[simp] theorem toN_0:toN 0=some 0:=rfl
theorem blt_eq (a b:Nat):Nat.blt a b=decide (a < b):=by
 rw[Bool.eq_iff_iff,decide_eq_true_iff,Nat.blt_eq]
theorem ble_eq (a b:Nat):Nat.ble a b=decide (a≤b):=by
 rw[Bool.eq_iff_iff,decide_eq_true_iff,Nat.ble_eq]
theorem wrapI (n:Int) (h1:-9223372036854775808≤n) (h2:n≤9223372036854775807):wrapF .i64 n=n:=by rw[wrapF_eq];exact IntWalk.i64_in _ ⟨h1,h2⟩
theorem wrapS (i:Nat) (h:i < 1000000):wrapF .i64 (Int.add (Int.ofNat i) 1)=Int.ofNat (i+1):=by
 show wrapF .i64 (Int.ofNat i+1)=_
 rw[wrapI _ (by simp;omega) (by simp;omega)];simp
end Go.Sp
namespace Go.Sp
open Go.ChangeShapes Go.WideShapes Go.ChangeAt Go.RowKit

section
variable {H:Type} {enc:TypeId×Value→H} {P:Program} {W:World} {R:Ren} {held:Bool} {v:Value} {d:DataW H} {ps:List MemPlace} {t:TypeId} {base:Nat} {r:Reach}

theorem arg_int {k:IntKind} (ht:P.underlying t=some (.int k)) (hok:Value.okWide P W r base t v):∃ n,v = .int k n∧(Lit.int k n).wf=true:=by
 unfold Value.okWide at hok
 rw[ht] at hok
 unfold Cell.okWide at hok
 rw[ht] at hok
 cases v <;> simp[Cell.ok,ht] at hok
 rename_i k' n
 obtain⟨rfl,h⟩:=hok
 refine⟨n,rfl,?_⟩
 simp only[Lit.wf,Bool.and_eq_true,decide_eq_true_eq]
 exact h
theorem arg_struct {fs:Array Field} (ht:P.underlying t=some (.struct fs)) (hok:Value.okWide P W r base t v):∃ cs:List Value,v = .agg ⟨cs⟩:=by
 unfold Value.okWide at hok
 rw[ht] at hok
 obtain⟨⟨cs⟩,rfl,_⟩:=hok
 exact⟨cs,rfl⟩
theorem arg_array {e:TypeId} {n:Nat} (ht:P.underlying t=some (.array n e)) (hok:Value.okWide P W r base t v):∃ cs:List Value,v = .agg ⟨cs⟩:=by
 unfold Value.okWide at hok
 rw[ht] at hok
 obtain⟨⟨cs⟩,rfl,_⟩:=hok
 exact⟨cs,rfl⟩
theorem arg_slice {e:TypeId} (ht:P.underlying t=some (.slice e)) (hok:Value.okWide P W r base t v):∃ a l c,v = .slice a l c:=by
 unfold Value.okWide at hok
 rw[ht] at hok
 unfold Cell.okWide at hok
 rw[ht] at hok
 cases v <;> simp[Cell.ok,ht] at hok
 exact⟨_,_,_,rfl⟩
end

def OkArgs (P:Program) (f:Func) (W:World) (base:Nat) (args:Array Value):Prop:=∀ (j:Nat) t v,f.params[j]?=some t→args[j]?=some v→Value.okWide P W .any base t v
section
variable {P:Program} {f:Func} {W:World} {base:Nat} {t0 t1 t2 t3:TypeId} {v0 v1 v2 v3:Value}
theorem OkArgs.one (h:OkArgs P f W base #[v0]) (hp:f.params = #[t0]):Value.okWide P W .any base t0 v0:=h 0 _ _ (by rw[hp];rfl) rfl
theorem OkArgs.two (h:OkArgs P f W base #[v0,v1]) (hp:f.params = #[t0,t1]):Value.okWide P W .any base t0 v0∧Value.okWide P W .any base t1 v1:=⟨h 0 _ _ (by rw[hp];rfl) rfl,h 1 _ _ (by rw[hp];rfl) rfl⟩
theorem OkArgs.three (h:OkArgs P f W base #[v0,v1,v2]) (hp:f.params = #[t0,t1,t2]):Value.okWide P W .any base t0 v0∧Value.okWide P W .any base t1 v1∧Value.okWide P W .any base t2 v2:=
 ⟨h 0 _ _ (by rw[hp];rfl) rfl,h 1 _ _ (by rw[hp];rfl) rfl,h 2 _ _ (by rw[hp];rfl) rfl⟩
end
section
variable {P:Program} {f:Func} {W:World} {base:Nat} {args:Array Value} {t:TypeId} {v:Value}
theorem OkArgs.int {k:IntKind} (h:OkArgs P f W base args) (j:Nat) (hp:f.params[j]?=some t) (hv:args[j]?=some v) (ht:P.underlying t=some (.int k)):∃ n,v = .int k n∧(Lit.int k n).wf=true:=arg_int ht (h j t v hp hv)
theorem OkArgs.struct {fs:Array Field} (h:OkArgs P f W base args) (j:Nat) (hp:f.params[j]?=some t) (hv:args[j]?=some v) (ht:P.underlying t=some (.struct fs)):∃ cs:List Value,v = .agg ⟨cs⟩:=arg_struct ht (h j t v hp hv)
theorem OkArgs.array {e:TypeId} {n:Nat} (h:OkArgs P f W base args) (j:Nat) (hp:f.params[j]?=some t) (hv:args[j]?=some v) (ht:P.underlying t=some (.array n e)):∃ cs:List Value,v = .agg ⟨cs⟩:=arg_array ht (h j t v hp hv)
theorem OkArgs.slice {e:TypeId} (h:OkArgs P f W base args) (j:Nat) (hp:f.params[j]?=some t) (hv:args[j]?=some v) (ht:P.underlying t=some (.slice e)):∃ a l c,v = .slice a l c:=arg_slice ht (h j t v hp hv)
end
theorem handed_of {H:Type} {enc:TypeId×Value→H} {a:Assume} {C:Checked} {os:Os} {f:FuncId} {fn:Func} {s:OpenSpec} {F:Stop.Interp} {conds:List PathCond} {apart fresh handsOn again:Bool} {laid:List (String×DataW Unit)}
 (own:ownKnob C.prog.godebug=none) (started:os.Started) (noInit:C.prog.inits.idxOf? f=none) (hfn:C.prog.funcs[f]?=some fn)
 (witness : ∃ (w : World) (tape : Tape) (i : Input), w.os = os ∧ (w.forCall tape i).Shaped C.prog ∧ i.vars = [] ∧ Input.okWide C.prog (w.forCall tape i) .any w.heap.size f i ∧
   s.preRow enc C.prog fn conds apart laid (w.forCall tape i).memory i.args∧a.holds C.prog (lone (Frame.enter C.prog f i.args .normal) [] (w.forCall tape i)))
 (contract : ∀ (W : World) (base : Nat) (args : Array Value) (ds gs : List (DataW H)) (before : List MemPlace), OkArgs C.prog fn W base args →
   DataW.Whole enc C.prog fn.params.toList s.vars apart W args.toList ds gs before→laidMetH C.prog laid W →
   Calls C.prog f args W fun e W'=>∃ v,e = .returned v∧(s.at F).post enc C.prog fn apart fresh handsOn again W args v W') :
 ReturnsInHanded a C os f .any (s.preRow enc C.prog fn conds apart laid) ((s.at F).post enc C.prog fn apart fresh handsOn again):=
 returnsInHanded_of_row own started noInit hfn witness fun W base args ds gs before hval hW _ _ _ hL _ _=>contract W base args ds gs before hval hW hL

section
variable {P:Program} {t:TypeId} {xs:List Value}
theorem Shp.int_inv {k:IntKind} (ht:P.underlying t=some (.int k)) (h:Shp P t xs):∃ n,xs=[.int k n]∧(Lit.int k n).wf=true:=by
 cases h with
 | int h n hw=>rw[ht] at h;injection h with h;injection h with h;subst h;exact⟨n,rfl,hw⟩
 | _ h=>rw[ht] at h;cases h
theorem Shp.slice_inv {e:TypeId} (ht:P.underlying t=some (.slice e)) (h:Shp P t xs):∃ ls:List (List Value),ls.length≤maxLen∧(∀ l∈ls,Shp P e l)∧xs=[fsV (P.cellsOf e) ls.length 0 ls.flatten]:=by
 cases h with
 | slice h ls hl hs=>rw[ht] at h;injection h with h;injection h with h;subst h;exact⟨ls,hl,hs,rfl⟩
 | _ h=>rw[ht] at h;cases h
theorem Shp.struct_inv {fs:Array Field} (ht:P.underlying t=some (.struct fs)) (h:Shp P t xs):∃ ls:List (List Value),ls.length=fs.size∧xs=ls.flatten∧∀ (i:Nat) (f:Field) (l:List Value),fs[i]?=some f→ls[i]?=some l→Shp P f.type l:=by
 cases h with
 | struct h ls hl hs=>rw[ht] at h;injection h with h;injection h with h;subst h;exact⟨ls,hl,rfl,hs⟩
 | _ h=>rw[ht] at h;cases h
theorem Shp.array_inv {e:TypeId} {n:Nat} (ht:P.underlying t=some (.array n e)) (h:Shp P t xs):∃ ls:List (List Value),ls.length=n∧xs=ls.flatten∧∀ l∈ls,Shp P e l:=by
 cases h with
 | array h ls hl hs=>rw[ht] at h;injection h with h;injection h with h1 h2;subst h1;subst h2;exact⟨ls,hl,rfl,hs⟩
 | _ h=>rw[ht] at h;cases h
theorem Shp.pairs {e e3:TypeId} (ht:P.underlying t=some (.slice e)) (he:P.underlying e=some (.array 2 e3)) (h3:P.underlying e3=some (.int .i64)) (hc:P.cellsOf e=2) (h:Shp P t xs) :
 ∃ C:List (Int×Int),xs=[Sl.v 2 ⟨C.length,0,C.flatMap fun p=>[I p.1,I p.2]⟩]∧C.length≤maxLen:=by
 obtain⟨ls,hl,hs,rfl⟩:=h.slice_inv ht
 have:∃ C:List (Int×Int),C.length=ls.length∧ls.flatten=C.flatMap fun p=>[I p.1,I p.2]:=by
  clear hl h
  induction ls with
  | nil=>exact⟨[],rfl,rfl⟩
  | cons m ls ih =>
   obtain⟨C,h1,h2⟩:=ih fun l hl=>hs l (by simp[hl])
   obtain⟨ms,k1,rfl,k3⟩:=(hs m (by simp)).array_inv he
   match ms,k1 with
   | [x, y], _ =>
    obtain⟨a,rfl,_⟩:=(k3 x (by simp)).int_inv h3
    obtain⟨b,rfl,_⟩:=(k3 y (by simp)).int_inv h3
    exact⟨(a,b)::C,by simp[h1],by simp[h2]⟩
 obtain⟨C,h1,h2⟩:=this
 refine⟨C,?_,by omega⟩
 rw[hc,h2,←h1];rfl
end
end Go.Sp
namespace Go.Sp
section
variable {P:Program} {t:TypeId} {xs:List Value}
end
end Go.Sp
namespace Go.Sp
noncomputable section
def evFnP (tabs:List (List Value)) (isP:FuncId→Bool) (pu:PureF) (inl:CallF) (tt:TT) (fns:FuncId→Option RFn) (n:Nat):CallF:=
 Nat.rec (motive := fun _ => CallF) (fun _ _ _ => none)
  (fun m ih f args H=>oo (callP tabs isP pu inl f args H) (oo (fns f) none fun fn=>bb (Nat.ble (len args) fn.n) (endFn tt fn.results (evC tt ih m fn.body (Fr.made fn.n args) H)) none) fun r=>some r) n
def tabsHeap (tabs:List (List Value)):AHeap:=⟨len tabs,objTr (tabTr tabs) 0 .nil,false⟩
def frzR (k:Nat) (r:Option (Value×AHeap)):Option Value:=oo r none fun p=>pp p fun q H1=>oo (freezeV k false q H1) none fun p2=>pp p2 fun v' _=>some v'
def valR (r:Option (Value×AHeap)):Option Value:=oo r none fun p=>pp p fun q _=>some q
end
section
variable {P:Program} {tt:TT} {tabs:List (List Value)}
theorem evFnP_ok (hT:TOk P tt) (hne:∀ t∈tabs,t≠[]) (hpl:∀ t∈tabs,∀ x∈t,plain1 x=true) {fns:FuncId→Option RFn} (hf:∀ f r,fns f=some r→FnOk P (List.range tabs.length) f r) (hm:P.follows .mixedOrders=true)
 {isP:FuncId→Bool} {pu:PureF} {inl:CallF} (hpu:∀ g,isP g=true→PureOk P tabs g (pu g)) (hinl:CallOk P (List.range tabs.length) inl) (n:Nat):CallOk P (List.range tabs.length) (evFnP tabs isP pu inl tt fns n):=by
 induction n with
 | zero=>intro g args H v H' h;cases h
 | succ n ih =>
  intro g args H v H' h
  have h:oo (callP tabs isP pu inl g args H) (evStep tt fns (evFnP tabs isP pu inl tt fns n) n g args H) (fun r=>some r)=some (v,H'):=h
  cases hc:callP tabs isP pu inl g args H with
  | some r =>
   rw[hc,oo_some] at h
   injection h with h;subst h
   exact callP_ok hne hpl hinl hpu g args H v H' hc
  | none =>
   rw[hc,oo_none] at h
   exact evStep_ok hT hf hm ih n g args H v H' h
theorem tabsHeap_get (i:Nat):(tabsHeap tabs).get i=(pureHeap tabs).get i:=by
 unfold tabsHeap pureHeap
 rw[AHeap.get_mk,AHeap.get_mk]
theorem pureOk_closedP (hT:TOk P tt) (hne:∀ t∈tabs,t≠[]) (hpl:∀ t∈tabs,∀ x∈t,plain1 x=true) {fns:FuncId→Option RFn} (hf:∀ f r,fns f=some r→FnOk P (List.range tabs.length) f r) (hm:P.follows .mixedOrders=true)
 {isP:FuncId→Bool} {pu:PureF} {inl:CallF} (hpu:∀ g,isP g=true→PureOk P tabs g (pu g)) (hinl:CallOk P (List.range tabs.length) inl) {g n:Nat} {H:AHeap} (hH:∀ i,H.get i=(pureHeap tabs).get i) (hHn:H.next=(pureHeap tabs).next) {f:List Value→Option Value}
 (hen:∀ (as:Array Value) (w:World),(callFunc g as).run P w = .ok (.enter g as) w)
 (hrun:∀ args v,f args=some v→closedV v=true∧(valR (evFnP tabs isP pu inl tt fns n g args H)=some v∨frzR tabs.length (evFnP tabs isP pu inl tt fns n g args H)=some v)):PureOk P tabs g f:=by
 refine⟨hen,fun args v hv _ R w args' hR hs ha=>?_⟩
 obtain⟨hcv,hr⟩:=hrun args v hv
 have hs':Sim H R w:=hs.congr hH hHn
 have hgl:GlR (List.range tabs.length) R:=fun g hg=>by rw[hR];simp at hg;simp[hg]
 rcases hr with hr | hr
 ·obtain⟨q,hq,h1⟩:=oo_inv (show oo (evFnP tabs isP pu inl tt fns n g args H) none (fun p=>pp p fun q _=>some q)=some v from hr)
  rw[pp_eta] at h1
  injection h1 with h1
  have hok:=(evFnP_ok hT hne hpl hf hm hpu hinl n) g args H q.1 q.2 hq
  refine(hok.2 R w args' hs' hgl ha).mono fun e w' ⟨u,R',he,hu,hp⟩=>?_
  rw[h1] at hu
  exact⟨u,q.2,R',he,hcv,hu,Post.congrL (fun i=>(hH i).symm) hHn.symm hp⟩
 ·obtain⟨q,hq,h1⟩:=oo_inv (show oo (evFnP tabs isP pu inl tt fns n g args H) none (fun p=>pp p fun q H1=>oo (freezeV tabs.length false q H1) none fun p2=>pp p2 fun v' _=>some v')=some v from hr)
  rw[pp_eta] at h1
  obtain⟨p2,hp2,h2⟩:=oo_inv h1
  rw[pp_eta] at h2
  injection h2 with h2
  have hok:=(evFnP_ok hT hne hpl hf hm hpu hinl n) g args H q.1 q.2 hq
  refine(hok.2 R w args' hs' hgl ha).mono fun e w' ⟨u,R',he,hu,hp⟩=>?_
  have hn:H.next≤tabs.length:=by rw[hHn];show len tabs≤_;rw[len_eq];exact Nat.le_refl _
  have hp2':freezeV tabs.length false q.1 q.2=some (p2.1,p2.2):=hp2
  obtain⟨R2,_,_,k2,k3⟩:=freezeV_ok hp2' hs' hn hp hu
  rw[h2] at k3
  exact⟨u,p2.2,R2,he,hcv,k3,Post.congrL (fun i=>(hH i).symm) hHn.symm k2⟩

theorem law_true0 {g:FuncId} {f:List Value→Option Value} (hpu:PureOk P [] g f) {args args':List Value} {W:World} {R:Ren} (hm:f args=some (.bool true)) (hcl:∀ x∈args,closed2 x=true)
 (hR:R.f=fun _=>none) (hs:Sim (pureHeap []) R W) (ha:VRL R args args'):Calls P g ⟨args'⟩ W fun e W'=>e = .returned (.bool true)∧GrownB W W':=
 (hpu.2 args _ hm hcl R W args' (by rw [hR]; funext i; simp) hs ha).mono fun e W' ⟨u, H', R', he, _, hu, hp⟩ => by
   rw[hu.bool_l] at he
   exact⟨he,grown_of hp fun id p h=>by rw[hR] at h;cases h⟩
theorem start0 (w:World):∃ R:Ren,R.f=(fun _=>none)∧R.ro=allRo w∧Sim (pureHeap []) R w:=by
 refine⟨⟨fun _=>none,fun _=>0,allRo w⟩,rfl,rfl,?_⟩
 refine ⟨fun id c β h => (by cases h), fun id c β h => (by cases h), fun id c β id' β' h h' => (by cases h), fun id a ha => ?_, fun id hid => ?_, fun c C h => ⟨allRo_ok w c C h, fun id β h' => (by cases h')⟩⟩
 ·rw[pureHeap_get] at ha;simp at ha;cases ha
 ·rw[pureHeap_get];simp
end
end Go.Sp
namespace Go.Sp

noncomputable section
end

section
variable {P:Program} {tabs:List (List Value)}

end

noncomputable section
def giveV (z:Nat) (v:Value) (H:AHeap):Option (Value×AHeap):=
 oo (vSl v) (bb (isNilSl v) (some (fsV z 0 2 [],H)) (bb (closed2 v) (some (v,H)) none)) fun s=>oo (oCells (H.get s.id)) none fun o=>
  bb (an (nt o.imm) (an (nt o.spent) (an (Nat.ble (s.off + s.len * s.sz) (len o.xs)) (allL closed1 (takeL (s.len * s.sz) (dropL s.off o.xs))))))
   (some (fsV s.sz s.len 0 (takeL (s.len*s.sz) (dropL s.off o.xs)),H.set s.id .dead)) none
def giveL (z:Nat) (l:List Value):AHeap→Option (List Value×AHeap):=
 List.rec (motive:=fun _=>AHeap→Option (List Value×AHeap)) (fun H=>some ([],H)) (fun v _ ih H=>oo (giveV z v H) none fun p=>pp p fun v' H1=>oo (ih H1) none fun q=>pp q fun r H2=>some (v'::r,H2)) l
def giveF (tabs:List (List Value)) (z:Nat) (f:List Value→Option Value) (args:List Value) (H:AHeap):Option (Value×AHeap):=
 oo (giveL z args H) none fun p=>pp p fun as H1=>bb (tabsOk H1 tabs 0) (oo (f as) none fun v=>some (v,H1)) none
end

theorem giveV_ok {z:Nat} {v v' u:Value} {H H':AHeap} {R:Ren} {w:World} (h:giveV z v H=some (v',H')) (hs:Sim H R w) (hx:VR R v u) :
 ∃ R',R.le R'∧R'.f=R.f∧Post H R w H' R' w∧VR R' v' u∧closed2 v'=true:=by
 unfold giveV at h
 cases hsl:vSl v with
 | none =>
  rw[hsl,oo_none] at h
  rcases bb_cases h with⟨hn,h⟩ | ⟨_,h⟩
  ·injection h with h;injection h with e1 e2;subst e1;subst e2
   refine⟨R,R.le_refl,rfl,.refl hs,?_,rfl⟩
   rw[isNilSl_true hn] at hx
   rw[hx.slNil_l];exact .fsN z 2 (by decide)
  ·obtain⟨hc,h⟩:=bb_inv h
   injection h with h;injection h with e1 e2;subst e1;subst e2
   exact⟨R,R.le_refl,rfl,.refl hs,hx,hc⟩
 | some s=>
 rw[hsl,oo_some] at h
 obtain⟨o,ho,h1⟩:=oo_inv h
 obtain⟨hc,h2⟩:=bb_inv h1
 obtain⟨c1,hc⟩:=an_inv hc
 obtain⟨c3,hc⟩:=an_inv hc
 obtain⟨c4,c5⟩:=an_inv hc
 have c1:=nt_false c1
 have c3:=nt_false c3
 simp only[len_eq] at c4
 have c4:=Nat.le_of_ble_eq_true c4
 rw[allL_eq,List.all_eq_true] at c5
 simp only[takeL_eq,dropL_eq] at c5 h2
 injection h2 with h2;injection h2 with e1 e2;subst e1;subst e2
 have ho':=oCells_some ho
 rw[c1,c3] at ho'
 have dead : ∀ (R' : Ren), R.le R' → R'.f = R.f → R'.sz = R.sz → (∀ c C, R'.ro c = some C → R.ro c = some C ∨ ∃ β, R.f s.id = some (c, β) ∧ ∃ ty fz, w.heap[c]? = some (.cells C ty fz)) →
  Post H R w (H.set s.id .dead) R' w:=fun R' hle hRf hRs hro=>by
  have hget:∀ id,(H.set s.id .dead).get id=if s.id=id then .dead else H.get id:=fun id=>AHeap.get_set _ _ _ _
  have hnext:(H.set s.id .dead).next=H.next:=by simp
  have hwr:∀ id,(H.get id).writable=false→((H.set s.id .dead).get id).writable=false:=fun id h=>by
   rw[hget];split
   ·rfl
   ·exact h
  have hp:=Post.refl hs
  refine ⟨⟨fun id c β h0 => by rw [hRf, hRs]; exact ⟨h0, rfl⟩, hle.ro⟩, fun id p h0 => by rw [hRf] at h0; exact .inl h0, ?_, by rw [hnext]; exact Nat.le_refl _, Nat.le_refl _, fun _ _ _ => rfl,
   fun id hi hr Q c β ob h0=>?_,fun id hi him=>?_,fun id c β h0 hr=>by rw[hRf] at h0;exact hp.fresh id c β h0 hr,hp.side,fun c C h0=>?_⟩
  ·refine ⟨fun id c β h0 => by rw [hRf] at h0; rw [hnext]; exact hs.dom id c β h0, fun id c β h0 => ?_, fun id c β id' β' h0 h0' hne hw => ?_, fun id a ha => ?_, fun id hi => ?_, fun c C h0 => ?_⟩
   ·rw[hRf] at h0
    rw[hget];split
    ·trivial
    ·exact(hs.obj id c β h0).mono hle (by rw[hRs])
   ·rw[hRf] at h0 h0'
    have hg1:=hget id
    have hg2:=hget id'
    by_cases hn:s.id=id
    ·rw[if_pos hn] at hg1;rw[hg1] at hw;cases hw
    ·rw[if_neg hn] at hg1
     rw[hg1] at hw ⊢
     by_cases hn':s.id=id'
     ·rw[if_pos hn'] at hg2;exact .inl hg2
     ·rw [if_neg hn'] at hg2; rw [hg2]; exact hs.sep id c β id' β' h0 h0' hne hw
   ·rw[hget] at ha
    split at ha
    ·cases ha
    ·have:=hs.anc id a ha
     rw[hnext,hget]
     refine⟨this.1,?_⟩
     split
     ·exact⟨rfl,rfl⟩
     ·exact this.2
   ·rw[hnext] at hi
    rw[hget];split
    ·rfl
    ·exact hs.wf id hi
   ·rcases hro c C h0 with h1 | ⟨β,h1,ty,fz,h2⟩
    ·exact⟨(hs.ro c C h1).1,fun id β h9=>by rw[hRf] at h9;exact hwr id ((hs.ro c C h1).2 id β h9)⟩
    ·refine ⟨⟨ty, fz, h2⟩, fun id β' h9 => ?_⟩
     rw[hRf] at h9
     rw[hget]
     split
     ·rfl
     ·rename_i hn
      cases hwi:(H.get id).writable with
      | false=>rfl
      | true =>
       rcases hs.sep id c β' s.id β h9 h1 (fun e => hn e.symm) hwi with h3 | ⟨h3, _⟩
       ·rw[ho'] at h3;cases h3
       ·have h4:=hs.anc id s.id h3
        rw[ho'] at h4
        have h5:true=false:=h4.2.2
        cases h5
  ·rw[hget];split
   ·trivial
   ·exact h0
  ·rw[hget];split
   ·rename_i he
    rw[←he,ho'] at him;cases him
   ·rfl
  ·rcases hro c C h0 with h1 | ⟨β,h1,_⟩
   ·exact .inl h1
   ·exact .inr (.inr ⟨s.id,β,h1,by rw[ho'];rfl⟩)
 have hcl:closed2 (fsV s.sz s.len 0 ((o.xs.drop s.off).take (s.len*s.sz)))=true:=rfl
 rcases hx.sl_l hsl with⟨c,β,cap,hid,hv,k1,k2,k3,k4⟩ | ⟨c,o2,hv,k0,k00⟩ | ⟨hv,k0,k00⟩
 ·obtain⟨C,ty,fz,hC,hsz,hcf,hcr⟩:=hs.cells hid ho
  let R':Ren:=⟨R.f,R.sz,fun c'=>if c'=c then some C else R.ro c'⟩
  have hle:R.le R':=⟨fun id c β h=>⟨h,rfl⟩,fun c' C' h=>by
   show (if c'=c then some C else R.ro c')=some C'
   split
   ·rename_i he;subst he
    obtain⟨⟨t',fz',h9⟩,_⟩:=hs.ro c' C' h
    rw[hC] at h9;injection h9 with h9;injection h9 with h9;rw[h9]
   ·exact h⟩
  refine⟨R',hle,rfl,dead R' hle rfl rfl fun c' C' h=>?_,?_,hcl⟩
  ·have h:(if c'=c then some C else R.ro c')=some C':=h
   by_cases he:c'=c
   ·rw[if_pos he] at h
    have h:C=C':=by injection h
    subst h;subst he
    exact .inr ⟨β,hid,ty,fz,hC⟩
   ·rw[if_neg he] at h;exact .inl h
  ·rw[hv]
   refine .mkFs (C:=C) (by show (if c=c then some C else R.ro c)=some C;simp) (by simp;omega) (by omega) (fun he=>by cases he) (by decide) (by simp;omega) ?_ c5
   exact(hcr.mono hle).part _ _
 ·refine⟨R,R.le_refl,rfl,dead R R.le_refl rfl rfl fun c' C' h=>.inl h,?_,hcl⟩
  rw[hv,k0]
  simp only[Nat.zero_mul,List.take_zero]
  exact .fsE (by decide)
 ·refine⟨R,R.le_refl,rfl,dead R R.le_refl rfl rfl fun c' C' h=>.inl h,?_,hcl⟩
  rw[hv,k0]
  simp only[Nat.zero_mul,List.take_zero]
  exact .fsN _ _ (by decide)

theorem giveL_ok {z:Nat} {l as:List Value} {H H':AHeap} (h:giveL z l H=some (as,H')):∀ {R:Ren} {w:World} {us:List Value},Sim H R w→VRL R l us →
 ∃ R',R.le R'∧R'.f=R.f∧Post H R w H' R' w∧VRL R' as us∧∀ x∈as,closed2 x=true:=by
 induction l generalizing as H with
 | nil =>
  injection h with h;injection h with e1 e2;subst e1;subst e2
  intro R w us hs hx
  exact⟨R,R.le_refl,rfl,.refl hs,hx,by simp⟩
 | cons v l ih =>
  obtain⟨p,hp,h⟩:=oo_inv (show oo (giveV z v H) none (fun p=>pp p fun v' H1=>oo (giveL z l H1) none fun q=>pp q fun r H2=>some (v'::r,H2))=some (as,H') from h)
  obtain⟨v',H1⟩:=p
  obtain⟨q,hq,h⟩:=oo_inv (show oo (giveL z l H1) none (fun q=>pp q fun r H2=>some (v'::r,H2))=some (as,H') from h)
  obtain⟨r,H2⟩:=q
  injection (show some (v'::r,H2)=some (as,H') from h) with h;injection h with e1 e2;subst e1;subst e2
  intro R w us hs hx
  obtain⟨u,us',rfl,h1,h2⟩:=hx.uncons
  obtain⟨R1,k1,k2,k3,k4,k5⟩:=giveV_ok hp hs h1
  obtain⟨R2,j1,j2,j3,j4,j5⟩:=ih hq k3.sim (h2.mono k1)
  refine⟨R2,Ren.le_trans k1 j1,j2.trans k2,k3.trans j3 hs,.cons (k4.mono j1) j4,fun x hx=>?_⟩
  simp at hx
  rcases hx with rfl | hx
  ·exact k5
  ·exact j5 x hx

theorem giveF_ok {P:Program} {tabs:List (List Value)} (hne:∀ t∈tabs,t≠[]) (hpl:∀ t∈tabs,∀ x∈t,plain1 x=true) {g:FuncId} {z:Nat} {f:List Value→Option Value} (hok:PureOk P tabs g f) {args:List Value} {H H':AHeap} {v:Value} (h:giveF tabs z f args H=some (v,H')) :
 (∀ (as:Array Value) (w:World),(callFunc g as).run P w = .ok (.enter g as) w) ∧
 ∀ R w args',Sim H R w→GlR (List.range tabs.length) R→VRL R args args'→Calls P g ⟨args'⟩ w fun e w'=>∃ u R',e = .returned u∧VR R' v u∧Post H R w H' R' w':=by
 refine⟨hok.1,fun R w args' hs hgl ha=>?_⟩
 obtain⟨p,hp,h⟩:=oo_inv h
 obtain⟨as,H1⟩:=p
 obtain⟨htab,h⟩:=bb_inv (show bb (tabsOk H1 tabs 0) (oo (f as) none fun v=>some (v,H1)) none=some (v,H') from h)
 obtain⟨v',hv',h2⟩:=oo_inv h
 injection h2 with h2;injection h2 with e1 e2;subst e1;subst e2
 obtain⟨R1,k1,k2,k3,k4,k5⟩:=giveL_ok hp hs ha
 have hs1:=k3.sim
 have hgl1:GlR (List.range tabs.length) R1:=hgl.mono k1
 have hs0:=pure_sim hs1 hgl1 htab R1.ro (fun c C h=>(hs1.ro c C h).1) (fun c C h=>h) hne hpl
 refine(hok.2 as v' hv' k5 _ w args' rfl hs0 (closed2L_VR (R:=R1) (R':=⟨fun i=>if i < tabs.length then some (i,0) else none,R1.sz,R1.ro⟩) (fun _ _ h=>h) k4 k5)).mono fun e w' ⟨u,H2,R2,he,hcv,hu,hp2⟩=>?_
 refine⟨u,⟨R1.f,R1.sz,R2.ro⟩,he,closedV_VR (R:=R2) (R':=⟨R1.f,R1.sz,R2.ro⟩) (fun _ _ h=>h) hu hcv,k3.trans (pure_post hs1 rfl hp2 rfl rfl (fun c C h=>hp2.le.ro c C h) fun c C h=>?_) hs⟩
 rcases hp2.rofresh c C h with h3 | h3 | ⟨id,β,h3,h4⟩
 ·exact .inl h3
 ·exact .inr ⟨h3,h⟩
 ·have:=pureHeap_imm (tabf_some (show (if id < tabs.length then some (id,0) else none)=some (c,β) from h3)).1
  rw[this] at h4;cases h4

noncomputable section
def oC (l:List Value):AObj:=.cells l false false []
def d2 (n:Nat):Nat:=2*n+bb false 1 0
def hp (n:Nat) (l:List AObj):AHeap:=⟨n,objTr l 0 .nil,true⟩
def fr (n:Nat) (l:List (Nat×Value)):Fr:=⟨n,frTr l .nil⟩
def pt (b o:Nat):Value:=.pointer (some ⟨b,o,none⟩)
def sc (b o z n c:Nat):Value:=.slice (some ⟨b,o,some z⟩) n c
def zI (z:Int):Value:=.int .i64 z
def zU (z:Int):Value:=.int .u64 z
def zB (b:Bool):Value:=.bool b
end
end Go.Sp
namespace Go.Sp
section
variable {tt:TT} {call:CallF} {n0:Nat}
theorem OpsG.ghs {os:List ROp} {F F':Fr} {H H':AHeap} (F1:Fr) (H1:AHeap) (h:GhS n0 F H F1 H1) (r:OpsG tt call n0 os F1 H1 F' H'):OpsG tt call n0 os F H F' H':=by
 induction h with
 | id=>exact r
 | step hg _ ih=>exact .gh hg (ih r)
end
end Go.Sp
namespace Go.Sp
noncomputable section
def encE (e:Ent):Value:=Ent.rec (motive:=fun _=>Value) (fun k v b=>.tuple ⟨[k,v,gi b]⟩) e
def decE (v:Value):Option Ent:=oo (vTup v) none fun l=>ll l none fun k l=>ll l none fun x l=>ll l none fun b l=>ll l (oo (vNat b) none fun n=>some ⟨k,x,n⟩) fun _ _=>none
def encO (o:AObj):Value:=AObj.rec (motive:=fun _=>Value) (fun xs _ _ _=>.agg ⟨xs⟩) (fun es c=>.tuple ⟨gi c::mapL encE es⟩) (fun _ _ _ _=>deadV) deadV o
def decO (v:Value):Option AObj:=
 oo (vAgg v) (oo (vTup v) (bb (isDead v) (some .dead) none) fun l=>ll l none fun c r=>oo (vNat c) none fun n=>oo (mapO decE r) none fun es=>some (.map es n)) fun xs=>some (.cells xs false false [])
structure MapV where
 es:List Ent
 clock:Nat
def vMapO (v:Value):Option MapV:=oo (vTup v) none fun l=>ll l none fun c r=>oo (vNat c) none fun n=>oo (mapO decE r) none fun es=>some ⟨es,n⟩

def subHeap (tabs:List (List Value)) (os:List AObj):AHeap:=⟨len tabs+len os,objTr (appL (tabTr tabs) os) 0 .nil,true⟩
def immAt (H:AHeap) (i:Nat):Bool:=oo (oCells (H.get i)) false fun o=>o.imm
def tabsOk2 (H:AHeap) (tabs:List (List Value)):Nat→Bool:=List.rec (motive:=fun _=>Nat→Bool) (fun _=>true) (fun t _ ih i=>an (valsEq (cellsAt H i) t) (an (immAt H i) (ih (Nat.succ i)))) tabs
def nilL {α:Type} (l:List α):Bool:=ll l true fun _ _=>false
def emptyB (o:AObj):Bool:=AObj.rec (motive:=fun _=>Bool) (fun xs _ _ _=>nilL xs) (fun _ _=>false) (fun _ _ _ _=>false) true o
def wrB (o:AObj):Bool:=AObj.rec (motive:=fun _=>Bool) (fun _ imm spent _=>an (nt imm) (nt spent)) (fun _ _=>true) (fun _ _ _ _=>false) false o
def wrAll (H:AHeap) (l:List (Option Nat)):Bool:=allL (fun o=>oo o true fun id=>wrB (H.get id)) l
def ancAt (H:AHeap) (id:Nat):List Nat:=oo (oCells (H.get id)) [] fun o=>o.anc
def ancsOf (H:AHeap) (l:List (Option Nat)):List Nat:=List.rec (motive:=fun _=>List Nat) [] (fun o _ ih=>appL (oo o [] fun id=>ancAt H id) ih) l
def rootOk (H:AHeap) (v:Value):Bool:=oo (vSl v) true fun s=>orr (Nat.ble 2 s.cap) (emptyB (H.get s.id))
def rootsOk (F:Fr) (H:AHeap) (rs:List Rt):List (Option Nat)→Bool:=
 List.rec (motive:=fun _=>List (Option Nat)→Bool) (fun _=>true) (fun r _ ih o=>an (rootOk H (r.val F H o)) (ih (addRt o (r.val F H o)))) rs
def rangeL (n:Nat):List Nat:=Nat.rec (motive:=fun _=>List Nat) [] (fun m r=>appL r [m]) n
def invL (olds:List (Option Nat)) (next extra:Nat):List (Option Nat):=appL (mapL (fun p=>idxOf p olds 0) (rangeL next)) (mapL (fun q=>some (len olds+q)) (rangeL extra))
def pushL (obs:List AObj):AHeap→AHeap:=List.rec (motive:=fun _=>AHeap→AHeap) (fun H=>H) (fun o _ ih H=>ih (H.push o)) obs
def setJs (js:List (Option Nat)):List AObj→AHeap→AHeap:=
 List.rec (motive:=fun _=>List AObj→AHeap→AHeap) (fun obs H=>pushL obs H) (fun j _ ih obs H=>ll obs H fun o r=>ih r (oo j H fun id=>H.set id o)) js
def backObj (inv:List (Option Nat)) (p:Bool×AObj):Option AObj:=pp p fun deep o=>renObj inv deep false o

def objF (tabs:List (List Value)) (na:Nat) (rs:List Rt) (outs:List Bool) (f:List Value→Option Value) (args:List Value) (H:AHeap):Option (Value×AHeap):=
 (fun F => (fun olds => bb (an (tabsOk2 H tabs 0) (an (idxChk olds olds 0) (an (Nat.beq (len olds) (len tabs + len rs)) (an (Nat.beq (len args) na) (wrAll H (dropL (len tabs) olds))))))
   (bb (rootsOk F H rs (idents (len tabs)))
     (oo (mapO (newObj H [] olds) (zipL (mapL Rt.deep rs) (dropL (len tabs) olds))) none fun os =>
       oo (mapO (ren2 olds) args) none fun as=>oo (f (appL as (mapL encO os))) none fun z=>oo (vTup z) none fun l=>ll l none fun v es=>oo (mapO decO es) none fun os'=>
        bb (an (Nat.beq (len outs) (len os')) (Nat.ble (len rs) (len os')))
         (oo (mapO (backObj (invL olds H.next (len os' - len rs))) (zipL outs os')) none fun ns => oo (ren2 (invL olds H.next (len os' - len rs)) v) none fun v' =>
           some (v',setJs (dropL (len tabs) olds) ns (H.kill (ancsOf H (dropL (len tabs) olds))))) none) none) none)
  (oldsOf F H rs (idents (len tabs)))) (Fr.made (len args) args)
end

def plainO (o:AObj):Prop:=o = .dead∨(∃ xs,o = .cells xs false false [])∨∃ es c,o = .map es c
def ObjOk (P:Program) (tabs:List (List Value)) (na k:Nat) (g:FuncId) (f:List Value→Option Value):Prop:=
 (∀ (as:Array Value) (w:World),(callFunc g as).run P w = .ok (.enter g as) w) ∧
 ∀ args os z, args.length = na → os.length = k → (∀ o ∈ os, plainO o) → f (args ++ os.map encO) = some z →
  ∀ R w args', (∀ i, i < tabs.length → R.f i = some (i, 0)) → (∀ i o, os[i]? = some o → R.f (tabs.length + i) = none → EmptyO o) → Sim (subHeap tabs os) R w → VRL R args args' →
   Calls P g ⟨args'⟩ w fun e w' => ∃ (u v : Value) (os' : List AObj) (H' : AHeap) (R' : Ren), e = .returned u ∧ z = .tuple ⟨v :: os'.map encO⟩ ∧ VR R' v u ∧ Post (subHeap tabs os) R w H' R' w' ∧ k ≤ os'.length ∧
    ∀ i o,os'[i]?=some o→H'.get (tabs.length+i)=o∧plainO o
def FinQ (tt:TT) (T k:Nat) (rs:List ResultVar) (z:Value) (F:Fr) (H:AHeap):Prop:=
 ∃ (v:Value) (os':List AObj),z = .tuple ⟨v::os'.map encO⟩∧aresults tt F H rs=some v∧k≤os'.length∧∀ i o,os'[i]?=some o→H.get (T+i)=o∧plainO o
def FinO (tt:TT) (T k:Nat) (rs:List ResultVar) (z:Value):Ex→Fr→AHeap→Prop
 | .exit _,_,_=>False
 | .goto _,_,_=>False
 | .normal,F,H=>∃ F1 H1,GhS (T+k) F H F1 H1∧FinQ tt T k rs z F1 H1
 | .ret,F,H=>FinQ tt T k rs z F H
theorem GhS.trans {n0:Nat} {F F1 F2:Fr} {H H1 H2:AHeap} (h:GhS n0 F H F1 H1) (r:GhS n0 F1 H1 F2 H2):GhS n0 F H F2 H2:=by
 induction h with
 | id=>exact r
 | step hg _ ih=>exact .step hg (ih r)
theorem FinO.ghs {tt:TT} {T k:Nat} {rs:List ResultVar} {z:Value} {F:Fr} {H:AHeap} (F':Fr) (H':AHeap) (h:GhS (T+k) F H F' H') (r:FinO tt T k rs z .normal F' H'):FinO tt T k rs z .normal F H:=by
 obtain⟨F1,H1,h1,h2⟩:=r
 exact⟨F1,H1,h.trans h1,h2⟩

theorem subHeap_get (tabs:List (List Value)) (os:List AObj) (i:Nat):(subHeap tabs os).get i=if i < tabs.length then (match tabs[i]? with | some t=>.cells t true false [] | none=>.dead) else (os[i - tabs.length]?).getD .dead:=by
 unfold subHeap
 rw[AHeap.get_mk,objTr_get]
 have hl:(tabTr tabs).length=tabs.length:=by simp[tabTr]
 simp only[appL_eq,List.length_append,hl,Nat.zero_add,Nat.zero_le,true_and,Nat.sub_zero]
 by_cases h:i < tabs.length
 ·rw[if_pos (by omega),if_pos h,List.getElem?_append_left (by rw[hl];exact h),tabTr_get,List.getElem?_eq_getElem h];rfl
 ·rw[if_neg h]
  by_cases h2:i < tabs.length+os.length
  ·rw[if_pos h2,List.getElem?_append_right (by rw[hl];omega),hl]
  ·rw[if_neg h2,List.getElem?_eq_none (by omega)];rfl
theorem subHeap_next (tabs:List (List Value)) (os:List AObj):(subHeap tabs os).next=tabs.length+os.length:=by show len tabs+len os=_;rw[len_eq,len_eq]
theorem subHeap_tab {tabs:List (List Value)} {os:List AObj} {i:Nat} {t:List Value} (h:tabs[i]?=some t):(subHeap tabs os).get i = .cells t true false []:=by
 rw[subHeap_get,if_pos (List.getElem?_eq_some_iff.1 h).1,h]
theorem subHeap_obj (tabs:List (List Value)) (os:List AObj) (i:Nat):(subHeap tabs os).get (tabs.length+i)=(os[i]?).getD .dead:=by
 rw[subHeap_get,if_neg (by omega),show tabs.length+i - tabs.length=i by omega]
theorem plainO_anc {o:AObj} (h:plainO o):o.ancOf=[]:=by
 rcases h with rfl | ⟨xs,rfl⟩ | ⟨es,c,rfl⟩ <;> rfl
theorem decE_enc (e:Ent):decE (encE e)=some e:=by obtain⟨k,v,b⟩:=e;rfl
theorem decEs_enc (es:List Ent):mapO decE (es.map encE)=some es:=by
 induction es with
 | nil=>rfl
 | cons e es ih =>
  show oo (decE (encE e)) none (fun b=>oo (mapO decE (es.map encE)) none fun r=>some (b::r))=_
  rw[decE_enc,oo_some,ih];rfl
theorem decO_enc {o:AObj} (h:plainO o):decO (encO o)=some o:=by
 rcases h with rfl | ⟨xs,rfl⟩ | ⟨es,c,rfl⟩
 ·rfl
 ·rfl
 ·show oo (mapO decE (mapL encE es)) none (fun es=>some (AObj.map es c))=_
  rw[mapL_eq,decEs_enc];rfl
theorem decOs_enc {os:List AObj} (h:∀ o∈os,plainO o):mapO decO (os.map encO)=some os:=by
 induction os with
 | nil=>rfl
 | cons o os ih =>
  show oo (decO (encO o)) none (fun b=>oo (mapO decO (os.map encO)) none fun r=>some (b::r))=_
  rw[decO_enc (h o (by simp)),oo_some,ih fun o ho=>h o (by simp[ho])];rfl

theorem tabsOk2_some {H:AHeap} {tabs:List (List Value)} {j:Nat} (h:tabsOk2 H tabs j=true):∀ i t,tabs[i]?=some t→cellsAt H (j+i)=t∧immAt H (j+i)=true:=by
 induction tabs generalizing j with
 | nil=>intro i t h;simp at h
 | cons a tabs ih =>
  obtain⟨h1,h2⟩:=an_inv (show an (valsEq (cellsAt H j) a) (an (immAt H j) (tabsOk2 H tabs (j+1)))=true from h)
  obtain⟨h2,h3⟩:=an_inv h2
  intro i t hi
  cases i with
  | zero=>simp at hi;subst hi;exact⟨valsEq_eq h1,h2⟩
  | succ i=>have:=ih h3 i t (by simpa using hi);rwa [show j+(i+1)=j+1+i by omega]
theorem tab_imm {H:AHeap} {i:Nat} {t:List Value} (h1:cellsAt H i=t) (h2:immAt H i=true) (hne:t≠[]):∃ sp anc,H.get i = .cells t true sp anc:=by
 unfold cellsAt at h1
 unfold immAt at h2
 cases ho:H.get i with
 | cells xs imm sp anc =>
  rw[ho] at h1 h2
  have h1:xs=t:=h1
  have h2:imm=true:=h2
  exact⟨sp,anc,by rw[h1,h2]⟩
 | dead=>rw[ho] at h2;cases h2
 | map=>rw[ho] at h2;cases h2
 | iter=>rw[ho] at h2;cases h2

theorem emptyB_ok {o:AObj} (h:emptyB o=true):EmptyO o:=by
 cases o with
 | dead=>trivial
 | cells xs i s a =>
  cases xs with
  | nil=>rfl
  | cons x xs=>cases h
 | map=>cases h
 | iter=>cases h
theorem wrB_ok {o:AObj} (h:wrB o=true):o.writable=true∧o.immB=false:=by
 cases o with
 | dead=>cases h
 | iter=>cases h
 | map=>exact⟨rfl,rfl⟩
 | cells xs i s a =>
  obtain⟨h1,h2⟩:=an_inv (show an (nt i) (nt s)=true from h)
  rw[nt_false h1,nt_false h2];exact⟨rfl,rfl⟩
theorem wrAll_b {H:AHeap} {l:List (Option Nat)} (h:wrAll H l=true) {i id:Nat} (hi:l[i]?=some (some id)):wrB (H.get id)=true:=by
 unfold wrAll at h
 rw[allL_eq,List.all_eq_true] at h
 exact h _ (List.mem_of_getElem? hi)
theorem wrAll_ok {H:AHeap} {l:List (Option Nat)} (h:wrAll H l=true) {i id:Nat} (hi:l[i]?=some (some id)):(H.get id).writable=true∧(H.get id).immB=false:=by
 unfold wrAll at h
 rw[allL_eq,List.all_eq_true] at h
 exact wrB_ok (h _ (List.mem_of_getElem? hi))
theorem ancsOf_mem {H:AHeap} {l:List (Option Nat)} {a:Nat}:a∈ancsOf H l↔∃ (i id:Nat),l[i]?=some (some id)∧a∈(H.get id).ancOf:=by
 have key:∀ id,ancAt H id=(H.get id).ancOf:=fun id=>by
  unfold ancAt
  cases H.get id <;> rfl
 induction l with
 | nil=>simp[ancsOf]
 | cons o l ih =>
  show a∈appL (oo o [] fun id=>ancAt H id) (ancsOf H l)↔_
  rw[appL_eq,List.mem_append]
  constructor
  ·rintro(h | h)
   ·cases o with
    | none=>cases h
    | some id=>exact⟨0,id,rfl,by rw[←key];exact h⟩
   ·obtain⟨i,id,h1,h2⟩:=ih.1 h
    exact⟨i+1,id,by simpa using h1,h2⟩
  ·rintro⟨i,id,h1,h2⟩
   cases i with
   | zero=>simp at h1;subst h1;left;rw[oo_some,key];exact h2
   | succ i=>right;exact ih.2 ⟨i,id,by simpa using h1,h2⟩

theorem rangeL_eq (n:Nat):rangeL n=List.range n:=by
 induction n with
 | zero=>rfl
 | succ n ih=>show appL (rangeL n) [n]=_;rw[ih,appL_eq,List.range_succ]
theorem invL_get (olds:List (Option Nat)) (next extra p:Nat):(invL olds next extra)[p]?=if p < next then some (idxOf p olds 0) else if p < next+extra then some (some (olds.length+(p - next))) else none:=by
 unfold invL
 simp only[appL_eq,mapL_eq,rangeL_eq,len_eq]
 by_cases h:p < next
 ·rw[if_pos h,List.getElem?_append_left (by simpa using h)];simp[h]
 ·rw[if_neg h,List.getElem?_append_right (by simp;omega)]
  simp only[List.length_map,List.length_range,List.getElem?_map]
  by_cases h2:p < next+extra
  ·rw[if_pos h2,List.getElem?_range (by omega)];rfl
  ·rw[if_neg h2,List.getElem?_eq_none (by simp;omega)];rfl

theorem pushL_next (obs:List AObj) (H:AHeap):(pushL obs H).next=H.next+obs.length:=by
 induction obs generalizing H with
 | nil=>rfl
 | cons o obs ih=>show (pushL obs (H.push o)).next=_;rw[ih,AHeap.next_push];simp;omega
theorem pushL_get (obs:List AObj) (H:AHeap) (p:Nat):(pushL obs H).get p=if H.next≤p∧p < H.next+obs.length then (obs[p - H.next]?).getD .dead else H.get p:=by
 induction obs generalizing H with
 | nil=>show H.get p=_;rw[if_neg (by simp)]
 | cons o obs ih =>
  show (pushL obs (H.push o)).get p=_
  rw[ih,AHeap.next_push,AHeap.get_push]
  by_cases h:H.next+1≤p∧p < H.next+1+obs.length
  ·rw[if_pos h,if_pos (by simp;omega),show p - H.next=(p - (H.next+1))+1 by omega,List.getElem?_cons_succ]
  ·rw[if_neg h]
   by_cases h2:H.next=p
   ·rw[if_pos h2,if_pos (by simp;omega)];subst h2;simp
   ·rw[if_neg h2,if_neg (by simp;omega)]
theorem pushL_wf {obs:List AObj} {H:AHeap} (h:H.wf):(pushL obs H).wf:=by
 induction obs generalizing H with
 | nil=>exact h
 | cons o obs ih=>exact ih (h.push o)
theorem setJs_next (js:List (Option Nat)) (obs:List AObj) (H:AHeap) (hl:js.length≤obs.length):(setJs js obs H).next=H.next+(obs.length - js.length):=by
 induction js generalizing obs H with
 | nil=>show (pushL obs H).next=_;rw[pushL_next];simp
 | cons j js ih =>
  cases obs with
  | nil=>simp at hl
  | cons o obs =>
   show (setJs js obs (oo j H fun id=>H.set id o)).next=_
   rw[ih _ _ (by simpa using hl)]
   cases j with
   | none=>simp
   | some id=>simp
theorem setJs_wf {js:List (Option Nat)} {obs:List AObj} {H:AHeap} (h:H.wf) (hj:∀ (i id:Nat),js[i]?=some (some id)→id < H.next):(setJs js obs H).wf:=by
 induction js generalizing obs H with
 | nil=>exact pushL_wf h
 | cons j js ih =>
  cases obs with
  | nil=>exact h
  | cons o obs =>
   show (setJs js obs (oo j H fun id=>H.set id o)).wf
   cases j with
   | none=>exact ih h fun i id hi=>hj (i+1) id (by simpa using hi)
   | some id =>
    refine ih (h.set (hj 0 id rfl) o) fun i id' hi=>?_
    rw[oo_some,AHeap.next_set]
    exact hj (i+1) id' (by simpa using hi)
theorem setJs_other (js:List (Option Nat)) (obs:List AObj) (H:AHeap) (p:Nat) (hl:js.length≤obs.length) (hp:∀ i:Nat,js[i]?≠some (some p)) :
 (setJs js obs H).get p=if H.next≤p∧p < H.next+(obs.length - js.length) then (obs[js.length+(p - H.next)]?).getD .dead else H.get p:=by
 induction js generalizing obs H with
 | nil=>show (pushL obs H).get p=_;rw[pushL_get];simp
 | cons j js ih =>
  cases obs with
  | nil=>simp at hl
  | cons o obs =>
   show (setJs js obs (oo j H fun id=>H.set id o)).get p=_
   rw[ih _ _ (by simpa using hl) fun i hi=>hp (i+1) (by simpa using hi)]
   have e : ∀ H' : AHeap, H'.next = H.next → H'.get p = H.get p → (if H'.next ≤ p ∧ p < H'.next + (obs.length - js.length) then (obs[js.length + (p - H'.next)]?).getD AObj.dead else H'.get p) =
    if H.next≤p∧p < H.next+((o::obs).length - (j::js).length) then ((o::obs)[(j::js).length+(p - H.next)]?).getD .dead else H.get p:=fun H' h1 h2=>by
    rw[h1,h2]
    simp only[List.length_cons,Nat.add_sub_add_right]
    rw[show js.length+1+(p - H.next)=js.length+(p - H.next)+1 by omega,List.getElem?_cons_succ]
   cases j with
   | none=>exact e H rfl rfl
   | some id =>
    refine e _ (by rw[oo_some,AHeap.next_set]) ?_
    rw[oo_some,AHeap.get_set,if_neg]
    intro h;subst h;exact hp 0 rfl
theorem setJs_at (js:List (Option Nat)) (obs:List AObj) (H:AHeap) (p i:Nat) (hl:js.length≤obs.length) (hi:js[i]?=some (some p)) (hu:∀ i':Nat,js[i']?=some (some p)→i'=i) (hlt:p < H.next):(setJs js obs H).get p=(obs[i]?).getD .dead:=by
 induction js generalizing obs H i with
 | nil=>simp at hi
 | cons j js ih =>
  cases obs with
  | nil=>simp at hl
  | cons o obs =>
   show (setJs js obs (oo j H fun id=>H.set id o)).get p=_
   cases i with
   | zero =>
    simp at hi;subst hi
    rw[setJs_other _ _ _ _ (by simpa using hl) fun i' h=>by have:=hu (i'+1) (by simpa using h);omega,oo_some,AHeap.next_set,if_neg (by omega),AHeap.get_set,if_pos rfl]
    rfl
   | succ i =>
    rw[ih _ _ i (by simpa using hl) (by simpa using hi) (fun i' h=>by have:=hu (i'+1) (by simpa using h);omega) (by cases j with
     | none=>exact hlt
     | some id=>rw[oo_some,AHeap.next_set];exact hlt)]
    simp
end Go.Sp
