/- Made from wip. -/
import Derived.Test.YtenlanbdolnhhaaSpNextx
import Derived.ChangeKeysEq
import Derived.RowKit3
import Derived.Lib.LaidTab
import Derived.WalkKit
import Derived.ProofKit
import Derived.OpenShut
import Derived.Deep.DeepHandedRow
import Derived.Test.YtenlanbdolnhhaaSpSymx
import Derived.ReadAgain

namespace Go.Sp

def FlFs (p : TypeId → List Value → Prop) : List Field → Nat → List Value → Prop
 | [],_,zs=>zs = []
 | f :: r, off, zs => f.name ≠ "_" ∧ f.offset = off ∧ ∃ z1 z2, zs = z1 ++ z2 ∧ p f.type z1 ∧ FlFs p r (off + z1.length) z2

def Fl (P : Program) : Nat → TypeId → List Value → Prop
 | 0,_,_=>False
 | d + 1, t, zs => P.cellsOf t = zs.length ∧ (
  ((∃ k,P.underlying t = some (.int k))∧(∃ k n,zs = [.int k n]))∨(P.underlying t = some .bool∧∃ b,zs = [.bool b])∨(P.underlying t = some .string∧∃ s,zs = [.string s]) ∨
  (∃ l e z1,P.underlying t = some (.array l e)∧Fl P d e z1∧zs = zeroRow z1 l) ∨
  (∃ fs,P.underlying t = some (.struct fs)∧P.stoodInHeld t = false∧FlFs (Fl P d) fs.toList 0 zs))

theorem kindsLike_split {z1 z2 xs:List Value} (h:kindsLike (z1 ++ z2) xs = true):kindsLike z1 (xs.take z1.length) = true∧kindsLike z2 (xs.drop z1.length) = true:=by
 induction z1 generalizing xs with
 | nil=>exact ⟨rfl,h⟩
 | cons z z1 ih => cases xs with
  | nil=>cases h
  | cons x xs =>
   obtain ⟨h3,h4⟩:=an_inv (show an (kindLike z x) (kindsLike (z1 ++ z2) xs) = true from h)
   obtain ⟨h5,h6⟩:=ih h4
   exact ⟨by show an (kindLike z x) (kindsLike z1 (xs.take z1.length)) = true;rw [h3,h5];rfl,h6⟩

theorem cellsEq_split {n:Nat} {xs ys:List Value} {b:Bool} (h:cellsEq xs ys = some b):∃ p q,cellsEq (xs.take n) (ys.take n) = some p∧cellsEq (xs.drop n) (ys.drop n) = some q∧b = (p && q):=by
 induction xs generalizing ys b n with
 | nil => cases ys with
  | nil=>refine ⟨true,true,?_,?_,?_⟩ <;> first | (simp;rfl) | (injection h with h;simp [←h])
  | cons y ys=>cases h
 | cons x xs ih => cases ys with
  | nil=>cases h
  | cons y ys =>
   cases n with
   | zero=>exact ⟨true,b,rfl,h,by simp⟩
   | succ n =>
    obtain ⟨p,hp,h1⟩:=oo_inv (show oo (cellEq x y) none (fun b=>oo (cellsEq xs ys) none fun c=>some (an b c)) = some b from h)
    obtain ⟨q,hq,h2⟩:=oo_inv h1
    obtain ⟨p',q',h3,h4,rfl⟩:=ih (n:=n) hq
    injection h2 with h2
    refine ⟨an p p',q',?_,h4,?_⟩
    ·show oo (cellEq x y) none (fun b => oo (cellsEq (xs.take n) (ys.take n)) none fun c => some (an b c)) = _
     rw [hp,oo_some,h3,oo_some]
    ·rw [←h2];simp [an_eq,Bool.and_assoc]

section
variable {P:Program}

theorem isAgg_run {t:TypeId} {d:TypeDesc} (h:P.underlying t = some d) (w:World):(isAgg t).run P w = .ok (isAggT d) w:=by
 simp only [isAgg,Sem.run_bind,run_underlying h,Result.andThen_ok]
 cases d <;> rfl

def Boxed (P:Program) (t:TypeId) (zs:List Value) (v:Value):Prop:=∃ d,P.underlying t = some d∧((isAggT d = true∧v = .agg ⟨zs⟩)∨(isAggT d = false∧zs = [v]))

theorem Fl.info {d:Nat} {t:TypeId} {zs:List Value} (h:Fl P d t zs):∃ k i,P.underlying t = some k∧P.info? t = some i∧P.cellsOf t = zs.length:=by
 cases d with
 | zero=>exact h.elim
 | succ d =>
  obtain ⟨hc,h⟩:=h
  have:∃ k,P.underlying t = some k:=by
   rcases h with ⟨⟨k,h⟩,_⟩ | ⟨h,_⟩ | ⟨h,_⟩ | ⟨l,e,z1,h,_⟩ | ⟨fs,h,_⟩ <;> exact ⟨_,h⟩
  obtain ⟨k,hk⟩:=this
  obtain ⟨i,hi⟩:=info_of_underlying hk
  exact ⟨k,i,hk,hi,hc⟩

theorem Fl.part {d : Nat} {t : TypeId} {zs : List Value} (h : Fl P d t zs) {xs : List Value} {off : Nat} (hle : off + zs.length ≤ xs.length) (w : World) :
 ∃ v,(Go.part t ⟨xs⟩ off).run P w = .ok v w∧Boxed P t ((xs.drop off).take zs.length) v:=by
 obtain ⟨k,i,hk,hi,hc⟩:=h.info
 by_cases ha:isAggT k = true
 ·refine ⟨.agg ⟨(xs.drop off).take zs.length⟩, ?_, k, hk, .inl ⟨ha, rfl⟩⟩
  simp only [Go.part,Sem.run_bind,isAgg_run hk,ha,Result.andThen_ok,if_true,run_sizeOf w hi,Sem.run_pure,hc]
  congr 2
  simp [List.extract_toArray,List.extract_eq_take_drop]
 ·have ha : isAggT k = false := by simpa using ha
  have hn:zs.length = 1:=by
   cases d with
   | zero=>exact h.elim
   | succ d =>
    rcases h.2 with ⟨_,_,_,h⟩ | ⟨_,_,h⟩ | ⟨_,_,h⟩ | ⟨l,e,z1,h,_⟩ | ⟨fs,h,_⟩
    ·rw [h];rfl
    ·rw [h];rfl
    ·rw [h];rfl
    ·rw [hk] at h;cases h;cases ha
    ·rw [hk] at h;cases h;cases ha
  rw [hn] at hle ⊢
  have hlt:off < xs.length:=by omega
  refine ⟨xs[off],?_,k,hk,.inr ⟨ha,?_⟩⟩
  ·simp only [Go.part, Sem.run_bind, isAgg_run hk, ha, Result.andThen_ok, Bool.false_eq_true, if_false]
   simp [List.getElem?_eq_getElem hlt]
  ·rw [List.drop_eq_getElem_cons hlt];rfl

theorem zeroRow_len (z:List Value) (n:Nat):(zeroRow z n).length = n * z.length:=by
 induction n with
 | zero=>show ([]:List Value).length = _;simp
 | succ n ih=>show (appL z (zeroRow z n)).length = _;rw [appL_eq,List.length_append,ih,Nat.succ_mul];omega

theorem eqItems_ok {d : Nat} {e : TypeId} {z1 : List Value} (he : Fl P d e z1) {D : Nat}
 (ih:∀ (xs ys:List Value) (x y:Value) (b:Bool) (w:World),kindsLike z1 xs = true→Boxed P e xs x→Boxed P e ys y→cellsEq xs ys = some b→(Op.equalIn D e x y).run P w = .ok b w) (w:World) :
 ∀ (k i : Nat) (xs ys : List Value) (b : Bool), xs.length = (i + k) * z1.length → kindsLike (zeroRow z1 k) (xs.drop (i * z1.length)) = true → cellsEq (xs.drop (i * z1.length)) (ys.drop (i * z1.length)) = some b → ys.length = xs.length →
  (Op.eqItems D e z1.length ⟨xs⟩ ⟨ys⟩ (List.range' i k)).run P w = .ok b w:=by
 intro k
 induction k with
 | zero =>
  intro i xs ys b hl _ h hy
  rw [List.drop_eq_nil_of_le (by simp at hl;omega),List.drop_eq_nil_of_le (by simp at hl;omega)] at h
  injection h with h;subst h
  simp [Op.eqItems]
 | succ k ihk =>
  intro i xs ys b hl hk h hy
  have e1:(i + (k + 1)) * z1.length = i * z1.length + z1.length + k * z1.length:=by rw [Nat.add_mul,Nat.succ_mul];omega
  have hl':=hl
  rw [e1] at hl'
  obtain ⟨x,hx,bx⟩:=he.part (xs:=xs) (off:=i * z1.length) (by omega) w
  obtain ⟨y,hy',byy⟩:=he.part (xs:=ys) (off:=i * z1.length) (by omega) w
  obtain ⟨p,q,h1,h2,rfl⟩:=cellsEq_split (n:=z1.length) h
  have hk:kindsLike (z1 ++ zeroRow z1 k) (xs.drop (i * z1.length)) = true:=by have:=hk;rwa [show zeroRow z1 (k + 1) = appL z1 (zeroRow z1 k) from rfl,appL_eq] at this
  obtain ⟨hk1,hk2⟩:=kindsLike_split hk
  rw [List.drop_drop] at hk2
  rw [List.drop_drop,List.drop_drop] at h2
  have hrun:=ih _ _ x y p w hk1 bx byy h1
  simp only [List.range',Op.eqItems,Sem.run_bind,hx,hy',hrun,Result.andThen_ok]
  cases p with
  | false=>simp
  | true =>
   simp only [Bool.true_and,if_true]
   have e2:(i + 1) * z1.length = i * z1.length + z1.length:=by rw [Nat.succ_mul]
   refine ihk (i + 1) xs ys q (by rw [hl];congr 1;omega) (by rw [e2];exact hk2) ?_ hy
   rw [e2]
   exact h2

theorem run_equalIn_struct' (D : Nat) {t : TypeId} {fs : Array Field} (xs ys : Array Value) (hu : P.underlying t = some (.struct fs)) (hst : P.stoodInHeld t = false) (w : World) :
 (Op.equalIn (D + 1) t (.agg xs) (.agg ys)).run P w = (Op.eqFields D xs ys fs.toList).run P w:=by
 have hf:P.fieldsOf t = fs:=by unfold Program.fieldsOf;rw [hu]
 have:=run_equalIn_struct w D t xs ys (by rw [hf];exact hu) hst
 rw [this,hf]

theorem eqFields_ok {d : Nat} {D : Nat}
 (ih:∀ (t:TypeId) (zs:List Value),Fl P d t zs→∀ (xs ys:List Value) (x y:Value) (b:Bool) (w:World),kindsLike zs xs = true→Boxed P t xs x→Boxed P t ys y→cellsEq xs ys = some b→(Op.equalIn D t x y).run P w = .ok b w) (w:World) :
 ∀ (fs : List Field) (off : Nat) (zs xs ys : List Value) (b : Bool), FlFs (Fl P d) fs off zs → kindsLike zs (xs.drop off) = true → off ≤ xs.length → cellsEq (xs.drop off) (ys.drop off) = some b → ys.length = xs.length →
  (Op.eqFields D ⟨xs⟩ ⟨ys⟩ fs).run P w = .ok b w:=by
 intro fs
 induction fs with
 | nil =>
  intro off zs xs ys b hf hk ho h hy
  have hf:zs = []:=hf
  subst hf
  have hl:=kindsLike_len hk
  simp only [List.length_drop,List.length_nil] at hl
  rw [List.drop_eq_nil_of_le (by omega),List.drop_eq_nil_of_le (by omega)] at h
  injection h with h;subst h
  simp [Op.eqFields]
 | cons f fs ihf =>
  intro off zs xs ys b hf hk ho h hy
  obtain ⟨h1,h2,z1,z2,rfl,h3,h4⟩:=hf
  have hl:=kindsLike_len hk
  simp only [List.length_drop,List.length_append] at hl
  obtain ⟨x,hx,bx⟩:=h3.part (xs:=xs) (off:=off) (by omega) w
  obtain ⟨y,hy',byy⟩:=h3.part (xs:=ys) (off:=off) (by omega) w
  obtain ⟨p,q,g1,g2,rfl⟩:=cellsEq_split (n:=z1.length) h
  obtain ⟨hk1,hk2⟩:=kindsLike_split hk
  rw [List.drop_drop] at hk2
  rw [List.drop_drop,List.drop_drop] at g2
  have hrun:=ih f.type z1 h3 _ _ x y p w hk1 bx byy g1
  simp only [Op.eqFields,if_pos h1,Sem.run_bind,h2,hx,hy',hrun,Result.andThen_ok]
  cases p with
  | false=>simp
  | true =>
   simp only [Bool.not_true,Bool.false_eq_true,if_false,Sem.run_pure,Result.andThen_ok,Bool.true_and]
   exact ihf _ z2 xs ys q h4 hk2 (by omega) g2 hy

theorem Fl.equal {d : Nat} : ∀ {t : TypeId} {zs : List Value}, Fl P d t zs → ∀ (D : Nat) (xs ys : List Value) (x y : Value) (b : Bool) (w : World), kindsLike zs xs = true → Boxed P t xs x → Boxed P t ys y → cellsEq xs ys = some b →
 (Op.equalIn (D + d) t x y).run P w = .ok b w:=by
 induction d with
 | zero=>intro t zs h;exact h.elim
 | succ d ih =>
  intro t zs h D xs ys x y b w hn hx hy hb
  obtain ⟨kx,hkx,hx⟩:=hx
  obtain ⟨ky,hky,hy⟩:=hy
  rw [hkx] at hky;cases hky
  have hlen:=cellsEq_len hb
  have hlz:=kindsLike_len hn
  have leaf:isAggT kx = false→xs = [x]∧ys = [y]∧cellEq x y = some b:=fun hag=>by
   rcases hx with ⟨h',_⟩ | ⟨_,rfl⟩
   ·rw [hag] at h';cases h'
   rcases hy with ⟨h',_⟩ | ⟨_,rfl⟩
   ·rw [hag] at h';cases h'
   obtain ⟨p,hp,h1⟩:=oo_inv (show oo (cellEq x y) none (fun b=>oo (cellsEq [] []) none fun c=>some (an b c)) = some b from hb)
   have h1:some (an p true) = some b:=h1
   injection h1 with h1
   have hpb:p = b:=by simpa [an_eq] using h1
   exact ⟨rfl,rfl,by rw [hp,hpb]⟩
  have agg:isAggT kx = true→x = .agg ⟨xs⟩∧y = .agg ⟨ys⟩:=fun hag=>by
   rcases hx with ⟨_,h1⟩ | ⟨h',_⟩
   ·rcases hy with ⟨_, h2⟩ | ⟨h', _⟩
    ·exact ⟨h1,h2⟩
    ·rw [hag] at h';cases h'
   ·rw [hag] at h';cases h'
  show (Op.equalIn ((D + d) + 1) t x y).run P w = _
  rcases h.2 with ⟨⟨k,hu⟩,_,_,rfl⟩ | ⟨hu,_,rfl⟩ | ⟨hu,_,rfl⟩ | ⟨l,e,z1,hu,he,rfl⟩ | ⟨fs,hu,hst,hf⟩
  ·rw [hkx] at hu; cases hu
   obtain ⟨rfl,rfl,hc⟩:=leaf rfl
   obtain ⟨h3,_⟩:=an_inv (show an (isS (vInt x)) _ = true from hn)
   cases hv:vInt x with
   | none=>rw [hv] at h3;cases h3
   | some p =>
    have:=vInt_some hv;subst this
    obtain ⟨q,hq,h5⟩:=oo_inv (show oo (vInt y) none (fun q=>pp q fun j b=>bb (intKindEq p.1 j) (some (ieq p.2 b)) none) = some b from hc)
    rw [pp_eta] at h5
    obtain ⟨h6,h7⟩:=bb_inv h5
    have:=vInt_some hq;subst this
    have:=intKindEq_iff h6
    rw [←this,run_equalIn_int w (D + d) t p.1 k p.2 q.2 hkx]
    injection h7 with h7
    rw [←h7,ieq_eq]
  ·rw [hkx] at hu; cases hu
   obtain ⟨rfl,rfl,hc⟩:=leaf rfl
   obtain ⟨h3,_⟩:=an_inv (show an (isS (vBool x)) _ = true from hn)
   cases hv:vBool x with
   | none=>rw [hv] at h3;cases h3
   | some p =>
    have:=vBool_some hv;subst this
    obtain ⟨q,hq,h5⟩:=oo_inv (show oo (vBool y) none (fun b=>some (bq p b)) = some b from hc)
    have:=vBool_some hq;subst this
    rw [run_equalIn_bool w (D + d) t p q hkx]
    injection h5 with h5
    rw [←h5];cases p <;> cases q <;> rfl
  ·rw [hkx] at hu; cases hu
   obtain ⟨rfl,rfl,hc⟩:=leaf rfl
   obtain ⟨h3,_⟩:=an_inv (show an (isS (vStr x)) _ = true from hn)
   cases hv:vStr x with
   | none=>rw [hv] at h3;cases h3
   | some p =>
    have:=vStr_some hv;subst this
    obtain ⟨q,hq,h5⟩:=oo_inv (show oo (vStr y) none (fun b=>some (p == b)) = some b from hc)
    have:=vStr_some hq;subst this
    rw [run_equalIn_string w (D + d) t p q hkx]
    injection h5 with h5
    rw [←h5,beq_toListBytes]
  ·rw [hkx] at hu; cases hu
   obtain ⟨rfl,rfl⟩:=agg rfl
   obtain ⟨k,i,hk,hi,hc⟩:=he.info
   rw [run_equalIn_array (d:=D + d) w ⟨xs⟩ ⟨ys⟩ hkx hi,List.range_eq_range',hc]
   exact eqItems_ok he (fun xs ys x y b w hk bx byy hb=>ih he D xs ys x y b w hk bx byy hb) w l 0 xs ys b (by rw [hlz,zeroRow_len,Nat.zero_add]) (by simpa using hn) (by simpa using hb) hlen.symm
  ·rw [hkx] at hu; cases hu
   obtain ⟨rfl,rfl⟩:=agg rfl
   rw [run_equalIn_struct' (D + d) ⟨xs⟩ ⟨ys⟩ hkx hst w]
   exact eqFields_ok (fun t zs hf xs ys x y b w hk bx byy hb=>ih hf D xs ys x y b w hk bx byy hb) w fs.toList 0 zs xs ys b hf (by simpa using hn) (Nat.zero_le _) (by simpa using hb) hlen.symm

theorem forIn_ok {α:Type} {l:List α} {f:α→Unit→Sem (ForInStep Unit)} {w:World} (h:∀ a ∈ l,(f a ()).run P w = .ok (.yield ()) w):(forIn l () f).run P w = .ok () w:=by
 induction l with
 | nil=>simp
 | cons a l ih =>
  simp only [List.forIn_cons,Sem.run_bind,h a (by simp),Result.andThen_ok]
  exact ih fun b hb=>h b (by simp [hb])

theorem Fl.check {d : Nat} : ∀ {t : TypeId} {zs : List Value}, Fl P d t zs → ∀ (e : Bool) (D : Nat) (xs : List Value) (x : Value) (w : World), xs.length = zs.length → Boxed P t xs x →
 (Instr.checkKey e (D + d) t x).run P w = .ok () w:=by
 induction d with
 | zero=>intro t zs h;exact h.elim
 | succ d ih =>
  intro t zs h e D xs x w hn hx
  obtain ⟨kx,hkx,hx⟩:=hx
  have agg:isAggT kx = true→x = .agg ⟨xs⟩:=fun hag=>by
   rcases hx with ⟨_,h1⟩ | ⟨h',_⟩
   ·exact h1
   ·rw [hag] at h';cases h'
  show (Instr.checkKey e ((D + d) + 1) t x).run P w = _
  rcases h.2 with ⟨⟨k,hu⟩,_⟩ | ⟨hu,_⟩ | ⟨hu,_⟩ | ⟨l,el,z1,hu,he,rfl⟩ | ⟨fs,hu,hst,hf⟩
  ·simp [Instr.checkKey,run_underlying hu]
  ·simp [Instr.checkKey,run_underlying hu]
  ·simp [Instr.checkKey,run_underlying hu]
  ·rw [hkx] at hu; cases hu
   obtain rfl:=agg rfl
   obtain ⟨k,i,hk,hi,hc⟩:=he.info
   rw [zeroRow_len] at hn
   simp only [Instr.checkKey,Sem.run_bind,run_underlying hkx,Result.andThen_ok,Std.Legacy.Range.forIn_eq_forIn_range',Std.Legacy.Range.size,Nat.sub_zero,Nat.add_one_sub_one,Nat.div_one]
   have hall:∀ j ∈ List.range' 0 l,(do let n ←sizeOf el;let v ←Go.part el ⟨xs⟩ (j * n);Instr.checkKey e (D + d) el v;pure (ForInStep.yield PUnit.unit):Sem (ForInStep PUnit)).run P w = .ok (.yield ()) w:=fun j hj=>by
    have hj:j < l:=by simpa using hj
    have hle:j * z1.length + z1.length≤xs.length:=by
     rw [hn,←Nat.succ_mul];exact Nat.mul_le_mul_right _ hj
    obtain ⟨v,hv,bv⟩:=he.part (xs:=xs) (off:=j * z1.length) hle w
    have:=ih he e D _ v w (by simp;omega) bv
    simp [run_sizeOf w hi,hc,hv,this]
   rw [forIn_ok hall];rfl
  ·rw [hkx] at hu; cases hu
   obtain rfl:=agg rfl
   have main:∀ (fs:List Field) (off:Nat) (zs:List Value),FlFs (Fl P d) fs off zs→off + zs.length = xs.length→∀ f ∈ fs,∃ v,(Go.part f.type ⟨xs⟩ f.offset).run P w = .ok v w∧(Instr.checkKey e (D + d) f.type v).run P w = .ok () w:=by
    intro fs
    induction fs with
    | nil=>intro _ _ _ _ f hf;cases hf
    | cons g gs ihg =>
     intro off zs hf hl f hfm
     obtain ⟨h1,h2,z1,z2,rfl,h3,h4⟩:=hf
     simp only [List.length_append] at hl
     rcases List.mem_cons.1 hfm with rfl | hm
     ·obtain ⟨v, hv, bv⟩ := h3.part (xs := xs) (off := off) (by omega) w
      exact ⟨v,by rw [h2];exact hv,ih h3 e D _ v w (by simp;omega) bv⟩
     ·exact ihg _ _ h4 (by omega) f hm
   simp only [Instr.checkKey,Sem.run_bind,run_underlying hkx,Result.andThen_ok]
   rw [←Array.forIn_toList]
   have hall : ∀ f ∈ fs.toList, (if f.name ≠ "_" then do let v ← Go.part f.type ⟨xs⟩ f.offset; Instr.checkKey e (D + d) f.type v; pure (ForInStep.yield PUnit.unit) else pure (ForInStep.yield PUnit.unit) : Sem (ForInStep PUnit)).run P w = .ok (.yield ()) w := fun f hfm => by
    by_cases hne : f.name ≠ "_"
    ·obtain ⟨v, hv, hc⟩ := main fs.toList 0 zs hf (by omega) f hfm
     simp [hne,hv,hc]
    ·simp [hne]
   rw [forIn_ok hall];rfl

theorem Fl.ok {d:Nat} {t:TypeId} {zs:List Value} (h:Fl P d t zs) (hd:d≤10000) (hag:∃ k,P.underlying t = some k∧isAggT k = true) (hg:P.eqGuardType P.depth t = false):FlatOk P t zs:=by
 obtain ⟨k,hk,ha⟩:=hag
 refine ⟨fun xs ys b w hl hb=>?_,hg,fun xs w e hl=>?_⟩
 ·have := h.equal (10000 - d) xs ys (.agg ⟨xs⟩) (.agg ⟨ys⟩) b w hl ⟨k, hk, .inl ⟨ha, rfl⟩⟩ ⟨k, hk, .inl ⟨ha, rfl⟩⟩ hb
  rwa [Nat.sub_add_cancel hd] at this
 ·have := h.check e (10000 - d) xs (.agg ⟨xs⟩) w hl ⟨k, hk, .inl ⟨ha, rfl⟩⟩
  rwa [Nat.sub_add_cancel hd] at this
end
end Go.Sp
namespace Go.Sp

def Tr.All {α : Type} (p : Nat → α → Prop) : Tr α → Prop
 | .nil=>True
 | .node v l r=>(match v with | some a=>p 0 a | none=>True)∧Tr.All (fun i=>p (2 * i + 1)) l∧Tr.All (fun i=>p (2 * i + 2)) r

theorem Tr.All.get {α:Type} {t:Tr α}:∀ {p:Nat→α→Prop},t.All p→∀ {i:Nat} {a:α},t.get i = some a→p i a:=by
 induction t with
 | nil=>intro p _ i a h;cases h
 | node v l r ihl ihr =>
  intro p h i a hg
  obtain ⟨h0,h1,h2⟩:=h
  cases i with
  | zero =>
   have:v = some a:=hg
   subst this;exact h0
  | succ j =>
   have hg:Bool.rec (motive:=fun _=>Option α) (r.get (Nat.div j 2)) (l.get (Nat.div j 2)) (Nat.beq (Nat.mod j 2) 0) = some a:=hg
   have e1:Nat.div j 2 = j / 2:=rfl
   have e2:Nat.mod j 2 = j % 2:=rfl
   rw [e1,e2] at hg
   cases hb:Nat.beq (j % 2) 0 with
   | true =>
    rw [hb] at hg
    have:=ihl h1 hg
    have hm:=Nat.eq_of_beq_eq_true hb
    have:p (2 * (j / 2) + 1) a:=this
    rwa [show 2 * (j / 2) + 1 = j + 1 by omega] at this
   | false =>
    rw [hb] at hg
    have:=ihr h2 hg
    have hm:j % 2 ≠ 0:=fun e=>by rw [e] at hb;cases hb
    have:p (2 * (j / 2) + 2) a:=this
    rwa [show 2 * (j / 2) + 2 = j + 1 by omega] at this

theorem FnOk.by {P : Program} {gl : List Nat} {f : FuncId} {n : Nat} {x : RC} {rs : List ResultVar} {fd : Func} (h1 : P.funcs[f]? = some fd)
 (h2:(match fd.body with | some c=>rcOf c x | none=>none) = some x) (h3:(match fd.body with | some c=>codeB gl c | none=>false) = true)
 (h4 : fd.ntmps = n) (h5 : fd.results.toList = rs) (h6 : (fd.name == "runtime.NumGoroutine") = false) : FnOk P gl f ⟨n, x, rs⟩ := by
 cases hb:fd.body with
 | none=>rw [hb] at h2;cases h2
 | some c =>
  rw [hb] at h2 h3
  exact ⟨fd,c,h1,hb,h4,h5,h6,rcOf_Comp h2,h3⟩

structure TyOk (P:Program) (t:TypeId) (i:TI):Prop where
 ok:P.underlying t = some i.und∧∃ inf,P.info? t = some inf∧inf.size = i.size∧inf.bytes = i.bytes∧inf.zero = i.zero
 plain:oo i.zero true plainB = true
 flat:i.flat = true→∃ zs,i.zero = some (.agg ⟨zs⟩)∧FlatOk P t zs
theorem TyOk.by {P : Program} {t : TypeId} {i : TI} {inf : TypeInfo} (h1 : P.underlying t = some i.und) (h2 : P.info? t = some inf) (h3 : inf.size = i.size) (h4 : inf.bytes = i.bytes) (h5 : inf.zero = i.zero)
 (h6:oo i.zero true plainB = true) (h7:i.flat = true→∃ zs,i.zero = some (.agg ⟨zs⟩)∧FlatOk P t zs):TyOk P t i:=⟨⟨h1,inf,h2,h3,h4,h5⟩,h6,h7⟩
theorem TOk.of_all {P:Program} {t:Tr TI} (h:t.All (TyOk P)):TOk P t.get where
 ok:=fun _ _ e=>(h.get e).ok
 plain:=fun _ i z e hz=>by have:=(h.get e).plain;rw [hz] at this;exact this
 flat:=fun _ _ zs e hf hz=>by
  obtain ⟨zs',h1,h2⟩:=(h.get e).flat hf
  rw [hz] at h1;cases h1;exact h2
end Go.Sp
namespace Go.Sp
open Go.RowKit

def GrownB (W w':World):Prop:=W.keptBut w' (fun _=>False)∧(∀ a,a.block < W.heap.size→w'.frozen? a = W.frozen? a)∧W.heap.size≤w'.heap.size
theorem grown_of {H H':AHeap} {R R':Ren} {w w':World} (hp:Post H R w H' R' w') (himm:∀ id p,R.f id = some p→(H.get id).immB = true):GrownB w w':=by
 have hk:∀ c,c < w.heap.size→w'.heap[c]? = w.heap[c]?:=fun c hc=>hp.frame c hc fun id β h=>himm id _ h
 refine ⟨⟨hp.side.1,hp.side.2.1,fun i hi=>?_⟩,hp.side.2.2,hp.grow⟩
 rw [hk i hi]
 cases w.heap[i]? with
 | none=>trivial
 | some o=>cases o <;> simp

end Go.Sp
namespace Go.Sp
open Go.ChangeShapes Go.WideShapes Go.ChangeAt Go.RowKit

theorem post_ofB {H : Type} {enc : TypeId × Value → H} {P : Program} {f : Func} {s : ChangeSpec} {apart fresh handsOn again : Bool} {W W' : World} {args : Array Value} {v : Value} {ds gs : List (DataW H)} {before pa pv : List MemPlace}
 (hW:DataW.Whole enc P f.params.toList s.vars apart W args.toList ds gs before)
 (hres:∀ (b:Nat) (sp:Nat→Bool) (hd:Bool),DataW.TrodAll enc P W' b sp hd f.resultTypes.toList (v.resultList f.resultTypes.size) (s.fn H (ds ++ gs)).results [])
 (hargs:∀ sp:Nat→Bool,(∀ p ∈ before,sp p.block = true)→DataW.TrodAll enc P W' 0 sp true f.params.toList args.toList (s.fn H (ds ++ gs)).args pa)
 (hvars:∀ sp:Nat→Bool,(∀ p ∈ before,sp p.block = true)→DataW.TrodVars enc P W' sp s.vars (s.fn H (ds ++ gs)).vars pv)
 (hps:before = pa ++ pv) (hg:GrownB W W')
 (hok:∀ (j:Nat) (t:TypeId) (r:Value),f.resultTypes[j]? = some t→(v.resultList f.resultTypes.size)[j]? = some r→Value.okWide P W' .any 0 t r) :
 s.post enc P f apart fresh handsOn again W args v W':=by
 have hlt:=hW.lt
 have hold:∀ p ∈ before,(fun b=>decide (b < W.heap.size)) p.block = true:=fun p hp=>decide_eq_true (hlt p hp)
 have hkeep:W.keptBut W' (fun p=>p ∈ before∧p ∈ [] ++ pa ++ pv):=World.keptBut_mono (fun p hp=>hp.elim) hg.1
 subst hps
 have hW2:=hW
 obtain ⟨_,_,_,_,_,hz,hn⟩:=hW2
 have hv0:=hvars (fun _=>true) (fun _ _=>rfl)
 have ha0:=hargs (fun _=>true) (fun _ _=>rfl)
 refine ⟨ds,gs,pa ++ pv,[],pa,pv,hW,hres _ _ _,hargs _ hold,hvars _ hold,?_,fun _=>⟨hok,_,_,([] ++ pa) ++ pv,⟨[] ++ pa,pv,trodAll_append ha0 (hres _ _ _),hv0,rfl,fun b off hp=>?_,fun ha=>?_⟩,fun p hp _=>?_⟩⟩
 ·exact World.keptBut_mono (fun p hp=>by simpa using hp) hkeep
 ·have hp : MemPlace.cell b off ∈ pa ++ pv := by simpa using hp
  rw [hg.2.1 _ (hlt _ hp)]
  exact hz b off hp
 ·simpa using hn ha
 ·simpa using hp

theorem post_true {H : Type} {enc : TypeId × Value → H} {P : Program} {f : Func} {s : ChangeSpec} {apart fresh handsOn again : Bool} {W W' : World} {args : Array Value} {ds gs : List (DataW H)} {before pa pv : List MemPlace} {t : TypeId}
 (hW:DataW.Whole enc P f.params.toList s.vars apart W args.toList ds gs before)
 (hres:(s.fn H (ds ++ gs)).results = [.lit (.bool true)])
 (hargs:∀ sp:Nat→Bool,(∀ p ∈ before,sp p.block = true)→DataW.TrodAll enc P W' 0 sp true f.params.toList args.toList (s.fn H (ds ++ gs)).args pa)
 (hvars:∀ sp:Nat→Bool,(∀ p ∈ before,sp p.block = true)→DataW.TrodVars enc P W' sp s.vars (s.fn H (ds ++ gs)).vars pv)
 (hps:before = pa ++ pv) (hg:GrownB W W') (hr:f.resultTypes = #[t]) (ht:P.underlying t = some .bool) :
 s.post enc P f apart fresh handsOn again W args (.bool true) W':=
 post_ofB (pa:=pa) (pv:=pv) hW (fun _ _ _=>by rw [hr,hres];exact trodAll_cons_mk (shut_bool ht _) trodAll_mk0) hargs hvars hps hg (ok_one hr rfl (okWide_bool_mk ht _))

theorem post_true0 {H : Type} {enc : TypeId × Value → H} {P : Program} {f : Func} {s : ChangeSpec} {W : World} {args : Array Value} {ds gs : List (DataW H)} {before : List MemPlace} {t : TypeId} {fid : FuncId}
 (hW:DataW.Whole enc P f.params.toList s.vars false W args.toList ds gs before) (hsv:s.vars = []) (hp:f.params = #[])
 (hfn:s.fn H [] = { results:=[.lit (.bool true)],args:=[] })
 (hr:f.resultTypes = #[t]) (ht:P.underlying t = some .bool)
 (walk:Calls P fid #[] W fun e W'=>e = .returned (.bool true)∧GrownB W W') :
 Calls P fid args W fun e W'=>∃ v,e = .returned v∧s.post enc P f false true false false W args v W':=by
 have hW':=hW
 obtain ⟨p,q,hA0,hV,rfl,hfz,hnd⟩:=hW
 have hA:DataW.TrodAll enc P W 0 (fun _=>true) true f.params.toList args.toList ds p:=hA0
 rw [hp] at hA
 obtain ⟨hargs,rfl,rfl⟩:=trodAll_nil hA
 obtain rfl:args = #[]:=by cases args;simp_all
 rw [hsv] at hV
 obtain ⟨rfl,rfl⟩:=trodVars_none hV
 simp only [List.append_nil] at hW'
 refine walk.mono fun e W' ⟨he,hg⟩=>?_
 subst he
 exact ⟨_,rfl,post_true (pa:=[]) (pv:=[]) hW' (by rw [List.append_nil,hfn]) (fun _ _=>by rw [hp,List.append_nil,hfn];exact trodAll_mk0) (fun _ _=>by rw [hsv,List.append_nil,hfn];rfl) rfl hg hr ht⟩
end Go.Sp
namespace Go.Sp
open Go.ChangeShapes Go.WideShapes Go.ChangeAt Go.RowKit

theorem Sim.congr {H H2:AHeap} {R:Ren} {w:World} (hg:∀ i,H2.get i = H.get i) (hn:H2.next = H.next) (hs:Sim H R w):Sim H2 R w:=
 ⟨fun id c β h => by rw [hn]; exact hs.dom id c β h, fun id c β h => by rw [hg]; exact hs.obj id c β h, fun id c β id' β' h h' hne hw => by rw [hg] at hw; rw [hg, hg]; exact hs.sep id c β id' β' h h' hne hw,
   fun id a ha=>by rw [hg] at ha;rw [hn,hg];exact hs.anc id a ha,fun id hid=>by rw [hn] at hid;rw [hg];exact hs.wf id hid,fun c C h=>⟨(hs.ro c C h).1,fun id β h'=>by rw [hg];exact (hs.ro c C h).2 id β h'⟩⟩
theorem Post.congrL {H H2 H':AHeap} {R R':Ren} {w w':World} (hg:∀ i,H2.get i = H.get i) (hn:H2.next = H.next) (hp:Post H R w H' R' w'):Post H2 R w H' R' w':=
 ⟨hp.le, fun id p h => by rw [hn]; exact hp.new id p h, hp.sim, by rw [hn]; exact hp.next, hp.grow, fun c hc h => hp.frame c hc fun id β hid => by rw [← hg]; exact h id β hid, fun id hi hr Q c β ob h => by rw [hn] at hi; rw [hg] at h; exact hp.calm id hi hr Q c β ob h,
   fun id hi h=>by rw [hn] at hi;rw [hg] at h ⊢;exact hp.imm id hi h,fun id c β h hr=>by rcases hp.fresh id c β h hr with h1 | ⟨i,b,h1,h2⟩;exact .inl h1;exact .inr ⟨i,b,h1,by rw [hg];exact h2⟩,hp.side,
   fun c C h=>by rcases hp.rofresh c C h with h1 | h1 | ⟨i,b,h1,h2⟩;exact .inl h1;exact .inr (.inl h1);exact .inr (.inr ⟨i,b,h1,by rw [hg];exact h2⟩)⟩

end Go.Sp
namespace Go.Sp
noncomputable section
abbrev I (n:Int):Value:=.int .i64 n
def sl (fl:Nat) (l:List Int):Sl:=⟨l.length,fl,l.map I⟩
def S (fl:Nat) (l:List Int):Value:=Sl.v 1 (sl fl l)
end
@[simp] theorem sl_n (fl:Nat) (l:List Int):(sl fl l).n = l.length:=rfl
@[simp] theorem sl_cs (fl:Nat) (l:List Int):(sl fl l).cs = l.map I:=rfl
@[simp] theorem ll_nil' {α β:Type} (z:β) (s:α→List α→β):ll [] z s = z:=rfl
@[simp] theorem ll_cons' {α β:Type} (a:α) (r:List α) (z:β) (s:α→List α→β):ll (a :: r) z s = s a r:=rfl
@[simp] theorem toI_mk (n:Int):toI .i64 (.int .i64 n) = some n:=rfl
@[simp] theorem toI_mk16 (n:Int):toI .u16 (.int .u16 n) = some n:=rfl
@[simp] theorem toI_mk8 (n:Int):toI .u8 (.int .u8 n) = some n:=rfl
@[simp] theorem toSl_mk (s:Sl):toSl 1 (s.v 1) = some s:=rfl
@[simp] theorem vAgg_mk (l:List Value):vAgg (.agg ⟨l⟩) = some l:=rfl
@[simp] theorem vTup_mk (l:List Value):vTup (.tuple ⟨l⟩) = some l:=rfl
@[simp] theorem vBool_mk (b:Bool):vBool (.bool b) = some b:=rfl
@[simp] theorem toN_mk (n:Nat):toN (Int.ofNat n) = some n:=rfl
@[simp] theorem toN_0:toN 0 = some 0:=rfl
theorem blt_eq (a b:Nat):Nat.blt a b = decide (a < b):=by
 rw [Bool.eq_iff_iff,decide_eq_true_iff,Nat.blt_eq]
theorem ble_eq (a b:Nat):Nat.ble a b = decide (a≤b):=by
 rw [Bool.eq_iff_iff,decide_eq_true_iff,Nat.ble_eq]
theorem wrapI (n:Int) (h1:-9223372036854775808≤n) (h2:n≤9223372036854775807):wrapF .i64 n = n:=by rw [wrapF_eq];exact IntWalk.i64_in _ ⟨h1,h2⟩
theorem wrapS (i:Nat) (h:i < 1000000):wrapF .i64 (Int.add (Int.ofNat i) 1) = Int.ofNat (i + 1):=by
 show wrapF .i64 (Int.ofNat i + 1) = _
 rw [wrapI _ (by simp;omega) (by simp;omega)];simp
end Go.Sp
namespace Go.Sp
open Go.ChangeShapes Go.WideShapes Go.ChangeAt Go.RowKit

section
variable {H:Type} {enc:TypeId×Value→H} {P:Program} {W:World} {R:Ren} {held:Bool} {v:Value} {d:DataW H} {ps:List MemPlace} {t:TypeId} {base:Nat} {r:Reach}

theorem arg_int {k:IntKind} (ht:P.underlying t = some (.int k)) (hok:Value.okWide P W r base t v):∃ n,v = .int k n∧(Lit.int k n).wf = true:=by
 unfold Value.okWide at hok
 rw [ht] at hok
 unfold Cell.okWide at hok
 rw [ht] at hok
 cases v <;> simp [Cell.ok,ht] at hok
 rename_i k' n
 obtain ⟨rfl,h⟩:=hok
 refine ⟨n,rfl,?_⟩
 simp only [Lit.wf,Bool.and_eq_true,decide_eq_true_eq]
 exact h
theorem arg_struct {fs:Array Field} (ht:P.underlying t = some (.struct fs)) (hok:Value.okWide P W r base t v):∃ cs:List Value,v = .agg ⟨cs⟩:=by
 unfold Value.okWide at hok
 rw [ht] at hok
 obtain ⟨⟨cs⟩,rfl,_⟩:=hok
 exact ⟨cs,rfl⟩
theorem arg_array {e:TypeId} {n:Nat} (ht:P.underlying t = some (.array n e)) (hok:Value.okWide P W r base t v):∃ cs:List Value,v = .agg ⟨cs⟩:=by
 unfold Value.okWide at hok
 rw [ht] at hok
 obtain ⟨⟨cs⟩,rfl,_⟩:=hok
 exact ⟨cs,rfl⟩
theorem arg_slice {e:TypeId} (ht:P.underlying t = some (.slice e)) (hok:Value.okWide P W r base t v):∃ a l c,v = .slice a l c:=by
 unfold Value.okWide at hok
 rw [ht] at hok
 unfold Cell.okWide at hok
 rw [ht] at hok
 cases v <;> simp [Cell.ok,ht] at hok
 exact ⟨_,_,_,rfl⟩
end

def OkArgs (P:Program) (f:Func) (W:World) (base:Nat) (args:Array Value):Prop:=∀ (j:Nat) t v,f.params[j]? = some t→args[j]? = some v→Value.okWide P W .any base t v
section
variable {P:Program} {f:Func} {W:World} {base:Nat} {t0 t1 t2 t3:TypeId} {v0 v1 v2 v3:Value}
theorem OkArgs.one (h:OkArgs P f W base #[v0]) (hp:f.params = #[t0]):Value.okWide P W .any base t0 v0:=h 0 _ _ (by rw [hp];rfl) rfl
theorem OkArgs.two (h:OkArgs P f W base #[v0,v1]) (hp:f.params = #[t0,t1]):Value.okWide P W .any base t0 v0∧Value.okWide P W .any base t1 v1:=⟨h 0 _ _ (by rw [hp];rfl) rfl,h 1 _ _ (by rw [hp];rfl) rfl⟩
theorem OkArgs.three (h:OkArgs P f W base #[v0,v1,v2]) (hp:f.params = #[t0,t1,t2]):Value.okWide P W .any base t0 v0∧Value.okWide P W .any base t1 v1∧Value.okWide P W .any base t2 v2:=
 ⟨h 0 _ _ (by rw [hp];rfl) rfl,h 1 _ _ (by rw [hp];rfl) rfl,h 2 _ _ (by rw [hp];rfl) rfl⟩
end
section
variable {P:Program} {f:Func} {W:World} {base:Nat} {args:Array Value} {t:TypeId} {v:Value}
theorem OkArgs.int {k:IntKind} (h:OkArgs P f W base args) (j:Nat) (hp:f.params[j]? = some t) (hv:args[j]? = some v) (ht:P.underlying t = some (.int k)):∃ n,v = .int k n∧(Lit.int k n).wf = true:=arg_int ht (h j t v hp hv)
theorem OkArgs.struct {fs:Array Field} (h:OkArgs P f W base args) (j:Nat) (hp:f.params[j]? = some t) (hv:args[j]? = some v) (ht:P.underlying t = some (.struct fs)):∃ cs:List Value,v = .agg ⟨cs⟩:=arg_struct ht (h j t v hp hv)
theorem OkArgs.array {e:TypeId} {n:Nat} (h:OkArgs P f W base args) (j:Nat) (hp:f.params[j]? = some t) (hv:args[j]? = some v) (ht:P.underlying t = some (.array n e)):∃ cs:List Value,v = .agg ⟨cs⟩:=arg_array ht (h j t v hp hv)
theorem OkArgs.slice {e:TypeId} (h:OkArgs P f W base args) (j:Nat) (hp:f.params[j]? = some t) (hv:args[j]? = some v) (ht:P.underlying t = some (.slice e)):∃ a l c,v = .slice a l c:=arg_slice ht (h j t v hp hv)
end
theorem handed_of {H : Type} {enc : TypeId × Value → H} {a : Assume} {C : Checked} {os : Os} {f : FuncId} {fn : Func} {s : OpenSpec} {F : Stop.Interp} {conds : List PathCond} {apart fresh handsOn again : Bool} {laid : List (String × DataW Unit)}
 (own:ownKnob C.prog.godebug = none) (started:os.Started) (noInit:C.prog.inits.idxOf? f = none) (hfn:C.prog.funcs[f]? = some fn)
 (witness : ∃ (w : World) (tape : Tape) (i : Input), w.os = os ∧ (w.forCall tape i).Shaped C.prog ∧ i.vars = [] ∧ Input.okWide C.prog (w.forCall tape i) .any w.heap.size f i ∧
   s.preRow enc C.prog fn conds apart laid (w.forCall tape i).memory i.args∧a.holds C.prog (lone (Frame.enter C.prog f i.args .normal) [] (w.forCall tape i)))
 (contract : ∀ (W : World) (base : Nat) (args : Array Value) (ds gs : List (DataW H)) (before : List MemPlace), OkArgs C.prog fn W base args →
   DataW.Whole enc C.prog fn.params.toList s.vars apart W args.toList ds gs before→laidMetH C.prog laid W →
   Calls C.prog f args W fun e W'=>∃ v,e = .returned v∧(s.at F).post enc C.prog fn apart fresh handsOn again W args v W') :
 ReturnsInHanded a C os f .any (s.preRow enc C.prog fn conds apart laid) ((s.at F).post enc C.prog fn apart fresh handsOn again):=
 returnsInHanded_of_row own started noInit hfn witness fun W base args ds gs before hval hW _ _ _ hL _ _=>contract W base args ds gs before hval hW hL

section
variable {P:Program} {t:TypeId} {xs:List Value}
end
end Go.Sp
namespace Go.Sp
section
variable {P:Program} {t:TypeId} {xs:List Value}
end
end Go.Sp
namespace Go.Sp
noncomputable section
def evFnP (tabs:List (List Value)) (isP:FuncId→Bool) (pu:PureF) (inl:CallF) (tt:TT) (fns:FuncId→Option RFn) (n:Nat):CallF:=
 Nat.rec (motive := fun _ => CallF) (fun _ _ _ => none)
  (fun m ih f args H=>oo (callP tabs isP pu inl f args H) (oo (fns f) none fun fn=>bb (Nat.ble (len args) fn.n) (endFn tt fn.results (evC tt ih m fn.body (Fr.made fn.n args) H)) none) fun r=>some r) n
def tabsHeap (tabs:List (List Value)):AHeap:=⟨len tabs,objTr (tabTr tabs) 0 .nil,false⟩
def frzR (k:Nat) (r:Option (Value×AHeap)):Option Value:=oo r none fun p=>pp p fun q H1=>oo (freezeV k false q H1) none fun p2=>pp p2 fun v' _=>some v'
def valR (r:Option (Value×AHeap)):Option Value:=oo r none fun p=>pp p fun q _=>some q
end
section
variable {P:Program} {tt:TT} {tabs:List (List Value)}
theorem evFnP_ok (hT : TOk P tt) (hne : ∀ t ∈ tabs, t ≠ []) (hpl : ∀ t ∈ tabs, ∀ x ∈ t, plain1 x = true) {fns : FuncId → Option RFn} (hf : ∀ f r, fns f = some r → FnOk P (List.range tabs.length) f r) (hm : P.follows .mixedOrders = true)
 {isP:FuncId→Bool} {pu:PureF} {inl:CallF} (hpu:∀ g,isP g = true→PureOk P tabs g (pu g)) (hinl:CallOk P (List.range tabs.length) inl) (n:Nat):CallOk P (List.range tabs.length) (evFnP tabs isP pu inl tt fns n):=by
 induction n with
 | zero=>intro g args H v H' h;cases h
 | succ n ih =>
  intro g args H v H' h
  have h:oo (callP tabs isP pu inl g args H) (evStep tt fns (evFnP tabs isP pu inl tt fns n) n g args H) (fun r=>some r) = some (v,H'):=h
  cases hc:callP tabs isP pu inl g args H with
  | some r =>
   rw [hc,oo_some] at h
   injection h with h;subst h
   exact callP_ok hne hpl hinl hpu g args H v H' hc
  | none =>
   rw [hc,oo_none] at h
   exact evStep_ok hT hf hm ih n g args H v H' h
theorem tabsHeap_get (i:Nat):(tabsHeap tabs).get i = (pureHeap tabs).get i:=by
 unfold tabsHeap pureHeap
 rw [AHeap.get_mk,AHeap.get_mk]
theorem pureOk_closedP (hT : TOk P tt) (hne : ∀ t ∈ tabs, t ≠ []) (hpl : ∀ t ∈ tabs, ∀ x ∈ t, plain1 x = true) {fns : FuncId → Option RFn} (hf : ∀ f r, fns f = some r → FnOk P (List.range tabs.length) f r) (hm : P.follows .mixedOrders = true)
 {isP:FuncId→Bool} {pu:PureF} {inl:CallF} (hpu:∀ g,isP g = true→PureOk P tabs g (pu g)) (hinl:CallOk P (List.range tabs.length) inl) {g n:Nat} {H:AHeap} (hH:∀ i,H.get i = (pureHeap tabs).get i) (hHn:H.next = (pureHeap tabs).next) {f:List Value→Option Value}
 (hen:∀ (as:Array Value) (w:World),(callFunc g as).run P w = .ok (.enter g as) w)
 (hrun:∀ args v,f args = some v→closedV v = true∧(valR (evFnP tabs isP pu inl tt fns n g args H) = some v∨frzR tabs.length (evFnP tabs isP pu inl tt fns n g args H) = some v)):PureOk P tabs g f:=by
 refine ⟨hen,fun args v hv _ R w args' hR hs ha=>?_⟩
 obtain ⟨hcv,hr⟩:=hrun args v hv
 have hs':Sim H R w:=hs.congr hH hHn
 have hgl:GlR (List.range tabs.length) R:=fun g hg=>by rw [hR];simp at hg;simp [hg]
 rcases hr with hr | hr
 ·obtain ⟨q, hq, h1⟩ := oo_inv (show oo (evFnP tabs isP pu inl tt fns n g args H) none (fun p => pp p fun q _ => some q) = some v from hr)
  rw [pp_eta] at h1
  injection h1 with h1
  have hok:=(evFnP_ok hT hne hpl hf hm hpu hinl n) g args H q.1 q.2 hq
  refine (hok.2 R w args' hs' hgl ha).mono fun e w' ⟨u,R',he,hu,hp⟩=>?_
  rw [h1] at hu
  exact ⟨u,q.2,R',he,hcv,hu,Post.congrL (fun i=>(hH i).symm) hHn.symm hp⟩
 ·obtain ⟨q, hq, h1⟩ := oo_inv (show oo (evFnP tabs isP pu inl tt fns n g args H) none (fun p => pp p fun q H1 => oo (freezeV tabs.length false q H1) none fun p2 => pp p2 fun v' _ => some v') = some v from hr)
  rw [pp_eta] at h1
  obtain ⟨p2,hp2,h2⟩:=oo_inv h1
  rw [pp_eta] at h2
  injection h2 with h2
  have hok:=(evFnP_ok hT hne hpl hf hm hpu hinl n) g args H q.1 q.2 hq
  refine (hok.2 R w args' hs' hgl ha).mono fun e w' ⟨u,R',he,hu,hp⟩=>?_
  have hn:H.next≤tabs.length:=by rw [hHn];show len tabs≤_;rw [len_eq];exact Nat.le_refl _
  have hp2':freezeV tabs.length false q.1 q.2 = some (p2.1,p2.2):=hp2
  obtain ⟨R2,_,_,k2,k3⟩:=freezeV_ok hp2' hs' hn hp hu
  rw [h2] at k3
  exact ⟨u,p2.2,R2,he,hcv,k3,Post.congrL (fun i=>(hH i).symm) hHn.symm k2⟩

theorem law_true0 {g : FuncId} {f : List Value → Option Value} (hpu : PureOk P [] g f) {args args' : List Value} {W : World} {R : Ren} (hm : f args = some (.bool true)) (hcl : ∀ x ∈ args, closed2 x = true)
 (hR:R.f = fun _=>none) (hs:Sim (pureHeap []) R W) (ha:VRL R args args'):Calls P g ⟨args'⟩ W fun e W'=>e = .returned (.bool true)∧GrownB W W':=
 (hpu.2 args _ hm hcl R W args' (by rw [hR]; funext i; simp) hs ha).mono fun e W' ⟨u, H', R', he, _, hu, hp⟩ => by
   rw [hu.bool_l] at he
   exact ⟨he,grown_of hp fun id p h=>by rw [hR] at h;cases h⟩
theorem start0 (w:World):∃ R:Ren,R.f = (fun _=>none)∧R.ro = allRo w∧Sim (pureHeap []) R w:=by
 refine ⟨⟨fun _=>none,fun _=>0,allRo w⟩,rfl,rfl,?_⟩
 refine ⟨fun id c β h => (by cases h), fun id c β h => (by cases h), fun id c β id' β' h h' => (by cases h), fun id a ha => ?_, fun id hid => ?_, fun c C h => ⟨allRo_ok w c C h, fun id β h' => (by cases h')⟩⟩
 ·rw [pureHeap_get] at ha;simp at ha;cases ha
 ·rw [pureHeap_get];simp
end
end Go.Sp
namespace Go.Sp

noncomputable section
end

section
variable {P:Program} {tabs:List (List Value)}

end

noncomputable section
def giveV (z:Nat) (v:Value) (H:AHeap):Option (Value×AHeap):=
 oo (vSl v) (bb (isNilSl v) (some (fsV z 0 2 [],H)) (bb (closed2 v) (some (v,H)) none)) fun s=>oo (oCells (H.get s.id)) none fun o=>
  bb (an (nt o.imm) (an (nt o.spent) (an (Nat.ble (s.off + s.len * s.sz) (len o.xs)) (allL closed1 (takeL (s.len * s.sz) (dropL s.off o.xs))))))
   (some (fsV s.sz s.len 0 (takeL (s.len * s.sz) (dropL s.off o.xs)),H.set s.id .dead)) none
def giveL (z:Nat) (l:List Value):AHeap→Option (List Value×AHeap):=
 List.rec (motive:=fun _=>AHeap→Option (List Value×AHeap)) (fun H=>some ([],H)) (fun v _ ih H=>oo (giveV z v H) none fun p=>pp p fun v' H1=>oo (ih H1) none fun q=>pp q fun r H2=>some (v' :: r,H2)) l
def giveF (tabs:List (List Value)) (z:Nat) (f:List Value→Option Value) (args:List Value) (H:AHeap):Option (Value×AHeap):=
 oo (giveL z args H) none fun p=>pp p fun as H1=>bb (tabsOk H1 tabs 0) (oo (f as) none fun v=>some (v,H1)) none
end

theorem giveV_ok {z : Nat} {v v' u : Value} {H H' : AHeap} {R : Ren} {w : World} (h : giveV z v H = some (v', H')) (hs : Sim H R w) (hx : VR R v u) :
 ∃ R',R.le R'∧R'.f = R.f∧Post H R w H' R' w∧VR R' v' u∧closed2 v' = true:=by
 unfold giveV at h
 cases hsl:vSl v with
 | none =>
  rw [hsl,oo_none] at h
  rcases bb_cases h with ⟨hn,h⟩ | ⟨_,h⟩
  ·injection h with h; injection h with e1 e2; subst e1; subst e2
   refine ⟨R,R.le_refl,rfl,.refl hs,?_,rfl⟩
   rw [isNilSl_true hn] at hx
   rw [hx.slNil_l];exact .fsN z 2 (by decide)
  ·obtain ⟨hc, h⟩ := bb_inv h
   injection h with h;injection h with e1 e2;subst e1;subst e2
   exact ⟨R,R.le_refl,rfl,.refl hs,hx,hc⟩
 | some s=>
 rw [hsl,oo_some] at h
 obtain ⟨o,ho,h1⟩:=oo_inv h
 obtain ⟨hc,h2⟩:=bb_inv h1
 obtain ⟨c1,hc⟩:=an_inv hc
 obtain ⟨c3,hc⟩:=an_inv hc
 obtain ⟨c4,c5⟩:=an_inv hc
 have c1:=nt_false c1
 have c3:=nt_false c3
 simp only [len_eq] at c4
 have c4:=Nat.le_of_ble_eq_true c4
 rw [allL_eq,List.all_eq_true] at c5
 simp only [takeL_eq,dropL_eq] at c5 h2
 injection h2 with h2;injection h2 with e1 e2;subst e1;subst e2
 have ho':=oCells_some ho
 rw [c1,c3] at ho'
 have dead : ∀ (R' : Ren), R.le R' → R'.f = R.f → R'.sz = R.sz → (∀ c C, R'.ro c = some C → R.ro c = some C ∨ ∃ β, R.f s.id = some (c, β) ∧ ∃ ty fz, w.heap[c]? = some (.cells C ty fz)) →
  Post H R w (H.set s.id .dead) R' w:=fun R' hle hRf hRs hro=>by
  have hget:∀ id,(H.set s.id .dead).get id = if s.id = id then .dead else H.get id:=fun id=>AHeap.get_set _ _ _ _
  have hnext:(H.set s.id .dead).next = H.next:=by simp
  have hwr:∀ id,(H.get id).writable = false→((H.set s.id .dead).get id).writable = false:=fun id h=>by
   rw [hget];split
   ·rfl
   ·exact h
  have hp:=Post.refl hs
  refine ⟨⟨fun id c β h0 => by rw [hRf, hRs]; exact ⟨h0, rfl⟩, hle.ro⟩, fun id p h0 => by rw [hRf] at h0; exact .inl h0, ?_, by rw [hnext]; exact Nat.le_refl _, Nat.le_refl _, fun _ _ _ => rfl,
   fun id hi hr Q c β ob h0=>?_,fun id hi him=>?_,fun id c β h0 hr=>by rw [hRf] at h0;exact hp.fresh id c β h0 hr,hp.side,fun c C h0=>?_⟩
  ·refine ⟨fun id c β h0 => by rw [hRf] at h0; rw [hnext]; exact hs.dom id c β h0, fun id c β h0 => ?_, fun id c β id' β' h0 h0' hne hw => ?_, fun id a ha => ?_, fun id hi => ?_, fun c C h0 => ?_⟩
   ·rw [hRf] at h0
    rw [hget];split
    ·trivial
    ·exact (hs.obj id c β h0).mono hle (by rw [hRs])
   ·rw [hRf] at h0 h0'
    have hg1:=hget id
    have hg2:=hget id'
    by_cases hn:s.id = id
    ·rw [if_pos hn] at hg1;rw [hg1] at hw;cases hw
    ·rw [if_neg hn] at hg1
     rw [hg1] at hw ⊢
     by_cases hn':s.id = id'
     ·rw [if_pos hn'] at hg2;exact .inl hg2
     ·rw [if_neg hn'] at hg2; rw [hg2]; exact hs.sep id c β id' β' h0 h0' hne hw
   ·rw [hget] at ha
    split at ha
    ·cases ha
    ·have := hs.anc id a ha
     rw [hnext,hget]
     refine ⟨this.1,?_⟩
     split
     ·exact ⟨rfl,rfl⟩
     ·exact this.2
   ·rw [hnext] at hi
    rw [hget];split
    ·rfl
    ·exact hs.wf id hi
   ·rcases hro c C h0 with h1 | ⟨β, h1, ty, fz, h2⟩
    ·exact ⟨(hs.ro c C h1).1,fun id β h9=>by rw [hRf] at h9;exact hwr id ((hs.ro c C h1).2 id β h9)⟩
    ·refine ⟨⟨ty, fz, h2⟩, fun id β' h9 => ?_⟩
     rw [hRf] at h9
     rw [hget]
     split
     ·rfl
     ·rename_i hn
      cases hwi:(H.get id).writable with
      | false=>rfl
      | true =>
       rcases hs.sep id c β' s.id β h9 h1 (fun e => hn e.symm) hwi with h3 | ⟨h3, _⟩
       ·rw [ho'] at h3;cases h3
       ·have h4 := hs.anc id s.id h3
        rw [ho'] at h4
        have h5:true = false:=h4.2.2
        cases h5
  ·rw [hget]; split
   ·trivial
   ·exact h0
  ·rw [hget]; split
   ·rename_i he
    rw [←he,ho'] at him;cases him
   ·rfl
  ·rcases hro c C h0 with h1 | ⟨β, h1, _⟩
   ·exact .inl h1
   ·exact .inr (.inr ⟨s.id,β,h1,by rw [ho'];rfl⟩)
 have hcl:closed2 (fsV s.sz s.len 0 ((o.xs.drop s.off).take (s.len * s.sz))) = true:=rfl
 rcases hx.sl_l hsl with ⟨c,β,cap,hid,hv,k1,k2,k3,k4⟩ | ⟨c,o2,hv,k0,k00⟩ | ⟨hv,k0,k00⟩
 ·obtain ⟨C, ty, fz, hC, hsz, hcf, hcr⟩ := hs.cells hid ho
  let R':Ren:=⟨R.f,R.sz,fun c'=>if c' = c then some C else R.ro c'⟩
  have hle:R.le R':=⟨fun id c β h=>⟨h,rfl⟩,fun c' C' h=>by
   show (if c' = c then some C else R.ro c') = some C'
   split
   ·rename_i he; subst he
    obtain ⟨⟨t',fz',h9⟩,_⟩:=hs.ro c' C' h
    rw [hC] at h9;injection h9 with h9;injection h9 with h9;rw [h9]
   ·exact h⟩
  refine ⟨R',hle,rfl,dead R' hle rfl rfl fun c' C' h=>?_,?_,hcl⟩
  ·have h : (if c' = c then some C else R.ro c') = some C' := h
   by_cases he:c' = c
   ·rw [if_pos he] at h
    have h:C = C':=by injection h
    subst h;subst he
    exact .inr ⟨β,hid,ty,fz,hC⟩
   ·rw [if_neg he] at h;exact .inl h
  ·rw [hv]
   refine .mkFs (C:=C) (by show (if c = c then some C else R.ro c) = some C;simp) (by simp;omega) (by omega) (fun he=>by cases he) (by decide) (by simp;omega) ?_ c5
   exact (hcr.mono hle).part _ _
 ·refine ⟨R, R.le_refl, rfl, dead R R.le_refl rfl rfl fun c' C' h => .inl h, ?_, hcl⟩
  rw [hv,k0]
  simp only [Nat.zero_mul,List.take_zero]
  exact .fsE (by decide)
 ·refine ⟨R, R.le_refl, rfl, dead R R.le_refl rfl rfl fun c' C' h => .inl h, ?_, hcl⟩
  rw [hv,k0]
  simp only [Nat.zero_mul,List.take_zero]
  exact .fsN _ _ (by decide)

theorem giveL_ok {z : Nat} {l as : List Value} {H H' : AHeap} (h : giveL z l H = some (as, H')) : ∀ {R : Ren} {w : World} {us : List Value}, Sim H R w → VRL R l us →
 ∃ R',R.le R'∧R'.f = R.f∧Post H R w H' R' w∧VRL R' as us∧∀ x ∈ as,closed2 x = true:=by
 induction l generalizing as H with
 | nil =>
  injection h with h;injection h with e1 e2;subst e1;subst e2
  intro R w us hs hx
  exact ⟨R,R.le_refl,rfl,.refl hs,hx,by simp⟩
 | cons v l ih =>
  obtain ⟨p,hp,h⟩:=oo_inv (show oo (giveV z v H) none (fun p=>pp p fun v' H1=>oo (giveL z l H1) none fun q=>pp q fun r H2=>some (v' :: r,H2)) = some (as,H') from h)
  obtain ⟨v',H1⟩:=p
  obtain ⟨q,hq,h⟩:=oo_inv (show oo (giveL z l H1) none (fun q=>pp q fun r H2=>some (v' :: r,H2)) = some (as,H') from h)
  obtain ⟨r,H2⟩:=q
  injection (show some (v' :: r,H2) = some (as,H') from h) with h;injection h with e1 e2;subst e1;subst e2
  intro R w us hs hx
  obtain ⟨u,us',rfl,h1,h2⟩:=hx.uncons
  obtain ⟨R1,k1,k2,k3,k4,k5⟩:=giveV_ok hp hs h1
  obtain ⟨R2,j1,j2,j3,j4,j5⟩:=ih hq k3.sim (h2.mono k1)
  refine ⟨R2,Ren.le_trans k1 j1,j2.trans k2,k3.trans j3 hs,.cons (k4.mono j1) j4,fun x hx=>?_⟩
  simp at hx
  rcases hx with rfl | hx
  ·exact k5
  ·exact j5 x hx

theorem giveF_ok {P : Program} {tabs : List (List Value)} (hne : ∀ t ∈ tabs, t ≠ []) (hpl : ∀ t ∈ tabs, ∀ x ∈ t, plain1 x = true) {g : FuncId} {z : Nat} {f : List Value → Option Value} (hok : PureOk P tabs g f) {args : List Value} {H H' : AHeap} {v : Value} (h : giveF tabs z f args H = some (v, H')) :
 (∀ (as:Array Value) (w:World),(callFunc g as).run P w = .ok (.enter g as) w) ∧
 ∀ R w args',Sim H R w→GlR (List.range tabs.length) R→VRL R args args'→Calls P g ⟨args'⟩ w fun e w'=>∃ u R',e = .returned u∧VR R' v u∧Post H R w H' R' w':=by
 refine ⟨hok.1,fun R w args' hs hgl ha=>?_⟩
 obtain ⟨p,hp,h⟩:=oo_inv h
 obtain ⟨as,H1⟩:=p
 obtain ⟨htab,h⟩:=bb_inv (show bb (tabsOk H1 tabs 0) (oo (f as) none fun v=>some (v,H1)) none = some (v,H') from h)
 obtain ⟨v',hv',h2⟩:=oo_inv h
 injection h2 with h2;injection h2 with e1 e2;subst e1;subst e2
 obtain ⟨R1,k1,k2,k3,k4,k5⟩:=giveL_ok hp hs ha
 have hs1:=k3.sim
 have hgl1:GlR (List.range tabs.length) R1:=hgl.mono k1
 have hs0:=pure_sim hs1 hgl1 htab R1.ro (fun c C h=>(hs1.ro c C h).1) (fun c C h=>h) hne hpl
 refine (hok.2 as v' hv' k5 _ w args' rfl hs0 (closed2L_VR (R:=R1) (R':=⟨fun i=>if i < tabs.length then some (i,0) else none,R1.sz,R1.ro⟩) (fun _ _ h=>h) k4 k5)).mono fun e w' ⟨u,H2,R2,he,hcv,hu,hp2⟩=>?_
 refine ⟨u,⟨R1.f,R1.sz,R2.ro⟩,he,closedV_VR (R:=R2) (R':=⟨R1.f,R1.sz,R2.ro⟩) (fun _ _ h=>h) hu hcv,k3.trans (pure_post hs1 rfl hp2 rfl rfl (fun c C h=>hp2.le.ro c C h) fun c C h=>?_) hs⟩
 rcases hp2.rofresh c C h with h3 | h3 | ⟨id,β,h3,h4⟩
 ·exact .inl h3
 ·exact .inr ⟨h3,h⟩
 ·have := pureHeap_imm (tabf_some (show (if id < tabs.length then some (id, 0) else none) = some (c, β) from h3)).1
  rw [this] at h4;cases h4

noncomputable section
def oC (l:List Value):AObj:=.cells l false false []
def d2 (n:Nat):Nat:=2 * n + bb false 1 0
def hp (n:Nat) (l:List AObj):AHeap:=⟨n,objTr l 0 .nil,true⟩
def fr (n:Nat) (l:List (Nat×Value)):Fr:=⟨n,frTr l .nil⟩
def pt (b o:Nat):Value:=.pointer (some ⟨b,o,none⟩)
def sc (b o z n c:Nat):Value:=.slice (some ⟨b,o,some z⟩) n c
def zI (z:Int):Value:=.int .i64 z
def zB (b:Bool):Value:=.bool b
end
end Go.Sp
namespace Go.Sp
section
variable {tt:TT} {call:CallF} {n0:Nat}
theorem OpsG.ghs {os:List ROp} {F F':Fr} {H H':AHeap} (F1:Fr) (H1:AHeap) (h:GhS n0 F H F1 H1) (r:OpsG tt call n0 os F1 H1 F' H'):OpsG tt call n0 os F H F' H':=by
 induction h with
 | id=>exact r
 | step hg _ ih=>exact .gh hg (ih r)
end
end Go.Sp
namespace Go.Sp
noncomputable section
def encE (e:Ent):Value:=Ent.rec (motive:=fun _=>Value) (fun k v b=>.tuple ⟨[k,v,gi b]⟩) e
def decE (v:Value):Option Ent:=oo (vTup v) none fun l=>ll l none fun k l=>ll l none fun x l=>ll l none fun b l=>ll l (oo (vNat b) none fun n=>some ⟨k,x,n⟩) fun _ _=>none
def encO (o:AObj):Value:=AObj.rec (motive:=fun _=>Value) (fun xs _ _ _=>.agg ⟨xs⟩) (fun es c=>.tuple ⟨gi c :: mapL encE es⟩) (fun _ _ _ _=>deadV) deadV o
def decO (v:Value):Option AObj:=
 oo (vAgg v) (oo (vTup v) (bb (isDead v) (some .dead) none) fun l=>ll l none fun c r=>oo (vNat c) none fun n=>oo (mapO decE r) none fun es=>some (.map es n)) fun xs=>some (.cells xs false false [])
structure MapV where
 es:List Ent
 clock:Nat
def vMapO (v:Value):Option MapV:=oo (vTup v) none fun l=>ll l none fun c r=>oo (vNat c) none fun n=>oo (mapO decE r) none fun es=>some ⟨es,n⟩

def subHeap (tabs:List (List Value)) (os:List AObj):AHeap:=⟨len tabs + len os,objTr (appL (tabTr tabs) os) 0 .nil,true⟩
def immAt (H:AHeap) (i:Nat):Bool:=oo (oCells (H.get i)) false fun o=>o.imm
def tabsOk2 (H:AHeap) (tabs:List (List Value)):Nat→Bool:=List.rec (motive:=fun _=>Nat→Bool) (fun _=>true) (fun t _ ih i=>an (valsEq (cellsAt H i) t) (an (immAt H i) (ih (Nat.succ i)))) tabs
def nilL {α:Type} (l:List α):Bool:=ll l true fun _ _=>false
def emptyB (o:AObj):Bool:=AObj.rec (motive:=fun _=>Bool) (fun xs _ _ _=>nilL xs) (fun _ _=>false) (fun _ _ _ _=>false) true o
def wrB (o:AObj):Bool:=AObj.rec (motive:=fun _=>Bool) (fun _ imm spent _=>an (nt imm) (nt spent)) (fun _ _=>true) (fun _ _ _ _=>false) false o
def wrAll (H:AHeap) (l:List (Option Nat)):Bool:=allL (fun o=>oo o true fun id=>wrB (H.get id)) l
def ancAt (H:AHeap) (id:Nat):List Nat:=oo (oCells (H.get id)) [] fun o=>o.anc
def ancsOf (H:AHeap) (l:List (Option Nat)):List Nat:=List.rec (motive:=fun _=>List Nat) [] (fun o _ ih=>appL (oo o [] fun id=>ancAt H id) ih) l
def rootOk (H:AHeap) (v:Value):Bool:=oo (vSl v) true fun s=>orr (Nat.ble 2 s.cap) (emptyB (H.get s.id))
def rootsOk (F:Fr) (H:AHeap) (rs:List Rt):List (Option Nat)→Bool:=
 List.rec (motive:=fun _=>List (Option Nat)→Bool) (fun _=>true) (fun r _ ih o=>an (rootOk H (r.val F H o)) (ih (addRt o (r.val F H o)))) rs
def rangeL (n:Nat):List Nat:=Nat.rec (motive:=fun _=>List Nat) [] (fun m r=>appL r [m]) n
def invL (olds:List (Option Nat)) (next extra:Nat):List (Option Nat):=appL (mapL (fun p=>idxOf p olds 0) (rangeL next)) (mapL (fun q=>some (len olds + q)) (rangeL extra))
def pushL (obs:List AObj):AHeap→AHeap:=List.rec (motive:=fun _=>AHeap→AHeap) (fun H=>H) (fun o _ ih H=>ih (H.push o)) obs
def setJs (js:List (Option Nat)):List AObj→AHeap→AHeap:=
 List.rec (motive:=fun _=>List AObj→AHeap→AHeap) (fun obs H=>pushL obs H) (fun j _ ih obs H=>ll obs H fun o r=>ih r (oo j H fun id=>H.set id o)) js
def backObj (inv:List (Option Nat)) (p:Bool×AObj):Option AObj:=pp p fun deep o=>renObj inv deep false o

def objF (tabs:List (List Value)) (na:Nat) (rs:List Rt) (outs:List Bool) (f:List Value→Option Value) (args:List Value) (H:AHeap):Option (Value×AHeap):=
 (fun F => (fun olds => bb (an (tabsOk2 H tabs 0) (an (idxChk olds olds 0) (an (Nat.beq (len olds) (len tabs + len rs)) (an (Nat.beq (len args) na) (wrAll H (dropL (len tabs) olds))))))
   (bb (rootsOk F H rs (idents (len tabs)))
     (oo (mapO (newObj H [] olds) (zipL (mapL Rt.deep rs) (dropL (len tabs) olds))) none fun os =>
       oo (mapO (ren2 olds) args) none fun as=>oo (f (appL as (mapL encO os))) none fun z=>oo (vTup z) none fun l=>ll l none fun v es=>oo (mapO decO es) none fun os'=>
        bb (an (Nat.beq (len outs) (len os')) (Nat.ble (len rs) (len os')))
         (oo (mapO (backObj (invL olds H.next (len os' - len rs))) (zipL outs os')) none fun ns => oo (ren2 (invL olds H.next (len os' - len rs)) v) none fun v' =>
           some (v',setJs (dropL (len tabs) olds) ns (H.kill (ancsOf H (dropL (len tabs) olds))))) none) none) none)
  (oldsOf F H rs (idents (len tabs)))) (Fr.made (len args) args)
end

def plainO (o:AObj):Prop:=o = .dead∨(∃ xs,o = .cells xs false false [])∨∃ es c,o = .map es c
def ObjOk (P:Program) (tabs:List (List Value)) (na k:Nat) (g:FuncId) (f:List Value→Option Value):Prop:=
 (∀ (as:Array Value) (w:World),(callFunc g as).run P w = .ok (.enter g as) w) ∧
 ∀ args os z, args.length = na → os.length = k → (∀ o ∈ os, plainO o) → f (args ++ os.map encO) = some z →
  ∀ R w args', (∀ i, i < tabs.length → R.f i = some (i, 0)) → (∀ i o, os[i]? = some o → R.f (tabs.length + i) = none → EmptyO o) → Sim (subHeap tabs os) R w → VRL R args args' →
   Calls P g ⟨args'⟩ w fun e w' => ∃ (u v : Value) (os' : List AObj) (H' : AHeap) (R' : Ren), e = .returned u ∧ z = .tuple ⟨v :: os'.map encO⟩ ∧ VR R' v u ∧ Post (subHeap tabs os) R w H' R' w' ∧ k ≤ os'.length ∧
    ∀ i o,os'[i]? = some o→H'.get (tabs.length + i) = o∧plainO o
def FinQ (tt:TT) (T k:Nat) (rs:List ResultVar) (z:Value) (F:Fr) (H:AHeap):Prop:=
 ∃ (v:Value) (os':List AObj),z = .tuple ⟨v :: os'.map encO⟩∧aresults tt F H rs = some v∧k≤os'.length∧∀ i o,os'[i]? = some o→H.get (T + i) = o∧plainO o
def FinO (tt : TT) (T k : Nat) (rs : List ResultVar) (z : Value) : Ex → Fr → AHeap → Prop
 | .exit _,_,_=>False
 | .goto _,_,_=>False
 | .normal,F,H=>∃ F1 H1,GhS (T + k) F H F1 H1∧FinQ tt T k rs z F1 H1
 | .ret,F,H=>FinQ tt T k rs z F H
theorem GhS.trans {n0:Nat} {F F1 F2:Fr} {H H1 H2:AHeap} (h:GhS n0 F H F1 H1) (r:GhS n0 F1 H1 F2 H2):GhS n0 F H F2 H2:=by
 induction h with
 | id=>exact r
 | step hg _ ih=>exact .step hg (ih r)
theorem FinO.ghs {tt:TT} {T k:Nat} {rs:List ResultVar} {z:Value} {F:Fr} {H:AHeap} (F':Fr) (H':AHeap) (h:GhS (T + k) F H F' H') (r:FinO tt T k rs z .normal F' H'):FinO tt T k rs z .normal F H:=by
 obtain ⟨F1,H1,h1,h2⟩:=r
 exact ⟨F1,H1,h.trans h1,h2⟩

theorem subHeap_get (tabs:List (List Value)) (os:List AObj) (i:Nat):(subHeap tabs os).get i = if i < tabs.length then (match tabs[i]? with | some t=>.cells t true false [] | none=>.dead) else (os[i - tabs.length]?).getD .dead:=by
 unfold subHeap
 rw [AHeap.get_mk,objTr_get]
 have hl:(tabTr tabs).length = tabs.length:=by simp [tabTr]
 simp only [appL_eq,List.length_append,hl,Nat.zero_add,Nat.zero_le,true_and,Nat.sub_zero]
 by_cases h:i < tabs.length
 ·rw [if_pos (by omega),if_pos h,List.getElem?_append_left (by rw [hl];exact h),tabTr_get,List.getElem?_eq_getElem h];rfl
 ·rw [if_neg h]
  by_cases h2:i < tabs.length + os.length
  ·rw [if_pos h2,List.getElem?_append_right (by rw [hl];omega),hl]
  ·rw [if_neg h2,List.getElem?_eq_none (by omega)];rfl
theorem subHeap_next (tabs:List (List Value)) (os:List AObj):(subHeap tabs os).next = tabs.length + os.length:=by show len tabs + len os = _;rw [len_eq,len_eq]
theorem subHeap_tab {tabs:List (List Value)} {os:List AObj} {i:Nat} {t:List Value} (h:tabs[i]? = some t):(subHeap tabs os).get i = .cells t true false []:=by
 rw [subHeap_get,if_pos (List.getElem?_eq_some_iff.1 h).1,h]
theorem subHeap_obj (tabs:List (List Value)) (os:List AObj) (i:Nat):(subHeap tabs os).get (tabs.length + i) = (os[i]?).getD .dead:=by
 rw [subHeap_get,if_neg (by omega),show tabs.length + i - tabs.length = i by omega]
theorem plainO_anc {o:AObj} (h:plainO o):o.ancOf = []:=by
 rcases h with rfl | ⟨xs,rfl⟩ | ⟨es,c,rfl⟩ <;> rfl
theorem decE_enc (e:Ent):decE (encE e) = some e:=by obtain ⟨k,v,b⟩:=e;rfl
theorem decEs_enc (es:List Ent):mapO decE (es.map encE) = some es:=by
 induction es with
 | nil=>rfl
 | cons e es ih =>
  show oo (decE (encE e)) none (fun b=>oo (mapO decE (es.map encE)) none fun r=>some (b :: r)) = _
  rw [decE_enc,oo_some,ih];rfl
theorem decO_enc {o:AObj} (h:plainO o):decO (encO o) = some o:=by
 rcases h with rfl | ⟨xs,rfl⟩ | ⟨es,c,rfl⟩
 ·rfl
 ·rfl
 ·show oo (mapO decE (mapL encE es)) none (fun es => some (AObj.map es c)) = _
  rw [mapL_eq,decEs_enc];rfl
theorem decOs_enc {os:List AObj} (h:∀ o ∈ os,plainO o):mapO decO (os.map encO) = some os:=by
 induction os with
 | nil=>rfl
 | cons o os ih =>
  show oo (decO (encO o)) none (fun b=>oo (mapO decO (os.map encO)) none fun r=>some (b :: r)) = _
  rw [decO_enc (h o (by simp)),oo_some,ih fun o ho=>h o (by simp [ho])];rfl

theorem tabsOk2_some {H:AHeap} {tabs:List (List Value)} {j:Nat} (h:tabsOk2 H tabs j = true):∀ i t,tabs[i]? = some t→cellsAt H (j + i) = t∧immAt H (j + i) = true:=by
 induction tabs generalizing j with
 | nil=>intro i t h;simp at h
 | cons a tabs ih =>
  obtain ⟨h1,h2⟩:=an_inv (show an (valsEq (cellsAt H j) a) (an (immAt H j) (tabsOk2 H tabs (j + 1))) = true from h)
  obtain ⟨h2,h3⟩:=an_inv h2
  intro i t hi
  cases i with
  | zero=>simp at hi;subst hi;exact ⟨valsEq_eq h1,h2⟩
  | succ i=>have:=ih h3 i t (by simpa using hi);rwa [show j + (i + 1) = j + 1 + i by omega]
theorem tab_imm {H:AHeap} {i:Nat} {t:List Value} (h1:cellsAt H i = t) (h2:immAt H i = true) (hne:t ≠ []):∃ sp anc,H.get i = .cells t true sp anc:=by
 unfold cellsAt at h1
 unfold immAt at h2
 cases ho:H.get i with
 | cells xs imm sp anc =>
  rw [ho] at h1 h2
  have h1:xs = t:=h1
  have h2:imm = true:=h2
  exact ⟨sp,anc,by rw [h1,h2]⟩
 | dead=>rw [ho] at h2;cases h2
 | map=>rw [ho] at h2;cases h2
 | iter=>rw [ho] at h2;cases h2

theorem emptyB_ok {o:AObj} (h:emptyB o = true):EmptyO o:=by
 cases o with
 | dead=>trivial
 | cells xs i s a =>
  cases xs with
  | nil=>rfl
  | cons x xs=>cases h
 | map=>cases h
 | iter=>cases h
theorem wrB_ok {o:AObj} (h:wrB o = true):o.writable = true∧o.immB = false:=by
 cases o with
 | dead=>cases h
 | iter=>cases h
 | map=>exact ⟨rfl,rfl⟩
 | cells xs i s a =>
  obtain ⟨h1,h2⟩:=an_inv (show an (nt i) (nt s) = true from h)
  rw [nt_false h1,nt_false h2];exact ⟨rfl,rfl⟩
theorem wrAll_b {H:AHeap} {l:List (Option Nat)} (h:wrAll H l = true) {i id:Nat} (hi:l[i]? = some (some id)):wrB (H.get id) = true:=by
 unfold wrAll at h
 rw [allL_eq,List.all_eq_true] at h
 exact h _ (List.mem_of_getElem? hi)
theorem wrAll_ok {H:AHeap} {l:List (Option Nat)} (h:wrAll H l = true) {i id:Nat} (hi:l[i]? = some (some id)):(H.get id).writable = true∧(H.get id).immB = false:=by
 unfold wrAll at h
 rw [allL_eq,List.all_eq_true] at h
 exact wrB_ok (h _ (List.mem_of_getElem? hi))
theorem ancsOf_mem {H:AHeap} {l:List (Option Nat)} {a:Nat}:a ∈ ancsOf H l↔∃ (i id:Nat),l[i]? = some (some id)∧a ∈ (H.get id).ancOf:=by
 have key:∀ id,ancAt H id = (H.get id).ancOf:=fun id=>by
  unfold ancAt
  cases H.get id <;> rfl
 induction l with
 | nil=>simp [ancsOf]
 | cons o l ih =>
  show a ∈ appL (oo o [] fun id=>ancAt H id) (ancsOf H l)↔_
  rw [appL_eq,List.mem_append]
  constructor
  ·rintro (h | h)
   ·cases o with
    | none=>cases h
    | some id=>exact ⟨0,id,rfl,by rw [←key];exact h⟩
   ·obtain ⟨i, id, h1, h2⟩ := ih.1 h
    exact ⟨i + 1,id,by simpa using h1,h2⟩
  ·rintro ⟨i, id, h1, h2⟩
   cases i with
   | zero=>simp at h1;subst h1;left;rw [oo_some,key];exact h2
   | succ i=>right;exact ih.2 ⟨i,id,by simpa using h1,h2⟩

theorem rangeL_eq (n:Nat):rangeL n = List.range n:=by
 induction n with
 | zero=>rfl
 | succ n ih=>show appL (rangeL n) [n] = _;rw [ih,appL_eq,List.range_succ]
theorem invL_get (olds:List (Option Nat)) (next extra p:Nat):(invL olds next extra)[p]? = if p < next then some (idxOf p olds 0) else if p < next + extra then some (some (olds.length + (p - next))) else none:=by
 unfold invL
 simp only [appL_eq,mapL_eq,rangeL_eq,len_eq]
 by_cases h:p < next
 ·rw [if_pos h,List.getElem?_append_left (by simpa using h)];simp [h]
 ·rw [if_neg h, List.getElem?_append_right (by simp; omega)]
  simp only [List.length_map,List.length_range,List.getElem?_map]
  by_cases h2:p < next + extra
  ·rw [if_pos h2,List.getElem?_range (by omega)];rfl
  ·rw [if_neg h2,List.getElem?_eq_none (by simp;omega)];rfl

theorem pushL_next (obs:List AObj) (H:AHeap):(pushL obs H).next = H.next + obs.length:=by
 induction obs generalizing H with
 | nil=>rfl
 | cons o obs ih=>show (pushL obs (H.push o)).next = _;rw [ih,AHeap.next_push];simp;omega
theorem pushL_get (obs:List AObj) (H:AHeap) (p:Nat):(pushL obs H).get p = if H.next≤p∧p < H.next + obs.length then (obs[p - H.next]?).getD .dead else H.get p:=by
 induction obs generalizing H with
 | nil=>show H.get p = _;rw [if_neg (by simp)]
 | cons o obs ih =>
  show (pushL obs (H.push o)).get p = _
  rw [ih,AHeap.next_push,AHeap.get_push]
  by_cases h:H.next + 1≤p∧p < H.next + 1 + obs.length
  ·rw [if_pos h,if_pos (by simp;omega),show p - H.next = (p - (H.next + 1)) + 1 by omega,List.getElem?_cons_succ]
  ·rw [if_neg h]
   by_cases h2:H.next = p
   ·rw [if_pos h2,if_pos (by simp;omega)];subst h2;simp
   ·rw [if_neg h2,if_neg (by simp;omega)]
theorem pushL_wf {obs:List AObj} {H:AHeap} (h:H.wf):(pushL obs H).wf:=by
 induction obs generalizing H with
 | nil=>exact h
 | cons o obs ih=>exact ih (h.push o)
theorem setJs_next (js:List (Option Nat)) (obs:List AObj) (H:AHeap) (hl:js.length≤obs.length):(setJs js obs H).next = H.next + (obs.length - js.length):=by
 induction js generalizing obs H with
 | nil=>show (pushL obs H).next = _;rw [pushL_next];simp
 | cons j js ih =>
  cases obs with
  | nil=>simp at hl
  | cons o obs =>
   show (setJs js obs (oo j H fun id=>H.set id o)).next = _
   rw [ih _ _ (by simpa using hl)]
   cases j with
   | none=>simp
   | some id=>simp
theorem setJs_wf {js:List (Option Nat)} {obs:List AObj} {H:AHeap} (h:H.wf) (hj:∀ (i id:Nat),js[i]? = some (some id)→id < H.next):(setJs js obs H).wf:=by
 induction js generalizing obs H with
 | nil=>exact pushL_wf h
 | cons j js ih =>
  cases obs with
  | nil=>exact h
  | cons o obs =>
   show (setJs js obs (oo j H fun id=>H.set id o)).wf
   cases j with
   | none=>exact ih h fun i id hi=>hj (i + 1) id (by simpa using hi)
   | some id =>
    refine ih (h.set (hj 0 id rfl) o) fun i id' hi=>?_
    rw [oo_some,AHeap.next_set]
    exact hj (i + 1) id' (by simpa using hi)
theorem setJs_other (js : List (Option Nat)) (obs : List AObj) (H : AHeap) (p : Nat) (hl : js.length ≤ obs.length) (hp : ∀ i : Nat, js[i]? ≠ some (some p)) :
 (setJs js obs H).get p = if H.next≤p∧p < H.next + (obs.length - js.length) then (obs[js.length + (p - H.next)]?).getD .dead else H.get p:=by
 induction js generalizing obs H with
 | nil=>show (pushL obs H).get p = _;rw [pushL_get];simp
 | cons j js ih =>
  cases obs with
  | nil=>simp at hl
  | cons o obs =>
   show (setJs js obs (oo j H fun id=>H.set id o)).get p = _
   rw [ih _ _ (by simpa using hl) fun i hi=>hp (i + 1) (by simpa using hi)]
   have e : ∀ H' : AHeap, H'.next = H.next → H'.get p = H.get p → (if H'.next ≤ p ∧ p < H'.next + (obs.length - js.length) then (obs[js.length + (p - H'.next)]?).getD AObj.dead else H'.get p) =
    if H.next≤p∧p < H.next + ((o :: obs).length - (j :: js).length) then ((o :: obs)[(j :: js).length + (p - H.next)]?).getD .dead else H.get p:=fun H' h1 h2=>by
    rw [h1,h2]
    simp only [List.length_cons,Nat.add_sub_add_right]
    rw [show js.length + 1 + (p - H.next) = js.length + (p - H.next) + 1 by omega,List.getElem?_cons_succ]
   cases j with
   | none=>exact e H rfl rfl
   | some id =>
    refine e _ (by rw [oo_some,AHeap.next_set]) ?_
    rw [oo_some,AHeap.get_set,if_neg]
    intro h;subst h;exact hp 0 rfl
theorem setJs_at (js:List (Option Nat)) (obs:List AObj) (H:AHeap) (p i:Nat) (hl:js.length≤obs.length) (hi:js[i]? = some (some p)) (hu:∀ i':Nat,js[i']? = some (some p)→i' = i) (hlt:p < H.next):(setJs js obs H).get p = (obs[i]?).getD .dead:=by
 induction js generalizing obs H i with
 | nil=>simp at hi
 | cons j js ih =>
  cases obs with
  | nil=>simp at hl
  | cons o obs =>
   show (setJs js obs (oo j H fun id=>H.set id o)).get p = _
   cases i with
   | zero =>
    simp at hi;subst hi
    rw [setJs_other _ _ _ _ (by simpa using hl) fun i' h=>by have:=hu (i' + 1) (by simpa using h);omega,oo_some,AHeap.next_set,if_neg (by omega),AHeap.get_set,if_pos rfl]
    rfl
   | succ i =>
    rw [ih _ _ i (by simpa using hl) (by simpa using hi) (fun i' h=>by have:=hu (i' + 1) (by simpa using h);omega) (by cases j with
     | none=>exact hlt
     | some id=>rw [oo_some,AHeap.next_set];exact hlt)]
    simp
end Go.Sp
namespace Go.Sp

theorem plain_closed {v:Value} (h:plain1 v = true):closed1 v = true:=by
 cases v <;> simp [plain1,vv] at h
 case bool=>rfl
 case int=>rfl
 case string=>rfl
 case pointer a=>cases a with
  | none=>rfl
  | some a=>simp at h
 case slice a l c=>cases a with
  | some a=>simp at h
  | none=>simp at h;obtain ⟨h1,h2⟩:=h;subst h1;subst h2;rfl
 case map m=>cases m with
  | none=>rfl
  | some m=>simp at h
 case nilFunc=>rfl
 case nilIface=>rfl
theorem dead_VR {R:Ren} (u:Value):VR R deadV u:=.any u

section
variable {H:AHeap} {R:Ren} {w:World} {args args':List Value}
theorem capOf_VR {v u:Value} (hv:VR R v u) (c:Nat):∃ u',VR R (capOf v c) u':=by
 unfold capOf
 cases hg:vFunc v with
 | none=>exact ⟨undef,dead_VR _⟩
 | some g =>
  have:=vFunc_some hg;subst this
  obtain ⟨f,a,b⟩:=g
  rw [oo_some]
  show ∃ u',VR R (oo (nthL (appL a b) c) deadV fun v=>v) u'
  cases hv with
  | func fn hl hh hl' hh' =>
   rw [appL_eq,nthL_eq]
   cases hx:(a ++ b)[c]? with
   | none=>exact ⟨undef,dead_VR _⟩
   | some x =>
    rw [oo_some]
    obtain ⟨y,_,hv⟩:=(VRL.append (R:=R) ⟨hl,hh⟩ ⟨hl',hh'⟩).get hx
    exact ⟨y,hv⟩
theorem cellOf_VR (hs:Sim H R w) {o:List (Option Nat)} (hinv:∀ (k id:Nat),o[k]? = some (some id)→R.f id = none→EmptyO (H.get id)) (j i:Nat):∃ u,VR R (cellOf H o j i) u:=by
 unfold cellOf
 rw [nthL_eq]
 cases hj:o[j]? with
 | none=>exact ⟨undef,dead_VR _⟩
 | some q =>
  rw [oo_some]
  cases q with
  | none=>exact ⟨undef,dead_VR _⟩
  | some id =>
   rw [oo_some]
   cases ho:oCells (H.get id) with
   | none=>exact ⟨undef,dead_VR _⟩
   | some ob =>
    rw [oo_some,nthL_eq]
    cases hx:ob.xs[i]? with
    | none=>exact ⟨undef,dead_VR _⟩
    | some x =>
     rw [oo_some]
     cases hf:R.f id with
     | none =>
      have h1:=hinv j id hj hf
      rw [oCells_some ho] at h1
      have h1:ob.xs = []:=h1
      rw [h1] at hx;simp at hx
     | some p =>
      obtain ⟨C,t,fz,_,_,_,h4⟩:=hs.cells (c:=p.1) (β:=p.2) hf ho
      obtain ⟨y,_,hv⟩:=h4 i x hx
      exact ⟨y,hv⟩
theorem itmOf_VR (hs:Sim H R w) {o:List (Option Nat)} (hinv:∀ (k id:Nat),o[k]? = some (some id)→R.f id = none→EmptyO (H.get id)) (j:Nat):∃ u,VR R (itmOf H o j) u:=by
 unfold itmOf
 cases h1:nthL o j with
 | none=>exact ⟨undef,dead_VR _⟩
 | some q =>
  cases q with
  | none=>exact ⟨undef,dead_VR _⟩
  | some id =>
   rw [oo_some,oo_some]
   cases h2:oIter (H.get id) with
   | none=>exact ⟨undef,dead_VR _⟩
   | some it =>
    rw [oo_some]
    cases h3:it.m with
    | none=>exact ⟨undef,dead_VR _⟩
    | some m =>
     rw [oo_some]
     have hg:=oIter_some h2
     cases hf:R.f id with
     | none =>
      have:=hinv j id (by rw [←nthL_eq];exact h1) hf
      rw [hg] at this;exact this.elim
     | some p =>
      have hob:=hs.obj id p.1 p.2 hf
      rw [hg] at hob
      obtain ⟨_,m',S,_,_,hm⟩:=hob
      rw [h3] at hm
      obtain ⟨c,hc,_⟩:=hm
      exact ⟨_,.map hc⟩
theorem val_VR (hs:Sim H R w) (ha:VRL R args args') {o:List (Option Nat)} (hinv:∀ (k id:Nat),o[k]? = some (some id)→R.f id = none→EmptyO (H.get id)) (n:Nat) (r:Rt):∃ u,VR R (r.val (Fr.made n args) H o) u:=by
 have htmp:∀ t,∃ u,VR R ((Fr.made n args).get t) u:=fun t=>by
  rw [Fr.get_made]
  cases hx:args[t]? with
  | none=>exact ⟨undef,dead_VR _⟩
  | some x =>
   obtain ⟨y,_,hv⟩:=ha.get hx
   exact ⟨y,hv⟩
 cases r with
 | tmp t d=>exact htmp t
 | cell j i d=>exact cellOf_VR hs hinv j i
 | cap t c d=>obtain ⟨u,hu⟩:=htmp t;exact capOf_VR hu c
 | ccap j i c d=>obtain ⟨u,hu⟩:=cellOf_VR hs hinv j i;exact capOf_VR hu c
 | itm j d=>exact itmOf_VR hs hinv j
theorem olds_inv (hs : Sim H R w) (ha : VRL R args args') (n : Nat) : ∀ (rs : List Rt) (o : List (Option Nat)), (∀ (k id : Nat), o[k]? = some (some id) → R.f id = none → EmptyO (H.get id)) → rootsOk (Fr.made n args) H rs o = true →
 ∀ (k id:Nat),(oldsOf (Fr.made n args) H rs o)[k]? = some (some id)→R.f id = none→EmptyO (H.get id)
 | [],o,h,_=>h
 | r :: rs, o, h, hr => by
  obtain ⟨h1,h2⟩:=an_inv (show an (rootOk H (r.val (Fr.made n args) H o)) (rootsOk (Fr.made n args) H rs (addRt o (r.val (Fr.made n args) H o))) = true from hr)
  obtain ⟨u,hu⟩:=val_VR hs ha h n r
  refine olds_inv hs ha n rs _ (fun k id hk hid=>?_) h2
  generalize r.val (Fr.made n args) H o = v at hk h1 hu
  unfold addRt at hk
  rw [appL_eq] at hk
  by_cases hlt:k < o.length
  ·rw [List.getElem?_append_left hlt] at hk;exact h k id hk hid
  ·rw [List.getElem?_append_right (by omega)] at hk
   have hk1:(oo (refId v) none fun id=>oo (idxOf id o 0) (some id) fun _=>none) = some id:=by
    cases hd:k - o.length with
    | zero=>rw [hd] at hk;simpa using hk
    | succ m=>rw [hd] at hk;simp at hk
   obtain ⟨id',hr1,hk2⟩:=oo_inv hk1
   have hid':id' = id:=by
    cases hi:idxOf id' o 0 with
    | none=>rw [hi] at hk2;injection hk2
    | some m=>rw [hi] at hk2;cases hk2
   subst hid'
   unfold refId at hr1
   cases hp:vPtr v with
   | some p =>
    rw [hp,oo_some] at hr1
    injection hr1 with hr1
    rw [vPtr_some hp] at hu
    obtain ⟨c,β,hf,_⟩:=hu.ptr_l
    rw [hr1,hid] at hf;cases hf
   | none =>
    rw [hp,oo_none] at hr1
    cases hsl:vSl v with
    | some s =>
     rw [hsl,oo_some] at hr1
     injection hr1 with hr1
     unfold rootOk at h1
     rw [hsl,oo_some,orr_eq,Bool.or_eq_true] at h1
     rw [hr1] at h1
     rcases h1 with h1 | h1
     ·have h1 := Nat.le_of_ble_eq_true h1
      rcases hu.sl_l hsl with ⟨c,β,cap,hf,_⟩ | ⟨c,o2,_,k0,k00⟩ | ⟨_,k0,k00⟩
      ·rw [hr1,hid] at hf;cases hf
      ·omega
      ·omega
     ·exact emptyB_ok h1
    | none =>
     rw [hsl,oo_none] at hr1
     obtain ⟨m,hm,hr2⟩:=oo_inv hr1
     subst hr2
     rw [vMap_some hm] at hu
     obtain ⟨c,hf,_⟩:=hu.map_l
     rw [hid] at hf;cases hf
end

theorem renObj_plain {olds:List (Option Nat)} {d tr:Bool} {o o':AObj} (hb:wrB o = true) (h:renObj olds d tr o = some o'):plainO o':=by
 have hw:=(wrB_ok hb).1
 cases o with
 | dead=>cases hw
 | iter=>cases hb
 | map es c =>
  obtain ⟨_,h1⟩:=bb_inv (show bb (orr tr (allL entClosed es)) (some (AObj.map es c)) none = some o' from h)
  injection h1 with h1;subst h1;exact .inr (.inr ⟨_,_,rfl⟩)
 | cells xs imm sp anc =>
  have hw:(!imm && !sp) = true:=hw
  have hi:imm = false:=by cases imm <;> simp at hw ⊢
  have hsp:sp = false:=by cases sp <;> simp at hw ⊢
  subst hi;subst hsp
  obtain ⟨_,h2⟩:=bb_inv (show bb _ (bb d (oo (mapO (renF olds) xs) none fun xs'=>some (AObj.cells xs' false false [])) (bb (orr tr (allL closed1 xs)) (some (AObj.cells xs false false [])) none)) none = some o' from h)
  rw [bb_eq] at h2
  split at h2
  ·obtain ⟨ys, _, h3⟩ := oo_inv h2
   injection h3 with h3;subst h3;exact .inr (.inl ⟨_,rfl⟩)
  ·obtain ⟨_, h3⟩ := bb_inv h2
   injection h3 with h3;subst h3;exact .inr (.inl ⟨_,rfl⟩)

section
variable {P:Program} {tabs:List (List Value)}

theorem objOk_of_run {tt : TT} (hT : TOk P tt) (hm : P.follows .mixedOrders = true) {g na k : Nat} {r : RFn} {call : CallF} (hc : CallOk P (List.range tabs.length) call) (hfn : FnOk P (List.range tabs.length) g r) {f : List Value → Option Value}
 (h:∀ args os z,args.length = na→os.length = k→(∀ o ∈ os,plainO o)→f (args ++ os.map encO) = some z→args.length≤r.n∧Run tt call (tabs.length + k) r.body (Fr.made r.n args) (subHeap tabs os) (FinO tt tabs.length k r.results z)):ObjOk P tabs na k g f:=by
 refine ⟨enter_ok hfn,fun args os z hna hk hpl hz=>?_⟩
 obtain ⟨hle,hrun⟩:=h args os z hna hk hpl hz
 intro R w args' hR hemp hs ha
 obtain ⟨fd,c,e1,e2,e3,e4,_,hcomp,hok⟩:=hfn.ok
 refine calls_of_wp e1 e2 ?_
 have hlen:=ha.1
 have hsize:((⟨args'⟩:Array Value) ++ Array.replicate (fd.ntmps - (⟨args'⟩:Array Value).size) undef).size = r.n:=by simp;omega
 have hgl:GlR (List.range tabs.length) R:=fun g hg=>hR g (by simpa using hg)
 have hfull:∀ id,id < (subHeap tabs os).next→R.f id = none→EmptyO ((subHeap tabs os).get id):=fun id hid hr=>by
  rw [subHeap_next] at hid
  by_cases hlt:id < tabs.length
  ·rw [hR id hlt] at hr;cases hr
  ·obtain ⟨j, rfl⟩ : ∃ j, id = tabs.length + j := ⟨id - tabs.length, by omega⟩
   have hj:j < os.length:=by omega
   rw [subHeap_obj,List.getElem?_eq_getElem hj]
   exact hemp j _ (List.getElem?_eq_getElem hj) hr
 have hrun:Run tt call (subHeap tabs os).next r.body (Fr.made r.n args) (subHeap tabs os) (FinO tt tabs.length k r.results z):=by
  rw [subHeap_next,hk];exact hrun
 have hst:St (List.range tabs.length) (subHeap tabs os) R w [] r.n (Fr.made r.n args) (subHeap tabs os) ⟨(⟨args'⟩:Array Value) ++ Array.replicate (fd.ntmps - (⟨args'⟩:Array Value).size) undef,[]⟩ w:=by
  refine ⟨⟨R,.refl hs,fun t=>?_⟩,rfl,hsize,Fr.n_made ..⟩
  rw [Fr.get_made,Array.getD_eq_getD_getElem?]
  show VR R _ (((⟨args'⟩:Array Value) ++ Array.replicate (fd.ntmps - (⟨args'⟩:Array Value).size) undef)[t]?.getD undef)
  rw [Array.getElem?_append]
  by_cases hlt:t < args'.length
  ·rw [if_pos (by simpa using hlt)]
   obtain ⟨x, hx⟩ : ∃ x, args[t]? = some x := ⟨args[t]'(by omega), by simp⟩
   obtain ⟨y,hy,hv⟩:=ha.get hx
   rw [hx,show (⟨args'⟩:Array Value)[t]? = some y by simpa using hy]
   exact hv
  ·rw [List.getElem?_eq_none (by omega)]
   exact .any _
 refine wp_mono (hrun.sound hT hc hm hs hgl hfull hcomp hok _ w hst) fun x a' w' ⟨e,F',H',h1,h2,h3⟩=>?_
 subst h1
 have fin : ∀ F' H', St (List.range tabs.length) (subHeap tabs os) R w [] r.n F' H' a' w' → FinQ tt tabs.length k r.results z F' H' → bodyPost P fd (fun e w' => ∃ (u v : Value) (os' : List AObj) (H' : AHeap) (R' : Ren), e = .returned u ∧ z = .tuple ⟨v :: os'.map encO⟩ ∧ VR R' v u ∧ Post (subHeap tabs os) R w H' R' w' ∧ k ≤ os'.length ∧
  ∀ i o,os'[i]? = some o→H'.get (tabs.length + i) = o∧plainO o) .normal a' w':=fun F' H' ⟨⟨R',hp,ht⟩,hd,_,_⟩ ⟨v,os',g1,hres,g2,g3⟩=>by
  rw [←e4] at hres
  obtain ⟨u,hu,huv⟩:=aresults_ok hT hp.sim ht hres
  exact ⟨hd,u,hu,u,v,os',H',R',rfl,g1,huv,hp,g2,g3⟩
 cases e with
 | normal =>
  obtain ⟨F1,H1,hg,hq⟩:=h2
  have hg:GhS (subHeap tabs os).next F' H' F1 H1:=by rw [subHeap_next,hk];exact hg
  have hst1:∀ {F F1:Fr} {H H1:AHeap},GhS (subHeap tabs os).next F H F1 H1→St (List.range tabs.length) (subHeap tabs os) R w [] r.n F H a' w'→St (List.range tabs.length) (subHeap tabs os) R w [] r.n F1 H1 a' w':=fun hg=>by
   induction hg with
   | id=>exact fun h=>h
   | step h _ ih=>exact fun hst=>ih (hst.ghost hs hfull h)
  exact fin F1 H1 (hst1 hg h3) hq
 | exit j=>exact h2.elim
 | goto j=>exact h2.elim
 | ret=>exact fin F' H' h3 h2

theorem sub_sim {H : AHeap} {R Rs : Ren} {w : World} {olds : List (Option Nat)} {os : List AObj} (hs : Sim H R w) (hgl : GlR (List.range tabs.length) R) (hne : ∀ t ∈ tabs, t ≠ []) (hpl : ∀ t ∈ tabs, ∀ x ∈ t, plain1 x = true)
 (htab:tabsOk2 H tabs 0 = true) (hRs:Rs = ⟨fun i=>oo (nthL olds i) none fun o=>oo o none fun id=>R.f id,R.sz,R.ro⟩) (hRn:Renum R Rs olds) (hidx:∀ (i b:Nat),olds[i]? = some (some b)→idxOf b olds 0 = some i)
 (hid:∀ i,i < tabs.length→olds[i]? = some (some i)) (hlen:olds.length = tabs.length + os.length) (hpo:∀ o ∈ os,plainO o)
 (hos:∀ (j id:Nat),olds[tabs.length + j]? = some (some id)→∃ d o,os[j]? = some o∧renObj olds d false (H.get id) = some o):Sim (subHeap tabs os) Rs w:=by
 have hRf:∀ i p,Rs.f i = some p→∃ id,olds[i]? = some (some id)∧R.f id = some p:=fun i p h=>by
  rw [hRs] at h
  obtain ⟨o,ho,h4⟩:=oo_inv (show oo (nthL olds i) none (fun o=>oo o none fun id=>R.f id) = some p from h)
  obtain ⟨id,hi,h5⟩:=oo_inv h4
  subst hi
  exact ⟨id,by simpa using ho,h5⟩
 have htb:∀ i,i < tabs.length→∃ t sp anc,tabs[i]? = some t∧H.get i = .cells t true sp anc∧t ∈ tabs:=fun i hi=>by
  have ht:=List.getElem?_eq_getElem hi
  have:=tabsOk2_some htab i _ ht
  rw [Nat.zero_add] at this
  obtain ⟨sp,anc,h⟩:=tab_imm this.1 this.2 (hne _ (List.getElem_mem hi))
  exact ⟨_,sp,anc,ht,h,List.getElem_mem hi⟩
 have hlt:∀ (i id:Nat),olds[i]? = some (some id)→i < tabs.length + os.length:=fun i id h=>by rw [←hlen];exact (List.getElem?_eq_some_iff.1 h).1
 -- what stands there
 have hget:∀ i id,olds[i]? = some (some id)→tabs.length≤i→∃ d,renObj olds d false (H.get id) = some ((subHeap tabs os).get i):=fun i id h hi=>by
  obtain ⟨j,rfl⟩:∃ j,i = tabs.length + j:=⟨i - tabs.length,by omega⟩
  obtain ⟨d,o,h1,h2⟩:=hos j id h
  exact ⟨d,by rw [subHeap_obj,h1];exact h2⟩
 refine ⟨fun i c β h => ?_, fun i c β h => ?_, fun i c β i' β' h h' hne' hw => ?_, fun i a ha => ?_, fun i hi => ?_, fun c C hc => ?_⟩
 ·obtain ⟨id, h1, h2⟩ := hRf i _ h
  rw [subHeap_next]
  exact ⟨hlt i id h1,(hs.dom id c β h2).2⟩
 ·obtain ⟨id, h1, h2⟩ := hRf i _ h
  by_cases hi:i < tabs.length
  ·have h3 := hid i hi
   rw [h1] at h3;injection h3 with h3;injection h3 with h3;subst h3
   obtain ⟨t,sp,anc,g1,g2,g3⟩:=htb id hi
   rw [subHeap_tab g1]
   have ho:=hs.obj id c β h2
   rw [g2] at ho
   obtain ⟨C,ty,fz,k1,k2,k3,k4,k5⟩:=ho
   refine ⟨C,ty,fz,k1,by rw [hRs];exact k2,k3,fun q x hx=>?_,fun h=>by cases h⟩
   obtain ⟨y,n1,n2⟩:=k4 q x hx
   exact ⟨y,n1,n2.closed (fun c C h=>by rw [hRs];exact h) (plain_closed (hpl t g3 x (List.mem_of_getElem? hx)))⟩
  ·obtain ⟨d, h6⟩ := hget i id h1 (by omega)
   exact renObj_ok hRn h6 (fun h9=>by cases h9) (hs.obj id c β h2)
 ·obtain ⟨id, h1, h2⟩ := hRf i _ h
  obtain ⟨id',h1',h2'⟩:=hRf i' _ h'
  by_cases hi:i < tabs.length
  ·obtain ⟨t, sp, anc, g1, g2, g3⟩ := htb i hi
   rw [subHeap_tab g1] at hw;cases hw
  ·obtain ⟨d, h6⟩ := hget i id h1 (by omega)
   obtain ⟨g1,g2,g3,g4,g5⟩:=renObj_write h6
   rw [g1] at hw
   have hidne:id ≠ id':=fun e=>by subst e;have:=(hidx i id h1).symm.trans (hidx i' id h1');injection this with this;exact hne' this
   rcases hs.sep id c β id' β' h2 h2' hidne hw with h7 | ⟨h7, _⟩
   ·by_cases hi' : i' < tabs.length
    ·have h3 := hid i' hi'
     rw [h1'] at h3;injection h3 with h3;injection h3 with h3;subst h3
     obtain ⟨t,sp,anc,g1,g2,g3⟩:=htb id' hi'
     rw [g2] at h7;cases h7
    ·obtain ⟨d', h6'⟩ := hget i' id' h1' (by omega)
     left
     rw [h7] at h6'
     injection h6' with h6'
     exact h6'.symm
   ·have := g4 hw id' h7
    rw [hidx i' id' h1'] at this;cases this
 ·by_cases hi : i < tabs.length
  ·obtain ⟨t, sp, anc, g1, g2, g3⟩ := htb i hi
   rw [subHeap_tab g1] at ha;cases ha
  ·obtain ⟨j, rfl⟩ : ∃ j, i = tabs.length + j := ⟨i - tabs.length, by omega⟩
   rw [subHeap_obj] at ha
   cases hj:os[j]? with
   | none=>rw [hj] at ha;cases ha
   | some o=>rw [hj] at ha;rw [Option.getD_some,plainO_anc (hpo o (List.mem_of_getElem? hj))] at ha;cases ha
 ·rw [subHeap_next] at hi
  obtain ⟨j,rfl⟩:∃ j,i = tabs.length + j:=⟨i - tabs.length,by omega⟩
  rw [subHeap_obj,List.getElem?_eq_none (by omega)];rfl
 ·rw [hRs] at hc
  refine ⟨(hs.ro c C hc).1,fun i β h=>?_⟩
  obtain ⟨id,h1,h2⟩:=hRf i _ h
  by_cases hi:i < tabs.length
  ·obtain ⟨t, sp, anc, g1, g2, g3⟩ := htb i hi
   rw [subHeap_tab g1];rfl
  ·obtain ⟨d, h6⟩ := hget i id h1 (by omega)
   rw [(renObj_write h6).1]
   exact (hs.ro c C hc).2 id β h2
end
end Go.Sp
