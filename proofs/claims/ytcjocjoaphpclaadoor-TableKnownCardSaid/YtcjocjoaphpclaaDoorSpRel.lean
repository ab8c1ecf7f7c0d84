/- How an abstract state stands to a world: renamings, values, objects; and what a step leaves. -/
import Derived.Test.YtcjocjoaphpclaaDoorSpBase
namespace Go.Sp

/-- Abstract blocks to the world's: block and base; and the sizes of the world's blocks. -/
structure Ren where
  f : Nat → Option (Nat × Nat)
  sz : Nat → Nat
  /-- The cells of the blocks that nobody writes any more. -/
  ro : Nat → Option (Array Value)

inductive VR (R : Ren) : Value → Value → Prop
  | bool (b : Bool) : VR R (.bool b) (.bool b)
  | int (k : IntKind) (n : Int) : VR R (.int k n) (.int k n)
  | string (s : ByteArray) : VR R (.string s) (.string s)
  | nilFunc : VR R .nilFunc .nilFunc
  | nilIface : VR R .nilIface .nilIface
  | ptrNil : VR R (.pointer none) (.pointer none)
  | ptr {id off c β : Nat} (h : R.f id = some (c, β)) : VR R (.pointer (some ⟨id, off, none⟩)) (.pointer (some ⟨c, β + off, none⟩))
  | slNil : VR R (.slice none 0 0) (.slice none 0 0)
  | sl {id off sz ln c2 c β cap : Nat} (h : R.f id = some (c, β)) (h1 : ln ≤ c2 / 2) (h2 : c2 / 2 ≤ cap) (h3 : c2 % 2 = 1 → cap = c2 / 2) (h4 : β + off + cap * sz ≤ R.sz c) :
      VR R (.slice (some ⟨id, off, some sz⟩) ln c2) (.slice (some ⟨c, β + off, none⟩) ln cap)
  | slE {id off sz c2 c o : Nat} (h : c2 / 2 = 0) : VR R (.slice (some ⟨id, off, some sz⟩) 0 c2) (.slice (some ⟨c, o, none⟩) 0 0)
  | slN {id off sz c2 : Nat} (h : c2 / 2 = 0) : VR R (.slice (some ⟨id, off, some sz⟩) 0 c2) (.slice none 0 0)
  | mapNil : VR R (.map none) (.map none)
  | map {id c : Nat} (h : R.f id = some (c, 0)) : VR R (.map (some id)) (.map (some c))
  | fs {sz n fl c o cap : Nat} {xs ys : List Value} {C : Array Value} (hc : R.ro c = some C) (hn : xs.length = n * sz) (hcap : n ≤ cap) (hex : fl = 1 → cap = n) (hfl : fl ≠ 2) (hfit : o + xs.length ≤ C.size) (hC : ∀ (i : Nat) (y : Value), ys[i]? = some y → C[o + i]? = some y)
      (hcl : ∀ x ∈ xs, closed1 x = true) (hl : xs.length = ys.length) (h : ∀ (i : Nat) (x y : Value), xs[i]? = some x → ys[i]? = some y → VR R x y) :
      VR R (.iface sz (.agg ⟨.slice none n fl :: xs⟩)) (.slice (some ⟨c, o, none⟩) n cap)
  | fsN (sz fl : Nat) : VR R (.iface sz (.agg ⟨[.slice none 0 fl]⟩)) (.slice none 0 0)
  | fsE {sz fl c o : Nat} (hfl : fl ≠ 2) : VR R (.iface sz (.agg ⟨[.slice none 0 fl]⟩)) (.slice (some ⟨c, o, none⟩) 0 0)
  | fp {off c o : Nat} {xs ys : List Value} {C : Array Value} (hc : R.ro c = some C) (hfit : o + xs.length ≤ C.size) (hC : ∀ (i : Nat) (y : Value), ys[i]? = some y → C[o + i]? = some y)
      (hcl : ∀ x ∈ xs, closed1 x = true) (hl : xs.length = ys.length) (h : ∀ (i : Nat) (x y : Value), xs[i]? = some x → ys[i]? = some y → VR R x y) :
      VR R (.iface off (.tuple ⟨xs⟩)) (.pointer (some ⟨c, o + off, none⟩))
  | any (u : Value) : VR R (.iface 0 .nilIface) u
  | agg {xs ys : List Value} (hl : xs.length = ys.length) (h : ∀ (i : Nat) (x y : Value), xs[i]? = some x → ys[i]? = some y → VR R x y) : VR R (.agg ⟨xs⟩) (.agg ⟨ys⟩)
  | tuple {xs ys : List Value} (hl : xs.length = ys.length) (h : ∀ (i : Nat) (x y : Value), xs[i]? = some x → ys[i]? = some y → VR R x y) : VR R (.tuple ⟨xs⟩) (.tuple ⟨ys⟩)
  | func (fn : Fn) {xs ys zs us : List Value} (hl : xs.length = ys.length) (h : ∀ (i : Nat) (x y : Value), xs[i]? = some x → ys[i]? = some y → VR R x y)
      (hl' : zs.length = us.length) (h' : ∀ (i : Nat) (x y : Value), zs[i]? = some x → us[i]? = some y → VR R x y) : VR R (.func fn ⟨xs⟩ ⟨zs⟩) (.func fn ⟨ys⟩ ⟨us⟩)

def VRL (R : Ren) (xs ys : List Value) : Prop := xs.length = ys.length ∧ ∀ (i : Nat) (x y : Value), xs[i]? = some x → ys[i]? = some y → VR R x y

theorem VRL.nil {R : Ren} : VRL R [] [] := ⟨rfl, fun i x y h => by simp at h⟩
theorem VRL.cons {R : Ren} {x y : Value} {xs ys : List Value} (h : VR R x y) (hs : VRL R xs ys) : VRL R (x :: xs) (y :: ys) :=
  ⟨by simp [hs.1], fun i a b ha hb => by
    cases i with
    | zero => simp at ha hb; subst ha; subst hb; exact h
    | succ i => simp at ha hb; exact hs.2 i a b ha hb⟩
theorem VRL.uncons {R : Ren} {x : Value} {xs ys : List Value} (h : VRL R (x :: xs) ys) : ∃ y ys', ys = y :: ys' ∧ VR R x y ∧ VRL R xs ys' := by
  cases ys with
  | nil => have := h.1; simp at this
  | cons y ys' => exact ⟨y, ys', rfl, h.2 0 x y rfl rfl, by have := h.1; simpa using this, fun i a b ha hb => h.2 (i + 1) a b (by simpa using ha) (by simpa using hb)⟩
theorem VRL.unnil {R : Ren} {ys : List Value} (h : VRL R [] ys) : ys = [] := by
  have := h.1; cases ys with
  | nil => rfl
  | cons => simp at this
theorem VRL.append {R : Ren} {xs ys xs' ys' : List Value} (h : VRL R xs ys) (h' : VRL R xs' ys') : VRL R (xs ++ xs') (ys ++ ys') := by
  induction xs generalizing ys with
  | nil => rw [h.unnil]; exact h'
  | cons x xs ih => obtain ⟨y, ys1, rfl, hx, hr⟩ := h.uncons; exact .cons hx (ih hr)
theorem VRL.get {R : Ren} {xs ys : List Value} (h : VRL R xs ys) {i : Nat} {x : Value} (hx : xs[i]? = some x) : ∃ y, ys[i]? = some y ∧ VR R x y := by
  have hi : i < ys.length := by have := (List.getElem?_eq_some_iff.1 hx).1; rw [← h.1]; exact this
  exact ⟨ys[i], List.getElem?_eq_getElem hi, h.2 i x _ hx (List.getElem?_eq_getElem hi)⟩
theorem VRL.drop {R : Ren} {xs ys : List Value} (h : VRL R xs ys) (n : Nat) : VRL R (xs.drop n) (ys.drop n) :=
  ⟨by simp [h.1], fun i x y hx hy => h.2 (n + i) x y (by simpa [List.getElem?_drop] using hx) (by simpa [List.getElem?_drop] using hy)⟩
theorem VRL.take {R : Ren} {xs ys : List Value} (h : VRL R xs ys) (n : Nat) : VRL R (xs.take n) (ys.take n) :=
  ⟨by simp [h.1], fun i x y hx hy => by
    rw [List.getElem?_take] at hx hy
    split at hx
    · rename_i hlt; rw [if_pos hlt] at hy; exact h.2 i x y hx hy
    · cases hx⟩
theorem VRL.one {R : Ren} {x y : Value} (h : VR R x y) : VRL R [x] [y] := .cons h .nil
theorem VRL.map {R : Ren} {α : Type} {f g : α → Value} {l : List α} (h : ∀ a ∈ l, VR R (f a) (g a)) : VRL R (l.map f) (l.map g) := by
  induction l with
  | nil => exact .nil
  | cons a l ih => exact .cons (h a (by simp)) (ih fun b hb => h b (by simp [hb]))

theorem oo_inv {α β : Type} {o : Option α} {s : α → Option β} {v : β} (h : oo o none s = some v) : ∃ a, o = some a ∧ s a = some v := by
  cases o with
  | none => cases h
  | some a => exact ⟨a, rfl, h⟩
/-- One renaming goes on another. -/
structure Ren.le (R R' : Ren) : Prop where
  up : ∀ id c β, R.f id = some (c, β) → R'.f id = some (c, β) ∧ R'.sz c = R.sz c
  ro : ∀ c C, R.ro c = some C → R'.ro c = some C
instance {R R' : Ren} : CoeFun (R.le R') (fun _ => ∀ id c β, R.f id = some (c, β) → R'.f id = some (c, β) ∧ R'.sz c = R.sz c) := ⟨fun h => h.up⟩
theorem Ren.le_refl (R : Ren) : R.le R := ⟨fun _ _ _ h => ⟨h, rfl⟩, fun _ _ h => h⟩
theorem Ren.le_trans {R R' R'' : Ren} (h : R.le R') (h' : R'.le R'') : R.le R'' := ⟨fun id c β e =>
  ⟨(h' id c β (h id c β e).1).1, ((h' id c β (h id c β e).1).2).trans (h id c β e).2⟩, fun c C e => h'.ro c C (h.ro c C e)⟩
theorem VR.mono {R R' : Ren} {x y : Value} (h : VR R x y) (hle : R.le R') : VR R' x y := by
  induction h with
  | bool b => exact .bool b
  | int k n => exact .int k n
  | string s => exact .string s
  | nilFunc => exact .nilFunc
  | nilIface => exact .nilIface
  | ptrNil => exact .ptrNil
  | ptr h => exact .ptr (hle _ _ _ h).1
  | slNil => exact .slNil
  | sl h h1 h2 h3 h4 => exact .sl (hle _ _ _ h).1 h1 h2 h3 (by rw [(hle _ _ _ h).2]; exact h4)
  | slE h => exact .slE h
  | slN h => exact .slN h
  | mapNil => exact .mapNil
  | map h => exact .map (hle _ _ _ h).1
  | fs hc hn hcap hex hfl hfit hC hcl hl _ ih => exact .fs (hle.ro _ _ hc) hn hcap hex hfl hfit hC hcl hl ih
  | fsN sz fl => exact .fsN sz fl
  | fsE hfl => exact .fsE hfl
  | fp hc hfit hC hcl hl _ ih => exact .fp (hle.ro _ _ hc) hfit hC hcl hl ih
  | any u => exact .any u
  | agg hl _ ih => exact .agg hl ih
  | tuple hl _ ih => exact .tuple hl ih
  | func fn hl _ hl' _ ih ih' => exact .func fn hl ih hl' ih'
theorem VRL.mono {R R' : Ren} {xs ys : List Value} (h : VRL R xs ys) (hle : R.le R') : VRL R' xs ys := ⟨h.1, fun i x y hx hy => (h.2 i x y hx hy).mono hle⟩

/-- Values that hold no address: they stand to themselves. -/
noncomputable def plain1 (v : Value) : Bool :=
  vv v (fun _ => true) (fun _ _ => true) (fun _ => true) (fun a => nt (isS a)) (fun a l c => an (nt (isS a)) (an (Nat.beq l 0) (Nat.beq c 0))) (fun m => nt (isS m)) (fun _ _ _ => false) true (fun _ _ => false) true (fun _ => false) (fun _ => false) false
noncomputable def plainB (v : Value) : Bool := oo (vAgg v) (oo (vTup v) (plain1 v) fun l => allL plain1 l) fun l => allL plain1 l
theorem plain1_VR {R : Ren} {v : Value} (h : plain1 v = true) : VR R v v := by
  cases v <;> simp [plain1, vv] at h
  case bool b => exact .bool b
  case int k n => exact .int k n
  case string s => exact .string s
  case pointer a => cases a with
    | none => exact .ptrNil
    | some a => simp at h
  case slice a l c =>
    cases a with
    | some a => simp at h
    | none => simp at h; obtain ⟨h1, h2⟩ := h; subst h1; subst h2; exact .slNil
  case map m => cases m with
    | none => exact .mapNil
    | some m => simp at h
  case nilFunc => exact .nilFunc
  case nilIface => exact .nilIface
theorem plainL_VRL {R : Ren} {l : List Value} (h : ∀ x ∈ l, plain1 x = true) : VRL R l l :=
  ⟨rfl, fun i x y hx hy => by rw [hx] at hy; cases hy; exact plain1_VR (h x (List.mem_of_getElem? hx))⟩
theorem plain_VR {R : Ren} {v : Value} (h : plainB v = true) : VR R v v := by
  cases v
  case agg a => obtain ⟨l⟩ := a; have : ∀ x ∈ l, plain1 x = true := by simpa [plainB, vAgg, vv, arrL] using h
                exact .agg rfl (plainL_VRL this).2
  case tuple a => obtain ⟨l⟩ := a; have : ∀ x ∈ l, plain1 x = true := by simpa [plainB, vAgg, vTup, vv, arrL] using h
                  exact .tuple rfl (plainL_VRL this).2
  all_goals exact plain1_VR (by simpa [plainB, vAgg, vTup, vv] using h)
theorem undef_VR {R : Ren} : VR R undef undef := .tuple rfl (by simp)

/-- What the looks tell. -/
theorem vInt_some {v : Value} {p : IntKind × Int} (h : vInt v = some p) : v = .int p.1 p.2 := by cases v <;> simp [vInt, vv] at h; subst h; rfl
theorem vNat_some {v : Value} {n : Nat} (h : vNat v = some n) : ∃ k, v = .int k n := by
  cases v <;> simp [vNat, vv] at h
  rename_i k m; cases m with
  | ofNat m => simp at h; subst h; exact ⟨k, rfl⟩
  | negSucc m => simp at h
theorem vBool_some {v : Value} {b : Bool} (h : vBool v = some b) : v = .bool b := by cases v <;> simp [vBool, vv] at h; subst h; rfl
theorem vStr_some {v : Value} {s : ByteArray} (h : vStr v = some s) : v = .string s := by cases v <;> simp [vStr, vv] at h; subst h; rfl
theorem vAgg_some {v : Value} {l : List Value} (h : vAgg v = some l) : v = .agg ⟨l⟩ := by cases v <;> simp [vAgg, vv] at h; rename_i a; obtain ⟨m⟩ := a; simp [arrL] at h; subst h; rfl
theorem vTup_some {v : Value} {l : List Value} (h : vTup v = some l) : v = .tuple ⟨l⟩ := by cases v <;> simp [vTup, vv] at h; rename_i a; obtain ⟨m⟩ := a; simp [arrL] at h; subst h; rfl
theorem vPtr_some {v : Value} {p : Nat × Nat} (h : vPtr v = some p) : v = .pointer (some ⟨p.1, p.2, none⟩) := by
  cases v <;> simp [vPtr, vv] at h
  rename_i a; cases a with
  | none => simp [plainA] at h
  | some a => obtain ⟨b, o, s⟩ := a; cases s with
    | none => simp [plainA] at h; subst h; rfl
    | some s => simp [plainA] at h
theorem vSl_some {v : Value} {s : SlV} (h : vSl v = some s) : v = .slice (some ⟨s.id, s.off, some s.sz⟩) s.len s.cap := by
  cases v <;> simp [vSl, vv] at h
  rename_i a l c; cases a with
  | none => simp [sizedA] at h
  | some a => obtain ⟨b, o, s⟩ := a; cases s with
    | none => simp [sizedA] at h
    | some s => simp [sizedA] at h; subst h; rfl
theorem isNilSl_true {v : Value} (h : isNilSl v = true) : v = .slice none 0 0 := by
  cases v <;> simp [isNilSl, vv] at h
  rename_i a l c; cases a with
  | none => simp at h; obtain ⟨h1, h2⟩ := h; subst h1; subst h2; rfl
  | some a => simp at h
theorem vMap_some {v : Value} {m : Option Nat} (h : vMap v = some m) : v = .map m := by cases v <;> simp [vMap, vv] at h; subst h; rfl
theorem slLen_some {v : Value} {n : Nat} (h : slLen v = some n) : ∃ a c, v = .slice a n c := by cases v <;> simp [slLen, vv] at h; rename_i a l c; subst h; exact ⟨a, c, rfl⟩

theorem VR.int_l {R : Ren} {k : IntKind} {n : Int} {u : Value} (h : VR R (.int k n) u) : u = .int k n := by cases h; rfl
theorem VR.bool_l {R : Ren} {b : Bool} {u : Value} (h : VR R (.bool b) u) : u = .bool b := by cases h; rfl
theorem VR.string_l {R : Ren} {b : ByteArray} {u : Value} (h : VR R (.string b) u) : u = .string b := by cases h; rfl
theorem VR.ptr_l {R : Ren} {id off : Nat} {u : Value} (h : VR R (.pointer (some ⟨id, off, none⟩)) u) : ∃ c β, R.f id = some (c, β) ∧ u = .pointer (some ⟨c, β + off, none⟩) := by
  cases h with
  | ptr h => exact ⟨_, _, h, rfl⟩
theorem VR.agg_l {R : Ren} {l : List Value} {u : Value} (h : VR R (.agg ⟨l⟩) u) : ∃ m, u = .agg ⟨m⟩ ∧ VRL R l m := by
  cases h with
  | agg hl h => exact ⟨_, rfl, hl, h⟩
theorem VR.tuple_l {R : Ren} {l : List Value} {u : Value} (h : VR R (.tuple ⟨l⟩) u) : ∃ m, u = .tuple ⟨m⟩ ∧ VRL R l m := by
  cases h with
  | tuple hl h => exact ⟨_, rfl, hl, h⟩
theorem VR.slNil_l {R : Ren} {u : Value} (h : VR R (.slice none 0 0) u) : u = .slice none 0 0 := by cases h; rfl
theorem VR.mapNil_l {R : Ren} {u : Value} (h : VR R (.map none) u) : u = .map none := by cases h; rfl
theorem VR.map_l {R : Ren} {id : Nat} {u : Value} (h : VR R (.map (some id)) u) : ∃ c, R.f id = some (c, 0) ∧ u = .map (some c) := by
  cases h with
  | map h => exact ⟨_, h, rfl⟩

theorem cellsOf_agg (l : List Value) : cellsOf (.agg ⟨l⟩) = l := rfl
theorem cellsOf_VR {R : Ren} {v u : Value} (h : VR R v u) (ht : noCell v = false) : VRL R (cellsOf v) u.cells.toList := by
  cases h with
  | agg hl h => exact ⟨hl, h⟩
  | fs hc hn hcap hex hfl hfit hC hcl hl h => exact .one (.fs hc hn hcap hex hfl hfit hC hcl hl h)
  | fsN sz fl => exact .one (.fsN sz fl)
  | fsE hfl => exact .one (.fsE hfl)
  | fp hc hfit hC hcl hl h => exact .one (.fp hc hfit hC hcl hl h)
  | any u => cases ht
  | tuple hl h => exact .one (.tuple hl h)
  | func fn hl h hl' h' => exact .one (.func fn hl h hl' h')
  | ptr h => exact .one (.ptr h)
  | sl h h1 h2 h3 h4 => exact .one (.sl h h1 h2 h3 h4)
  | slE h => exact .one (.slE h)
  | slN h => exact .one (.slN h)
  | map h => exact .one (.map h)
  | _ => exact .one (by constructor)

theorem cellsOf_plain {R : Ren} {v : Value} (h : plainB v = true) : VRL R (cellsOf v) v.cells.toList := by
  have hv := plain_VR (R := R) h
  cases v
  case agg a => exact cellsOf_VR hv rfl
  case tuple a => exact .one hv
  case iface t x => exact absurd h (by intro h; cases h)
  all_goals exact cellsOf_VR hv rfl

/-- Objects. -/
def AObj.immB : AObj → Bool
  | .cells _ imm _ _ => imm
  | _ => false
def AObj.writable : AObj → Bool
  | .cells _ imm spent _ => !imm && !spent
  | .map _ _ => true
  | .iter _ _ _ _ => true
  | .dead => false
def AObj.ancOf : AObj → List Nat
  | .cells _ _ _ anc => anc
  | _ => []
def AObj.size : AObj → Nat
  | .cells xs _ _ _ => xs.length
  | _ => 0

def EntR (R : Ren) (e : Ent) (E : MapEntry) : Prop := VR R e.key E.key ∧ VR R e.val E.val ∧ e.born = E.born
def EntsR (R : Ren) (es : List Ent) (Es : List MapEntry) : Prop := es.length = Es.length ∧ ∀ (i : Nat) (e : Ent) (E : MapEntry), es[i]? = some e → Es[i]? = some E → EntR R e E

def CellsR (R : Ren) (xs : List Value) (β : Nat) (C : Array Value) : Prop := ∀ (i : Nat) (x : Value), xs[i]? = some x → ∃ y, C[β + i]? = some y ∧ VR R x y

def ObjR (R : Ren) (o : AObj) (c β : Nat) (ob : Option Obj) : Prop :=
  match o with
  | .dead => True
  | .cells xs imm _ _ => ∃ C t fz, ob = some (.cells C t fz) ∧ C.size = R.sz c ∧ β + xs.length ≤ C.size ∧ CellsR R xs β C ∧ (imm = false → fz = (0, 0))
  | .map es clock => β = 0 ∧ ∃ Es, ob = some (.map Es clock) ∧ EntsR R es Es.toList
  | .iter _ _ _ _ => False

structure Sim (H : AHeap) (R : Ren) (w : World) : Prop where
  dom : ∀ id c β, R.f id = some (c, β) → id < H.next ∧ c < w.heap.size
  obj : ∀ id c β, R.f id = some (c, β) → ObjR R (H.get id) c β w.heap[c]?
  sep : ∀ id c β id' β', R.f id = some (c, β) → R.f id' = some (c, β') → id ≠ id' → (H.get id).writable = true →
    H.get id' = .dead ∨ (id' ∈ (H.get id).ancOf ∧ β' + (H.get id').size ≤ β + (H.get id).size)
  anc : ∀ id a, a ∈ (H.get id).ancOf → a < H.next ∧ (H.get a).immB = false ∧ (H.get a).writable = false
  wf : H.wf
  ro : ∀ c C, R.ro c = some C → (∃ t fz, w.heap[c]? = some (.cells C t fz)) ∧ ∀ id β, R.f id = some (c, β) → (H.get id).writable = false

theorem CellsR.mono {R R' : Ren} {xs : List Value} {β : Nat} {C : Array Value} (h : CellsR R xs β C) (hle : R.le R') : CellsR R' xs β C := fun i x hx =>
  let ⟨y, hy, hv⟩ := h i x hx; ⟨y, hy, hv.mono hle⟩
theorem EntsR.mono {R R' : Ren} {es : List Ent} {Es : List MapEntry} (h : EntsR R es Es) (hle : R.le R') : EntsR R' es Es :=
  ⟨h.1, fun i e E he hE => ⟨(h.2 i e E he hE).1.mono hle, (h.2 i e E he hE).2.1.mono hle, (h.2 i e E he hE).2.2⟩⟩
theorem ObjR.mono {R R' : Ren} {o : AObj} {c β : Nat} {ob : Option Obj} (h : ObjR R o c β ob) (hle : R.le R') (hsz : R'.sz c = R.sz c) : ObjR R' o c β ob := by
  cases o with
  | dead => trivial
  | cells xs imm spent anc => obtain ⟨C, t, fz, h1, h2, h3, h4, h5⟩ := h; exact ⟨C, t, fz, h1, h2.trans hsz.symm, h3, h4.mono hle, h5⟩
  | map es clock => obtain ⟨h1, Es, h2, h3⟩ := h; exact ⟨h1, Es, h2, h3.mono hle⟩
  | iter => exact h.elim

/-- What a step leaves. -/
structure Post (H : AHeap) (R : Ren) (w : World) (H' : AHeap) (R' : Ren) (w' : World) : Prop where
  le : R.le R'
  new : ∀ id p, R'.f id = some p → R.f id = some p ∨ (R.f id = none ∧ H.next ≤ id)
  sim : Sim H' R' w'
  next : H.next ≤ H'.next
  grow : w.heap.size ≤ w'.heap.size
  frame : ∀ c, c < w.heap.size → (∀ id β, R.f id = some (c, β) → (H.get id).immB = true) → w'.heap[c]? = w.heap[c]?
  calm : ∀ id, id < H.next → R.f id = none → ∀ (Q : Ren) (c β : Nat) (ob : Option Obj), ObjR Q (H.get id) c β ob → ObjR Q (H'.get id) c β ob
  imm : ∀ id, id < H.next → (H.get id).immB = true → H'.get id = H.get id
  fresh : ∀ id c β, R'.f id = some (c, β) → R.f id = none → w.heap.size ≤ c ∨ ∃ id0 β0, R.f id0 = some (c, β0) ∧ (H.get id0).immB = false
  side : w'.os = w.os ∧ w'.output = w.output ∧ ∀ a, w'.frozen? a = w.frozen? a
  rofresh : ∀ c C, R'.ro c = some C → R.ro c = some C ∨ w.heap.size ≤ c ∨ ∃ id β, R.f id = some (c, β) ∧ (H.get id).immB = false

/-- Read-only slices and pointers. -/
theorem vFs_some {v : Value} {f : FsV} (h : vFs v = some f) : v = .iface f.sz (.agg ⟨.slice none f.n f.fl :: f.cs⟩) := by
  cases v <;> simp only [vFs, vv] at h <;> try (cases h; done)
  rename_i t x
  obtain ⟨l, hl, h1⟩ := oo_inv h
  rw [vAgg_some hl]
  cases l with
  | nil => cases h1
  | cons a cs =>
    have h1 : vHdr a t cs = some f := h1
    cases a with
    | slice ad n fl =>
      have h1 : hdr ad n fl t cs = some f := h1
      cases ad with
      | some a => cases h1
      | none => injection h1 with h1; subst h1; rfl
    | _ => cases h1
theorem vFp_some {v : Value} {q : FpV} (h : vFp v = some q) : v = .iface q.off (.tuple ⟨q.cs⟩) := by
  cases v <;> simp only [vFp, vv] at h <;> try (cases h; done)
  rename_i t x
  obtain ⟨l, hl, h1⟩ := oo_inv h
  rw [vTup_some hl]
  injection h1 with h1; subst h1; rfl
theorem VR.fs_l {R : Ren} {x x' : Value} {f : FsV} (h : vFs x = some f) (hx : VR R x x') :
    (f.n = 0 ∧ f.cs = [] ∧ x' = .slice none 0 0) ∨ (f.fl ≠ 2 ∧ f.n = 0 ∧ f.cs = [] ∧ ∃ c o, x' = .slice (some ⟨c, o, none⟩) 0 0) ∨
    (∃ c o cap C, R.ro c = some C ∧ x' = .slice (some ⟨c, o, none⟩) f.n cap ∧ f.cs.length = f.n * f.sz ∧ f.n ≤ cap ∧ (f.fl = 1 → cap = f.n) ∧ f.fl ≠ 2 ∧ o + f.cs.length ≤ C.size ∧ CellsR R f.cs o C ∧ ∀ x ∈ f.cs, closed1 x = true) := by
  rw [vFs_some h] at hx
  obtain ⟨sz, n, fl, cs⟩ := f
  simp only at hx ⊢
  cases hx with
  | @fs _ _ _ _ _ _ _ ys _ hc hn hcap hex hfl hfit hC hcl hl h =>
    exact .inr (.inr ⟨_, _, _, _, hc, rfl, hn, hcap, hex, hfl, hfit, fun i x hi => by
      have hlt : i < ys.length := by rw [← hl]; exact (List.getElem?_eq_some_iff.1 hi).1
      have hy := List.getElem?_eq_getElem hlt
      exact ⟨_, hC i _ hy, h i x _ hi hy⟩, hcl⟩)
  | fsN => exact .inl ⟨rfl, rfl, rfl⟩
  | fsE hfl => exact .inr (.inl ⟨hfl, rfl, rfl, _, _, rfl⟩)
theorem VR.fp_l {R : Ren} {x x' : Value} {q : FpV} (h : vFp x = some q) (hx : VR R x x') :
    ∃ c o C, R.ro c = some C ∧ x' = .pointer (some ⟨c, o + q.off, none⟩) ∧ o + q.cs.length ≤ C.size ∧ CellsR R q.cs o C ∧ ∀ x ∈ q.cs, closed1 x = true := by
  rw [vFp_some h] at hx
  obtain ⟨off, cs⟩ := q
  simp only at hx ⊢
  cases hx with
  | @fp _ _ _ _ ys _ hc hfit hC hcl hl h =>
    exact ⟨_, _, _, hc, rfl, hfit, fun i x hi => by
      have hlt : i < ys.length := by rw [← hl]; exact (List.getElem?_eq_some_iff.1 hi).1
      have hy := List.getElem?_eq_getElem hlt
      exact ⟨_, hC i _ hy, h i x _ hi hy⟩, hcl⟩
theorem CellsR.list {R : Ren} {xs : List Value} {o : Nat} {C : Array Value} (h : CellsR R xs o C) : ∃ ys : List Value, xs.length = ys.length ∧ (∀ (i : Nat) (y : Value), ys[i]? = some y → C[o + i]? = some y) ∧ ∀ (i : Nat) (x y : Value), xs[i]? = some x → ys[i]? = some y → VR R x y := by
  induction xs generalizing o with
  | nil => exact ⟨[], rfl, by simp, by simp⟩
  | cons x xs ih =>
    obtain ⟨y, hy, hv⟩ := h 0 x rfl
    obtain ⟨ys, h1, h2, h3⟩ := ih (o := o + 1) fun i z hz => by
      have := h (i + 1) z (by simpa using hz)
      rwa [show o + (i + 1) = o + 1 + i by omega] at this
    refine ⟨y :: ys, by simp [h1], fun i z hz => ?_, fun i a b ha hb => ?_⟩
    · cases i with
      | zero => simp at hz; subst hz; exact hy
      | succ i => have := h2 i z (by simpa using hz); rwa [show o + (i + 1) = o + 1 + i by omega]
    · cases i with
      | zero => simp at ha hb; subst ha; subst hb; exact hv
      | succ i => exact h3 i a b (by simpa using ha) (by simpa using hb)
theorem VR.mkFs {R : Ren} {sz n fl c o cap : Nat} {xs : List Value} {C : Array Value} (hc : R.ro c = some C) (hn : xs.length = n * sz) (hcap : n ≤ cap) (hex : fl = 1 → cap = n) (hfl : fl ≠ 2) (hfit : o + xs.length ≤ C.size)
    (h : CellsR R xs o C) (hcl : ∀ x ∈ xs, closed1 x = true) : VR R (fsV sz n fl xs) (.slice (some ⟨c, o, none⟩) n cap) := by
  obtain ⟨ys, h1, h2, h3⟩ := h.list
  exact .fs hc hn hcap hex hfl hfit h2 hcl h1 h3
theorem VR.mkFp {R : Ren} {off c o : Nat} {xs : List Value} {C : Array Value} (hc : R.ro c = some C) (hfit : o + xs.length ≤ C.size)
    (h : CellsR R xs o C) (hcl : ∀ x ∈ xs, closed1 x = true) : VR R (fpV off xs) (.pointer (some ⟨c, o + off, none⟩)) := by
  obtain ⟨ys, h1, h2, h3⟩ := h.list
  exact .fp hc hfit h2 hcl h1 h3
theorem CellsR.part {R : Ren} {xs : List Value} {o : Nat} {C : Array Value} (h : CellsR R xs o C) (a n : Nat) : CellsR R ((xs.drop a).take n) (o + a) C := fun i x hx => by
  rw [List.getElem?_take] at hx
  split at hx
  · rw [List.getElem?_drop] at hx
    obtain ⟨y, hy, hv⟩ := h (a + i) x hx
    exact ⟨y, by rw [Nat.add_assoc]; exact hy, hv⟩
  · cases hx

theorem Post.refl {H : AHeap} {R : Ren} {w : World} (h : Sim H R w) : Post H R w H R w where
  le := R.le_refl
  new := fun _ _ h => .inl h
  sim := h
  next := Nat.le_refl _
  grow := Nat.le_refl _
  frame := fun _ _ _ => rfl
  calm := fun _ _ _ _ _ _ _ h => h
  imm := fun _ _ _ => rfl
  fresh := fun id c β h h' => by rw [h] at h'; cases h'
  side := ⟨rfl, rfl, fun _ => rfl⟩
  rofresh := fun _ _ h => .inl h

theorem Post.trans {H H1 H2 : AHeap} {R R1 R2 : Ren} {w w1 w2 : World} (h : Post H R w H1 R1 w1) (h' : Post H1 R1 w1 H2 R2 w2) (hs : Sim H R w) : Post H R w H2 R2 w2 where
  le := Ren.le_trans h.le h'.le
  new := fun id p hp => by
    rcases h'.new id p hp with h1 | ⟨h1, h2⟩
    · exact h.new id p h1
    · refine .inr ⟨?_, Nat.le_trans h.next h2⟩
      cases hr : R.f id with
      | none => rfl
      | some q => rw [(h.le id q.1 q.2 hr).1] at h1; cases h1
  sim := h'.sim
  next := Nat.le_trans h.next h'.next
  grow := Nat.le_trans h.grow h'.grow
  frame := fun c hc hall => by
    rw [h'.frame c (Nat.lt_of_lt_of_le hc h.grow) fun id β hid => ?_]
    · exact h.frame c hc hall
    · cases hr : R.f id with
      | some q =>
        have e := (h.le id q.1 q.2 hr).1
        rw [hid] at e
        have hr : R.f id = some (c, β) := by rw [hr]; exact e.symm
        have hi := hall id β hr
        rw [h.imm id (hs.dom id _ _ hr).1 hi]
        exact hi
      | none =>
        rcases h.fresh id c β hid hr with h1 | ⟨id0, β0, h1, h2⟩
        · exact absurd hc (Nat.not_lt.2 h1)
        · rw [hall id0 β0 h1] at h2; cases h2
  calm := fun id hid hr => by
    have hr1 : R1.f id = none := by
      cases h1 : R1.f id with
      | none => rfl
      | some q => rcases h.new id q h1 with h2 | ⟨_, h2⟩
                  · rw [h2] at hr; cases hr
                  · omega
    exact fun Q c β ob ho => h'.calm id (Nat.lt_of_lt_of_le hid h.next) hr1 Q c β ob (h.calm id hid hr Q c β ob ho)
  imm := fun id hid hi => by
    have e := h.imm id hid hi
    rw [h'.imm id (Nat.lt_of_lt_of_le hid h.next) (by rw [e]; exact hi), e]
  fresh := fun id c β hid hr => by
    cases h1 : R1.f id with
    | some q =>
      have e := (h'.le id q.1 q.2 h1).1
      rw [hid] at e
      have h1 : R1.f id = some (c, β) := by rw [h1]; exact e.symm
      exact h.fresh id c β h1 hr
    | none =>
      rcases h'.fresh id c β hid h1 with h2 | ⟨id0, β0, h2, h3⟩
      · exact .inl (Nat.le_trans h.grow h2)
      · cases hr0 : R.f id0 with
        | some q =>
          have e := (h.le id0 q.1 q.2 hr0).1
          rw [h2] at e
          have hr0 : R.f id0 = some (c, β0) := by rw [hr0]; exact e.symm
          refine .inr ⟨id0, β0, hr0, ?_⟩
          cases hi : (H.get id0).immB with
          | false => rfl
          | true => rw [h.imm id0 (hs.dom id0 _ _ hr0).1 hi, hi] at h3; cases h3
        | none => exact h.fresh id0 c β0 h2 hr0
  side := ⟨h'.side.1.trans h.side.1, h'.side.2.1.trans h.side.2.1, fun a => (h'.side.2.2 a).trans (h.side.2.2 a)⟩
  rofresh := fun c C hc => by
    rcases h'.rofresh c C hc with h1 | h1 | ⟨id0, β0, h2, h3⟩
    · exact h.rofresh c C h1
    · exact .inr (.inl (Nat.le_trans h.grow h1))
    · cases hr0 : R.f id0 with
      | some q =>
        have e := (h.le id0 q.1 q.2 hr0).1
        rw [h2] at e
        have hr0 : R.f id0 = some (c, β0) := by rw [hr0]; exact e.symm
        refine .inr (.inr ⟨id0, β0, hr0, ?_⟩)
        cases hi : (H.get id0).immB with
        | false => rfl
        | true => rw [h.imm id0 (hs.dom id0 _ _ hr0).1 hi, hi] at h3; cases h3
      | none =>
        rcases h.fresh id0 c β0 h2 hr0 with h4 | h4
        · exact .inr (.inl h4)
        · exact .inr (.inr h4)
end Go.Sp
