/- Made from wip. -/
import Derived.Test.YtenlanbdolnhhaaSpBasex

namespace Go.Sp

structure Ren where
 f:Nat→Option (Nat×Nat)
 sz:Nat→Nat
 ro:Nat→Option (Array Value)

inductive VR (R : Ren) : Value → Value → Prop
 | bool (b:Bool):VR R (.bool b) (.bool b)
 | int (k:IntKind) (n:Int):VR R (.int k n) (.int k n)
 | string (s:ByteArray):VR R (.string s) (.string s)
 | nilFunc:VR R .nilFunc .nilFunc
 | nilIface:VR R .nilIface .nilIface
 | ptrNil:VR R (.pointer none) (.pointer none)
 | ptr {id off c β:Nat} (h:R.f id=some (c,β)):VR R (.pointer (some ⟨id,off,none⟩)) (.pointer (some ⟨c,β+off,none⟩))
 | slNil:VR R (.slice none 0 0) (.slice none 0 0)
 | sl {id off sz ln c2 c β cap : Nat} (h : R.f id = some (c, β)) (h1 : ln ≤ c2 / 2) (h2 : c2 / 2 ≤ cap) (h3 : c2 % 2 = 1 → cap = c2 / 2) (h4 : β + off + cap * sz ≤ R.sz c) :
  VR R (.slice (some ⟨id,off,some sz⟩) ln c2) (.slice (some ⟨c,β+off,none⟩) ln cap)
 | slE {id off sz c2 c o:Nat} (h:c2 / 2=0):VR R (.slice (some ⟨id,off,some sz⟩) 0 c2) (.slice (some ⟨c,o,none⟩) 0 0)
 | slN {id off sz c2:Nat} (h:c2 / 2=0):VR R (.slice (some ⟨id,off,some sz⟩) 0 c2) (.slice none 0 0)
 | mapNil:VR R (.map none) (.map none)
 | map {id c:Nat} (h:R.f id=some (c,0)):VR R (.map (some id)) (.map (some c))
 | fs {sz n fl c o cap : Nat} {xs ys : List Value} {C : Array Value} (hc : R.ro c = some C) (hn : xs.length = n * sz) (hcap : n ≤ cap) (hex : fl = 1 → cap = n) (hfl : fl ≠ 2) (hfit : o + xs.length ≤ C.size) (hC : ∀ (i : Nat) (y : Value), ys[i]? = some y → C[o + i]? = some y)
  (hcl:∀ x∈xs,closed1 x=true) (hl:xs.length=ys.length) (h:∀ (i:Nat) (x y:Value),xs[i]?=some x→ys[i]?=some y→VR R x y) :
  VR R (.iface sz (.agg ⟨.slice none n fl::xs⟩)) (.slice (some ⟨c,o,none⟩) n cap)
 | fsN (sz fl:Nat) (h3:fl≠3):VR R (.iface sz (.agg ⟨[.slice none 0 fl]⟩)) (.slice none 0 0)
 | fsE {sz fl c o:Nat} {s:Option Nat} (hfl:fl≠2):VR R (.iface sz (.agg ⟨[.slice none 0 fl]⟩)) (.slice (some ⟨c,o,s⟩) 0 0)
 | fp {off c o : Nat} {xs ys : List Value} {C : Array Value} (hc : R.ro c = some C) (hfit : o + xs.length ≤ C.size) (hC : ∀ (i : Nat) (y : Value), ys[i]? = some y → C[o + i]? = some y)
  (hcl:∀ x∈xs,closed1 x=true) (hl:xs.length=ys.length) (h:∀ (i:Nat) (x y:Value),xs[i]?=some x→ys[i]?=some y→VR R x y) :
  VR R (.iface off (.tuple ⟨xs⟩)) (.pointer (some ⟨c,o+off,none⟩))
 | any (u:Value):VR R (.iface 0 .nilIface) u
 | agg {xs ys:List Value} (hl:xs.length=ys.length) (h:∀ (i:Nat) (x y:Value),xs[i]?=some x→ys[i]?=some y→VR R x y):VR R (.agg ⟨xs⟩) (.agg ⟨ys⟩)
 | tuple {xs ys:List Value} (hl:xs.length=ys.length) (h:∀ (i:Nat) (x y:Value),xs[i]?=some x→ys[i]?=some y→VR R x y):VR R (.tuple ⟨xs⟩) (.tuple ⟨ys⟩)
 | func (fn : Fn) {xs ys zs us : List Value} (hl : xs.length = ys.length) (h : ∀ (i : Nat) (x y : Value), xs[i]? = some x → ys[i]? = some y → VR R x y)
  (hl':zs.length=us.length) (h':∀ (i:Nat) (x y:Value),zs[i]?=some x→us[i]?=some y→VR R x y):VR R (.func fn ⟨xs⟩ ⟨zs⟩) (.func fn ⟨ys⟩ ⟨us⟩)

def VRL (R:Ren) (xs ys:List Value):Prop:=xs.length=ys.length∧∀ (i:Nat) (x y:Value),xs[i]?=some x→ys[i]?=some y→VR R x y

theorem VRL.nil {R:Ren}:VRL R [] []:=⟨rfl,fun i x y h=>by simp at h⟩
theorem VRL.cons {R:Ren} {x y:Value} {xs ys:List Value} (h:VR R x y) (hs:VRL R xs ys):VRL R (x::xs) (y::ys):=
 ⟨by simp[hs.1],fun i a b ha hb=>by
   cases i with
   | zero=>simp at ha hb;subst ha;subst hb;exact h
   | succ i=>simp at ha hb;exact hs.2 i a b ha hb⟩
theorem VRL.uncons {R:Ren} {x:Value} {xs ys:List Value} (h:VRL R (x::xs) ys):∃ y ys',ys=y::ys'∧VR R x y∧VRL R xs ys':=by
 cases ys with
 | nil=>have:=h.1;simp at this
 | cons y ys'=>exact⟨y,ys',rfl,h.2 0 x y rfl rfl,by have:=h.1;simpa using this,fun i a b ha hb=>h.2 (i+1) a b (by simpa using ha) (by simpa using hb)⟩
theorem VRL.unnil {R:Ren} {ys:List Value} (h:VRL R [] ys):ys=[]:=by
 have:=h.1;cases ys with
 | nil=>rfl
 | cons=>simp at this
theorem VRL.append {R:Ren} {xs ys xs' ys':List Value} (h:VRL R xs ys) (h':VRL R xs' ys'):VRL R (xs++xs') (ys++ys'):=by
 induction xs generalizing ys with
 | nil=>rw[h.unnil];exact h'
 | cons x xs ih=>obtain⟨y,ys1,rfl,hx,hr⟩:=h.uncons;exact .cons hx (ih hr)
theorem VRL.get {R:Ren} {xs ys:List Value} (h:VRL R xs ys) {i:Nat} {x:Value} (hx:xs[i]?=some x):∃ y,ys[i]?=some y∧VR R x y:=by
 have hi:i < ys.length:=by have:=(List.getElem?_eq_some_iff.1 hx).1;rw[←h.1];exact this
 exact⟨ys[i],List.getElem?_eq_getElem hi,h.2 i x _ hx (List.getElem?_eq_getElem hi)⟩
theorem VRL.drop {R:Ren} {xs ys:List Value} (h:VRL R xs ys) (n:Nat):VRL R (xs.drop n) (ys.drop n):=
 ⟨by simp[h.1],fun i x y hx hy=>h.2 (n+i) x y (by simpa [List.getElem?_drop] using hx) (by simpa [List.getElem?_drop] using hy)⟩
theorem VRL.take {R:Ren} {xs ys:List Value} (h:VRL R xs ys) (n:Nat):VRL R (xs.take n) (ys.take n):=
 ⟨by simp[h.1],fun i x y hx hy=>by
   rw[List.getElem?_take] at hx hy
   split at hx
   ·rename_i hlt;rw[if_pos hlt] at hy;exact h.2 i x y hx hy
   ·cases hx⟩
theorem VRL.one {R:Ren} {x y:Value} (h:VR R x y):VRL R [x] [y]:=.cons h .nil
theorem VRL.map {R:Ren} {α:Type} {f g:α→Value} {l:List α} (h:∀ a∈l,VR R (f a) (g a)):VRL R (l.map f) (l.map g):=by
 induction l with
 | nil=>exact .nil
 | cons a l ih=>exact .cons (h a (by simp)) (ih fun b hb=>h b (by simp[hb]))

theorem oo_inv {α β:Type} {o:Option α} {s:α→Option β} {v:β} (h:oo o none s=some v):∃ a,o=some a∧s a=some v:=by
 cases o with
 | none=>cases h
 | some a=>exact⟨a,rfl,h⟩
structure Ren.le (R R':Ren):Prop where
 up:∀ id c β,R.f id=some (c,β)→R'.f id=some (c,β)∧R'.sz c=R.sz c
 ro:∀ c C,R.ro c=some C→R'.ro c=some C
instance {R R':Ren}:CoeFun (R.le R') (fun _=>∀ id c β,R.f id=some (c,β)→R'.f id=some (c,β)∧R'.sz c=R.sz c):=⟨fun h=>h.up⟩
theorem Ren.le_refl (R:Ren):R.le R:=⟨fun _ _ _ h=>⟨h,rfl⟩,fun _ _ h=>h⟩
theorem Ren.le_trans {R R' R'':Ren} (h:R.le R') (h':R'.le R''):R.le R'':=⟨fun id c β e=>
 ⟨(h' id c β (h id c β e).1).1,((h' id c β (h id c β e).1).2).trans (h id c β e).2⟩,fun c C e=>h'.ro c C (h.ro c C e)⟩
theorem VR.mono {R R':Ren} {x y:Value} (h:VR R x y) (hle:R.le R'):VR R' x y:=by
 induction h with
 | bool b=>exact .bool b
 | int k n=>exact .int k n
 | string s=>exact .string s
 | nilFunc=>exact .nilFunc
 | nilIface=>exact .nilIface
 | ptrNil=>exact .ptrNil
 | ptr h=>exact .ptr (hle _ _ _ h).1
 | slNil=>exact .slNil
 | sl h h1 h2 h3 h4=>exact .sl (hle _ _ _ h).1 h1 h2 h3 (by rw[(hle _ _ _ h).2];exact h4)
 | slE h=>exact .slE h
 | slN h=>exact .slN h
 | mapNil=>exact .mapNil
 | map h=>exact .map (hle _ _ _ h).1
 | fs hc hn hcap hex hfl hfit hC hcl hl _ ih=>exact .fs (hle.ro _ _ hc) hn hcap hex hfl hfit hC hcl hl ih
 | fsN sz fl h3=>exact .fsN sz fl h3
 | fsE hfl=>exact .fsE hfl
 | fp hc hfit hC hcl hl _ ih=>exact .fp (hle.ro _ _ hc) hfit hC hcl hl ih
 | any u=>exact .any u
 | agg hl _ ih=>exact .agg hl ih
 | tuple hl _ ih=>exact .tuple hl ih
 | func fn hl _ hl' _ ih ih'=>exact .func fn hl ih hl' ih'
theorem VRL.mono {R R':Ren} {xs ys:List Value} (h:VRL R xs ys) (hle:R.le R'):VRL R' xs ys:=⟨h.1,fun i x y hx hy=>(h.2 i x y hx hy).mono hle⟩

noncomputable def plain1 (v:Value):Bool:=
 vv v (fun _=>true) (fun _ _=>true) (fun _=>true) (fun a=>nt (isS a)) (fun a l c=>an (nt (isS a)) (an (Nat.beq l 0) (Nat.beq c 0))) (fun m=>nt (isS m)) (fun _ _ _=>false) true (fun _ _=>false) true (fun _=>false) (fun _=>false) false
noncomputable def plainB (v:Value):Bool:=oo (vAgg v) (oo (vTup v) (plain1 v) fun l=>allL plain1 l) fun l=>allL plain1 l
theorem plain1_VR {R:Ren} {v:Value} (h:plain1 v=true):VR R v v:=by
 cases v <;> simp[plain1,vv] at h
 case bool b=>exact .bool b
 case int k n=>exact .int k n
 case string s=>exact .string s
 case pointer a=>cases a with
  | none=>exact .ptrNil
  | some a=>simp at h
 case slice a l c=>
  cases a with
  | some a=>simp at h
  | none=>simp at h;obtain⟨h1,h2⟩:=h;subst h1;subst h2;exact .slNil
 case map m=>cases m with
  | none=>exact .mapNil
  | some m=>simp at h
 case nilFunc=>exact .nilFunc
 case nilIface=>exact .nilIface
theorem plainL_VRL {R:Ren} {l:List Value} (h:∀ x∈l,plain1 x=true):VRL R l l:=
 ⟨rfl,fun i x y hx hy=>by rw[hx] at hy;cases hy;exact plain1_VR (h x (List.mem_of_getElem? hx))⟩
theorem plain_VR {R:Ren} {v:Value} (h:plainB v=true):VR R v v:=by
 cases v
 case agg a => obtain ⟨l⟩ := a; have : ∀ x ∈ l, plain1 x = true := by simpa [plainB, vAgg, vv, arrL] using h
               exact .agg rfl (plainL_VRL this).2
 case tuple a => obtain ⟨l⟩ := a; have : ∀ x ∈ l, plain1 x = true := by simpa [plainB, vAgg, vTup, vv, arrL] using h
                 exact .tuple rfl (plainL_VRL this).2
 all_goals exact plain1_VR (by simpa [plainB,vAgg,vTup,vv] using h)
theorem undef_VR {R:Ren}:VR R undef undef:=.tuple rfl (by simp)

theorem vInt_some {v:Value} {p:IntKind×Int} (h:vInt v=some p):v = .int p.1 p.2:=by cases v <;> simp[vInt,vv] at h;subst h;rfl
theorem vNat_some {v:Value} {n:Nat} (h:vNat v=some n):∃ k,v = .int k n:=by
 cases v <;> simp[vNat,vv] at h
 rename_i k m;cases m with
 | ofNat m=>simp at h;subst h;exact⟨k,rfl⟩
 | negSucc m=>simp at h
theorem vBool_some {v:Value} {b:Bool} (h:vBool v=some b):v = .bool b:=by cases v <;> simp[vBool,vv] at h;subst h;rfl
theorem vStr_some {v:Value} {s:ByteArray} (h:vStr v=some s):v = .string s:=by cases v <;> simp[vStr,vv] at h;subst h;rfl
theorem vAgg_some {v:Value} {l:List Value} (h:vAgg v=some l):v = .agg ⟨l⟩:=by cases v <;> simp[vAgg,vv] at h;rename_i a;obtain⟨m⟩:=a;simp[arrL] at h;subst h;rfl
theorem vTup_some {v:Value} {l:List Value} (h:vTup v=some l):v = .tuple ⟨l⟩:=by cases v <;> simp[vTup,vv] at h;rename_i a;obtain⟨m⟩:=a;simp[arrL] at h;subst h;rfl
theorem vPtr_some {v:Value} {p:Nat×Nat} (h:vPtr v=some p):v = .pointer (some ⟨p.1,p.2,none⟩):=by
 cases v <;> simp[vPtr,vv] at h
 rename_i a;cases a with
 | none=>simp[plainA] at h
 | some a => obtain ⟨b, o, s⟩ := a; cases s with
  | none=>simp[plainA] at h;subst h;rfl
  | some s=>simp[plainA] at h
theorem vSl_some {v:Value} {s:SlV} (h:vSl v=some s):v = .slice (some ⟨s.id,s.off,some s.sz⟩) s.len s.cap:=by
 cases v <;> simp[vSl,vv] at h
 rename_i a l c;cases a with
 | none=>simp[sizedA] at h
 | some a => obtain ⟨b, o, s⟩ := a; cases s with
  | none=>simp[sizedA] at h
  | some s=>simp[sizedA] at h;subst h;rfl
theorem isNilSl_true {v:Value} (h:isNilSl v=true):v = .slice none 0 0:=by
 cases v <;> simp[isNilSl,vv] at h
 rename_i a l c;cases a with
 | none=>simp at h;obtain⟨h1,h2⟩:=h;subst h1;subst h2;rfl
 | some a=>simp at h
theorem vMap_some {v:Value} {m:Option Nat} (h:vMap v=some m):v = .map m:=by cases v <;> simp[vMap,vv] at h;subst h;rfl
theorem slLen_some {v:Value} {n:Nat} (h:slLen v=some n):∃ a c,v = .slice a n c:=by cases v <;> simp[slLen,vv] at h;rename_i a l c;subst h;exact⟨a,c,rfl⟩

theorem VR.int_l {R:Ren} {k:IntKind} {n:Int} {u:Value} (h:VR R (.int k n) u):u = .int k n:=by cases h;rfl
theorem VR.bool_l {R:Ren} {b:Bool} {u:Value} (h:VR R (.bool b) u):u = .bool b:=by cases h;rfl
theorem VR.string_l {R:Ren} {b:ByteArray} {u:Value} (h:VR R (.string b) u):u = .string b:=by cases h;rfl
theorem VR.ptr_l {R:Ren} {id off:Nat} {u:Value} (h:VR R (.pointer (some ⟨id,off,none⟩)) u):∃ c β,R.f id=some (c,β)∧u = .pointer (some ⟨c,β+off,none⟩):=by
 cases h with
 | ptr h=>exact⟨_,_,h,rfl⟩
theorem VR.agg_l {R:Ren} {l:List Value} {u:Value} (h:VR R (.agg ⟨l⟩) u):∃ m,u = .agg ⟨m⟩∧VRL R l m:=by
 cases h with
 | agg hl h=>exact⟨_,rfl,hl,h⟩
theorem VR.tuple_l {R:Ren} {l:List Value} {u:Value} (h:VR R (.tuple ⟨l⟩) u):∃ m,u = .tuple ⟨m⟩∧VRL R l m:=by
 cases h with
 | tuple hl h=>exact⟨_,rfl,hl,h⟩
theorem VR.slNil_l {R:Ren} {u:Value} (h:VR R (.slice none 0 0) u):u = .slice none 0 0:=by cases h;rfl
theorem VR.mapNil_l {R:Ren} {u:Value} (h:VR R (.map none) u):u = .map none:=by cases h;rfl
theorem VR.map_l {R:Ren} {id:Nat} {u:Value} (h:VR R (.map (some id)) u):∃ c,R.f id=some (c,0)∧u = .map (some c):=by
 cases h with
 | map h=>exact⟨_,h,rfl⟩

theorem cellsOf_VR {R:Ren} {v u:Value} (h:VR R v u) (ht:noCell v=false):VRL R (cellsOf v) u.cells.toList:=by
 cases h with
 | agg hl h=>exact⟨hl,h⟩
 | fs hc hn hcap hex hfl hfit hC hcl hl h=>exact .one (.fs hc hn hcap hex hfl hfit hC hcl hl h)
 | fsN sz fl h3=>exact .one (.fsN sz fl h3)
 | fsE hfl=>exact .one (.fsE hfl)
 | fp hc hfit hC hcl hl h=>exact .one (.fp hc hfit hC hcl hl h)
 | any u=>cases ht
 | tuple hl h=>exact .one (.tuple hl h)
 | func fn hl h hl' h'=>exact .one (.func fn hl h hl' h')
 | ptr h=>exact .one (.ptr h)
 | sl h h1 h2 h3 h4=>exact .one (.sl h h1 h2 h3 h4)
 | slE h=>exact .one (.slE h)
 | slN h=>exact .one (.slN h)
 | map h=>exact .one (.map h)
 | _=>exact .one (by constructor)

theorem cellsOf_plain {R:Ren} {v:Value} (h:plainB v=true):VRL R (cellsOf v) v.cells.toList:=by
 have hv:=plain_VR (R:=R) h
 cases v
 case agg a=>exact cellsOf_VR hv rfl
 case tuple a=>exact .one hv
 case iface t x=>exact absurd h (by intro h;cases h)
 all_goals exact cellsOf_VR hv rfl

def AObj.immB:AObj→Bool
 | .cells _ imm _ _=>imm
 | _=>false
def AObj.writable:AObj→Bool
 | .cells _ imm spent _=>!imm && !spent
 | .map _ _=>true
 | .iter _ _ _ _=>true
 | .dead=>false
def AObj.ancOf:AObj→List Nat
 | .cells _ _ _ anc=>anc
 | _=>[]
def AObj.size:AObj→Nat
 | .cells xs _ _ _=>xs.length
 | _=>0

def EntR (R:Ren) (e:Ent) (E:MapEntry):Prop:=VR R e.key E.key∧VR R e.val E.val∧e.born=E.born
def EntsR (R:Ren) (es:List Ent) (Es:List MapEntry):Prop:=es.length=Es.length∧∀ (i:Nat) (e:Ent) (E:MapEntry),es[i]?=some e→Es[i]?=some E→EntR R e E

def CellsR (R:Ren) (xs:List Value) (β:Nat) (C:Array Value):Prop:=∀ (i:Nat) (x:Value),xs[i]?=some x→∃ y,C[β+i]?=some y∧VR R x y

def MapR (R:Ren) (m m':Option Nat):Prop:=
 match m with
 | none=>m'=none
 | some id=>∃ c,R.f id=some (c,0)∧m'=some c
theorem MapR.mono {R R':Ren} {m m':Option Nat} (h:MapR R m m') (hle:R.le R'):MapR R' m m':=by
 cases m with
 | none=>exact h
 | some id=>obtain⟨c,h1,h2⟩:=h;exact⟨c,(hle.1 id c 0 h1).1,h2⟩
def ObjR (R:Ren) (o:AObj) (c β:Nat) (ob:Option Obj):Prop:=
 match o with
 | .dead=>True
 | .cells xs imm _ _=>∃ C t fz,ob=some (.cells C t fz)∧C.size=R.sz c∧β+xs.length≤C.size∧CellsR R xs β C∧(imm=false→fz=(0,0))
 | .map es clock=>β=0∧∃ Es,ob=some (.map Es clock)∧EntsR R es Es.toList
 | .iter m since seen st=>β=0∧∃ (m':Option Nat) (S:Array Nat),ob=some (.mapIter m' since S st)∧S.toList=seen∧MapR R m m'

structure Sim (H:AHeap) (R:Ren) (w:World):Prop where
 dom:∀ id c β,R.f id=some (c,β)→id < H.next∧c < w.heap.size
 obj:∀ id c β,R.f id=some (c,β)→ObjR R (H.get id) c β w.heap[c]?
 sep : ∀ id c β id' β', R.f id = some (c, β) → R.f id' = some (c, β') → id ≠ id' → (H.get id).writable = true →
  H.get id' = .dead ∨ (id' ∈ (H.get id).ancOf ∧ β' + (H.get id').size ≤ β + (H.get id).size)
 anc:∀ id a,a∈(H.get id).ancOf→a < H.next∧(H.get a).immB=false∧(H.get a).writable=false
 wf:H.wf
 ro:∀ c C,R.ro c=some C→(∃ t fz,w.heap[c]?=some (.cells C t fz))∧∀ id β,R.f id=some (c,β)→(H.get id).writable=false

theorem CellsR.mono {R R':Ren} {xs:List Value} {β:Nat} {C:Array Value} (h:CellsR R xs β C) (hle:R.le R'):CellsR R' xs β C:=fun i x hx=>
 let ⟨y,hy,hv⟩:=h i x hx;⟨y,hy,hv.mono hle⟩
theorem EntsR.mono {R R':Ren} {es:List Ent} {Es:List MapEntry} (h:EntsR R es Es) (hle:R.le R'):EntsR R' es Es:=
 ⟨h.1,fun i e E he hE=>⟨(h.2 i e E he hE).1.mono hle,(h.2 i e E he hE).2.1.mono hle,(h.2 i e E he hE).2.2⟩⟩
theorem ObjR.mono {R R':Ren} {o:AObj} {c β:Nat} {ob:Option Obj} (h:ObjR R o c β ob) (hle:R.le R') (hsz:R'.sz c=R.sz c):ObjR R' o c β ob:=by
 cases o with
 | dead=>trivial
 | cells xs imm spent anc=>obtain⟨C,t,fz,h1,h2,h3,h4,h5⟩:=h;exact⟨C,t,fz,h1,h2.trans hsz.symm,h3,h4.mono hle,h5⟩
 | map es clock=>obtain⟨h1,Es,h2,h3⟩:=h;exact⟨h1,Es,h2,h3.mono hle⟩
 | iter m since seen st=>obtain⟨h1,m',S,h2,h3,h4⟩:=h;exact⟨h1,m',S,h2,h3,h4.mono hle⟩

structure Post (H:AHeap) (R:Ren) (w:World) (H':AHeap) (R':Ren) (w':World):Prop where
 le:R.le R'
 new:∀ id p,R'.f id=some p→R.f id=some p∨(R.f id=none∧H.next≤id)
 sim:Sim H' R' w'
 next:H.next≤H'.next
 grow:w.heap.size≤w'.heap.size
 frame:∀ c,c < w.heap.size→(∀ id β,R.f id=some (c,β)→(H.get id).immB=true)→w'.heap[c]?=w.heap[c]?
 calm:∀ id,id < H.next→R.f id=none→∀ (Q:Ren) (c β:Nat) (ob:Option Obj),ObjR Q (H.get id) c β ob→ObjR Q (H'.get id) c β ob
 imm:∀ id,id < H.next→(H.get id).immB=true→H'.get id=H.get id
 fresh:∀ id c β,R'.f id=some (c,β)→R.f id=none→w.heap.size≤c∨∃ id0 β0,R.f id0=some (c,β0)∧(H.get id0).immB=false
 side:w'.os=w.os∧w'.output=w.output∧∀ a,a.block < w.heap.size→w'.frozen? a=w.frozen? a
 rofresh:∀ c C,R'.ro c=some C→R.ro c=some C∨w.heap.size≤c∨∃ id β,R.f id=some (c,β)∧(H.get id).immB=false

theorem vFs_some {v:Value} {f:FsV} (h:vFs v=some f):v = .iface f.sz (.agg ⟨.slice none f.n f.fl::f.cs⟩):=by
 cases v <;> simp only[vFs,vv] at h <;> try (cases h;done)
 rename_i t x
 obtain⟨l,hl,h1⟩:=oo_inv h
 rw[vAgg_some hl]
 cases l with
 | nil=>cases h1
 | cons a cs =>
  have h1:vHdr a t cs=some f:=h1
  cases a with
  | slice ad n fl =>
   have h1:hdr ad n fl t cs=some f:=h1
   cases ad with
   | some a=>cases h1
   | none=>injection h1 with h1;subst h1;rfl
  | _=>cases h1
theorem vFp_some {v:Value} {q:FpV} (h:vFp v=some q):v = .iface q.off (.tuple ⟨q.cs⟩):=by
 cases v <;> simp only[vFp,vv] at h <;> try (cases h;done)
 rename_i t x
 obtain⟨l,hl,h1⟩:=oo_inv h
 rw[vTup_some hl]
 injection h1 with h1;subst h1;rfl
theorem VR.fs_l {R:Ren} {x x':Value} {f:FsV} (h:vFs x=some f) (hx:VR R x x') :
 (f.n=0∧f.cs=[]∧x' = .slice none 0 0)∨(f.fl≠2∧f.n=0∧f.cs=[]∧∃ c o s,x' = .slice (some ⟨c,o,s⟩) 0 0) ∨
 (∃ c o cap C,R.ro c=some C∧x' = .slice (some ⟨c,o,none⟩) f.n cap∧f.cs.length=f.n*f.sz∧f.n≤cap∧(f.fl=1→cap=f.n)∧f.fl≠2∧o+f.cs.length≤C.size∧CellsR R f.cs o C∧∀ x∈f.cs,closed1 x=true):=by
 rw[vFs_some h] at hx
 obtain⟨sz,n,fl,cs⟩:=f
 simp only at hx ⊢
 cases hx with
 | @fs _ _ _ _ _ _ _ ys _ hc hn hcap hex hfl hfit hC hcl hl h =>
  exact .inr (.inr ⟨_,_,_,_,hc,rfl,hn,hcap,hex,hfl,hfit,fun i x hi=>by
   have hlt:i < ys.length:=by rw[←hl];exact(List.getElem?_eq_some_iff.1 hi).1
   have hy:=List.getElem?_eq_getElem hlt
   exact⟨_,hC i _ hy,h i x _ hi hy⟩,hcl⟩)
 | fsN=>exact .inl ⟨rfl,rfl,rfl⟩
 | fsE hfl=>exact .inr (.inl ⟨hfl,rfl,rfl,_,_,_,rfl⟩)
theorem VR.fp_l {R:Ren} {x x':Value} {q:FpV} (h:vFp x=some q) (hx:VR R x x') :
 ∃ c o C,R.ro c=some C∧x' = .pointer (some ⟨c,o+q.off,none⟩)∧o+q.cs.length≤C.size∧CellsR R q.cs o C∧∀ x∈q.cs,closed1 x=true:=by
 rw[vFp_some h] at hx
 obtain⟨off,cs⟩:=q
 simp only at hx ⊢
 cases hx with
 | @fp _ _ _ _ ys _ hc hfit hC hcl hl h =>
  exact⟨_,_,_,hc,rfl,hfit,fun i x hi=>by
   have hlt:i < ys.length:=by rw[←hl];exact(List.getElem?_eq_some_iff.1 hi).1
   have hy:=List.getElem?_eq_getElem hlt
   exact⟨_,hC i _ hy,h i x _ hi hy⟩,hcl⟩
theorem CellsR.list {R:Ren} {xs:List Value} {o:Nat} {C:Array Value} (h:CellsR R xs o C):∃ ys:List Value,xs.length=ys.length∧(∀ (i:Nat) (y:Value),ys[i]?=some y→C[o+i]?=some y)∧∀ (i:Nat) (x y:Value),xs[i]?=some x→ys[i]?=some y→VR R x y:=by
 induction xs generalizing o with
 | nil=>exact⟨[],rfl,by simp,by simp⟩
 | cons x xs ih =>
  obtain⟨y,hy,hv⟩:=h 0 x rfl
  obtain⟨ys,h1,h2,h3⟩:=ih (o:=o+1) fun i z hz=>by
   have:=h (i+1) z (by simpa using hz)
   rwa [show o+(i+1)=o+1+i by omega] at this
  refine⟨y::ys,by simp[h1],fun i z hz=>?_,fun i a b ha hb=>?_⟩
  ·cases i with
   | zero=>simp at hz;subst hz;exact hy
   | succ i=>have:=h2 i z (by simpa using hz);rwa [show o+(i+1)=o+1+i by omega]
  ·cases i with
   | zero=>simp at ha hb;subst ha;subst hb;exact hv
   | succ i=>exact h3 i a b (by simpa using ha) (by simpa using hb)
theorem VR.mkFs {R:Ren} {sz n fl c o cap:Nat} {xs:List Value} {C:Array Value} (hc:R.ro c=some C) (hn:xs.length=n*sz) (hcap:n≤cap) (hex:fl=1→cap=n) (hfl:fl≠2) (hfit:o+xs.length≤C.size)
 (h:CellsR R xs o C) (hcl:∀ x∈xs,closed1 x=true):VR R (fsV sz n fl xs) (.slice (some ⟨c,o,none⟩) n cap):=by
 obtain⟨ys,h1,h2,h3⟩:=h.list
 exact .fs hc hn hcap hex hfl hfit h2 hcl h1 h3
theorem VR.mkFp {R:Ren} {off c o:Nat} {xs:List Value} {C:Array Value} (hc:R.ro c=some C) (hfit:o+xs.length≤C.size)
 (h:CellsR R xs o C) (hcl:∀ x∈xs,closed1 x=true):VR R (fpV off xs) (.pointer (some ⟨c,o+off,none⟩)):=by
 obtain⟨ys,h1,h2,h3⟩:=h.list
 exact .fp hc hfit h2 hcl h1 h3
theorem CellsR.part {R:Ren} {xs:List Value} {o:Nat} {C:Array Value} (h:CellsR R xs o C) (a n:Nat):CellsR R ((xs.drop a).take n) (o+a) C:=fun i x hx=>by
 rw[List.getElem?_take] at hx
 split at hx
 ·rw[List.getElem?_drop] at hx
  obtain⟨y,hy,hv⟩:=h (a+i) x hx
  exact⟨y,by rw[Nat.add_assoc];exact hy,hv⟩
 ·cases hx

theorem Post.refl {H:AHeap} {R:Ren} {w:World} (h:Sim H R w):Post H R w H R w where
 le:=R.le_refl
 new:=fun _ _ h=>.inl h
 sim:=h
 next:=Nat.le_refl _
 grow:=Nat.le_refl _
 frame:=fun _ _ _=>rfl
 calm:=fun _ _ _ _ _ _ _ h=>h
 imm:=fun _ _ _=>rfl
 fresh:=fun id c β h h'=>by rw[h] at h';cases h'
 side:=⟨rfl,rfl,fun _ _=>rfl⟩
 rofresh:=fun _ _ h=>.inl h

theorem Post.trans {H H1 H2:AHeap} {R R1 R2:Ren} {w w1 w2:World} (h:Post H R w H1 R1 w1) (h':Post H1 R1 w1 H2 R2 w2) (hs:Sim H R w):Post H R w H2 R2 w2 where
 le:=Ren.le_trans h.le h'.le
 new:=fun id p hp=>by
  rcases h'.new id p hp with h1 | ⟨h1,h2⟩
  ·exact h.new id p h1
  ·refine .inr ⟨?_,Nat.le_trans h.next h2⟩
   cases hr:R.f id with
   | none=>rfl
   | some q=>rw[(h.le id q.1 q.2 hr).1] at h1;cases h1
 sim:=h'.sim
 next:=Nat.le_trans h.next h'.next
 grow:=Nat.le_trans h.grow h'.grow
 frame:=fun c hc hall=>by
  rw[h'.frame c (Nat.lt_of_lt_of_le hc h.grow) fun id β hid=>?_]
  ·exact h.frame c hc hall
  ·cases hr:R.f id with
   | some q =>
    have e:=(h.le id q.1 q.2 hr).1
    rw[hid] at e
    have hr:R.f id=some (c,β):=by rw[hr];exact e.symm
    have hi:=hall id β hr
    rw[h.imm id (hs.dom id _ _ hr).1 hi]
    exact hi
   | none =>
    rcases h.fresh id c β hid hr with h1 | ⟨id0,β0,h1,h2⟩
    ·exact absurd hc (Nat.not_lt.2 h1)
    ·rw[hall id0 β0 h1] at h2;cases h2
 calm:=fun id hid hr=>by
  have hr1:R1.f id=none:=by
   cases h1:R1.f id with
   | none=>rfl
   | some q => rcases h.new id q h1 with h2 | ⟨_, h2⟩
               ·rw[h2] at hr;cases hr
               ·omega
  exact fun Q c β ob ho=>h'.calm id (Nat.lt_of_lt_of_le hid h.next) hr1 Q c β ob (h.calm id hid hr Q c β ob ho)
 imm:=fun id hid hi=>by
  have e:=h.imm id hid hi
  rw[h'.imm id (Nat.lt_of_lt_of_le hid h.next) (by rw[e];exact hi),e]
 fresh:=fun id c β hid hr=>by
  cases h1:R1.f id with
  | some q =>
   have e:=(h'.le id q.1 q.2 h1).1
   rw[hid] at e
   have h1:R1.f id=some (c,β):=by rw[h1];exact e.symm
   exact h.fresh id c β h1 hr
  | none =>
   rcases h'.fresh id c β hid h1 with h2 | ⟨id0,β0,h2,h3⟩
   ·exact .inl (Nat.le_trans h.grow h2)
   ·cases hr0:R.f id0 with
    | some q =>
     have e:=(h.le id0 q.1 q.2 hr0).1
     rw[h2] at e
     have hr0:R.f id0=some (c,β0):=by rw[hr0];exact e.symm
     refine .inr ⟨id0,β0,hr0,?_⟩
     cases hi:(H.get id0).immB with
     | false=>rfl
     | true=>rw[h.imm id0 (hs.dom id0 _ _ hr0).1 hi,hi] at h3;cases h3
    | none=>exact h.fresh id0 c β0 h2 hr0
 side:=⟨h'.side.1.trans h.side.1,h'.side.2.1.trans h.side.2.1,fun a ha=>(h'.side.2.2 a (Nat.lt_of_lt_of_le ha h.grow)).trans (h.side.2.2 a ha)⟩
 rofresh:=fun c C hc=>by
  rcases h'.rofresh c C hc with h1 | h1 | ⟨id0,β0,h2,h3⟩
  ·exact h.rofresh c C h1
  ·exact .inr (.inl (Nat.le_trans h.grow h1))
  ·cases hr0:R.f id0 with
   | some q =>
    have e:=(h.le id0 q.1 q.2 hr0).1
    rw[h2] at e
    have hr0:R.f id0=some (c,β0):=by rw[hr0];exact e.symm
    refine .inr (.inr ⟨id0,β0,hr0,?_⟩)
    cases hi:(H.get id0).immB with
    | false=>rfl
    | true=>rw[h.imm id0 (hs.dom id0 _ _ hr0).1 hi,hi] at h3;cases h3
   | none =>
    rcases h.fresh id0 c β0 h2 hr0 with h4 | h4
    ·exact .inr (.inl h4)
    ·exact .inr (.inr h4)
end Go.Sp
namespace Go.Sp

theorem Sim.of_heap {H:AHeap} {R:Ren} {w w':World} (h:Sim H R w) (e:w'.heap=w.heap):Sim H R w':=
 ⟨fun id c β h1=>by rw[e];exact h.dom id c β h1,fun id c β h1=>by rw[e];exact h.obj id c β h1,h.sep,h.anc,h.wf,fun c C h1=>by rw[e];exact h.ro c C h1⟩
theorem frozen_of_heap {w w':World} (e:w'.heap=w.heap) (a:Addr):w'.frozen? a=w.frozen? a:=by unfold World.frozen?;rw[e]
theorem frozen_of_rows {w w':World} (h:∀ c:Nat,(∀ C t fz,w.heap[c]?=some (.cells C t fz)→∃ C' t',w'.heap[c]?=some (.cells C' t' fz))∧((∀ C t fz,w.heap[c]?≠some (.cells C t fz))→∀ C t fz,w'.heap[c]?=some (.cells C t fz)→fz=(0,0))) (a:Addr):w'.frozen? a=w.frozen? a:=by
 obtain⟨h1,h2⟩:=h a.block
 unfold World.frozen?
 cases hw:w.heap[a.block]? with
 | none =>
  cases hw':w'.heap[a.block]? with
  | none=>rfl
  | some o' =>
   cases o' with
   | cells C t fz=>have:=h2 (by rw[hw];simp) C t fz hw';subst this;simp
   | _=>rfl
 | some o =>
  cases o with
  | cells C t fz =>
   obtain⟨C',t',e⟩:=h1 C t fz hw
   rw[e]
  | _ =>
   cases hw':w'.heap[a.block]? with
   | none=>rfl
   | some o' =>
    cases o' with
    | cells C t fz=>have:=h2 (by rw[hw];simp) C t fz hw';subst this;simp
    | _=>rfl
theorem frozen_alloc (w:World) {ob:Obj} (hob:∀ C t fz,ob = .cells C t fz→fz=(0,0)) (a:Addr):(w.alloc ob).frozen? a=w.frozen? a:=by
 refine frozen_of_rows (fun c=>?_) a
 rcases Nat.lt_trichotomy c w.heap.size with h | h | h
 ·rw[show (w.alloc ob).heap[c]?=w.heap[c]? from by show (w.heap.push ob)[c]?=_;rw[Array.getElem?_push,if_neg (by omega)]]
  exact⟨fun C t fz e=>⟨C,t,e⟩,fun hn C t fz e=>absurd e (hn C t fz)⟩
 ·subst h
  rw[show (w.alloc ob).heap[w.heap.size]?=some ob from by show (w.heap.push ob)[w.heap.size]?=_;simp]
  refine⟨fun C t fz e=>by simp at e,fun _ C t fz e=>hob C t fz (by injection e)⟩
 ·rw[show (w.alloc ob).heap[c]?=none from by show (w.heap.push ob)[c]?=_;rw[Array.getElem?_eq_none (by simp;omega)]]
  refine⟨fun C t fz e=>?_,fun _ C t fz e=>by cases e⟩
  rw[Array.getElem?_eq_none (by omega)] at e;cases e
theorem frozen_setRow (w:World) (g:Nat) (cs:Array Value) (a:Addr):(w.setRow g cs).frozen? a=w.frozen? a:=by
 refine frozen_of_rows (fun c=>?_) a
 have hm:(w.setRow g cs).heap[c]?=if g=c then (w.heap[c]?).map (fun | .cells _ elem frozen=>.cells cs elem frozen | o=>o) else w.heap[c]?:=by
  show (w.heap.modify g _)[c]?=_
  rw[Array.getElem?_modify]
  by_cases hgc:g=c
  ·rw[if_pos hgc,if_pos hgc]
   cases w.heap[c]? with
   | none=>rfl
   | some o=>cases o <;> rfl
  ·rw[if_neg hgc,if_neg hgc]
 rw[hm]
 split
 ·cases hw:w.heap[c]? with
  | none=>exact⟨fun C t fz e=>by simp at e,fun _ C t fz e=>by simp at e⟩
  | some o =>
   cases o with
   | cells C t fz=>exact⟨fun C' t' fz' e=>⟨cs,t',by simp at e ⊢;obtain⟨_,e2,e3⟩:=e;exact⟨e2,e3⟩⟩,fun hn=>absurd rfl (hn C t fz)⟩
   | _=>exact⟨fun C t fz e=>by simp at e,fun _ C t fz e=>by simp at e⟩
 ·exact⟨fun C t fz e=>⟨C,t,e⟩,fun hn C t fz e=>absurd e (hn C t fz)⟩
theorem frozen_setMap {w:World} {c:Nat} {es es':Array MapEntry} {cl cl':Nat} (h:w.heap[c]?=some (.map es cl)) (a:Addr):World.frozen? { w with heap:=w.heap.setIfInBounds c (.map es' cl') } a=w.frozen? a:=by
 refine frozen_of_rows (fun k=>?_) a
 show (∀ C t fz,_→∃ C' t',(w.heap.setIfInBounds c (.map es' cl'))[k]?=_)∧(_→∀ C t fz,(w.heap.setIfInBounds c (.map es' cl'))[k]?=_→_)
 rw[Array.getElem?_setIfInBounds]
 by_cases hk:c=k
 ·subst hk
  rw[if_pos rfl,h]
  exact⟨fun C t fz e=>by simp at e,fun _ C t fz e=>by split at e <;> simp at e⟩
 ·rw[if_neg hk]
  exact⟨fun C t fz e=>⟨C,t,e⟩,fun hn C t fz e=>absurd e (hn C t fz)⟩
theorem Post.of_heap {H H':AHeap} {R R':Ren} {w w' w2:World} (h:Post H R w H' R' w') (e:w2.heap=w'.heap) (e1:w2.os=w'.os) (e2:w2.output=w'.output):Post H R w H' R' w2:=
 ⟨h.le,h.new,h.sim.of_heap e,h.next,by rw[e];exact h.grow,fun c hc hall=>by rw[e];exact h.frame c hc hall,h.calm,h.imm,h.fresh,⟨e1.trans h.side.1,e2.trans h.side.2.1,fun a ha=>(frozen_of_heap e a).trans (h.side.2.2 a ha)⟩,h.rofresh⟩
theorem Post.from_heap {H H':AHeap} {R R':Ren} {w w' w0:World} (h:Post H R w0 H' R' w') (e:w0.heap=w.heap) (e1:w0.os=w.os) (e2:w0.output=w.output):Post H R w H' R' w':=
 ⟨h.le,h.new,h.sim,h.next,by rw[←e];exact h.grow,fun c hc hall=>by rw[←e];exact h.frame c (by rw[e];exact hc) hall,h.calm,h.imm,fun id c β h1 h2=>by rw[←e];exact h.fresh id c β h1 h2,⟨h.side.1.trans e1,h.side.2.1.trans e2,fun a ha=>(h.side.2.2 a (by rw[e];exact ha)).trans (frozen_of_heap e a)⟩,fun c C h1=>by rw[←e];exact h.rofresh c C h1⟩

def Ren.ext (R:Ren) (id c β n:Nat):Ren:=⟨fun i=>if i=id then some (c,β) else R.f i,fun k=>if k=c then n else R.sz k,R.ro⟩
theorem Ren.ext_new (R:Ren) (id c β n:Nat):(R.ext id c β n).f id=some (c,β):=by simp[Ren.ext]
theorem Ren.ext_sz (R:Ren) (id c β n:Nat):(R.ext id c β n).sz c=n:=by simp[Ren.ext]
theorem Ren.ext_other (R:Ren) {id c β n i:Nat} (h:i≠id):(R.ext id c β n).f i=R.f i:=by simp[Ren.ext,h]

theorem heap_alloc_lt (w:World) (o:Obj) {c:Nat} (h:c < w.heap.size):(w.alloc o).heap[c]?=w.heap[c]?:=by
 show (w.heap.push o)[c]?=_
 rw[Array.getElem?_push,if_neg (by omega)]
theorem heap_alloc_at (w:World) (o:Obj):(w.alloc o).heap[w.heap.size]?=some o:=by
 show (w.heap.push o)[w.heap.size]?=_
 simp

theorem Sim.none_of_next {H:AHeap} {R:Ren} {w:World} (h:Sim H R w):R.f H.next=none:=by
 cases hr:R.f H.next with
 | none=>rfl
 | some q=>have:=(h.dom H.next q.1 q.2 hr).1;omega

theorem post_push {H:AHeap} {R:Ren} {w:World} {o:AObj} {ob:Obj} (n:Nat) (hs:Sim H R w) (hob:∀ C t fz,ob = .cells C t fz→fz=(0,0))
 (hanc:∀ a,a∈o.ancOf→a < H.next∧(H.get a).immB=false∧(H.get a).writable=false) (hR:∀ R',R.le R'→R'.sz w.heap.size=n→ObjR R' o w.heap.size 0 (some ob)) :
 Post H R w (H.push o) (R.ext H.next w.heap.size 0 n) (w.alloc ob):=by
 have hnone:=hs.none_of_next
 have hle:R.le (R.ext H.next w.heap.size 0 n):=⟨fun id c β h=>by
  have hd:=hs.dom id c β h
  refine⟨?_,?_⟩
  ·rw[Ren.ext_other];exact h;omega
  ·simp[Ren.ext];omega,fun _ _ h=>h⟩
 have back:∀ id p,(R.ext H.next w.heap.size 0 n).f id=some p→(id=H.next∧p=(w.heap.size,0))∨(id≠H.next∧R.f id=some p):=fun id p h=>by
  by_cases hid:id=H.next
  ·subst hid;rw[Ren.ext_new] at h;exact .inl ⟨rfl,by injection h with h;exact h.symm⟩
  ·rw[Ren.ext_other _ hid] at h;exact .inr ⟨hid,h⟩
 have hget:∀ id,id≠H.next→(H.push o).get id=H.get id:=fun id h=>by rw[AHeap.get_push,if_neg (Ne.symm h)]
 refine⟨hle,?_,⟨?_,?_,?_,?_,hs.wf.push o,fun c C hc=>?_⟩,by simp,by simp,?_,?_,?_,?_,⟨rfl,rfl,fun a _=>frozen_alloc w hob a⟩,fun _ _ h=>.inl h⟩
 ·intro id p h
  rcases back id p h with⟨rfl,_⟩ | ⟨_,h'⟩
  ·exact .inr ⟨hnone,Nat.le_refl _⟩
  ·exact .inl h'
 ·intro id c β h
  rcases back id _ h with⟨rfl,hp⟩ | ⟨_,h'⟩
  ·cases hp;simp
  ·have:=hs.dom id c β h';simp;omega
 ·intro id c β h
  rcases back id _ h with⟨rfl,hp⟩ | ⟨hid,h'⟩
  ·cases hp
   rw[AHeap.get_push,if_pos rfl,heap_alloc_at]
   exact hR _ hle (Ren.ext_sz _ _ _ _ _)
  ·have hd:=hs.dom id c β h'
   rw[hget id hid,heap_alloc_lt _ _ hd.2]
   exact(hs.obj id c β h').mono hle (hle id c β h').2
 ·intro id c β id' β' h h' hne hw
  rcases back id _ h with⟨rfl,hp⟩ | ⟨hid,h1⟩
  ·cases hp
   rcases back id' _ h' with⟨rfl,hp'⟩ | ⟨hid',h1'⟩
   ·exact absurd rfl hne
   ·have:=(hs.dom id' _ _ h1').2;omega
  ·rcases back id' _ h' with⟨rfl,hp'⟩ | ⟨hid',h1'⟩
   ·cases hp';have:=(hs.dom id _ _ h1).2;omega
   ·rw[hget id hid] at hw ⊢
    rw[hget id' hid']
    exact hs.sep id c β id' β' h1 h1' hne hw
 ·intro id a ha
  have key:a < H.next∧(H.get a).immB=false∧(H.get a).writable=false:=by
   by_cases hid:id=H.next
   ·subst hid;rw[AHeap.get_push,if_pos rfl] at ha;exact hanc a ha
   ·rw[hget id hid] at ha;exact hs.anc id a ha
  rw[hget a (by omega)]
  exact⟨by simp;omega,key.2⟩
 ·obtain⟨⟨t,fz,h1⟩,h2⟩:=hs.ro c C hc
  have hlt:=(Array.getElem?_eq_some_iff.1 h1).1
  refine⟨⟨t,fz,by rw[heap_alloc_lt _ _ hlt];exact h1⟩,fun id β h=>?_⟩
  rcases back id _ h with⟨rfl,hp⟩ | ⟨hid,h'⟩
  ·cases hp;omega
  ·rw[hget id hid];exact h2 id β h'
 ·intro c hc _;exact heap_alloc_lt _ _ hc
 ·intro id hid _;rw[hget id (by omega)];exact fun _ _ _ _ h=>h
 ·intro id hid _;exact hget id (by omega)
 ·intro id c β h hr
  rcases back id _ h with⟨rfl,hp⟩ | ⟨_,h1⟩
  ·cases hp;exact .inl (Nat.le_refl _)
  ·rw[h1] at hr;cases hr

theorem cellsR_of_VRL {R:Ren} {xs ys:List Value} (h:VRL R xs ys) (ext:List Value):CellsR R xs 0 (ys++ext).toArray:=fun i x hx=>by
 obtain⟨y,hy,hv⟩:=h.get hx
 refine⟨y,?_,hv⟩
 have hi:i < ys.length:=(List.getElem?_eq_some_iff.1 hy).1
 simp[List.getElem?_append_left hi,hy]

theorem post_cells {H:AHeap} {R:Ren} {w:World} {xs ys:List Value} (t:TypeId) (ext:List Value) (imm:Bool) (hs:Sim H R w) (h:VRL R xs ys) (spent:Bool) (anc:List Nat) (hanc:∀ a,a∈anc→a < H.next∧(H.get a).immB=false∧(H.get a).writable=false) :
 Post H R w (H.push (.cells xs imm spent anc)) (R.ext H.next w.heap.size 0 (ys++ext).length) (w.alloc (.cells (ys++ext).toArray t)):=
 post_push _ hs (fun C t fz e=>by injection e with _ _ e;exact e.symm) hanc fun R' hle hsz=>⟨(ys++ext).toArray,t,(0,0),rfl,by rw[hsz];simp,by simp[h.1],cellsR_of_VRL (h.mono hle) ext,fun _=>rfl⟩

theorem setRow_size (w:World) (g:Nat) (cs:Array Value):(w.setRow g cs).heap.size=w.heap.size:=by simp[World.setRow]

theorem oneCell_of {R:Ren} {x y:Value} (h:VR R x y) (hx:scalarB x=true):y.oneCell'=true:=by
 cases h <;> first | rfl | (simp[scalarB,vv] at hx;done) | (cases hx)
theorem oneCells_of {R:Ren} {xs ys:List Value} (h:VRL R xs ys) (hx:xs.all scalarB=true):∀ v∈ys,v.oneCell'=true:=fun v hv=>by
 obtain⟨i,hi⟩:=List.mem_iff_getElem?.1 hv
 have hl:i < xs.length:=by rw[h.1];exact(List.getElem?_eq_some_iff.1 hi).1
 have hxi:xs[i]?=some xs[i]:=List.getElem?_eq_getElem hl
 exact oneCell_of (h.2 i _ v hxi hi) (List.all_eq_true.1 hx _ (List.mem_of_getElem? hxi))

theorem awrite_some {H H':AHeap} {id off:Nat} {ys:List Value} (h:awrite H id off ys=some H') :
 ∃ xs anc,H.get id = .cells xs false false anc∧off+ys.length≤xs.length∧ys.all scalarB=true∧H'=(H.kill anc).set id (.cells (setL ys off xs) false false []):=by
 unfold awrite at h
 cases ho:H.get id with
 | cells xs imm spent anc =>
  simp only[ho,oCells,oo_some,an_eq,nt_eq,len_eq,allL_eq,bb_eq] at h
  split at h
  ·rename_i hc
   simp only[Bool.and_eq_true,Bool.not_eq_true'] at hc
   obtain⟨hi,hsp,hle,hall⟩:=hc
   subst hi;subst hsp
   injection h with h
   exact⟨xs,anc,rfl,Nat.le_of_ble_eq_true hle,hall,h.symm⟩
  ·cases h
 | map es c=>simp[ho,oCells] at h
 | iter=>simp[ho,oCells] at h
 | dead=>simp[ho,oCells] at h

theorem post_write {H H':AHeap} {R:Ren} {w:World} {id off c β:Nat} {ys zs:List Value} (hs:Sim H R w) (hw:awrite H id off ys=some H') (hid:R.f id=some (c,β)) (hz:VRL R ys zs) :
 ∃ C t, w.heap[c]? = some (.cells C t (0, 0)) ∧ β + off + zs.length ≤ C.size ∧ (∀ v ∈ zs, v.oneCell' = true) ∧
  Post H R w H' R (w.setRow c (C.toList.take (β+off)++zs++C.toList.drop (β+off+zs.length)).toArray):=by
 obtain⟨xs,anc,hg,hle,hsc,rfl⟩:=awrite_some hw
 have hob:=hs.obj id c β hid
 rw[hg] at hob
 obtain⟨C,t,fz,hC,hsz,hfit,hcells,hfz⟩:=hob
 have hfz:=hfz rfl
 subst hfz
 have hzl:=hz.1
 have hd:=hs.dom id c β hid
 refine ⟨C, t, hC, by omega, oneCells_of hz hsc, Ren.le_refl R, fun i p h => .inl h, ⟨?_, ?_, ?_, ?_, (hs.wf.kill anc).set (by simpa using hd.1) _, fun c' C' hc' => ?_⟩, by simp, by rw [setRow_size]; exact Nat.le_refl _, ?_, ?_, ?_, fun i c' β' h h' => (by rw [h] at h'; cases h'), ⟨rfl, rfl, fun a _ => frozen_setRow w c _ a⟩, fun _ _ h => .inl h⟩
 ·intro i c' β' h
  have := hs.dom i c' β' h
  rw[setRow_size];simpa using this
 ·intro i c' β' h
  have hnew:(C.toList.take (β+off)++zs++C.toList.drop (β+off+zs.length)).toArray.size=C.size:=by simp;omega
  by_cases hi:i=id
  ·subst hi
   rw[hid] at h;cases h
   rw[AHeap.get_set,if_pos rfl,setRow_heap w c C _ t (0,0) hC]
   refine⟨_,t,(0,0),rfl,by rw[hnew,hsz],by rw[hnew,setL_length _ _ _ hle];exact hfit,?_,fun _=>rfl⟩
   intro j x hx
   rw[setL_get _ _ _ hle] at hx
   split at hx
   ·rename_i hj
    obtain⟨y,hy,hv⟩:=hz.get hx
    refine⟨y,?_,hv⟩
    simp only[List.getElem?_toArray]
    rw[List.append_assoc,List.getElem?_append_right (by simp;omega),List.getElem?_append_left (by simp;omega)]
    rw[←hy];congr 1;simp;omega
   ·rename_i hj
    obtain⟨y,hy,hv⟩:=hcells j x hx
    refine⟨y,?_,hv⟩
    simp only[List.getElem?_toArray]
    have hjx:j < xs.length:=(List.getElem?_eq_some_iff.1 hx).1
    by_cases hlt:j < off
    ·rw[List.append_assoc,List.getElem?_append_left (by simp;omega),List.getElem?_take_of_lt (by omega)]
     simpa using hy
    ·rw[List.getElem?_append_right (by simp;omega),List.getElem?_drop]
     rw[←hy]
     simp only[Array.getElem?_toList]
     congr 1;simp;omega
  ·by_cases hc:c'=c
   ·subst hc
    have hsep := hs.sep id c' β i β' hid h (Ne.symm hi) (by rw [hg]; rfl)
    have hdead:((H.kill anc).set id (.cells (setL ys off xs) false false [])).get i = .dead:=by
     rw[AHeap.get_set,if_neg (Ne.symm hi),AHeap.get_kill]
     rcases hsep with h1 | ⟨h1,_⟩
     ·split
      ·rfl
      ·exact h1
     ·have h1:i∈anc:=by rw[hg] at h1;exact h1
      rw[if_pos h1]
    rw[hdead];trivial
   ·rw[setRow_other _ _ _ _ hc,AHeap.get_set,if_neg (Ne.symm hi),AHeap.get_kill]
    split
    ·trivial
    ·exact hs.obj i c' β' h
 ·intro i c' β' i' β'' h h' hne hwr
  have hgi:∀ j,j≠id→((H.kill anc).set id (.cells (setL ys off xs) false false [])).get j=if j∈anc then .dead else H.get j:=fun j hj=>by rw[AHeap.get_set,if_neg (Ne.symm hj),AHeap.get_kill]
  by_cases hi:i=id
  ·subst hi
   rw[hgi i' (Ne.symm hne)]
   have hsep := hs.sep i c' β' i' β'' h h' hne (by rw [hg]; rfl)
   rcases hsep with h1 | ⟨h1,_⟩
   ·left;split
    ·rfl
    ·exact h1
   ·left
    have h1:i'∈anc:=by rw[hg] at h1;exact h1
    rw[if_pos h1]
  ·rw[hgi i hi] at hwr ⊢
   by_cases ha:i∈anc
   ·rw[if_pos ha] at hwr;simp[AObj.writable] at hwr
   ·rw[if_neg ha] at hwr ⊢
    have hsep := hs.sep i c' β' i' β'' h h' hne hwr
    by_cases hi':i'=id
    ·subst hi'
     rcases hsep with h1 | ⟨h1,h2⟩
     ·rw[hg] at h1;cases h1
     ·right
      refine⟨h1,?_⟩
      rw[AHeap.get_set,if_pos rfl]
      rw[hg] at h2
      simpa [AObj.size,setL_length _ _ _ hle] using h2
    ·rw[hgi i' hi']
     rcases hsep with h1 | ⟨h1,h2⟩
     ·left;split
      ·rfl
      ·exact h1
     ·by_cases ha':i'∈anc
      ·left;rw[if_pos ha']
      ·right;rw[if_neg ha'];exact⟨h1,h2⟩
 ·intro i a ha
  have key:a < H.next∧(H.get a).immB=false∧(H.get a).writable=false:=by
   rw[AHeap.get_set] at ha
   split at ha
   ·simp[AObj.ancOf] at ha
   ·rw[AHeap.get_kill] at ha
    split at ha
    ·simp[AObj.ancOf] at ha
    ·exact hs.anc i a ha
  refine⟨by simpa using key.1,?_⟩
  rw[AHeap.get_set]
  split
  ·rename_i he;subst he;have:=key.2.2;rw[hg] at this;cases this
  ·rw[AHeap.get_kill];split
   ·exact⟨rfl,rfl⟩
   ·exact key.2
 ·obtain⟨⟨t',fz',h1⟩,h2⟩:=hs.ro c' C' hc'
  have hne:c'≠c:=fun e=>by subst e;have:=h2 id β hid;rw[hg] at this;cases this
  refine ⟨⟨t', fz', by rw [setRow_other _ _ _ _ hne]; exact h1⟩, fun i β' h => ?_⟩
  have := h2 i β' h
  rw[AHeap.get_set]
  split
  ·rename_i he;subst he;rw[hg] at this;cases this
  ·rw[AHeap.get_kill];split
   ·rfl
   ·exact this
 ·intro c' hc' hall
  by_cases h:c'=c
  ·subst h
   have:=hall id β hid
   rw[hg] at this;cases this
  ·exact setRow_other _ _ _ _ h
 ·intro i hi hr
  by_cases h:i=id
  ·subst h;rw[hid] at hr;cases hr
  ·rw[AHeap.get_set,if_neg (Ne.symm h),AHeap.get_kill]
   split
   ·exact fun _ _ _ _ _=>trivial
   ·exact fun _ _ _ _ h=>h
 ·intro i hi him
  by_cases h:i=id
  ·subst h;rw[hg] at him;cases him
  ·rw[AHeap.get_set,if_neg (Ne.symm h),AHeap.get_kill]
   split
   ·rename_i hin
    have:=(hs.anc id i (by rw[hg];exact hin)).2.1
    rw[him] at this;cases this
   ·rfl

theorem post_map {H:AHeap} {R:Ren} {w:World} {id c clock clock':Nat} {es es':List Ent} {Es':Array MapEntry} (hs:Sim H R w) (hg:H.get id = .map es clock) (hid:R.f id=some (c,0)) (hE:EntsR R es' Es'.toList) :
 Post H R w (H.set id (.map es' clock')) R { w with heap:=w.heap.setIfInBounds c (.map Es' clock') }:=by
 have hd:=hs.dom id c 0 hid
 have hother:∀ j,j≠id→(H.set id (.map es' clock')).get j=H.get j:=fun j hj=>by rw[AHeap.get_set,if_neg (Ne.symm hj)]
 have hself:(H.set id (.map es' clock')).get id = .map es' clock':=by rw[AHeap.get_set,if_pos rfl]
 obtain⟨Es0,hmap⟩:∃ Es0,w.heap[c]?=some (.map Es0 clock):=by
  have h9:=hs.obj id c 0 hid
  rw[hg] at h9
  obtain⟨_,Es0,h10,_⟩:=h9
  exact⟨Es0,h10⟩
 have hheap:∀ k,k≠c→(w.heap.setIfInBounds c (.map Es' clock'))[k]?=w.heap[k]?:=fun k hk=>by rw[Array.getElem?_setIfInBounds_ne (Ne.symm hk)]
 refine ⟨Ren.le_refl R, fun i p h => .inl h, ⟨?_, ?_, ?_, ?_, hs.wf.set hd.1 _, fun c' C' hc' => ?_⟩, by simp, by simp, ?_, ?_, ?_, fun i c' β' h h' => (by rw [h] at h'; cases h'), ⟨rfl, rfl, fun a _ => frozen_setMap hmap a⟩, fun _ _ h => .inl h⟩
 ·intro i c' β' h
  have := hs.dom i c' β' h
  simpa using this
 ·intro i c' β' h
  show ObjR R _ c' β' (w.heap.setIfInBounds c (.map Es' clock'))[c']?
  by_cases hi:i=id
  ·subst hi
   rw[hid] at h;cases h
   rw[hself]
   refine⟨rfl,Es',?_,hE⟩
   simp[hd.2]
  ·rw[hother i hi]
   by_cases hc:c'=c
   ·subst hc
    have hsep := hs.sep id c' 0 i β' hid h (Ne.symm hi) (by rw [hg]; rfl)
    rcases hsep with h1 | ⟨h1,_⟩
    ·rw[h1];trivial
    ·rw[hg] at h1;cases h1
   ·rw [hheap c' hc]; exact hs.obj i c' β' h
 ·intro i c' β' i' β'' h h' hne hwr
  by_cases hi:i=id
  ·subst hi
   have hsep := hs.sep i c' β' i' β'' h h' hne (by rw [hg]; rfl)
   rw[hother i' (Ne.symm hne)]
   rcases hsep with h1 | ⟨h1,_⟩
   ·exact .inl h1
   ·rw[hg] at h1;cases h1
  ·rw[hother i hi] at hwr ⊢
   have hsep := hs.sep i c' β' i' β'' h h' hne hwr
   by_cases hi':i'=id
   ·subst hi'
    rcases hsep with h1 | ⟨h1,h2⟩
    ·rw[hg] at h1;cases h1
    ·right
     refine⟨h1,?_⟩
     rw[hself]
     rw[hg] at h2
     exact h2
   ·rw[hother i' hi'];exact hsep
 ·intro i a ha
  have key:a < H.next∧(H.get a).immB=false∧(H.get a).writable=false:=by
   by_cases hi:i=id
   ·subst hi;rw[hself] at ha;cases ha
   ·rw[hother i hi] at ha;exact hs.anc i a ha
  refine⟨by simpa using key.1,?_⟩
  by_cases ha':a=id
  ·subst ha';have:=key.2.2;rw[hg] at this;cases this
  ·rw[hother a ha'];exact key.2
 ·obtain⟨⟨t',fz',h1⟩,h2⟩:=hs.ro c' C' hc'
  have hne:c'≠c:=fun e=>by subst e;have:=h2 id 0 hid;rw[hg] at this;cases this
  refine ⟨⟨t', fz', ?_⟩, fun i β' h => ?_⟩
  ·show (w.heap.setIfInBounds c (.map Es' clock'))[c']?=_
   rw[hheap c' hne];exact h1
  ·have := h2 i β' h
   by_cases hi:i=id
   ·subst hi;rw[hg] at this;cases this
   ·rw[hother i hi];exact this
 ·intro c' hc' hall
  show (w.heap.setIfInBounds c (.map Es' clock'))[c']?=_
  by_cases h:c'=c
  ·subst h;have:=hall id 0 hid;rw[hg] at this;cases this
  ·exact hheap c' h
 ·intro i hi hr
  by_cases h:i=id
  ·subst h;rw[hid] at hr;cases hr
  ·rw[hother i h];exact fun _ _ _ _ h=>h
 ·intro i hi him
  by_cases h:i=id
  ·subst h;rw[hg] at him;cases him
  ·exact hother i h

theorem post_spend {H:AHeap} {R:Ren} {w:World} {id:Nat} {xs:List Value} {anc:List Nat} (hs:Sim H R w) (hg:H.get id = .cells xs false false anc) :
 Post H R w (H.set id (.cells xs false true anc)) R w:=by
 have hother:∀ j,j≠id→(H.set id (.cells xs false true anc)).get j=H.get j:=fun j hj=>by rw[AHeap.get_set,if_neg (Ne.symm hj)]
 have hself:(H.set id (.cells xs false true anc)).get id = .cells xs false true anc:=by rw[AHeap.get_set,if_pos rfl]
 refine ⟨Ren.le_refl R, fun i p h => .inl h, ⟨?_, ?_, ?_, ?_, hs.wf.set (hs.wf.lt (by rw [hg]; simp)) _, fun c' C' hc' => ⟨(hs.ro c' C' hc').1, fun i β' h => ?_⟩⟩, by simp, Nat.le_refl _, fun _ _ _ => rfl, ?_, ?_, fun i c' β' h h' => (by rw [h] at h'; cases h'), ⟨rfl, rfl, fun _ _ => rfl⟩, fun _ _ h => .inl h⟩
 ·intro i c' β' h
  have := hs.dom i c' β' h
  simpa using this
 ·intro i c' β' h
  by_cases hi:i=id
  ·subst hi
   have := hs.obj i c' β' h
   rw[hg] at this
   rw[hself]
   exact this
  ·rw [hother i hi]; exact hs.obj i c' β' h
 ·intro i c' β' i' β'' h h' hne hwr
  by_cases hi:i=id
  ·subst hi;rw[hself] at hwr;cases hwr
  ·rw[hother i hi] at hwr ⊢
   have hsep := hs.sep i c' β' i' β'' h h' hne hwr
   by_cases hi':i'=id
   ·subst hi'
    rcases hsep with h1 | ⟨h1,h2⟩
    ·rw[hg] at h1;cases h1
    ·right
     refine⟨h1,?_⟩
     rw[hself]
     rw[hg] at h2
     exact h2
   ·rw[hother i' hi'];exact hsep
 ·intro i a ha
  have key:a < H.next∧(H.get a).immB=false∧(H.get a).writable=false:=by
   by_cases hi:i=id
   ·subst hi;rw[hself] at ha;exact hs.anc i a (by rw[hg];exact ha)
   ·rw[hother i hi] at ha;exact hs.anc i a ha
  refine⟨by simpa using key.1,?_⟩
  by_cases ha':a=id
  ·subst ha';rw[hself];exact⟨rfl,rfl⟩
  ·rw[hother a ha'];exact key.2
 ·by_cases hi:i=id
  ·subst hi;rw[hself];rfl
  ·rw [hother i hi]; exact (hs.ro c' C' hc').2 i β' h
 ·intro i hi hr
  by_cases h:i=id
  ·subst h;rw[hself,hg];exact fun _ _ _ _ h=>h
  ·rw[hother i h];exact fun _ _ _ _ h=>h
 ·intro i hi him
  by_cases h:i=id
  ·subst h;rw[hg] at him;cases him
  ·exact hother i h

theorem post_tip {H:AHeap} {R:Ren} {w:World} {id off c β:Nat} {xs ys zs:List Value} {anc:List Nat} (hs:Sim H R w) (hg:H.get id = .cells xs false false anc) (hid:R.f id=some (c,β))
 (hoff:off≤xs.length) (hz:VRL R ys zs) {C:Array Value} {t:TypeId} (hC:w.heap[c]?=some (.cells C t (0,0))) (hfit:β+xs.length+zs.length≤C.size) :
 Post H R w ((H.set id (.cells xs false true anc)).push (.cells (xs.drop off ++ ys) false false (id :: anc))) (R.ext H.next c (β + off) (R.sz c))
  (w.setRow c (C.toList.take (β+xs.length)++zs++C.toList.drop (β+xs.length+zs.length)).toArray):=by
 have hnone:=hs.none_of_next
 have hd:=hs.dom id c β hid
 have hob:=hs.obj id c β hid
 rw[hg] at hob
 obtain⟨C',t',fz,hC',hsz,hfitx,hcells,hfz⟩:=hob
 rw[hC] at hC';cases hC'
 have hsame:∀ k,(R.ext H.next c (β+off) (R.sz c)).sz k=R.sz k:=fun k=>by simp only[Ren.ext];split <;> simp_all
 have hle : R.le (R.ext H.next c (β + off) (R.sz c)) := ⟨fun i c' β' h => ⟨by rw [Ren.ext_other]; exact h; have := (hs.dom i c' β' h).1; omega, hsame _⟩, fun _ _ h => h⟩
 have back:∀ i p,(R.ext H.next c (β+off) (R.sz c)).f i=some p→(i=H.next∧p=(c,β+off))∨(i≠H.next∧R.f i=some p):=fun i p h=>by
  by_cases hi:i=H.next
  ·subst hi;rw[Ren.ext_new] at h;exact .inl ⟨rfl,by injection h with h;exact h.symm⟩
  ·rw[Ren.ext_other _ hi] at h;exact .inr ⟨hi,h⟩
 have hnext:((H.set id (.cells xs false true anc)).push (.cells (xs.drop off++ys) false false (id::anc))).get H.next = .cells (xs.drop off++ys) false false (id::anc):=by
  rw[AHeap.get_push,if_pos (by simp)]
 have hget:∀ i,i≠H.next→i≠id→((H.set id (.cells xs false true anc)).push (.cells (xs.drop off++ys) false false (id::anc))).get i=H.get i:=fun i h1 h2=>by
  rw[AHeap.get_push,if_neg (by simp;exact Ne.symm h1),AHeap.get_set,if_neg (Ne.symm h2)]
 have hself:((H.set id (.cells xs false true anc)).push (.cells (xs.drop off++ys) false false (id::anc))).get id = .cells xs false true anc:=by
  rw[AHeap.get_push,if_neg (by simp;omega),AHeap.get_set,if_pos rfl]
 have hnew:(C.toList.take (β+xs.length)++zs++C.toList.drop (β+xs.length+zs.length)).toArray.size=C.size:=by simp;omega
 have hzl:=hz.1
 have keepCell:∀ k,k < β+xs.length→(C.toList.take (β+xs.length)++zs++C.toList.drop (β+xs.length+zs.length)).toArray[k]?=C[k]?:=fun k hk=>by
  simp only[List.getElem?_toArray]
  rw[List.append_assoc,List.getElem?_append_left (by simp;omega),List.getElem?_take_of_lt (by omega)]
  simp
 refine⟨hle,?_,⟨?_,?_,?_,?_,(hs.wf.set hd.1 _).push _,fun c' C' hc'=>?_⟩,by simp,by rw[setRow_size];exact Nat.le_refl _,?_,?_,?_,?_,⟨rfl,rfl,fun a _=>frozen_setRow w c _ a⟩,fun _ _ h=>.inl h⟩
 ·intro i p h
  rcases back i p h with⟨rfl,_⟩ | ⟨_,h'⟩
  ·exact .inr ⟨hnone,Nat.le_refl _⟩
  ·exact .inl h'
 ·intro i c' β' h
  rw[setRow_size]
  rcases back i _ h with⟨rfl,hp⟩ | ⟨_,h'⟩
  ·cases hp;simp;exact hd.2
  ·have := hs.dom i c' β' h'; simp; omega
 ·intro i c' β' h
  rcases back i _ h with⟨rfl,hp⟩ | ⟨hi,h'⟩
  ·cases hp
   rw[hnext,setRow_heap w c C _ t (0,0) hC]
   refine⟨_,t,(0,0),rfl,by rw[hnew,hsame,hsz],by rw[hnew];simp;omega,?_,fun _=>rfl⟩
   intro j x hx
   by_cases hj:j < xs.length - off
   ·rw[List.getElem?_append_left (by simp;exact hj),List.getElem?_drop] at hx
    obtain⟨y,hy,hv⟩:=hcells (off+j) x hx
    refine⟨y,?_,hv.mono hle⟩
    rw[show β+off+j=β+(off+j) by omega,keepCell _ (by omega)]
    exact hy
   ·rw[List.getElem?_append_right (by simp;omega)] at hx
    obtain⟨y,hy,hv⟩:=hz.get hx
    refine⟨y,?_,hv.mono hle⟩
    have hjy:j - (List.drop off xs).length < zs.length:=(List.getElem?_eq_some_iff.1 hy).1
    simp at hjy
    simp only[List.getElem?_toArray]
    rw[List.append_assoc,List.getElem?_append_right (by simp;omega),List.getElem?_append_left (by simp;omega),←hy]
    congr 1;simp;omega
  ·by_cases hii:i=id
   ·subst hii
    rw[hid] at h';cases h'
    rw[hself,setRow_heap w c C _ t (0,0) hC]
    refine⟨_,t,(0,0),rfl,by rw[hnew,hsame,hsz],by rw[hnew];exact hfitx,?_,fun _=>rfl⟩
    intro j x hx
    obtain⟨y,hy,hv⟩:=hcells j x hx
    have hjx:j < xs.length:=(List.getElem?_eq_some_iff.1 hx).1
    exact⟨y,by rw[keepCell _ (by omega)];exact hy,hv.mono hle⟩
   ·rw[hget i hi hii]
    by_cases hc:c'=c
    ·subst hc
     have hsep := hs.sep id c' β i β' hid h' (Ne.symm hii) (by rw [hg]; rfl)
     rcases hsep with h1 | ⟨h1,h2⟩
     ·rw[h1];trivial
     ·have ho := hs.obj i c' β' h'
      rw[setRow_heap w c' C _ t (0,0) hC]
      cases hgi:H.get i with
      | dead=>trivial
      | cells xs' imm' sp' anc' =>
       rw[hgi] at ho
       obtain⟨C1,t1,fz1,hC1,hsz1,hfit1,hcells1,hfz1⟩:=ho
       rw[hC] at hC1;cases hC1
       rw[hgi,hg] at h2
       simp only[AObj.size] at h2
       refine⟨_,t,(0,0),rfl,by rw[hnew,hsame,hsz1],by rw[hnew];exact hfit1,?_,fun _=>rfl⟩
       intro j x hx
       obtain⟨y,hy,hv⟩:=hcells1 j x hx
       have hjx:j < xs'.length:=(List.getElem?_eq_some_iff.1 hx).1
       exact⟨y,by rw[keepCell _ (by omega)];exact hy,hv.mono hle⟩
      | map es cl=>rw[hgi] at ho;obtain⟨_,Es,h3,_⟩:=ho;rw[hC] at h3;cases h3
      | iter=>rw[hgi] at ho;obtain⟨_,_,_,h3,_⟩:=ho;rw[hC] at h3;cases h3
    ·rw[setRow_other _ _ _ _ hc]
     exact (hs.obj i c' β' h').mono hle (hsame _)
 ·intro i c' β' i' β'' h h' hne hwr
  rcases back i _ h with⟨rfl,hp⟩ | ⟨hi,h1⟩
  ·cases hp
   rw[hnext]
   rcases back i' _ h' with⟨rfl,_⟩ | ⟨hi',h1'⟩
   ·exact absurd rfl hne
   ·by_cases hii:i'=id
    ·subst hii
     rw[hid] at h1';cases h1'
     right
     rw[hself]
     refine⟨by simp[AObj.ancOf],?_⟩
     simp[AObj.size];omega
    ·rw[hget i' hi' hii]
     have hsep := hs.sep id c β i' β'' hid h1' (Ne.symm hii) (by rw [hg]; rfl)
     rcases hsep with h2 | ⟨h2,h3⟩
     ·exact .inl h2
     ·right
      rw[hg] at h2 h3
      refine⟨by simp[AObj.ancOf];exact .inr h2,?_⟩
      simp[AObj.size] at h3 ⊢;omega
  ·by_cases hii:i=id
   ·subst hii;rw[hself] at hwr;cases hwr
   ·rw[hget i hi hii] at hwr ⊢
    rcases back i' _ h' with⟨rfl,hp⟩ | ⟨hi',h1'⟩
    ·cases hp
     have hsep := hs.sep i c β' id β h1 hid hii hwr
     rcases hsep with h2 | ⟨h2,h3⟩
     ·rw[hg] at h2;cases h2
     ·exfalso
      have hsep2 := hs.sep id c β i β' hid h1 (Ne.symm hii) (by rw [hg]; rfl)
      rcases hsep2 with h4 | ⟨h4,_⟩
      ·rw[h4] at hwr;cases hwr
      ·have h5:=(hs.anc i id h2).2.2;rw[hg] at h5;cases h5
    ·have hsep := hs.sep i c' β' i' β'' h1 h1' hne hwr
     by_cases hii':i'=id
     ·subst hii'
      rw[hself]
      rcases hsep with h2 | ⟨h2,h3⟩
      ·rw[hg] at h2;cases h2
      ·exact .inr ⟨h2,by rw[hg] at h3;exact h3⟩
     ·rw[hget i' hi' hii'];exact hsep
 ·intro i a ha
  have key:a < H.next∧(a=id∨((H.get a).immB=false∧(H.get a).writable=false)):=by
   by_cases hi:i=H.next
   ·subst hi
    rw[hnext] at ha
    simp[AObj.ancOf] at ha
    rcases ha with rfl | ha
    ·exact⟨hd.1,.inl rfl⟩
    ·have:=hs.anc id a (by rw[hg];exact ha);exact⟨this.1,.inr this.2⟩
   ·by_cases hii:i=id
    ·subst hii;rw[hself] at ha;have:=hs.anc i a (by rw[hg];exact ha);exact⟨this.1,.inr this.2⟩
    ·rw[hget i hi hii] at ha;have:=hs.anc i a ha;exact⟨this.1,.inr this.2⟩
  refine⟨by simp;omega,?_⟩
  by_cases ha':a=id
  ·subst ha';rw[hself];exact⟨rfl,rfl⟩
  ·rw[hget a (by omega) ha']
   rcases key.2 with h | h
   ·exact absurd h ha'
   ·exact h
 ·obtain⟨⟨t',fz',h1⟩,h2⟩:=hs.ro c' C' hc'
  have hne:c'≠c:=fun e=>by subst e;have:=h2 id β hid;rw[hg] at this;cases this
  refine ⟨⟨t', fz', by rw [setRow_other _ _ _ _ hne]; exact h1⟩, fun i β' h => ?_⟩
  rcases back i _ h with⟨rfl,hp⟩ | ⟨hi,h'⟩
  ·cases hp;exact absurd rfl hne
  ·by_cases hii:i=id
   ·subst hii;rw[hself];rfl
   ·rw [hget i hi hii]; exact h2 i β' h'
 ·intro c' hc' hall
  by_cases h:c'=c
  ·subst h;have:=hall id β hid;rw[hg] at this;cases this
  ·exact setRow_other _ _ _ _ h
 ·intro i hi hr
  by_cases h:i=id
  ·subst h;rw[hid] at hr;cases hr
  ·rw[hget i (by omega) h];exact fun _ _ _ _ h=>h
 ·intro i hi him
  by_cases h:i=id
  ·subst h;rw[hg] at him;cases him
  ·exact hget i (by omega) h
 ·intro i c' β' h hr
  rcases back i _ h with⟨rfl,hp⟩ | ⟨_,h1⟩
  ·cases hp;exact .inr ⟨id,β,hid,by rw[hg];rfl⟩
  ·rw[h1] at hr;cases hr
end Go.Sp
namespace Go.Sp

theorem bb_inv {β:Type} {c:Bool} {t:Option β} {v:β} (h:bb c t none=some v):c=true∧t=some v:=by
 cases c with
 | false=>cases h
 | true=>exact⟨rfl,h⟩
theorem bb_inv' {β:Type} {c:Bool} {t:Option β} {v:β} (h:bb c none t=some v):c=false∧t=some v:=by
 cases c with
 | true=>cases h
 | false=>exact⟨rfl,h⟩
theorem pp_eta {α β γ:Type} (p:α×β) (k:α→β→γ):pp p k=k p.1 p.2:=by cases p;rfl
theorem an_inv {a b:Bool} (h:an a b=true):a=true∧b=true:=by simpa using h

def FlatOk (P:Program) (t:TypeId) (zs:List Value):Prop:=
 (∀ (xs ys:List Value) (b:Bool) (w:World),kindsLike zs xs=true→cellsEq xs ys=some b→(Op.equal t (.agg ⟨xs⟩) (.agg ⟨ys⟩)).run P w = .ok b w) ∧
 P.eqGuardType P.depth t=false ∧
 (∀ (xs:List Value) (w:World) (e:Bool),xs.length=zs.length→(Instr.checkKey e 10000 t (.agg ⟨xs⟩)).run P w = .ok () w)

theorem kindLike_VR {R:Ren} {z x u:Value} (h:kindLike z x=true) (hv:VR R x u):kindLike z u=true:=by
 cases z <;> simp only[kindLike,vv] at h ⊢ <;> try (cases h;done)
 case bool=>cases hb:vBool x with
  | none=>rw[hb] at h;cases h
  | some b=>have:=vBool_some hb;subst this;rw[hv.bool_l];rfl
 case int=>cases hb:vInt x with
  | none=>rw[hb] at h;cases h
  | some b=>have:=vInt_some hb;subst this;rw[hv.int_l];rfl
 case string=>cases hb:vStr x with
  | none=>rw[hb] at h;cases h
  | some b=>have:=vStr_some hb;subst this;rw[hv.string_l];rfl
theorem kindsLike_VRL {R:Ren} {zs xs us:List Value} (h:kindsLike zs xs=true) (hv:VRL R xs us):kindsLike zs us=true:=by
 induction zs generalizing xs us with
 | nil => cases xs with
  | nil=>rw[hv.unnil];rfl
  | cons x xs=>cases h
 | cons z zs ih => cases xs with
  | nil=>cases h
  | cons x xs =>
   obtain⟨u,us,rfl,h1,h2⟩:=hv.uncons
   obtain⟨h3,h4⟩:=an_inv (show an (kindLike z x) (kindsLike zs xs)=true from h)
   show an (kindLike z u) (kindsLike zs us)=true
   rw[kindLike_VR h3 h1,ih h4 h2];rfl
theorem kindsLike_len {zs xs:List Value} (h:kindsLike zs xs=true):xs.length=zs.length:=by
 induction zs generalizing xs with
 | nil => cases xs with
  | nil=>rfl
  | cons x xs=>cases h
 | cons z zs ih => cases xs with
  | nil=>cases h
  | cons x xs=>obtain⟨_,h4⟩:=an_inv (show an (kindLike z x) (kindsLike zs xs)=true from h);simp[ih h4]
theorem flatLike_some {i:TI} {xs:List Value} (h:flatLike i xs=true):i.flat=true∧∃ zs,i.zero=some (.agg ⟨zs⟩)∧kindsLike zs xs=true:=by
 obtain⟨h1,h2⟩:=an_inv h
 refine⟨h1,?_⟩
 cases hz:i.zero with
 | none=>rw[hz] at h2;cases h2
 | some z =>
  rw[hz] at h2
  cases ha:vAgg z with
  | none=>rw[show oo (some z) false (fun z=>oo (vAgg z) false fun zs=>kindsLike zs xs)=oo (vAgg z) false fun zs=>kindsLike zs xs from rfl,ha] at h2;cases h2
  | some zs =>
   rw[show oo (some z) false (fun z=>oo (vAgg z) false fun zs=>kindsLike zs xs)=oo (vAgg z) false fun zs=>kindsLike zs xs from rfl,ha] at h2
   exact⟨zs,by rw[vAgg_some ha],h2⟩

structure TOk (P:Program) (tt:TT):Prop where
 ok:∀ t i,tt t=some i→P.underlying t=some i.und∧∃ inf,P.info? t=some inf∧inf.size=i.size∧inf.bytes=i.bytes∧inf.zero=i.zero
 plain:∀ t i z,tt t=some i→i.zero=some z→plainB z=true
 flat:∀ t i zs,tt t=some i→i.flat=true→i.zero=some (.agg ⟨zs⟩)→FlatOk P t zs

section
variable {P:Program} {tt:TT} (hT:TOk P tt)
include hT
theorem TOk.und {t:TypeId} {i:TI} (h:tt t=some i):P.underlying t=some i.und:=(hT.ok t i h).1
theorem TOk.run_und {t:TypeId} {i:TI} (h:tt t=some i) (w:World):(underlying t).run P w = .ok i.und w:=by
 simp[underlying,hT.und h]
theorem TOk.run_size {t:TypeId} {i:TI} (h:tt t=some i) (w:World):(sizeOf t).run P w = .ok i.size w:=by
 obtain⟨_,inf,h1,h2,_⟩:=hT.ok t i h
 simp[sizeOf,typeInfo,h1,h2]
theorem TOk.run_bytes {t:TypeId} {i:TI} (h:tt t=some i) (w:World):∃ inf:TypeInfo,(typeInfo t).run P w = .ok inf w∧inf.size=i.size∧inf.bytes=i.bytes∧inf.zero=i.zero:=by
 obtain⟨_,inf,h1,h2,h3,h4⟩:=hT.ok t i h
 exact⟨inf,by simp[typeInfo,h1],h2,h3,h4⟩
theorem TOk.run_zero {t:TypeId} {i:TI} (h:tt t=some i) {z:Value} (hz:i.zero=some z) (w:World):(zeroValue t).run P w = .ok z w:=by
 obtain⟨_,inf,h1,_,_,h4⟩:=hT.ok t i h
 simp[zeroValue,typeInfo,h1,h4,hz]
theorem TOk.run_isAgg {t:TypeId} {i:TI} (h:tt t=some i) (w:World):(isAgg t).run P w = .ok (isAggT i.und) w:=by
 have:=hT.run_und h w
 simp only[isAgg,Sem.run_bind,this,Result.andThen_ok]
 cases i.und <;> rfl
end

def OpOk (H:AHeap) (R:Ren) (w:World) (r:Result Next) (v:Value) (H':AHeap):Prop:=
 ∃ nx u w' R',r = .ok nx w'∧(nx = .value u∨(nx = .skip∧u=undef))∧VR R' v u∧Post H R w H' R' w'

section
variable {P:Program} {tt:TT} {H H':AHeap} {R R':Ren} {w w':World} {v:Value}
theorem OpOk.value {s:Sem Value} {u:Value} (hr:s.run P w = .ok u w') (hv:VR R' v u) (hp:Post H R w H' R' w'):OpOk H R w ((do pure (.value (←s)):Sem Next).run P w) v H':=
 ⟨.value u,u,w',R',by simp[hr],.inl rfl,hv,hp⟩
theorem OpOk.quiet {s:Sem Value} {u:Value} (hs:Sim H R w) (hr:s.run P w = .ok u w) (hv:VR R v u):OpOk H R w ((do pure (.value (←s)):Sem Next).run P w) v H:=
 OpOk.value hr hv (.refl hs)
theorem OpOk.unit {s:Sem Unit} (hr:s.run P w = .ok () w') (hp:Post H R w H' R' w'):OpOk H R w ((do s;pure .skip:Sem Next).run P w) undef H':=
 ⟨.skip,undef,w',R',by simp[hr],.inr ⟨rfl,rfl⟩,undef_VR,hp⟩
end

theorem wrap_i64_pos (m:Nat) (h:m≤9223372036854775807):IntKind.wrap .i64 (m:Int)=m:=IntWalk.i64_in _ (by omega)
theorem wrap_i64_neg (m:Nat) (h:m≤9223372036854775807):IntKind.wrap .i64 (-((m:Int)+1)) = -((m:Int)+1):=IntWalk.i64_in _ (by omega)
theorem wrap_u (k:IntKind) (hk:k.signed=false) (n:Int):k.wrap n=n % (2 ^ k.bits:Int):=by
 simp only[IntKind.wrap,hk,Bool.false_and,Bool.false_eq_true,if_false]
section
variable (f:IntKind→Int→Int) (m:Nat)
theorem wrapG_i8 (n:Int):wrapG f .i8 n=f .i8 n:=rfl
theorem wrapG_i16 (n:Int):wrapG f .i16 n=f .i16 n:=rfl
theorem wrapG_i32 (n:Int):wrapG f .i32 n=f .i32 n:=rfl
theorem wrapG_i64:wrapG f .i64 (Int.ofNat m)=bb (Nat.ble m 9223372036854775807) (Int.ofNat m) (f .i64 (Int.ofNat m)):=rfl
theorem wrapG_i64n:wrapG f .i64 (Int.negSucc m)=bb (Nat.ble m 9223372036854775807) (Int.negSucc m) (f .i64 (Int.negSucc m)):=rfl
theorem wrapG_u8:wrapG f .u8 (Int.ofNat m)=((m % 256:Nat):Int):=rfl
theorem wrapG_u8n:wrapG f .u8 (Int.negSucc m)=f .u8 (Int.negSucc m):=rfl
theorem wrapG_u16:wrapG f .u16 (Int.ofNat m)=((m % 65536:Nat):Int):=rfl
theorem wrapG_u16n:wrapG f .u16 (Int.negSucc m)=f .u16 (Int.negSucc m):=rfl
theorem wrapG_u32:wrapG f .u32 (Int.ofNat m)=((m % 4294967296:Nat):Int):=rfl
theorem wrapG_u32n:wrapG f .u32 (Int.negSucc m)=f .u32 (Int.negSucc m):=rfl
theorem wrapG_u64:wrapG f .u64 (Int.ofNat m)=((m % 18446744073709551616:Nat):Int):=rfl
theorem wrapG_u64n:wrapG f .u64 (Int.negSucc m)=f .u64 (Int.negSucc m):=rfl
end
theorem wrap_mod8 (m:Nat):((m % 256:Nat):Int)=IntKind.wrap .u8 (Int.ofNat m):=by rw[wrap_u _ rfl];show _=(m:Int) % (2 ^ 8:Int);omega
theorem wrap_mod16 (m:Nat):((m % 65536:Nat):Int)=IntKind.wrap .u16 (Int.ofNat m):=by rw[wrap_u _ rfl];show _=(m:Int) % (2 ^ 16:Int);omega
theorem wrap_mod32 (m:Nat):((m % 4294967296:Nat):Int)=IntKind.wrap .u32 (Int.ofNat m):=by rw[wrap_u _ rfl];show _=(m:Int) % (2 ^ 32:Int);omega
theorem wrap_mod64 (m:Nat):((m % 18446744073709551616:Nat):Int)=IntKind.wrap .u64 (Int.ofNat m):=by rw[wrap_u _ rfl];show _=(m:Int) % (2 ^ 64:Int);omega
theorem wrapF_eq (k:IntKind) (n:Int):wrapF k n=k.wrap n:=by
 unfold wrapF
 cases k with
 | i8=>exact wrapG_i8 _ _
 | i16=>exact wrapG_i16 _ _
 | i32=>exact wrapG_i32 _ _
 | i64 =>
  cases n with
  | ofNat m =>
   rw[wrapG_i64,bb_eq]
   split
   ·rename_i h;exact(wrap_i64_pos m (Nat.le_of_ble_eq_true h)).symm
   ·rfl
  | negSucc m =>
   rw[wrapG_i64n,bb_eq]
   split
   ·rename_i h;rw[Int.negSucc_eq];exact(wrap_i64_neg m (Nat.le_of_ble_eq_true h)).symm
   ·rfl
 | u8 => cases n with
  | ofNat m=>rw[wrapG_u8];exact wrap_mod8 m
  | negSucc m=>exact wrapG_u8n _ _
 | u16 => cases n with
  | ofNat m=>rw[wrapG_u16];exact wrap_mod16 m
  | negSucc m=>exact wrapG_u16n _ _
 | u32 => cases n with
  | ofNat m=>rw[wrapG_u32];exact wrap_mod32 m
  | negSucc m=>exact wrapG_u32n _ _
 | u64 => cases n with
  | ofNat m=>rw[wrapG_u64];exact wrap_mod64 m
  | negSucc m=>exact wrapG_u64n _ _
theorem ieq_eq (x y:Int):ieq x y=(x == y):=by
 cases x <;> cases y <;> simp only[ieq,ii_ofNat,ii_negSucc] <;> rw[Bool.eq_iff_iff] <;> simp <;> omega
theorem ilt_eq (x y:Int):ilt x y=decide (x < y):=by
 cases x <;> cases y <;> simp only[ilt,ii_ofNat,ii_negSucc] <;> rw[Bool.eq_iff_iff] <;> simp[Nat.blt_eq] <;> omega
theorem intKindEq_iff {a b:IntKind} (h:intKindEq a b=true):a=b:=by
 cases a <;> cases b <;> first | rfl | (exact absurd h (by decide))
theorem bitsMax_pow (k:IntKind):∃ p,bitsMax k+1=2 ^ p∧p≤k.bits:=by
 cases k
 ·exact⟨7,rfl,by decide⟩
 ·exact⟨15,rfl,by decide⟩
 ·exact⟨31,rfl,by decide⟩
 ·exact⟨63,rfl,by decide⟩
 ·exact⟨8,rfl,by decide⟩
 ·exact⟨16,rfl,by decide⟩
 ·exact⟨32,rfl,by decide⟩
 ·exact⟨64,rfl,by decide⟩
theorem wrap_small (k:IntKind) (n:Nat) (h:n≤bitsMax k):k.wrap (n:Int)=n:=by
 cases k <;> simp only[bitsMax] at h
 ·exact IntWalk.i8_in _ (by omega)
 ·exact IntWalk.i16_in _ (by omega)
 ·exact IntWalk.i32_in _ (by omega)
 ·exact IntWalk.i64_in _ (by omega)
 ·exact IntWalk.u8_in _ (by omega)
 ·exact IntWalk.u16_in _ (by omega)
 ·exact IntWalk.u32_in _ (by omega)
 ·exact IntWalk.u64_in _ (by omega)
theorem ofInt_small (k:IntKind) (n:Nat) (h:n≤bitsMax k):(BitVec.ofInt k.bits (n:Int)).toNat=n:=by
 obtain⟨p,hp,hk⟩:=bitsMax_pow k
 have:n < 2 ^ k.bits:=Nat.lt_of_lt_of_le (show n < 2 ^ p by omega) (Nat.pow_le_pow_right (by decide) hk)
 rw[BitVec.ofInt_natCast,BitVec.toNat_ofNat]
 exact Nat.mod_eq_of_lt this
theorem bothIn_iff {k:IntKind} {a b:Nat} (h:bothIn k a b=true):a≤bitsMax k∧b≤bitsMax k:=by
 obtain⟨h1,h2⟩:=an_inv h
 exact⟨Nat.le_of_ble_eq_true h1,Nat.le_of_ble_eq_true h2⟩
theorem aand_eq (k:IntKind) (x y:Int):aand k x y=aandS k x y:=by
 cases x <;> cases y <;> simp only[aand,ii_ofNat,ii_negSucc,bb_eq]
 split
 ·rename_i a b h
  obtain⟨ha,hb⟩:=bothIn_iff h
  unfold aandS
  simp only[Int.ofNat_eq_natCast]
  rw[BitVec.toNat_and,ofInt_small k a ha,ofInt_small k b hb,wrap_small]
  ·rfl
  ·exact Nat.le_trans Nat.and_le_left ha
 ·rfl
theorem aor_eq (k:IntKind) (x y:Int):aor k x y=aorS k x y:=by
 cases x <;> cases y <;> simp only[aor,ii_ofNat,ii_negSucc,bb_eq]
 split
 ·rename_i a b h
  obtain⟨ha,hb⟩:=bothIn_iff h
  unfold aorS
  simp only[Int.ofNat_eq_natCast]
  rw[BitVec.toNat_or,ofInt_small k a ha,ofInt_small k b hb,wrap_small]
  ·rfl
  ·obtain⟨p,hp,_⟩:=bitsMax_pow k
   have:=Nat.or_lt_two_pow (show a < 2 ^ p by omega) (show b < 2 ^ p by omega)
   omega
 ·rfl
theorem axor_eq (k:IntKind) (x y:Int):axor k x y=axorS k x y:=by
 cases x <;> cases y <;> simp only[axor,ii_ofNat,ii_negSucc,bb_eq]
 split
 ·rename_i a b h
  obtain⟨ha,hb⟩:=bothIn_iff h
  unfold axorS
  simp only[Int.ofNat_eq_natCast]
  rw[BitVec.toNat_xor,ofInt_small k a ha,ofInt_small k b hb,wrap_small]
  ·rfl
  ·obtain⟨p,hp,_⟩:=bitsMax_pow k
   have:=Nat.xor_lt_two_pow (show a < 2 ^ p by omega) (show b < 2 ^ p by omega)
   omega
 ·rfl
theorem aandNot_eq (k:IntKind) (x y:Int):aandNot k x y=aandNotS k x y:=by
 cases x <;> cases y <;> simp only[aandNot,ii_ofNat,ii_negSucc,bb_eq]
 split
 ·rename_i a b h
  obtain⟨ha,hb⟩:=bothIn_iff h
  unfold aandNotS
  simp only[Int.ofNat_eq_natCast]
  have e:∀ u v:BitVec k.bits,u &&& ~~~v=u ^^^ (u &&& v):=fun u v=>by
   apply BitVec.eq_of_getLsbD_eq
   intro i hi
   simp[hi]
   generalize u[i]=p;generalize v[i]=q
   cases p <;> cases q <;> rfl
  rw[e,BitVec.toNat_xor,BitVec.toNat_and,ofInt_small k a ha,ofInt_small k b hb,wrap_small]
  ·rfl
  ·obtain⟨p,hp,_⟩:=bitsMax_pow k
   have h1:a &&& b≤a:=Nat.and_le_left
   have:=Nat.xor_lt_two_pow (show a < 2 ^ p by omega) (show a &&& b < 2 ^ p by omega)
   omega
 ·rfl

theorem shlI_eq (k:IntKind) (x:Int) (n:Nat):shlI k x n=k.wrap (x*2 ^ (min n k.bits)):=by
 cases x with
 | ofNat a =>
  show wrapF k (.ofNat (a*2 ^ (Nat.min n k.bits)))=_
  rw[wrapF_eq]
  congr 1
  all_goals (simp only[Int.ofNat_eq_natCast];try (push_cast;rfl))
 | negSucc a=>rfl
theorem shrI_eq (k:IntKind) (x:Int) (n:Nat):shrI k x n=x.fdiv (2 ^ (min n k.bits)):=by
 cases x with
 | ofNat a =>
  show Int.ofNat (a / 2 ^ (Nat.min n k.bits))=_
  rw[Int.fdiv_eq_ediv_of_nonneg _ (by exact Int.le_of_lt (Int.pow_pos (by decide)))]
  all_goals (simp only[Int.ofNat_eq_natCast];try (push_cast;rfl))
 | negSucc a=>rfl

section
variable {P:Program} {w:World}
theorem aintF_ok {op:BinOp} {k:IntKind} {x y:Int} {v:Value} (h:aintF op k x y=some v) (hn:isShift op=false) (t:TypeId) :
 (binOp op t (.int k x) (.int k y)).run P w = .ok v w:=by
 cases op <;> simp only[aintF,BinOp.pick,iv,bv,nt_eq,aand_eq,aor_eq,axor_eq,aandNot_eq,ieq_eq,ilt_eq,wrapF_eq] at h
 case quo=>
  have h:=bb_inv' h
  obtain⟨h1,h2⟩:=h
  injection h2 with h2;subst h2
  have:y≠0:=by simpa using h1
  simp[binOp,Op.intDiv,this]
 case rem=>
  have h:=bb_inv' h
  obtain⟨h1,h2⟩:=h
  injection h2 with h2;subst h2
  have:y≠0:=by simpa using h1
  simp[binOp,Op.intDiv,this]
 case shl=>cases h
 case shr=>cases h
 all_goals
  injection h with h;subst h
  simp[binOp,Op.intArith,Op.intBits,Op.intCmp,aandS,aorS,axorS,aandNotS]
 all_goals first | rfl | (rw[Bool.eq_iff_iff];simp;done) | (rw[Bool.eq_iff_iff];simp;omega) | skip
theorem ashift_ok {op:BinOp} {k j:IntKind} {x y:Int} {v:Value} (h:ashift op k x y=some v) (hn:isShift op=true) (t:TypeId) :
 (binOp op t (.int k x) (.int j y)).run P w = .ok v w:=by
 cases y with
 | negSucc n=>simp[ashift] at h
 | ofNat n =>
  have hneg:¬ ((n:Int) < 0):=by omega
  cases op <;> simp[isShift,BinOp.pick] at hn
  ·simp[ashift,isShl,BinOp.pick,iv,shlI_eq] at h
   subst h
   simp[binOp,Op.shift,hneg]
  ·simp[ashift,isShl,BinOp.pick,iv,shrI_eq] at h
   subst h
   simp[binOp,Op.shift,hneg]
end
end Go.Sp
