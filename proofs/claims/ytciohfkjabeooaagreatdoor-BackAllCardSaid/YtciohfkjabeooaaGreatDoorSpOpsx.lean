/- Made from wip. -/
import Derived.Test.YtciohfkjabeooaaGreatDoorSpBasex

namespace Go.Sp

structure Ren where
 f:Nat→Option (Nat×Nat)
 sz:Nat→Nat
 ro:Nat→Option (Array Value)

inductive VR (R : Ren) : Value → Value → Prop
 | bool (b:Bool):VR R (.bool b) (.bool b)
 | int (k:IntKind) (n:Int):VR R (.int k n) (.int k n)
 | string (s:ByteArray):VR R (.string s) (.string s)
 | nilFunc:VR R .nilFunc .nilFunc
 | nilIface:VR R .nilIface .nilIface
 | ptrNil:VR R (.pointer none) (.pointer none)
 | ptr {id off c β:Nat} (h:R.f id=some (c,β)):VR R (.pointer (some ⟨id,off,none⟩)) (.pointer (some ⟨c,β+off,none⟩))
 | slNil:VR R (.slice none 0 0) (.slice none 0 0)
 | sl {id off sz ln c2 c β cap : Nat} (h : R.f id = some (c, β)) (h1 : ln ≤ c2 / 2) (h2 : c2 / 2 ≤ cap) (h3 : c2 % 2 = 1 → cap = c2 / 2) (h4 : β + off + cap * sz ≤ R.sz c) :
  VR R (.slice (some ⟨id,off,some sz⟩) ln c2) (.slice (some ⟨c,β+off,none⟩) ln cap)
 | slE {id off sz c2 c o:Nat} (h:c2 / 2=0):VR R (.slice (some ⟨id,off,some sz⟩) 0 c2) (.slice (some ⟨c,o,none⟩) 0 0)
 | slN {id off sz c2:Nat} (h:c2 / 2=0):VR R (.slice (some ⟨id,off,some sz⟩) 0 c2) (.slice none 0 0)
 | mapNil:VR R (.map none) (.map none)
 | map {id c:Nat} (h:R.f id=some (c,0)):VR R (.map (some id)) (.map (some c))
 | fs {sz n fl c o cap : Nat} {xs ys : List Value} {C : Array Value} (hc : R.ro c = some C) (hn : xs.length = n * sz) (hcap : n ≤ cap) (hex : fl = 1 → cap = n) (hfl : fl ≠ 2) (hfit : o + xs.length ≤ C.size) (hC : ∀ (i : Nat) (y : Value), ys[i]? = some y → C[o + i]? = some y)
  (hcl:∀ x∈xs,Ah x=true) (hl:xs.length=ys.length) (h:∀ (i:Nat) (x y:Value),xs[i]?=some x→ys[i]?=some y→VR R x y) :
  VR R (.iface sz (.agg ⟨.slice none n fl::xs⟩)) (.slice (some ⟨c,o,none⟩) n cap)
 | fsN (sz fl:Nat) (h3:fl≠3):VR R (.iface sz (.agg ⟨[.slice none 0 fl]⟩)) (.slice none 0 0)
 | fsE {sz fl c o:Nat} {s:Option Nat} (hfl:fl≠2):VR R (.iface sz (.agg ⟨[.slice none 0 fl]⟩)) (.slice (some ⟨c,o,s⟩) 0 0)
 | fp {off c o : Nat} {xs ys : List Value} {C : Array Value} (hc : R.ro c = some C) (hfit : o + xs.length ≤ C.size) (hC : ∀ (i : Nat) (y : Value), ys[i]? = some y → C[o + i]? = some y)
  (hcl:∀ x∈xs,Ah x=true) (hl:xs.length=ys.length) (h:∀ (i:Nat) (x y:Value),xs[i]?=some x→ys[i]?=some y→VR R x y) :
  VR R (.iface off (.tuple ⟨xs⟩)) (.pointer (some ⟨c,o+off,none⟩))
 | any (u:Value):VR R (.iface 0 .nilIface) u
 | ifc (t:TypeId) (k:IntKind) (n:Int):VR R (.iface t (.int k n)) (.iface t (.int k n))
 | agg {xs ys:List Value} (hl:xs.length=ys.length) (h:∀ (i:Nat) (x y:Value),xs[i]?=some x→ys[i]?=some y→VR R x y):VR R (.agg ⟨xs⟩) (.agg ⟨ys⟩)
 | tuple {xs ys:List Value} (hl:xs.length=ys.length) (h:∀ (i:Nat) (x y:Value),xs[i]?=some x→ys[i]?=some y→VR R x y):VR R (.tuple ⟨xs⟩) (.tuple ⟨ys⟩)
 | func (fn : Fn) {xs ys zs us : List Value} (hl : xs.length = ys.length) (h : ∀ (i : Nat) (x y : Value), xs[i]? = some x → ys[i]? = some y → VR R x y)
  (hl':zs.length=us.length) (h':∀ (i:Nat) (x y:Value),zs[i]?=some x→us[i]?=some y→VR R x y):VR R (.func fn ⟨xs⟩ ⟨zs⟩) (.func fn ⟨ys⟩ ⟨us⟩)

def Cf (R:Ren) (xs ys:List Value):Prop:=xs.length=ys.length∧∀ (i:Nat) (x y:Value),xs[i]?=some x→ys[i]?=some y→VR R x y

theorem Cf.nil {R:Ren}:Cf R [] []:=⟨rfl,fun i x y h=>by simp at h⟩
theorem Cf.cons {R:Ren} {x y:Value} {xs ys:List Value} (h:VR R x y) (hs:Cf R xs ys):Cf R (x::xs) (y::ys):=
 ⟨by simp[hs.1],fun i a b ha hb=>by
   cases i with
   | zero=>simp at ha hb;subst ha;subst hb;exact h
   | succ i=>simp at ha hb;exact hs.2 i a b ha hb⟩
theorem Cf.uncons {R:Ren} {x:Value} {xs ys:List Value} (h:Cf R (x::xs) ys):∃ y ys',ys=y::ys'∧VR R x y∧Cf R xs ys':=by
 cases ys with
 | nil=>have:=h.1;simp at this
 | cons y ys'=>exact⟨y,ys',rfl,h.2 0 x y rfl rfl,by have:=h.1;simpa using this,fun i a b ha hb=>h.2 (i+1) a b (by simpa using ha) (by simpa using hb)⟩
theorem Cf.unnil {R:Ren} {ys:List Value} (h:Cf R [] ys):ys=[]:=by
 have:=h.1;cases ys with
 | nil=>rfl
 | cons=>simp at this
theorem Cf.append {R:Ren} {xs ys xs' ys':List Value} (h:Cf R xs ys) (h':Cf R xs' ys'):Cf R (xs++xs') (ys++ys'):=by
 induction xs generalizing ys with
 | nil=>rw[h.unnil];exact h'
 | cons x xs ih=>obtain⟨y,ys1,rfl,hx,hr⟩:=h.uncons;exact .cons hx (ih hr)
theorem Cf.get {R:Ren} {xs ys:List Value} (h:Cf R xs ys) {i:Nat} {x:Value} (hx:xs[i]?=some x):∃ y,ys[i]?=some y∧VR R x y:=by
 have hi:i < ys.length:=by have:=(List.getElem?_eq_some_iff.1 hx).1;rw[←h.1];exact this
 exact⟨ys[i],List.getElem?_eq_getElem hi,h.2 i x _ hx (List.getElem?_eq_getElem hi)⟩
theorem Cf.drop {R:Ren} {xs ys:List Value} (h:Cf R xs ys) (n:Nat):Cf R (xs.drop n) (ys.drop n):=
 ⟨by simp[h.1],fun i x y hx hy=>h.2 (n+i) x y (by simpa [List.getElem?_drop] using hx) (by simpa [List.getElem?_drop] using hy)⟩
theorem Cf.take {R:Ren} {xs ys:List Value} (h:Cf R xs ys) (n:Nat):Cf R (xs.take n) (ys.take n):=
 ⟨by simp[h.1],fun i x y hx hy=>by
   rw[List.getElem?_take] at hx hy
   split at hx
   ·rename_i hlt;rw[if_pos hlt] at hy;exact h.2 i x y hx hy
   ·cases hx⟩
theorem Cf.one {R:Ren} {x y:Value} (h:VR R x y):Cf R [x] [y]:=.cons h .nil
theorem Cf.map {R:Ren} {α:Type} {f g:α→Value} {l:List α} (h:∀ a∈l,VR R (f a) (g a)):Cf R (l.map f) (l.map g):=by
 induction l with
 | nil=>exact .nil
 | cons a l ih=>exact .cons (h a (by simp)) (ih fun b hb=>h b (by simp[hb]))

theorem Ab {α β:Type} {o:Option α} {s:α→Option β} {v:β} (h:oo o none s=some v):∃ a,o=some a∧s a=some v:=by
 cases o with
 | none=>cases h
 | some a=>exact⟨a,rfl,h⟩
structure Ren.le (R R':Ren):Prop where
 up:∀ id c β,R.f id=some (c,β)→R'.f id=some (c,β)∧R'.sz c=R.sz c
 ro:∀ c C,R.ro c=some C→R'.ro c=some C
instance {R R':Ren}:CoeFun (R.le R') (fun _=>∀ id c β,R.f id=some (c,β)→R'.f id=some (c,β)∧R'.sz c=R.sz c):=⟨fun h=>h.up⟩
theorem Ren.le_refl (R:Ren):R.le R:=⟨fun _ _ _ h=>⟨h,rfl⟩,fun _ _ h=>h⟩
theorem Ren.le_trans {R R' R'':Ren} (h:R.le R') (h':R'.le R''):R.le R'':=⟨fun id c β e=>
 ⟨(h' id c β (h id c β e).1).1,((h' id c β (h id c β e).1).2).trans (h id c β e).2⟩,fun c C e=>h'.ro c C (h.ro c C e)⟩
theorem VR.mono {R R':Ren} {x y:Value} (h:VR R x y) (hle:R.le R'):VR R' x y:=by
 induction h with
 | bool b=>exact .bool b
 | int k n=>exact .int k n
 | string s=>exact .string s
 | nilFunc=>exact .nilFunc
 | nilIface=>exact .nilIface
 | ptrNil=>exact .ptrNil
 | ptr h=>exact .ptr (hle _ _ _ h).1
 | slNil=>exact .slNil
 | sl h h1 h2 h3 h4=>exact .sl (hle _ _ _ h).1 h1 h2 h3 (by rw[(hle _ _ _ h).2];exact h4)
 | slE h=>exact .slE h
 | slN h=>exact .slN h
 | mapNil=>exact .mapNil
 | map h=>exact .map (hle _ _ _ h).1
 | fs hc hn hcap hex hfl hfit hC hcl hl _ ih=>exact .fs (hle.ro _ _ hc) hn hcap hex hfl hfit hC hcl hl ih
 | fsN sz fl h3=>exact .fsN sz fl h3
 | fsE hfl=>exact .fsE hfl
 | fp hc hfit hC hcl hl _ ih=>exact .fp (hle.ro _ _ hc) hfit hC hcl hl ih
 | any u=>exact .any u
 | ifc t k n=>exact .ifc t k n
 | agg hl _ ih=>exact .agg hl ih
 | tuple hl _ ih=>exact .tuple hl ih
 | func fn hl _ hl' _ ih ih'=>exact .func fn hl ih hl' ih'
theorem Cf.mono {R R':Ren} {xs ys:List Value} (h:Cf R xs ys) (hle:R.le R'):Cf R' xs ys:=⟨h.1,fun i x y hx hy=>(h.2 i x y hx hy).mono hle⟩

noncomputable def BR (v:Value):Bool:=
 vv v (fun _=>true) (fun _ _=>true) (fun _=>true) (fun a=>nt (isS a)) (fun a l c=>an (nt (isS a)) (an (Nat.beq l 0) (Nat.beq c 0))) (fun m=>nt (isS m)) (fun _ _ _=>false) true (fun _ _=>false) true (fun _=>false) (fun _=>false) false
noncomputable def Ee (v:Value):Bool:=oo (Bt v) (oo (CQ v) (BR v) fun l=>Au BR l) fun l=>Au BR l
theorem Df {R:Ren} {v:Value} (h:BR v=true):VR R v v:=by
 cases v <;> simp[BR,vv] at h
 case bool b=>exact .bool b
 case int k n=>exact .int k n
 case string s=>exact .string s
 case pointer a=>cases a with
  | none=>exact .ptrNil
  | some a=>simp at h
 case slice a l c=>
  cases a with
  | some a=>simp at h
  | none=>simp at h;obtain⟨h1,h2⟩:=h;subst h1;subst h2;exact .slNil
 case map m=>cases m with
  | none=>exact .mapNil
  | some m=>simp at h
 case nilFunc=>exact .nilFunc
 case nilIface=>exact .nilIface
theorem JX {R:Ren} {l:List Value} (h:∀ x∈l,BR x=true):Cf R l l:=
 ⟨rfl,fun i x y hx hy=>by rw[hx] at hy;cases hy;exact Df (h x (List.mem_of_getElem? hx))⟩
theorem Kn {R:Ren} {v:Value} (h:Ee v=true):VR R v v:=by
 cases v
 case agg a => obtain ⟨l⟩ := a; have : ∀ x ∈ l, BR x = true := by simpa [Ee, Bt, vv, JS] using h
               exact .agg rfl (JX this).2
 case tuple a => obtain ⟨l⟩ := a; have : ∀ x ∈ l, BR x = true := by simpa [Ee, Bt, CQ, vv, JS] using h
                 exact .tuple rfl (JX this).2
 all_goals exact Df (by simpa [Ee,Bt,CQ,vv] using h)
theorem IL {R:Ren}:VR R undef undef:=.tuple rfl (by simp)

theorem Cm {v:Value} {p:IntKind×Int} (h:ES v=some p):v = .int p.1 p.2:=by cases v <;> simp[ES,vv] at h;subst h;rfl
theorem PW {v:Value} {n:Nat} (h:MN v=some n):∃ k,v = .int k n:=by
 cases v <;> simp[MN,vv] at h
 rename_i k m;cases m with
 | ofNat m=>simp at h;subst h;exact⟨k,rfl⟩
 | negSucc m=>simp at h
theorem BV {v:Value} {b:Bool} (h:Bf v=some b):v = .bool b:=by cases v <;> simp[Bf,vv] at h;subst h;rfl
theorem Cw {v:Value} {s:ByteArray} (h:Gx v=some s):v = .string s:=by cases v <;> simp[Gx,vv] at h;subst h;rfl
theorem BQ {v:Value} {l:List Value} (h:Bt v=some l):v = .agg ⟨l⟩:=by cases v <;> simp[Bt,vv] at h;rename_i a;obtain⟨m⟩:=a;simp[JS] at h;subst h;rfl
theorem EU {v:Value} {l:List Value} (h:CQ v=some l):v = .tuple ⟨l⟩:=by cases v <;> simp[CQ,vv] at h;rename_i a;obtain⟨m⟩:=a;simp[JS] at h;subst h;rfl
theorem Dg {v:Value} {p:Nat×Nat} (h:FO v=some p):v = .pointer (some ⟨p.1,p.2,none⟩):=by
 cases v <;> simp[FO,vv] at h
 rename_i a;cases a with
 | none=>simp[QX] at h
 | some a => obtain ⟨b, o, s⟩ := a; cases s with
  | none=>simp[QX] at h;subst h;rfl
  | some s=>simp[QX] at h
theorem Ko {v:Value} {s:qE} (h:IA v=some s):v = .slice (some ⟨s.id,s.off,some s.sz⟩) s.len s.cap:=by
 cases v <;> simp[IA,vv] at h
 rename_i a l c;cases a with
 | none=>simp[QY] at h
 | some a => obtain ⟨b, o, s⟩ := a; cases s with
  | none=>simp[QY] at h
  | some s=>simp[QY] at h;subst h;rfl
theorem CB {v:Value} (h:DN v=true):v = .slice none 0 0:=by
 cases v <;> simp[DN,vv] at h
 rename_i a l c;cases a with
 | none=>simp at h;obtain⟨h1,h2⟩:=h;subst h1;subst h2;rfl
 | some a=>simp at h
theorem EW {v:Value} {m:Option Nat} (h:IC v=some m):v = .map m:=by cases v <;> simp[IC,vv] at h;subst h;rfl
theorem U7 {v:Value} {n:Nat} (h:PS v=some n):∃ a c,v = .slice a n c:=by cases v <;> simp[PS,vv] at h;rename_i a l c;subst h;exact⟨a,c,rfl⟩

theorem VR.int_l {R:Ren} {k:IntKind} {n:Int} {u:Value} (h:VR R (.int k n) u):u = .int k n:=by cases h;rfl
theorem VR.bool_l {R:Ren} {b:Bool} {u:Value} (h:VR R (.bool b) u):u = .bool b:=by cases h;rfl
theorem VR.string_l {R:Ren} {b:ByteArray} {u:Value} (h:VR R (.string b) u):u = .string b:=by cases h;rfl
theorem VR.ptr_l {R:Ren} {id off:Nat} {u:Value} (h:VR R (.pointer (some ⟨id,off,none⟩)) u):∃ c β,R.f id=some (c,β)∧u = .pointer (some ⟨c,β+off,none⟩):=by
 cases h with
 | ptr h=>exact⟨_,_,h,rfl⟩
theorem VR.agg_l {R:Ren} {l:List Value} {u:Value} (h:VR R (.agg ⟨l⟩) u):∃ m,u = .agg ⟨m⟩∧Cf R l m:=by
 cases h with
 | agg hl h=>exact⟨_,rfl,hl,h⟩
theorem VR.tuple_l {R:Ren} {l:List Value} {u:Value} (h:VR R (.tuple ⟨l⟩) u):∃ m,u = .tuple ⟨m⟩∧Cf R l m:=by
 cases h with
 | tuple hl h=>exact⟨_,rfl,hl,h⟩
theorem VR.slNil_l {R:Ren} {u:Value} (h:VR R (.slice none 0 0) u):u = .slice none 0 0:=by cases h;rfl
theorem VR.mapNil_l {R:Ren} {u:Value} (h:VR R (.map none) u):u = .map none:=by cases h;rfl
theorem VR.map_l {R:Ren} {id:Nat} {u:Value} (h:VR R (.map (some id)) u):∃ c,R.f id=some (c,0)∧u = .map (some c):=by
 cases h with
 | map h=>exact⟨_,h,rfl⟩

theorem EX {R:Ren} {v u:Value} (h:VR R v u) (ht:noCell v=false):Cf R (cellsOf v) u.cells.toList:=by
 cases h with
 | agg hl h=>exact⟨hl,h⟩
 | fs hc hn hcap hex hfl hfit hC hcl hl h=>exact .one (.fs hc hn hcap hex hfl hfit hC hcl hl h)
 | fsN sz fl h3=>exact .one (.fsN sz fl h3)
 | fsE hfl=>exact .one (.fsE hfl)
 | fp hc hfit hC hcl hl h=>exact .one (.fp hc hfit hC hcl hl h)
 | any u=>cases ht
 | ifc t k n=>exact .one (.ifc t k n)
 | tuple hl h=>exact .one (.tuple hl h)
 | func fn hl h hl' h'=>exact .one (.func fn hl h hl' h')
 | ptr h=>exact .one (.ptr h)
 | sl h h1 h2 h3 h4=>exact .one (.sl h h1 h2 h3 h4)
 | slE h=>exact .one (.slE h)
 | slN h=>exact .one (.slN h)
 | map h=>exact .one (.map h)
 | _=>exact .one (by constructor)

theorem Bw {R:Ren} {v:Value} (h:Ee v=true):Cf R (cellsOf v) v.cells.toList:=by
 have hv:=Kn (R:=R) h
 cases v
 case agg a=>exact EX hv rfl
 case tuple a=>exact .one hv
 case iface t x=>exact absurd h (by intro h;cases h)
 all_goals exact EX hv rfl

def AJ.immB:AJ→Bool
 | .cells _ imm _ _=>imm
 | _=>false
def AJ.writable:AJ→Bool
 | .cells _ imm spent _=>!imm && !spent
 | .map _ _=>true
 | .iter _ _ _ _=>true
 | .dead=>false
def AJ.ancOf:AJ→List Nat
 | .cells _ _ _ anc=>anc
 | _=>[]
def AJ.size:AJ→Nat
 | .cells xs _ _ _=>xs.length
 | _=>0

def Tc (R:Ren) (e:EO) (E:MapEntry):Prop:=VR R e.key E.key∧VR R e.val E.val∧e.born=E.born
def CR (R:Ren) (es:List EO) (Es:List MapEntry):Prop:=es.length=Es.length∧∀ (i:Nat) (e:EO) (E:MapEntry),es[i]?=some e→Es[i]?=some E→Tc R e E

def Du (R:Ren) (xs:List Value) (β:Nat) (C:Array Value):Prop:=∀ (i:Nat) (x:Value),xs[i]?=some x→∃ y,C[β+i]?=some y∧VR R x y

def aA (R:Ren) (m m':Option Nat):Prop:=
 match m with
 | none=>m'=none
 | some id=>∃ c,R.f id=some (c,0)∧m'=some c
theorem aA.mono {R R':Ren} {m m':Option Nat} (h:aA R m m') (hle:R.le R'):aA R' m m':=by
 cases m with
 | none=>exact h
 | some id=>obtain⟨c,h1,h2⟩:=h;exact⟨c,(hle.1 id c 0 h1).1,h2⟩
def FH (R:Ren) (o:AJ) (c β:Nat) (ob:Option Obj):Prop:=
 match o with
 | .dead=>True
 | .cells xs imm _ _=>∃ C t fz,ob=some (.cells C t fz)∧C.size=R.sz c∧β+xs.length≤C.size∧Du R xs β C∧(imm=false→fz=(0,0))
 | .map es clock=>β=0∧∃ Es,ob=some (.map Es clock)∧CR R es Es.toList
 | .iter m since seen st=>β=0∧∃ (m':Option Nat) (S:Array Nat),ob=some (.mapIter m' since S st)∧S.toList=seen∧aA R m m'

structure Ck (H:Aa) (R:Ren) (w:World):Prop where
 dom:∀ id c β,R.f id=some (c,β)→id < H.next∧c < w.heap.size
 obj:∀ id c β,R.f id=some (c,β)→FH R (H.get id) c β w.heap[c]?
 sep : ∀ id c β id' β', R.f id = some (c, β) → R.f id' = some (c, β') → id ≠ id' → (H.get id).writable = true →
  H.get id' = .dead ∨ (id' ∈ (H.get id).ancOf ∧ β' + (H.get id').size ≤ β + (H.get id).size)
 anc:∀ id a,a∈(H.get id).ancOf→a < H.next∧(H.get a).immB=false∧(H.get a).writable=false
 wf:H.wf
 ro:∀ c C,R.ro c=some C→(∃ t fz,w.heap[c]?=some (.cells C t fz))∧∀ id β,R.f id=some (c,β)→(H.get id).writable=false

theorem Du.mono {R R':Ren} {xs:List Value} {β:Nat} {C:Array Value} (h:Du R xs β C) (hle:R.le R'):Du R' xs β C:=fun i x hx=>
 let ⟨y,hy,hv⟩:=h i x hx;⟨y,hy,hv.mono hle⟩
theorem CR.mono {R R':Ren} {es:List EO} {Es:List MapEntry} (h:CR R es Es) (hle:R.le R'):CR R' es Es:=
 ⟨h.1,fun i e E he hE=>⟨(h.2 i e E he hE).1.mono hle,(h.2 i e E he hE).2.1.mono hle,(h.2 i e E he hE).2.2⟩⟩
theorem FH.mono {R R':Ren} {o:AJ} {c β:Nat} {ob:Option Obj} (h:FH R o c β ob) (hle:R.le R') (hsz:R'.sz c=R.sz c):FH R' o c β ob:=by
 cases o with
 | dead=>trivial
 | cells xs imm spent anc=>obtain⟨C,t,fz,h1,h2,h3,h4,h5⟩:=h;exact⟨C,t,fz,h1,h2.trans hsz.symm,h3,h4.mono hle,h5⟩
 | map es clock=>obtain⟨h1,Es,h2,h3⟩:=h;exact⟨h1,Es,h2,h3.mono hle⟩
 | iter m since seen st=>obtain⟨h1,m',S,h2,h3,h4⟩:=h;exact⟨h1,m',S,h2,h3,h4.mono hle⟩

structure Ba (H:Aa) (R:Ren) (w:World) (H':Aa) (R':Ren) (w':World):Prop where
 le:R.le R'
 new:∀ id p,R'.f id=some p→R.f id=some p∨(R.f id=none∧H.next≤id)
 sim:Ck H' R' w'
 next:H.next≤H'.next
 grow:w.heap.size≤w'.heap.size
 frame:∀ c,c < w.heap.size→(∀ id β,R.f id=some (c,β)→(H.get id).immB=true)→w'.heap[c]?=w.heap[c]?
 calm:∀ id,id < H.next→R.f id=none→∀ (Q:Ren) (c β:Nat) (ob:Option Obj),FH Q (H.get id) c β ob→FH Q (H'.get id) c β ob
 imm:∀ id,id < H.next→(H.get id).immB=true→H'.get id=H.get id
 fresh:∀ id c β,R'.f id=some (c,β)→R.f id=none→w.heap.size≤c∨∃ id0 β0,R.f id0=some (c,β0)∧(H.get id0).immB=false
 side:w'.os=w.os∧w'.output=w.output∧∀ a,a.block < w.heap.size→w'.frozen? a=w.frozen? a
 rofresh:∀ c C,R'.ro c=some C→R.ro c=some C∨w.heap.size≤c∨∃ id β,R.f id=some (c,β)∧(H.get id).immB=false

theorem Kq {v:Value} {f:mR} (h:Le v=some f):v = .iface f.sz (.agg ⟨.slice none f.n f.fl::f.cs⟩):=by
 cases v <;> simp only[Le,vv] at h <;> try (cases h;done)
 rename_i t x
 obtain⟨l,hl,h1⟩:=Ab h
 rw[BQ hl]
 cases l with
 | nil=>cases h1
 | cons a cs =>
  have h1:AbV a t cs=some f:=h1
  cases a with
  | slice ad n fl =>
   have h1:yY ad n fl t cs=some f:=h1
   cases ad with
   | some a=>cases h1
   | none=>injection h1 with h1;subst h1;rfl
  | _=>cases h1
theorem F7 {v:Value} {q:Db} (h:Pv v=some q):v = .iface q.off (.tuple ⟨q.cs⟩):=by
 cases v <;> simp only[Pv,vv] at h <;> try (cases h;done)
 rename_i t x
 obtain⟨l,hl,h1⟩:=Ab h
 rw[EU hl]
 injection h1 with h1;subst h1;rfl
theorem VR.fs_l {R:Ren} {x x':Value} {f:mR} (h:Le x=some f) (hx:VR R x x') :
 (f.n=0∧f.cs=[]∧x' = .slice none 0 0)∨(f.fl≠2∧f.n=0∧f.cs=[]∧∃ c o s,x' = .slice (some ⟨c,o,s⟩) 0 0) ∨
 (∃ c o cap C,R.ro c=some C∧x' = .slice (some ⟨c,o,none⟩) f.n cap∧f.cs.length=f.n*f.sz∧f.n≤cap∧(f.fl=1→cap=f.n)∧f.fl≠2∧o+f.cs.length≤C.size∧Du R f.cs o C∧∀ x∈f.cs,Ah x=true):=by
 rw[Kq h] at hx
 obtain⟨sz,n,fl,cs⟩:=f
 simp only at hx ⊢
 cases hx with
 | @fs _ _ _ _ _ _ _ ys _ hc hn hcap hex hfl hfit hC hcl hl h =>
  exact .inr (.inr ⟨_,_,_,_,hc,rfl,hn,hcap,hex,hfl,hfit,fun i x hi=>by
   have hlt:i < ys.length:=by rw[←hl];exact(List.getElem?_eq_some_iff.1 hi).1
   have hy:=List.getElem?_eq_getElem hlt
   exact⟨_,hC i _ hy,h i x _ hi hy⟩,hcl⟩)
 | fsN=>exact .inl ⟨rfl,rfl,rfl⟩
 | fsE hfl=>exact .inr (.inl ⟨hfl,rfl,rfl,_,_,_,rfl⟩)
theorem VR.fp_l {R:Ren} {x x':Value} {q:Db} (h:Pv x=some q) (hx:VR R x x') :
 ∃ c o C,R.ro c=some C∧x' = .pointer (some ⟨c,o+q.off,none⟩)∧o+q.cs.length≤C.size∧Du R q.cs o C∧∀ x∈q.cs,Ah x=true:=by
 rw[F7 h] at hx
 obtain⟨off,cs⟩:=q
 simp only at hx ⊢
 cases hx with
 | @fp _ _ _ _ ys _ hc hfit hC hcl hl h =>
  exact⟨_,_,_,hc,rfl,hfit,fun i x hi=>by
   have hlt:i < ys.length:=by rw[←hl];exact(List.getElem?_eq_some_iff.1 hi).1
   have hy:=List.getElem?_eq_getElem hlt
   exact⟨_,hC i _ hy,h i x _ hi hy⟩,hcl⟩
theorem Du.list {R:Ren} {xs:List Value} {o:Nat} {C:Array Value} (h:Du R xs o C):∃ ys:List Value,xs.length=ys.length∧(∀ (i:Nat) (y:Value),ys[i]?=some y→C[o+i]?=some y)∧∀ (i:Nat) (x y:Value),xs[i]?=some x→ys[i]?=some y→VR R x y:=by
 induction xs generalizing o with
 | nil=>exact⟨[],rfl,by simp,by simp⟩
 | cons x xs ih =>
  obtain⟨y,hy,hv⟩:=h 0 x rfl
  obtain⟨ys,h1,h2,h3⟩:=ih (o:=o+1) fun i z hz=>by
   have:=h (i+1) z (by simpa using hz)
   rwa [show o+(i+1)=o+1+i by omega] at this
  refine⟨y::ys,by simp[h1],fun i z hz=>?_,fun i a b ha hb=>?_⟩
  ·cases i with
   | zero=>simp at hz;subst hz;exact hy
   | succ i=>have:=h2 i z (by simpa using hz);rwa [show o+(i+1)=o+1+i by omega]
  ·cases i with
   | zero=>simp at ha hb;subst ha;subst hb;exact hv
   | succ i=>exact h3 i a b (by simpa using ha) (by simpa using hb)
theorem VR.mkFs {R:Ren} {sz n fl c o cap:Nat} {xs:List Value} {C:Array Value} (hc:R.ro c=some C) (hn:xs.length=n*sz) (hcap:n≤cap) (hex:fl=1→cap=n) (hfl:fl≠2) (hfit:o+xs.length≤C.size)
 (h:Du R xs o C) (hcl:∀ x∈xs,Ah x=true):VR R (FP sz n fl xs) (.slice (some ⟨c,o,none⟩) n cap):=by
 obtain⟨ys,h1,h2,h3⟩:=h.list
 exact .fs hc hn hcap hex hfl hfit h2 hcl h1 h3
theorem VR.mkFp {R:Ren} {off c o:Nat} {xs:List Value} {C:Array Value} (hc:R.ro c=some C) (hfit:o+xs.length≤C.size)
 (h:Du R xs o C) (hcl:∀ x∈xs,Ah x=true):VR R (Cv off xs) (.pointer (some ⟨c,o+off,none⟩)):=by
 obtain⟨ys,h1,h2,h3⟩:=h.list
 exact .fp hc hfit h2 hcl h1 h3
theorem Du.part {R:Ren} {xs:List Value} {o:Nat} {C:Array Value} (h:Du R xs o C) (a n:Nat):Du R ((xs.drop a).take n) (o+a) C:=fun i x hx=>by
 rw[List.getElem?_take] at hx
 split at hx
 ·rw[List.getElem?_drop] at hx
  obtain⟨y,hy,hv⟩:=h (a+i) x hx
  exact⟨y,by rw[Nat.add_assoc];exact hy,hv⟩
 ·cases hx

theorem Ba.refl {H:Aa} {R:Ren} {w:World} (h:Ck H R w):Ba H R w H R w where
 le:=R.le_refl
 new:=fun _ _ h=>.inl h
 sim:=h
 next:=Nat.le_refl _
 grow:=Nat.le_refl _
 frame:=fun _ _ _=>rfl
 calm:=fun _ _ _ _ _ _ _ h=>h
 imm:=fun _ _ _=>rfl
 fresh:=fun id c β h h'=>by rw[h] at h';cases h'
 side:=⟨rfl,rfl,fun _ _=>rfl⟩
 rofresh:=fun _ _ h=>.inl h

theorem Ba.trans {H H1 H2:Aa} {R R1 R2:Ren} {w w1 w2:World} (h:Ba H R w H1 R1 w1) (h':Ba H1 R1 w1 H2 R2 w2) (hs:Ck H R w):Ba H R w H2 R2 w2 where
 le:=Ren.le_trans h.le h'.le
 new:=fun id p hp=>by
  rcases h'.new id p hp with h1 | ⟨h1,h2⟩
  ·exact h.new id p h1
  ·refine .inr ⟨?_,Nat.le_trans h.next h2⟩
   cases hr:R.f id with
   | none=>rfl
   | some q=>rw[(h.le id q.1 q.2 hr).1] at h1;cases h1
 sim:=h'.sim
 next:=Nat.le_trans h.next h'.next
 grow:=Nat.le_trans h.grow h'.grow
 frame:=fun c hc hall=>by
  rw[h'.frame c (Nat.lt_of_lt_of_le hc h.grow) fun id β hid=>?_]
  ·exact h.frame c hc hall
  ·cases hr:R.f id with
   | some q =>
    have e:=(h.le id q.1 q.2 hr).1
    rw[hid] at e
    have hr:R.f id=some (c,β):=by rw[hr];exact e.symm
    have hi:=hall id β hr
    rw[h.imm id (hs.dom id _ _ hr).1 hi]
    exact hi
   | none =>
    rcases h.fresh id c β hid hr with h1 | ⟨id0,β0,h1,h2⟩
    ·exact absurd hc (Nat.not_lt.2 h1)
    ·rw[hall id0 β0 h1] at h2;cases h2
 calm:=fun id hid hr=>by
  have hr1:R1.f id=none:=by
   cases h1:R1.f id with
   | none=>rfl
   | some q => rcases h.new id q h1 with h2 | ⟨_, h2⟩
               ·rw[h2] at hr;cases hr
               ·omega
  exact fun Q c β ob ho=>h'.calm id (Nat.lt_of_lt_of_le hid h.next) hr1 Q c β ob (h.calm id hid hr Q c β ob ho)
 imm:=fun id hid hi=>by
  have e:=h.imm id hid hi
  rw[h'.imm id (Nat.lt_of_lt_of_le hid h.next) (by rw[e];exact hi),e]
 fresh:=fun id c β hid hr=>by
  cases h1:R1.f id with
  | some q =>
   have e:=(h'.le id q.1 q.2 h1).1
   rw[hid] at e
   have h1:R1.f id=some (c,β):=by rw[h1];exact e.symm
   exact h.fresh id c β h1 hr
  | none =>
   rcases h'.fresh id c β hid h1 with h2 | ⟨id0,β0,h2,h3⟩
   ·exact .inl (Nat.le_trans h.grow h2)
   ·cases hr0:R.f id0 with
    | some q =>
     have e:=(h.le id0 q.1 q.2 hr0).1
     rw[h2] at e
     have hr0:R.f id0=some (c,β0):=by rw[hr0];exact e.symm
     refine .inr ⟨id0,β0,hr0,?_⟩
     cases hi:(H.get id0).immB with
     | false=>rfl
     | true=>rw[h.imm id0 (hs.dom id0 _ _ hr0).1 hi,hi] at h3;cases h3
    | none=>exact h.fresh id0 c β0 h2 hr0
 side:=⟨h'.side.1.trans h.side.1,h'.side.2.1.trans h.side.2.1,fun a ha=>(h'.side.2.2 a (Nat.lt_of_lt_of_le ha h.grow)).trans (h.side.2.2 a ha)⟩
 rofresh:=fun c C hc=>by
  rcases h'.rofresh c C hc with h1 | h1 | ⟨id0,β0,h2,h3⟩
  ·exact h.rofresh c C h1
  ·exact .inr (.inl (Nat.le_trans h.grow h1))
  ·cases hr0:R.f id0 with
   | some q =>
    have e:=(h.le id0 q.1 q.2 hr0).1
    rw[h2] at e
    have hr0:R.f id0=some (c,β0):=by rw[hr0];exact e.symm
    refine .inr (.inr ⟨id0,β0,hr0,?_⟩)
    cases hi:(H.get id0).immB with
    | false=>rfl
    | true=>rw[h.imm id0 (hs.dom id0 _ _ hr0).1 hi,hi] at h3;cases h3
   | none =>
    rcases h.fresh id0 c β0 h2 hr0 with h4 | h4
    ·exact .inr (.inl h4)
    ·exact .inr (.inr h4)
end Go.Sp
namespace Go.Sp

theorem Ck.of_heap {H:Aa} {R:Ren} {w w':World} (h:Ck H R w) (e:w'.heap=w.heap):Ck H R w':=
 ⟨fun id c β h1=>by rw[e];exact h.dom id c β h1,fun id c β h1=>by rw[e];exact h.obj id c β h1,h.sep,h.anc,h.wf,fun c C h1=>by rw[e];exact h.ro c C h1⟩
theorem frozen_of_heap {w w':World} (e:w'.heap=w.heap) (a:Addr):w'.frozen? a=w.frozen? a:=by unfold World.frozen?;rw[e]
theorem EC {w w':World} (h:∀ c:Nat,(∀ C t fz,w.heap[c]?=some (.cells C t fz)→∃ C' t',w'.heap[c]?=some (.cells C' t' fz))∧((∀ C t fz,w.heap[c]?≠some (.cells C t fz))→∀ C t fz,w'.heap[c]?=some (.cells C t fz)→fz=(0,0))) (a:Addr):w'.frozen? a=w.frozen? a:=by
 obtain⟨h1,h2⟩:=h a.block
 unfold World.frozen?
 cases hw:w.heap[a.block]? with
 | none =>
  cases hw':w'.heap[a.block]? with
  | none=>rfl
  | some o' =>
   cases o' with
   | cells C t fz=>have:=h2 (by rw[hw];simp) C t fz hw';subst this;simp
   | _=>rfl
 | some o =>
  cases o with
  | cells C t fz =>
   obtain⟨C',t',e⟩:=h1 C t fz hw
   rw[e]
  | _ =>
   cases hw':w'.heap[a.block]? with
   | none=>rfl
   | some o' =>
    cases o' with
    | cells C t fz=>have:=h2 (by rw[hw];simp) C t fz hw';subst this;simp
    | _=>rfl
theorem Kr (w:World) {ob:Obj} (hob:∀ C t fz,ob = .cells C t fz→fz=(0,0)) (a:Addr):(w.alloc ob).frozen? a=w.frozen? a:=by
 refine EC (fun c=>?_) a
 rcases Nat.lt_trichotomy c w.heap.size with h | h | h
 ·rw[show (w.alloc ob).heap[c]?=w.heap[c]? from by show (w.heap.push ob)[c]?=_;rw[Array.getElem?_push,if_neg (by omega)]]
  exact⟨fun C t fz e=>⟨C,t,e⟩,fun hn C t fz e=>absurd e (hn C t fz)⟩
 ·subst h
  rw[show (w.alloc ob).heap[w.heap.size]?=some ob from by show (w.heap.push ob)[w.heap.size]?=_;simp]
  refine⟨fun C t fz e=>by simp at e,fun _ C t fz e=>hob C t fz (by injection e)⟩
 ·rw[show (w.alloc ob).heap[c]?=none from by show (w.heap.push ob)[c]?=_;rw[Array.getElem?_eq_none (by simp;omega)]]
  refine⟨fun C t fz e=>?_,fun _ C t fz e=>by cases e⟩
  rw[Array.getElem?_eq_none (by omega)] at e;cases e
theorem JA (w:World) (g:Nat) (cs:Array Value) (a:Addr):(w.setRow g cs).frozen? a=w.frozen? a:=by
 refine EC (fun c=>?_) a
 have hm:(w.setRow g cs).heap[c]?=if g=c then (w.heap[c]?).map (fun | .cells _ elem frozen=>.cells cs elem frozen | o=>o) else w.heap[c]?:=by
  show (w.heap.modify g _)[c]?=_
  rw[Array.getElem?_modify]
  by_cases hgc:g=c
  ·rw[if_pos hgc,if_pos hgc]
   cases w.heap[c]? with
   | none=>rfl
   | some o=>cases o <;> rfl
  ·rw[if_neg hgc,if_neg hgc]
 rw[hm]
 split
 ·cases hw:w.heap[c]? with
  | none=>exact⟨fun C t fz e=>by simp at e,fun _ C t fz e=>by simp at e⟩
  | some o =>
   cases o with
   | cells C t fz=>exact⟨fun C' t' fz' e=>⟨cs,t',by simp at e ⊢;obtain⟨_,e2,e3⟩:=e;exact⟨e2,e3⟩⟩,fun hn=>absurd rfl (hn C t fz)⟩
   | _=>exact⟨fun C t fz e=>by simp at e,fun _ C t fz e=>by simp at e⟩
 ·exact⟨fun C t fz e=>⟨C,t,e⟩,fun hn C t fz e=>absurd e (hn C t fz)⟩
theorem Pw {w:World} {c:Nat} {es es':Array MapEntry} {cl cl':Nat} (h:w.heap[c]?=some (.map es cl)) (a:Addr):World.frozen? { w with heap:=w.heap.setIfInBounds c (.map es' cl') } a=w.frozen? a:=by
 refine EC (fun k=>?_) a
 show (∀ C t fz,_→∃ C' t',(w.heap.setIfInBounds c (.map es' cl'))[k]?=_)∧(_→∀ C t fz,(w.heap.setIfInBounds c (.map es' cl'))[k]?=_→_)
 rw[Array.getElem?_setIfInBounds]
 by_cases hk:c=k
 ·subst hk
  rw[if_pos rfl,h]
  exact⟨fun C t fz e=>by simp at e,fun _ C t fz e=>by split at e <;> simp at e⟩
 ·rw[if_neg hk]
  exact⟨fun C t fz e=>⟨C,t,e⟩,fun hn C t fz e=>absurd e (hn C t fz)⟩
theorem Ba.of_heap {H H':Aa} {R R':Ren} {w w' w2:World} (h:Ba H R w H' R' w') (e:w2.heap=w'.heap) (e1:w2.os=w'.os) (e2:w2.output=w'.output):Ba H R w H' R' w2:=
 ⟨h.le,h.new,h.sim.of_heap e,h.next,by rw[e];exact h.grow,fun c hc hall=>by rw[e];exact h.frame c hc hall,h.calm,h.imm,h.fresh,⟨e1.trans h.side.1,e2.trans h.side.2.1,fun a ha=>(frozen_of_heap e a).trans (h.side.2.2 a ha)⟩,h.rofresh⟩
theorem Ba.from_heap {H H':Aa} {R R':Ren} {w w' w0:World} (h:Ba H R w0 H' R' w') (e:w0.heap=w.heap) (e1:w0.os=w.os) (e2:w0.output=w.output):Ba H R w H' R' w':=
 ⟨h.le,h.new,h.sim,h.next,by rw[←e];exact h.grow,fun c hc hall=>by rw[←e];exact h.frame c (by rw[e];exact hc) hall,h.calm,h.imm,fun id c β h1 h2=>by rw[←e];exact h.fresh id c β h1 h2,⟨h.side.1.trans e1,h.side.2.1.trans e2,fun a ha=>(h.side.2.2 a (by rw[e];exact ha)).trans (frozen_of_heap e a)⟩,fun c C h1=>by rw[←e];exact h.rofresh c C h1⟩

def Ren.ext (R:Ren) (id c β n:Nat):Ren:=⟨fun i=>if i=id then some (c,β) else R.f i,fun k=>if k=c then n else R.sz k,R.ro⟩
theorem Ren.ext_new (R:Ren) (id c β n:Nat):(R.ext id c β n).f id=some (c,β):=by simp[Ren.ext]
theorem Ren.ext_sz (R:Ren) (id c β n:Nat):(R.ext id c β n).sz c=n:=by simp[Ren.ext]
theorem Ren.ext_other (R:Ren) {id c β n i:Nat} (h:i≠id):(R.ext id c β n).f i=R.f i:=by simp[Ren.ext,h]

theorem DF (w:World) (o:Obj) {c:Nat} (h:c < w.heap.size):(w.alloc o).heap[c]?=w.heap[c]?:=by
 show (w.heap.push o)[c]?=_
 rw[Array.getElem?_push,if_neg (by omega)]
theorem JB (w:World) (o:Obj):(w.alloc o).heap[w.heap.size]?=some o:=by
 show (w.heap.push o)[w.heap.size]?=_
 simp

theorem Ck.none_of_next {H:Aa} {R:Ren} {w:World} (h:Ck H R w):R.f H.next=none:=by
 cases hr:R.f H.next with
 | none=>rfl
 | some q=>have:=(h.dom H.next q.1 q.2 hr).1;omega

theorem Jl {H:Aa} {R:Ren} {w:World} {o:AJ} {ob:Obj} (n:Nat) (hs:Ck H R w) (hob:∀ C t fz,ob = .cells C t fz→fz=(0,0))
 (hanc:∀ a,a∈o.ancOf→a < H.next∧(H.get a).immB=false∧(H.get a).writable=false) (hR:∀ R',R.le R'→R'.sz w.heap.size=n→FH R' o w.heap.size 0 (some ob)) :
 Ba H R w (H.push o) (R.ext H.next w.heap.size 0 n) (w.alloc ob):=by
 have hnone:=hs.none_of_next
 have hle:R.le (R.ext H.next w.heap.size 0 n):=⟨fun id c β h=>by
  have hd:=hs.dom id c β h
  refine⟨?_,?_⟩
  ·rw[Ren.ext_other];exact h;omega
  ·simp[Ren.ext];omega,fun _ _ h=>h⟩
 have back:∀ id p,(R.ext H.next w.heap.size 0 n).f id=some p→(id=H.next∧p=(w.heap.size,0))∨(id≠H.next∧R.f id=some p):=fun id p h=>by
  by_cases hid:id=H.next
  ·subst hid;rw[Ren.ext_new] at h;exact .inl ⟨rfl,by injection h with h;exact h.symm⟩
  ·rw[Ren.ext_other _ hid] at h;exact .inr ⟨hid,h⟩
 have hget:∀ id,id≠H.next→(H.push o).get id=H.get id:=fun id h=>by rw[Aa.get_push,if_neg (Ne.symm h)]
 refine⟨hle,?_,⟨?_,?_,?_,?_,hs.wf.push o,fun c C hc=>?_⟩,by simp,by simp,?_,?_,?_,?_,⟨rfl,rfl,fun a _=>Kr w hob a⟩,fun _ _ h=>.inl h⟩
 ·intro id p h
  rcases back id p h with⟨rfl,_⟩ | ⟨_,h'⟩
  ·exact .inr ⟨hnone,Nat.le_refl _⟩
  ·exact .inl h'
 ·intro id c β h
  rcases back id _ h with⟨rfl,hp⟩ | ⟨_,h'⟩
  ·cases hp;simp
  ·have:=hs.dom id c β h';simp;omega
 ·intro id c β h
  rcases back id _ h with⟨rfl,hp⟩ | ⟨hid,h'⟩
  ·cases hp
   rw[Aa.get_push,if_pos rfl,JB]
   exact hR _ hle (Ren.ext_sz _ _ _ _ _)
  ·have hd:=hs.dom id c β h'
   rw[hget id hid,DF _ _ hd.2]
   exact(hs.obj id c β h').mono hle (hle id c β h').2
 ·intro id c β id' β' h h' hne hw
  rcases back id _ h with⟨rfl,hp⟩ | ⟨hid,h1⟩
  ·cases hp
   rcases back id' _ h' with⟨rfl,hp'⟩ | ⟨hid',h1'⟩
   ·exact absurd rfl hne
   ·have:=(hs.dom id' _ _ h1').2;omega
  ·rcases back id' _ h' with⟨rfl,hp'⟩ | ⟨hid',h1'⟩
   ·cases hp';have:=(hs.dom id _ _ h1).2;omega
   ·rw[hget id hid] at hw ⊢
    rw[hget id' hid']
    exact hs.sep id c β id' β' h1 h1' hne hw
 ·intro id a ha
  have key:a < H.next∧(H.get a).immB=false∧(H.get a).writable=false:=by
   by_cases hid:id=H.next
   ·subst hid;rw[Aa.get_push,if_pos rfl] at ha;exact hanc a ha
   ·rw[hget id hid] at ha;exact hs.anc id a ha
  rw[hget a (by omega)]
  exact⟨by simp;omega,key.2⟩
 ·obtain⟨⟨t,fz,h1⟩,h2⟩:=hs.ro c C hc
  have hlt:=(Array.getElem?_eq_some_iff.1 h1).1
  refine⟨⟨t,fz,by rw[DF _ _ hlt];exact h1⟩,fun id β h=>?_⟩
  rcases back id _ h with⟨rfl,hp⟩ | ⟨hid,h'⟩
  ·cases hp;omega
  ·rw[hget id hid];exact h2 id β h'
 ·intro c hc _;exact DF _ _ hc
 ·intro id hid _;rw[hget id (by omega)];exact fun _ _ _ _ h=>h
 ·intro id hid _;exact hget id (by omega)
 ·intro id c β h hr
  rcases back id _ h with⟨rfl,hp⟩ | ⟨_,h1⟩
  ·cases hp;exact .inl (Nat.le_refl _)
  ·rw[h1] at hr;cases hr

theorem JC {R:Ren} {xs ys:List Value} (h:Cf R xs ys) (ext:List Value):Du R xs 0 (ys++ext).toArray:=fun i x hx=>by
 obtain⟨y,hy,hv⟩:=h.get hx
 refine⟨y,?_,hv⟩
 have hi:i < ys.length:=(List.getElem?_eq_some_iff.1 hy).1
 simp[List.getElem?_append_left hi,hy]

theorem EY {H:Aa} {R:Ren} {w:World} {xs ys:List Value} (t:TypeId) (ext:List Value) (imm:Bool) (hs:Ck H R w) (h:Cf R xs ys) (spent:Bool) (anc:List Nat) (hanc:∀ a,a∈anc→a < H.next∧(H.get a).immB=false∧(H.get a).writable=false) :
 Ba H R w (H.push (.cells xs imm spent anc)) (R.ext H.next w.heap.size 0 (ys++ext).length) (w.alloc (.cells (ys++ext).toArray t)):=
 Jl _ hs (fun C t fz e=>by injection e with _ _ e;exact e.symm) hanc fun R' hle hsz=>⟨(ys++ext).toArray,t,(0,0),rfl,by rw[hsz];simp,by simp[h.1],JC (h.mono hle) ext,fun _=>rfl⟩

theorem setRow_size (w:World) (g:Nat) (cs:Array Value):(w.setRow g cs).heap.size=w.heap.size:=by simp[World.setRow]

theorem U8 {R:Ren} {x y:Value} (h:VR R x y) (hx:D6 x=true):y.oneCell'=true:=by
 cases h <;> first | rfl | (simp[D6,vv] at hx;done) | (cases hx)
theorem Me {R:Ren} {xs ys:List Value} (h:Cf R xs ys) (hx:xs.all D6=true):∀ v∈ys,v.oneCell'=true:=fun v hv=>by
 obtain⟨i,hi⟩:=List.mem_iff_getElem?.1 hv
 have hl:i < xs.length:=by rw[h.1];exact(List.getElem?_eq_some_iff.1 hi).1
 have hxi:xs[i]?=some xs[i]:=List.getElem?_eq_getElem hl
 exact U8 (h.2 i _ v hxi hi) (List.all_eq_true.1 hx _ (List.mem_of_getElem? hxi))

theorem Td {H H':Aa} {id off:Nat} {ys:List Value} (h:Ej H id off ys=some H') :
 ∃ xs anc,H.get id = .cells xs false false anc∧off+ys.length≤xs.length∧ys.all D6=true∧H'=(H.kill anc).set id (.cells (BM ys off xs) false false []):=by
 unfold Ej at h
 cases ho:H.get id with
 | cells xs imm spent anc =>
  simp only[ho,Bv,Ac,CF,Km,AV,Bh,BL] at h
  split at h
  ·rename_i hc
   simp only[Bool.and_eq_true,Bool.not_eq_true'] at hc
   obtain⟨hi,hsp,hle,hall⟩:=hc
   subst hi;subst hsp
   injection h with h
   exact⟨xs,anc,rfl,Nat.le_of_ble_eq_true hle,hall,h.symm⟩
  ·cases h
 | map es c=>simp[ho,Bv] at h
 | iter=>simp[ho,Bv] at h
 | dead=>simp[ho,Bv] at h

theorem F8 {H H':Aa} {R:Ren} {w:World} {id off c β:Nat} {ys zs:List Value} (hs:Ck H R w) (hw:Ej H id off ys=some H') (hid:R.f id=some (c,β)) (hz:Cf R ys zs) :
 ∃ C t, w.heap[c]? = some (.cells C t (0, 0)) ∧ β + off + zs.length ≤ C.size ∧ (∀ v ∈ zs, v.oneCell' = true) ∧
  Ba H R w H' R (w.setRow c (C.toList.take (β+off)++zs++C.toList.drop (β+off+zs.length)).toArray):=by
 obtain⟨xs,anc,hg,hle,hsc,rfl⟩:=Td hw
 have hob:=hs.obj id c β hid
 rw[hg] at hob
 obtain⟨C,t,fz,hC,hsz,hfit,hcells,hfz⟩:=hob
 have hfz:=hfz rfl
 subst hfz
 have hzl:=hz.1
 have hd:=hs.dom id c β hid
 refine ⟨C, t, hC, by omega, Me hz hsc, Ren.le_refl R, fun i p h => .inl h, ⟨?_, ?_, ?_, ?_, (hs.wf.kill anc).set (by simpa using hd.1) _, fun c' C' hc' => ?_⟩, by simp, by rw [setRow_size]; exact Nat.le_refl _, ?_, ?_, ?_, fun i c' β' h h' => (by rw [h] at h'; cases h'), ⟨rfl, rfl, fun a _ => JA w c _ a⟩, fun _ _ h => .inl h⟩
 ·intro i c' β' h
  have := hs.dom i c' β' h
  rw[setRow_size];simpa using this
 ·intro i c' β' h
  have hnew:(C.toList.take (β+off)++zs++C.toList.drop (β+off+zs.length)).toArray.size=C.size:=by simp;omega
  by_cases hi:i=id
  ·subst hi
   rw[hid] at h;cases h
   rw[Aa.get_set,if_pos rfl,setRow_heap w c C _ t (0,0) hC]
   refine⟨_,t,(0,0),rfl,by rw[hnew,hsz],by rw[hnew,Ep _ _ _ hle];exact hfit,?_,fun _=>rfl⟩
   intro j x hx
   rw[He _ _ _ hle] at hx
   split at hx
   ·rename_i hj
    obtain⟨y,hy,hv⟩:=hz.get hx
    refine⟨y,?_,hv⟩
    simp only[List.getElem?_toArray]
    rw[List.append_assoc,List.getElem?_append_right (by simp;omega),List.getElem?_append_left (by simp;omega)]
    rw[←hy];congr 1;simp;omega
   ·rename_i hj
    obtain⟨y,hy,hv⟩:=hcells j x hx
    refine⟨y,?_,hv⟩
    simp only[List.getElem?_toArray]
    have hjx:j < xs.length:=(List.getElem?_eq_some_iff.1 hx).1
    by_cases hlt:j < off
    ·rw[List.append_assoc,List.getElem?_append_left (by simp;omega),List.getElem?_take_of_lt (by omega)]
     simpa using hy
    ·rw[List.getElem?_append_right (by simp;omega),List.getElem?_drop]
     rw[←hy]
     simp only[Array.getElem?_toList]
     congr 1;simp;omega
  ·by_cases hc:c'=c
   ·subst hc
    have hsep := hs.sep id c' β i β' hid h (Ne.symm hi) (by rw [hg]; rfl)
    have hdead:((H.kill anc).set id (.cells (BM ys off xs) false false [])).get i = .dead:=by
     rw[Aa.get_set,if_neg (Ne.symm hi),Aa.get_kill]
     rcases hsep with h1 | ⟨h1,_⟩
     ·split
      ·rfl
      ·exact h1
     ·have h1:i∈anc:=by rw[hg] at h1;exact h1
      rw[if_pos h1]
    rw[hdead];trivial
   ·rw[setRow_other _ _ _ _ hc,Aa.get_set,if_neg (Ne.symm hi),Aa.get_kill]
    split
    ·trivial
    ·exact hs.obj i c' β' h
 ·intro i c' β' i' β'' h h' hne hwr
  have hgi:∀ j,j≠id→((H.kill anc).set id (.cells (BM ys off xs) false false [])).get j=if j∈anc then .dead else H.get j:=fun j hj=>by rw[Aa.get_set,if_neg (Ne.symm hj),Aa.get_kill]
  by_cases hi:i=id
  ·subst hi
   rw[hgi i' (Ne.symm hne)]
   have hsep := hs.sep i c' β' i' β'' h h' hne (by rw [hg]; rfl)
   rcases hsep with h1 | ⟨h1,_⟩
   ·left;split
    ·rfl
    ·exact h1
   ·left
    have h1:i'∈anc:=by rw[hg] at h1;exact h1
    rw[if_pos h1]
  ·rw[hgi i hi] at hwr ⊢
   by_cases ha:i∈anc
   ·rw[if_pos ha] at hwr;simp[AJ.writable] at hwr
   ·rw[if_neg ha] at hwr ⊢
    have hsep := hs.sep i c' β' i' β'' h h' hne hwr
    by_cases hi':i'=id
    ·subst hi'
     rcases hsep with h1 | ⟨h1,h2⟩
     ·rw[hg] at h1;cases h1
     ·right
      refine⟨h1,?_⟩
      rw[Aa.get_set,if_pos rfl]
      rw[hg] at h2
      simpa [AJ.size,Ep _ _ _ hle] using h2
    ·rw[hgi i' hi']
     rcases hsep with h1 | ⟨h1,h2⟩
     ·left;split
      ·rfl
      ·exact h1
     ·by_cases ha':i'∈anc
      ·left;rw[if_pos ha']
      ·right;rw[if_neg ha'];exact⟨h1,h2⟩
 ·intro i a ha
  have key:a < H.next∧(H.get a).immB=false∧(H.get a).writable=false:=by
   rw[Aa.get_set] at ha
   split at ha
   ·simp[AJ.ancOf] at ha
   ·rw[Aa.get_kill] at ha
    split at ha
    ·simp[AJ.ancOf] at ha
    ·exact hs.anc i a ha
  refine⟨by simpa using key.1,?_⟩
  rw[Aa.get_set]
  split
  ·rename_i he;subst he;have:=key.2.2;rw[hg] at this;cases this
  ·rw[Aa.get_kill];split
   ·exact⟨rfl,rfl⟩
   ·exact key.2
 ·obtain⟨⟨t',fz',h1⟩,h2⟩:=hs.ro c' C' hc'
  have hne:c'≠c:=fun e=>by subst e;have:=h2 id β hid;rw[hg] at this;cases this
  refine ⟨⟨t', fz', by rw [setRow_other _ _ _ _ hne]; exact h1⟩, fun i β' h => ?_⟩
  have := h2 i β' h
  rw[Aa.get_set]
  split
  ·rename_i he;subst he;rw[hg] at this;cases this
  ·rw[Aa.get_kill];split
   ·rfl
   ·exact this
 ·intro c' hc' hall
  by_cases h:c'=c
  ·subst h
   have:=hall id β hid
   rw[hg] at this;cases this
  ·exact setRow_other _ _ _ _ h
 ·intro i hi hr
  by_cases h:i=id
  ·subst h;rw[hid] at hr;cases hr
  ·rw[Aa.get_set,if_neg (Ne.symm h),Aa.get_kill]
   split
   ·exact fun _ _ _ _ _=>trivial
   ·exact fun _ _ _ _ h=>h
 ·intro i hi him
  by_cases h:i=id
  ·subst h;rw[hg] at him;cases him
  ·rw[Aa.get_set,if_neg (Ne.symm h),Aa.get_kill]
   split
   ·rename_i hin
    have:=(hs.anc id i (by rw[hg];exact hin)).2.1
    rw[him] at this;cases this
   ·rfl

theorem Fu {H:Aa} {R:Ren} {w:World} {id c clock clock':Nat} {es es':List EO} {Es':Array MapEntry} (hs:Ck H R w) (hg:H.get id = .map es clock) (hid:R.f id=some (c,0)) (hE:CR R es' Es'.toList) :
 Ba H R w (H.set id (.map es' clock')) R { w with heap:=w.heap.setIfInBounds c (.map Es' clock') }:=by
 have hd:=hs.dom id c 0 hid
 have hother:∀ j,j≠id→(H.set id (.map es' clock')).get j=H.get j:=fun j hj=>by rw[Aa.get_set,if_neg (Ne.symm hj)]
 have hself:(H.set id (.map es' clock')).get id = .map es' clock':=by rw[Aa.get_set,if_pos rfl]
 obtain⟨Es0,hmap⟩:∃ Es0,w.heap[c]?=some (.map Es0 clock):=by
  have h9:=hs.obj id c 0 hid
  rw[hg] at h9
  obtain⟨_,Es0,h10,_⟩:=h9
  exact⟨Es0,h10⟩
 have hheap:∀ k,k≠c→(w.heap.setIfInBounds c (.map Es' clock'))[k]?=w.heap[k]?:=fun k hk=>by rw[Array.getElem?_setIfInBounds_ne (Ne.symm hk)]
 refine ⟨Ren.le_refl R, fun i p h => .inl h, ⟨?_, ?_, ?_, ?_, hs.wf.set hd.1 _, fun c' C' hc' => ?_⟩, by simp, by simp, ?_, ?_, ?_, fun i c' β' h h' => (by rw [h] at h'; cases h'), ⟨rfl, rfl, fun a _ => Pw hmap a⟩, fun _ _ h => .inl h⟩
 ·intro i c' β' h
  have := hs.dom i c' β' h
  simpa using this
 ·intro i c' β' h
  show FH R _ c' β' (w.heap.setIfInBounds c (.map Es' clock'))[c']?
  by_cases hi:i=id
  ·subst hi
   rw[hid] at h;cases h
   rw[hself]
   refine⟨rfl,Es',?_,hE⟩
   simp[hd.2]
  ·rw[hother i hi]
   by_cases hc:c'=c
   ·subst hc
    have hsep := hs.sep id c' 0 i β' hid h (Ne.symm hi) (by rw [hg]; rfl)
    rcases hsep with h1 | ⟨h1,_⟩
    ·rw[h1];trivial
    ·rw[hg] at h1;cases h1
   ·rw [hheap c' hc]; exact hs.obj i c' β' h
 ·intro i c' β' i' β'' h h' hne hwr
  by_cases hi:i=id
  ·subst hi
   have hsep := hs.sep i c' β' i' β'' h h' hne (by rw [hg]; rfl)
   rw[hother i' (Ne.symm hne)]
   rcases hsep with h1 | ⟨h1,_⟩
   ·exact .inl h1
   ·rw[hg] at h1;cases h1
  ·rw[hother i hi] at hwr ⊢
   have hsep := hs.sep i c' β' i' β'' h h' hne hwr
   by_cases hi':i'=id
   ·subst hi'
    rcases hsep with h1 | ⟨h1,h2⟩
    ·rw[hg] at h1;cases h1
    ·right
     refine⟨h1,?_⟩
     rw[hself]
     rw[hg] at h2
     exact h2
   ·rw[hother i' hi'];exact hsep
 ·intro i a ha
  have key:a < H.next∧(H.get a).immB=false∧(H.get a).writable=false:=by
   by_cases hi:i=id
   ·subst hi;rw[hself] at ha;cases ha
   ·rw[hother i hi] at ha;exact hs.anc i a ha
  refine⟨by simpa using key.1,?_⟩
  by_cases ha':a=id
  ·subst ha';have:=key.2.2;rw[hg] at this;cases this
  ·rw[hother a ha'];exact key.2
 ·obtain⟨⟨t',fz',h1⟩,h2⟩:=hs.ro c' C' hc'
  have hne:c'≠c:=fun e=>by subst e;have:=h2 id 0 hid;rw[hg] at this;cases this
  refine ⟨⟨t', fz', ?_⟩, fun i β' h => ?_⟩
  ·show (w.heap.setIfInBounds c (.map Es' clock'))[c']?=_
   rw[hheap c' hne];exact h1
  ·have := h2 i β' h
   by_cases hi:i=id
   ·subst hi;rw[hg] at this;cases this
   ·rw[hother i hi];exact this
 ·intro c' hc' hall
  show (w.heap.setIfInBounds c (.map Es' clock'))[c']?=_
  by_cases h:c'=c
  ·subst h;have:=hall id 0 hid;rw[hg] at this;cases this
  ·exact hheap c' h
 ·intro i hi hr
  by_cases h:i=id
  ·subst h;rw[hid] at hr;cases hr
  ·rw[hother i h];exact fun _ _ _ _ h=>h
 ·intro i hi him
  by_cases h:i=id
  ·subst h;rw[hg] at him;cases him
  ·exact hother i h

theorem U9 {H:Aa} {R:Ren} {w:World} {id:Nat} {xs:List Value} {anc:List Nat} (hs:Ck H R w) (hg:H.get id = .cells xs false false anc) :
 Ba H R w (H.set id (.cells xs false true anc)) R w:=by
 have hother:∀ j,j≠id→(H.set id (.cells xs false true anc)).get j=H.get j:=fun j hj=>by rw[Aa.get_set,if_neg (Ne.symm hj)]
 have hself:(H.set id (.cells xs false true anc)).get id = .cells xs false true anc:=by rw[Aa.get_set,if_pos rfl]
 refine ⟨Ren.le_refl R, fun i p h => .inl h, ⟨?_, ?_, ?_, ?_, hs.wf.set (hs.wf.lt (by rw [hg]; simp)) _, fun c' C' hc' => ⟨(hs.ro c' C' hc').1, fun i β' h => ?_⟩⟩, by simp, Nat.le_refl _, fun _ _ _ => rfl, ?_, ?_, fun i c' β' h h' => (by rw [h] at h'; cases h'), ⟨rfl, rfl, fun _ _ => rfl⟩, fun _ _ h => .inl h⟩
 ·intro i c' β' h
  have := hs.dom i c' β' h
  simpa using this
 ·intro i c' β' h
  by_cases hi:i=id
  ·subst hi
   have := hs.obj i c' β' h
   rw[hg] at this
   rw[hself]
   exact this
  ·rw [hother i hi]; exact hs.obj i c' β' h
 ·intro i c' β' i' β'' h h' hne hwr
  by_cases hi:i=id
  ·subst hi;rw[hself] at hwr;cases hwr
  ·rw[hother i hi] at hwr ⊢
   have hsep := hs.sep i c' β' i' β'' h h' hne hwr
   by_cases hi':i'=id
   ·subst hi'
    rcases hsep with h1 | ⟨h1,h2⟩
    ·rw[hg] at h1;cases h1
    ·right
     refine⟨h1,?_⟩
     rw[hself]
     rw[hg] at h2
     exact h2
   ·rw[hother i' hi'];exact hsep
 ·intro i a ha
  have key:a < H.next∧(H.get a).immB=false∧(H.get a).writable=false:=by
   by_cases hi:i=id
   ·subst hi;rw[hself] at ha;exact hs.anc i a (by rw[hg];exact ha)
   ·rw[hother i hi] at ha;exact hs.anc i a ha
  refine⟨by simpa using key.1,?_⟩
  by_cases ha':a=id
  ·subst ha';rw[hself];exact⟨rfl,rfl⟩
  ·rw[hother a ha'];exact key.2
 ·by_cases hi:i=id
  ·subst hi;rw[hself];rfl
  ·rw [hother i hi]; exact (hs.ro c' C' hc').2 i β' h
 ·intro i hi hr
  by_cases h:i=id
  ·subst h;rw[hself,hg];exact fun _ _ _ _ h=>h
  ·rw[hother i h];exact fun _ _ _ _ h=>h
 ·intro i hi him
  by_cases h:i=id
  ·subst h;rw[hg] at him;cases him
  ·exact hother i h

theorem aB {H:Aa} {R:Ren} {w:World} {id off c β:Nat} {xs ys zs:List Value} {anc:List Nat} (hs:Ck H R w) (hg:H.get id = .cells xs false false anc) (hid:R.f id=some (c,β))
 (hoff:off≤xs.length) (hz:Cf R ys zs) {C:Array Value} {t:TypeId} (hC:w.heap[c]?=some (.cells C t (0,0))) (hfit:β+xs.length+zs.length≤C.size) :
 Ba H R w ((H.set id (.cells xs false true anc)).push (.cells (xs.drop off ++ ys) false false (id :: anc))) (R.ext H.next c (β + off) (R.sz c))
  (w.setRow c (C.toList.take (β+xs.length)++zs++C.toList.drop (β+xs.length+zs.length)).toArray):=by
 have hnone:=hs.none_of_next
 have hd:=hs.dom id c β hid
 have hob:=hs.obj id c β hid
 rw[hg] at hob
 obtain⟨C',t',fz,hC',hsz,hfitx,hcells,hfz⟩:=hob
 rw[hC] at hC';cases hC'
 have hsame:∀ k,(R.ext H.next c (β+off) (R.sz c)).sz k=R.sz k:=fun k=>by simp only[Ren.ext];split <;> simp_all
 have hle : R.le (R.ext H.next c (β + off) (R.sz c)) := ⟨fun i c' β' h => ⟨by rw [Ren.ext_other]; exact h; have := (hs.dom i c' β' h).1; omega, hsame _⟩, fun _ _ h => h⟩
 have back:∀ i p,(R.ext H.next c (β+off) (R.sz c)).f i=some p→(i=H.next∧p=(c,β+off))∨(i≠H.next∧R.f i=some p):=fun i p h=>by
  by_cases hi:i=H.next
  ·subst hi;rw[Ren.ext_new] at h;exact .inl ⟨rfl,by injection h with h;exact h.symm⟩
  ·rw[Ren.ext_other _ hi] at h;exact .inr ⟨hi,h⟩
 have hnext:((H.set id (.cells xs false true anc)).push (.cells (xs.drop off++ys) false false (id::anc))).get H.next = .cells (xs.drop off++ys) false false (id::anc):=by
  rw[Aa.get_push,if_pos (by simp)]
 have hget:∀ i,i≠H.next→i≠id→((H.set id (.cells xs false true anc)).push (.cells (xs.drop off++ys) false false (id::anc))).get i=H.get i:=fun i h1 h2=>by
  rw[Aa.get_push,if_neg (by simp;exact Ne.symm h1),Aa.get_set,if_neg (Ne.symm h2)]
 have hself:((H.set id (.cells xs false true anc)).push (.cells (xs.drop off++ys) false false (id::anc))).get id = .cells xs false true anc:=by
  rw[Aa.get_push,if_neg (by simp;omega),Aa.get_set,if_pos rfl]
 have hnew:(C.toList.take (β+xs.length)++zs++C.toList.drop (β+xs.length+zs.length)).toArray.size=C.size:=by simp;omega
 have hzl:=hz.1
 have keepCell:∀ k,k < β+xs.length→(C.toList.take (β+xs.length)++zs++C.toList.drop (β+xs.length+zs.length)).toArray[k]?=C[k]?:=fun k hk=>by
  simp only[List.getElem?_toArray]
  rw[List.append_assoc,List.getElem?_append_left (by simp;omega),List.getElem?_take_of_lt (by omega)]
  simp
 refine⟨hle,?_,⟨?_,?_,?_,?_,(hs.wf.set hd.1 _).push _,fun c' C' hc'=>?_⟩,by simp,by rw[setRow_size];exact Nat.le_refl _,?_,?_,?_,?_,⟨rfl,rfl,fun a _=>JA w c _ a⟩,fun _ _ h=>.inl h⟩
 ·intro i p h
  rcases back i p h with⟨rfl,_⟩ | ⟨_,h'⟩
  ·exact .inr ⟨hnone,Nat.le_refl _⟩
  ·exact .inl h'
 ·intro i c' β' h
  rw[setRow_size]
  rcases back i _ h with⟨rfl,hp⟩ | ⟨_,h'⟩
  ·cases hp;simp;exact hd.2
  ·have := hs.dom i c' β' h'; simp; omega
 ·intro i c' β' h
  rcases back i _ h with⟨rfl,hp⟩ | ⟨hi,h'⟩
  ·cases hp
   rw[hnext,setRow_heap w c C _ t (0,0) hC]
   refine⟨_,t,(0,0),rfl,by rw[hnew,hsame,hsz],by rw[hnew];simp;omega,?_,fun _=>rfl⟩
   intro j x hx
   by_cases hj:j < xs.length - off
   ·rw[List.getElem?_append_left (by simp;exact hj),List.getElem?_drop] at hx
    obtain⟨y,hy,hv⟩:=hcells (off+j) x hx
    refine⟨y,?_,hv.mono hle⟩
    rw[show β+off+j=β+(off+j) by omega,keepCell _ (by omega)]
    exact hy
   ·rw[List.getElem?_append_right (by simp;omega)] at hx
    obtain⟨y,hy,hv⟩:=hz.get hx
    refine⟨y,?_,hv.mono hle⟩
    have hjy:j - (List.drop off xs).length < zs.length:=(List.getElem?_eq_some_iff.1 hy).1
    simp at hjy
    simp only[List.getElem?_toArray]
    rw[List.append_assoc,List.getElem?_append_right (by simp;omega),List.getElem?_append_left (by simp;omega),←hy]
    congr 1;simp;omega
  ·by_cases hii:i=id
   ·subst hii
    rw[hid] at h';cases h'
    rw[hself,setRow_heap w c C _ t (0,0) hC]
    refine⟨_,t,(0,0),rfl,by rw[hnew,hsame,hsz],by rw[hnew];exact hfitx,?_,fun _=>rfl⟩
    intro j x hx
    obtain⟨y,hy,hv⟩:=hcells j x hx
    have hjx:j < xs.length:=(List.getElem?_eq_some_iff.1 hx).1
    exact⟨y,by rw[keepCell _ (by omega)];exact hy,hv.mono hle⟩
   ·rw[hget i hi hii]
    by_cases hc:c'=c
    ·subst hc
     have hsep := hs.sep id c' β i β' hid h' (Ne.symm hii) (by rw [hg]; rfl)
     rcases hsep with h1 | ⟨h1,h2⟩
     ·rw[h1];trivial
     ·have ho := hs.obj i c' β' h'
      rw[setRow_heap w c' C _ t (0,0) hC]
      cases hgi:H.get i with
      | dead=>trivial
      | cells xs' imm' sp' anc' =>
       rw[hgi] at ho
       obtain⟨C1,t1,fz1,hC1,hsz1,hfit1,hcells1,hfz1⟩:=ho
       rw[hC] at hC1;cases hC1
       rw[hgi,hg] at h2
       simp only[AJ.size] at h2
       refine⟨_,t,(0,0),rfl,by rw[hnew,hsame,hsz1],by rw[hnew];exact hfit1,?_,fun _=>rfl⟩
       intro j x hx
       obtain⟨y,hy,hv⟩:=hcells1 j x hx
       have hjx:j < xs'.length:=(List.getElem?_eq_some_iff.1 hx).1
       exact⟨y,by rw[keepCell _ (by omega)];exact hy,hv.mono hle⟩
      | map es cl=>rw[hgi] at ho;obtain⟨_,Es,h3,_⟩:=ho;rw[hC] at h3;cases h3
      | iter=>rw[hgi] at ho;obtain⟨_,_,_,h3,_⟩:=ho;rw[hC] at h3;cases h3
    ·rw[setRow_other _ _ _ _ hc]
     exact (hs.obj i c' β' h').mono hle (hsame _)
 ·intro i c' β' i' β'' h h' hne hwr
  rcases back i _ h with⟨rfl,hp⟩ | ⟨hi,h1⟩
  ·cases hp
   rw[hnext]
   rcases back i' _ h' with⟨rfl,_⟩ | ⟨hi',h1'⟩
   ·exact absurd rfl hne
   ·by_cases hii:i'=id
    ·subst hii
     rw[hid] at h1';cases h1'
     right
     rw[hself]
     refine⟨by simp[AJ.ancOf],?_⟩
     simp[AJ.size];omega
    ·rw[hget i' hi' hii]
     have hsep := hs.sep id c β i' β'' hid h1' (Ne.symm hii) (by rw [hg]; rfl)
     rcases hsep with h2 | ⟨h2,h3⟩
     ·exact .inl h2
     ·right
      rw[hg] at h2 h3
      refine⟨by simp[AJ.ancOf];exact .inr h2,?_⟩
      simp[AJ.size] at h3 ⊢;omega
  ·by_cases hii:i=id
   ·subst hii;rw[hself] at hwr;cases hwr
   ·rw[hget i hi hii] at hwr ⊢
    rcases back i' _ h' with⟨rfl,hp⟩ | ⟨hi',h1'⟩
    ·cases hp
     have hsep := hs.sep i c β' id β h1 hid hii hwr
     rcases hsep with h2 | ⟨h2,h3⟩
     ·rw[hg] at h2;cases h2
     ·exfalso
      have hsep2 := hs.sep id c β i β' hid h1 (Ne.symm hii) (by rw [hg]; rfl)
      rcases hsep2 with h4 | ⟨h4,_⟩
      ·rw[h4] at hwr;cases hwr
      ·have h5:=(hs.anc i id h2).2.2;rw[hg] at h5;cases h5
    ·have hsep := hs.sep i c' β' i' β'' h1 h1' hne hwr
     by_cases hii':i'=id
     ·subst hii'
      rw[hself]
      rcases hsep with h2 | ⟨h2,h3⟩
      ·rw[hg] at h2;cases h2
      ·exact .inr ⟨h2,by rw[hg] at h3;exact h3⟩
     ·rw[hget i' hi' hii'];exact hsep
 ·intro i a ha
  have key:a < H.next∧(a=id∨((H.get a).immB=false∧(H.get a).writable=false)):=by
   by_cases hi:i=H.next
   ·subst hi
    rw[hnext] at ha
    simp[AJ.ancOf] at ha
    rcases ha with rfl | ha
    ·exact⟨hd.1,.inl rfl⟩
    ·have:=hs.anc id a (by rw[hg];exact ha);exact⟨this.1,.inr this.2⟩
   ·by_cases hii:i=id
    ·subst hii;rw[hself] at ha;have:=hs.anc i a (by rw[hg];exact ha);exact⟨this.1,.inr this.2⟩
    ·rw[hget i hi hii] at ha;have:=hs.anc i a ha;exact⟨this.1,.inr this.2⟩
  refine⟨by simp;omega,?_⟩
  by_cases ha':a=id
  ·subst ha';rw[hself];exact⟨rfl,rfl⟩
  ·rw[hget a (by omega) ha']
   rcases key.2 with h | h
   ·exact absurd h ha'
   ·exact h
 ·obtain⟨⟨t',fz',h1⟩,h2⟩:=hs.ro c' C' hc'
  have hne:c'≠c:=fun e=>by subst e;have:=h2 id β hid;rw[hg] at this;cases this
  refine ⟨⟨t', fz', by rw [setRow_other _ _ _ _ hne]; exact h1⟩, fun i β' h => ?_⟩
  rcases back i _ h with⟨rfl,hp⟩ | ⟨hi,h'⟩
  ·cases hp;exact absurd rfl hne
  ·by_cases hii:i=id
   ·subst hii;rw[hself];rfl
   ·rw [hget i hi hii]; exact h2 i β' h'
 ·intro c' hc' hall
  by_cases h:c'=c
  ·subst h;have:=hall id β hid;rw[hg] at this;cases this
  ·exact setRow_other _ _ _ _ h
 ·intro i hi hr
  by_cases h:i=id
  ·subst h;rw[hid] at hr;cases hr
  ·rw[hget i (by omega) h];exact fun _ _ _ _ h=>h
 ·intro i hi him
  by_cases h:i=id
  ·subst h;rw[hg] at him;cases him
  ·exact hget i (by omega) h
 ·intro i c' β' h hr
  rcases back i _ h with⟨rfl,hp⟩ | ⟨_,h1⟩
  ·cases hp;exact .inr ⟨id,β,hid,by rw[hg];rfl⟩
  ·rw[h1] at hr;cases hr
end Go.Sp
namespace Go.Sp

theorem Ae {β:Type} {c:Bool} {t:Option β} {v:β} (h:bb c t none=some v):c=true∧t=some v:=by
 cases c with
 | false=>cases h
 | true=>exact⟨rfl,h⟩
theorem FQ {β:Type} {c:Bool} {t:Option β} {v:β} (h:bb c none t=some v):c=false∧t=some v:=by
 cases c with
 | true=>cases h
 | false=>exact⟨rfl,h⟩
theorem Bg {α β γ:Type} (p:α×β) (k:α→β→γ):pp p k=k p.1 p.2:=by cases p;rfl
theorem Av {a b:Bool} (h:an a b=true):a=true∧b=true:=by simpa using h

def Q7 (P:Program) (t:TypeId) (zs:List Value):Prop:=
 (∀ (xs ys:List Value) (b:Bool) (w:World),Bo zs xs=true→Cj xs ys=some b→(Op.equal t (.agg ⟨xs⟩) (.agg ⟨ys⟩)).run P w = .ok b w) ∧
 P.eqGuardType P.depth t=false ∧
 (∀ (xs:List Value) (w:World) (e:Bool),xs.length=zs.length→(Instr.checkKey e 10000 t (.agg ⟨xs⟩)).run P w = .ok () w)

theorem Te {R:Ren} {z x u:Value} (h:EB z x=true) (hv:VR R x u):EB z u=true:=by
 cases z <;> simp only[EB,vv] at h ⊢ <;> try (cases h;done)
 case bool=>cases hb:Bf x with
  | none=>rw[hb] at h;cases h
  | some b=>have:=BV hb;subst this;rw[hv.bool_l];rfl
 case int=>cases hb:ES x with
  | none=>rw[hb] at h;cases h
  | some b=>have:=Cm hb;subst this;rw[hv.int_l];rfl
 case string=>cases hb:Gx x with
  | none=>rw[hb] at h;cases h
  | some b=>have:=Cw hb;subst this;rw[hv.string_l];rfl
theorem JD {R:Ren} {zs xs us:List Value} (h:Bo zs xs=true) (hv:Cf R xs us):Bo zs us=true:=by
 induction zs generalizing xs us with
 | nil => cases xs with
  | nil=>rw[hv.unnil];rfl
  | cons x xs=>cases h
 | cons z zs ih => cases xs with
  | nil=>cases h
  | cons x xs =>
   obtain⟨u,us,rfl,h1,h2⟩:=hv.uncons
   obtain⟨h3,h4⟩:=Av (show an (EB z x) (Bo zs xs)=true from h)
   show an (EB z u) (Bo zs us)=true
   rw[Te h3 h1,ih h4 h2];rfl
theorem Fg {zs xs:List Value} (h:Bo zs xs=true):xs.length=zs.length:=by
 induction zs generalizing xs with
 | nil => cases xs with
  | nil=>rfl
  | cons x xs=>cases h
 | cons z zs ih => cases xs with
  | nil=>cases h
  | cons x xs=>obtain⟨_,h4⟩:=Av (show an (EB z x) (Bo zs xs)=true from h);simp[ih h4]
theorem JE {i:TI} {xs:List Value} (h:Nr i xs=true):i.flat=true∧∃ zs,i.zero=some (.agg ⟨zs⟩)∧Bo zs xs=true:=by
 obtain⟨h1,h2⟩:=Av h
 refine⟨h1,?_⟩
 cases hz:i.zero with
 | none=>rw[hz] at h2;cases h2
 | some z =>
  rw[hz] at h2
  cases ha:Bt z with
  | none=>rw[show oo (some z) false (fun z=>oo (Bt z) false fun zs=>Bo zs xs)=oo (Bt z) false fun zs=>Bo zs xs from rfl,ha] at h2;cases h2
  | some zs =>
   rw[show oo (some z) false (fun z=>oo (Bt z) false fun zs=>Bo zs xs)=oo (Bt z) false fun zs=>Bo zs xs from rfl,ha] at h2
   exact⟨zs,by rw[BQ ha],h2⟩

structure Jm (P:Program) (tt:TT):Prop where
 ok:∀ t i,tt t=some i→P.underlying t=some i.und∧∃ inf,P.info? t=some inf∧inf.size=i.size∧inf.bytes=i.bytes∧inf.zero=i.zero
 plain:∀ t i z,tt t=some i→i.zero=some z→Ee z=true
 flat:∀ t i zs,tt t=some i→i.flat=true→i.zero=some (.agg ⟨zs⟩)→Q7 P t zs

section
variable {P:Program} {tt:TT} (hT:Jm P tt)
include hT
theorem Jm.und {t:TypeId} {i:TI} (h:tt t=some i):P.underlying t=some i.und:=(hT.ok t i h).1
theorem Jm.run_und {t:TypeId} {i:TI} (h:tt t=some i) (w:World):(underlying t).run P w = .ok i.und w:=by
 simp[underlying,hT.und h]
theorem Jm.run_size {t:TypeId} {i:TI} (h:tt t=some i) (w:World):(sizeOf t).run P w = .ok i.size w:=by
 obtain⟨_,inf,h1,h2,_⟩:=hT.ok t i h
 simp[sizeOf,typeInfo,h1,h2]
theorem Jm.run_bytes {t:TypeId} {i:TI} (h:tt t=some i) (w:World):∃ inf:TypeInfo,(typeInfo t).run P w = .ok inf w∧inf.size=i.size∧inf.bytes=i.bytes∧inf.zero=i.zero:=by
 obtain⟨_,inf,h1,h2,h3,h4⟩:=hT.ok t i h
 exact⟨inf,by simp[typeInfo,h1],h2,h3,h4⟩
theorem Jm.run_zero {t:TypeId} {i:TI} (h:tt t=some i) {z:Value} (hz:i.zero=some z) (w:World):(zeroValue t).run P w = .ok z w:=by
 obtain⟨_,inf,h1,_,_,h4⟩:=hT.ok t i h
 simp[zeroValue,typeInfo,h1,h4,hz]
theorem Jm.run_isAgg {t:TypeId} {i:TI} (h:tt t=some i) (w:World):(isAgg t).run P w = .ok (DU i.und) w:=by
 have:=hT.run_und h w
 simp only[isAgg,Sem.run_bind,this,Result.andThen_ok]
 cases i.und <;> rfl
end

def Px (H:Aa) (R:Ren) (w:World) (r:Result Next) (v:Value) (H':Aa):Prop:=
 ∃ nx u w' R',r = .ok nx w'∧(nx = .value u∨(nx = .skip∧u=undef))∧VR R' v u∧Ba H R w H' R' w'

section
variable {P:Program} {tt:TT} {H H':Aa} {R R':Ren} {w w':World} {v:Value}
theorem Px.value {s:Sem Value} {u:Value} (hr:s.run P w = .ok u w') (hv:VR R' v u) (hp:Ba H R w H' R' w'):Px H R w ((do pure (.value (←s)):Sem Next).run P w) v H':=
 ⟨.value u,u,w',R',by simp[hr],.inl rfl,hv,hp⟩
theorem Px.quiet {s:Sem Value} {u:Value} (hs:Ck H R w) (hr:s.run P w = .ok u w) (hv:VR R v u):Px H R w ((do pure (.value (←s)):Sem Next).run P w) v H:=
 Px.value hr hv (.refl hs)
theorem Px.unit {s:Sem Unit} (hr:s.run P w = .ok () w') (hp:Ba H R w H' R' w'):Px H R w ((do s;pure .skip:Sem Next).run P w) undef H':=
 ⟨.skip,undef,w',R',by simp[hr],.inr ⟨rfl,rfl⟩,IL,hp⟩
end

theorem Q8 (m:Nat) (h:m≤9223372036854775807):IntKind.wrap .i64 (m:Int)=m:=IntWalk.i64_in _ (by omega)
theorem Q9 (m:Nat) (h:m≤9223372036854775807):IntKind.wrap .i64 (-((m:Int)+1)) = -((m:Int)+1):=IntWalk.i64_in _ (by omega)
theorem Ra (k:IntKind) (hk:k.signed=false) (n:Int):k.wrap n=n % (2 ^ k.bits:Int):=by
 simp only[IntKind.wrap,hk,Bool.false_and,Bool.false_eq_true,if_false]
section
variable (f:IntKind→Int→Int) (m:Nat)
theorem aC (n:Int):Gz f .i8 n=f .i8 n:=rfl
theorem YJ (n:Int):Gz f .i16 n=f .i16 n:=rfl
theorem YK (n:Int):Gz f .i32 n=f .i32 n:=rfl
theorem YL:Gz f .i64 (Int.ofNat m)=bb (Nat.ble m 9223372036854775807) (Int.ofNat m) (f .i64 (Int.ofNat m)):=rfl
theorem Va:Gz f .i64 (Int.negSucc m)=bb (Nat.ble m 9223372036854775807) (Int.negSucc m) (f .i64 (Int.negSucc m)):=rfl
theorem aD:Gz f .u8 (Int.ofNat m)=((m % 256:Nat):Int):=rfl
theorem YM:Gz f .u8 (Int.negSucc m)=f .u8 (Int.negSucc m):=rfl
theorem YN:Gz f .u16 (Int.ofNat m)=((m % 65536:Nat):Int):=rfl
theorem Vb:Gz f .u16 (Int.negSucc m)=f .u16 (Int.negSucc m):=rfl
theorem YO:Gz f .u32 (Int.ofNat m)=((m % 4294967296:Nat):Int):=rfl
theorem Vd:Gz f .u32 (Int.negSucc m)=f .u32 (Int.negSucc m):=rfl
theorem YP:Gz f .u64 (Int.ofNat m)=((m % 18446744073709551616:Nat):Int):=rfl
theorem Ve:Gz f .u64 (Int.negSucc m)=f .u64 (Int.negSucc m):=rfl
end
theorem YQ (m:Nat):((m % 256:Nat):Int)=IntKind.wrap .u8 (Int.ofNat m):=by rw[Ra _ rfl];show _=(m:Int) % (2 ^ 8:Int);omega
theorem Vf (m:Nat):((m % 65536:Nat):Int)=IntKind.wrap .u16 (Int.ofNat m):=by rw[Ra _ rfl];show _=(m:Int) % (2 ^ 16:Int);omega
theorem Vg (m:Nat):((m % 4294967296:Nat):Int)=IntKind.wrap .u32 (Int.ofNat m):=by rw[Ra _ rfl];show _=(m:Int) % (2 ^ 32:Int);omega
theorem Vh (m:Nat):((m % 18446744073709551616:Nat):Int)=IntKind.wrap .u64 (Int.ofNat m):=by rw[Ra _ rfl];show _=(m:Int) % (2 ^ 64:Int);omega
theorem IM (k:IntKind) (n:Int):Aj k n=k.wrap n:=by
 unfold Aj
 cases k with
 | i8=>exact aC _ _
 | i16=>exact YJ _ _
 | i32=>exact YK _ _
 | i64 =>
  cases n with
  | ofNat m =>
   rw[YL,BL]
   split
   ·rename_i h;exact(Q8 m (Nat.le_of_ble_eq_true h)).symm
   ·rfl
  | negSucc m =>
   rw[Va,BL]
   split
   ·rename_i h;rw[Int.negSucc_eq];exact(Q9 m (Nat.le_of_ble_eq_true h)).symm
   ·rfl
 | u8 => cases n with
  | ofNat m=>rw[aD];exact YQ m
  | negSucc m=>exact YM _ _
 | u16 => cases n with
  | ofNat m=>rw[YN];exact Vf m
  | negSucc m=>exact Vb _ _
 | u32 => cases n with
  | ofNat m=>rw[YO];exact Vg m
  | negSucc m=>exact Vd _ _
 | u64 => cases n with
  | ofNat m=>rw[YP];exact Vh m
  | negSucc m=>exact Ve _ _
theorem Lr (x y:Int):Bd x y=(x == y):=by
 cases x <;> cases y <;> simp only[Bd,F6,ET] <;> rw[Bool.eq_iff_iff] <;> simp <;> omega
theorem JY (x y:Int):AY x y=decide (x < y):=by
 cases x <;> cases y <;> simp only[AY,F6,ET] <;> rw[Bool.eq_iff_iff] <;> simp[Nat.blt_eq] <;> omega
theorem CZ {a b:IntKind} (h:De a b=true):a=b:=by
 cases a <;> cases b <;> first | rfl | (exact absurd h (by decide))
theorem GK (k:IntKind):∃ p,GA k+1=2 ^ p∧p≤k.bits:=by
 cases k
 ·exact⟨7,rfl,by decide⟩
 ·exact⟨15,rfl,by decide⟩
 ·exact⟨31,rfl,by decide⟩
 ·exact⟨63,rfl,by decide⟩
 ·exact⟨8,rfl,by decide⟩
 ·exact⟨16,rfl,by decide⟩
 ·exact⟨32,rfl,by decide⟩
 ·exact⟨64,rfl,by decide⟩
theorem wrap_small (k:IntKind) (n:Nat) (h:n≤GA k):k.wrap (n:Int)=n:=by
 cases k <;> simp only[GA] at h
 ·exact IntWalk.i8_in _ (by omega)
 ·exact IntWalk.i16_in _ (by omega)
 ·exact IntWalk.i32_in _ (by omega)
 ·exact IntWalk.i64_in _ (by omega)
 ·exact IntWalk.u8_in _ (by omega)
 ·exact IntWalk.u16_in _ (by omega)
 ·exact IntWalk.u32_in _ (by omega)
 ·exact IntWalk.u64_in _ (by omega)
theorem Dq (k:IntKind) (n:Nat) (h:n≤GA k):(BitVec.ofInt k.bits (n:Int)).toNat=n:=by
 obtain⟨p,hp,hk⟩:=GK k
 have:n < 2 ^ k.bits:=Nat.lt_of_lt_of_le (show n < 2 ^ p by omega) (Nat.pow_le_pow_right (by decide) hk)
 rw[BitVec.ofInt_natCast,BitVec.toNat_ofNat]
 exact Nat.mod_eq_of_lt this
theorem H9 {k:IntKind} {a b:Nat} (h:Nl k a b=true):a≤GA k∧b≤GA k:=by
 obtain⟨h1,h2⟩:=Av h
 exact⟨Nat.le_of_ble_eq_true h1,Nat.le_of_ble_eq_true h2⟩
theorem jP (k:IntKind) (x y:Int):Np k x y=PR k x y:=by
 cases x <;> cases y <;> simp only[Np,F6,ET,BL]
 split
 ·rename_i a b h
  obtain⟨ha,hb⟩:=H9 h
  unfold PR
  simp only[Int.ofNat_eq_natCast]
  rw[BitVec.toNat_and,Dq k a ha,Dq k b hb,wrap_small]
  ·rfl
  ·exact Nat.le_trans Nat.and_le_left ha
 ·rfl
theorem qL (k:IntKind) (x y:Int):jF k x y=YD k x y:=by
 cases x <;> cases y <;> simp only[jF,F6,ET,BL]
 split
 ·rename_i a b h
  obtain⟨ha,hb⟩:=H9 h
  unfold YD
  simp only[Int.ofNat_eq_natCast]
  rw[BitVec.toNat_or,Dq k a ha,Dq k b hb,wrap_small]
  ·rfl
  ·obtain⟨p,hp,_⟩:=GK k
   have:=Nat.or_lt_two_pow (show a < 2 ^ p by omega) (show b < 2 ^ p by omega)
   omega
 ·rfl
theorem Xu (k:IntKind) (x y:Int):jM k x y=Nn k x y:=by
 cases x <;> cases y <;> simp only[jM,F6,ET,BL]
 split
 ·rename_i a b h
  obtain⟨ha,hb⟩:=H9 h
  unfold Nn
  simp only[Int.ofNat_eq_natCast]
  rw[BitVec.toNat_xor,Dq k a ha,Dq k b hb,wrap_small]
  ·rfl
  ·obtain⟨p,hp,_⟩:=GK k
   have:=Nat.xor_lt_two_pow (show a < 2 ^ p by omega) (show b < 2 ^ p by omega)
   omega
 ·rfl
theorem Vi (k:IntKind) (x y:Int):QV k x y=Hd k x y:=by
 cases x <;> cases y <;> simp only[QV,F6,ET,BL]
 split
 ·rename_i a b h
  obtain⟨ha,hb⟩:=H9 h
  unfold Hd
  simp only[Int.ofNat_eq_natCast]
  have e:∀ u v:BitVec k.bits,u &&& ~~~v=u ^^^ (u &&& v):=fun u v=>by
   apply BitVec.eq_of_getLsbD_eq
   intro i hi
   simp[hi]
   generalize u[i]=p;generalize v[i]=q
   cases p <;> cases q <;> rfl
  rw[e,BitVec.toNat_xor,BitVec.toNat_and,Dq k a ha,Dq k b hb,wrap_small]
  ·rfl
  ·obtain⟨p,hp,_⟩:=GK k
   have h1:a &&& b≤a:=Nat.and_le_left
   have:=Nat.xor_lt_two_pow (show a < 2 ^ p by omega) (show a &&& b < 2 ^ p by omega)
   omega
 ·rfl

theorem jQ (k:IntKind) (x:Int) (n:Nat):QW k x n=k.wrap (x*2 ^ (min n k.bits)):=by
 cases x with
 | ofNat a =>
  show Aj k (.ofNat (a*2 ^ (Nat.min n k.bits)))=_
  rw[IM]
  congr 1
  all_goals (simp only[Int.ofNat_eq_natCast];try (push_cast;rfl))
 | negSucc a=>rfl
theorem jR (k:IntKind) (x:Int) (n:Nat):G6 k x n=x.fdiv (2 ^ (min n k.bits)):=by
 cases x with
 | ofNat a =>
  show Int.ofNat (a / 2 ^ (Nat.min n k.bits))=_
  rw[Int.fdiv_eq_ediv_of_nonneg _ (by exact Int.le_of_lt (Int.pow_pos (by decide)))]
  all_goals (simp only[Int.ofNat_eq_natCast];try (push_cast;rfl))
 | negSucc a=>rfl

section
variable {P:Program} {w:World}
theorem aF {op:BinOp} {k:IntKind} {x y:Int} {v:Value} (h:SV op k x y=some v) (hn:MV op=false) (t:TypeId) :
 (binOp op t (.int k x) (.int k y)).run P w = .ok v w:=by
 cases op <;> simp only[SV,BinOp.pick,iv,bv,Km,jP,qL,Xu,Vi,Lr,JY,IM] at h
 case quo=>
  have h:=FQ h
  obtain⟨h1,h2⟩:=h
  injection h2 with h2;subst h2
  have:y≠0:=by simpa using h1
  simp[binOp,Op.intDiv,this]
 case rem=>
  have h:=FQ h
  obtain⟨h1,h2⟩:=h
  injection h2 with h2;subst h2
  have:y≠0:=by simpa using h1
  simp[binOp,Op.intDiv,this]
 case shl=>cases h
 case shr=>cases h
 all_goals
  injection h with h;subst h
  simp[binOp,Op.intArith,Op.intBits,Op.intCmp,PR,YD,Nn,Hd]
 all_goals first | rfl | (rw[Bool.eq_iff_iff];simp;done) | (rw[Bool.eq_iff_iff];simp;omega) | skip
theorem YR {op:BinOp} {k j:IntKind} {x y:Int} {v:Value} (h:Ld op k x y=some v) (hn:MV op=true) (t:TypeId) :
 (binOp op t (.int k x) (.int j y)).run P w = .ok v w:=by
 cases y with
 | negSucc n=>simp[Ld] at h
 | ofNat n =>
  have hneg:¬ ((n:Int) < 0):=by omega
  cases op <;> simp[MV,BinOp.pick] at hn
  ·simp[Ld,ZW,BinOp.pick,iv,jQ] at h
   subst h
   simp[binOp,Op.shift,hneg]
  ·simp[Ld,ZW,BinOp.pick,iv,jR] at h
   subst h
   simp[binOp,Op.shift,hneg]
end
end Go.Sp
