/- From the model's code to slim code, checked: what the kernel evaluates, and what that says. -/
import Derived.Test.YtcjocjoaphpclaaDoorSpQuiet
namespace Go.Sp
noncomputable section

def memN (x : Nat) (l : List Nat) : Bool := List.rec (motive := fun _ => Bool) false (fun a _ ih => bb (Nat.beq a x) true ih) l
def anyL {α : Type} (p : α → Bool) (l : List α) : Bool := List.rec (motive := fun _ => Bool) false (fun a _ ih => bb (p a) true ih) l
def forceNs {β : Type} (l : List Nat) : (List Nat → β) → β := List.rec (motive := fun _ => (List Nat → β) → β) (fun k => k []) (fun x _ ih k => forceN x fun x => ih fun r => k (x :: r)) l
def predsL (l : List Edge) : List Nat := List.rec (motive := fun _ => List Nat) [] (fun e _ ih => bb (Region.binds .any e) (e.on :: ih) ih) l
def tmpsL (l : List Operand) : List Nat := List.rec (motive := fun _ => List Nat) [] (fun o _ ih => Operand.rec (motive := fun _ => List Nat) (fun t => t :: ih) (fun _ => ih) (fun _ => ih) (fun _ => ih) o) l
def dstL (ops : List Oper) (j : Nat) : Option Nat := oo (nthL ops j) none fun q => q.dst
def gdT (ops : List Oper) (o : Oper) : Option Nat := oo o.guard none fun p => pp p fun j _ => dstL ops j
def namesL (ops : List Oper) (o : Oper) : List Nat := oo (gdT ops o) (tmpsL o.op.operands.toList) fun t => t :: tmpsL o.op.operands.toList
def slimL (ops : List Oper) (o : Oper) (watch : List Operand) : ROp :=
  ⟨o.dst, o.op, o.type, oo o.guard none fun p => pp p fun j want => some (dstL ops j, want), watch⟩

structure OI where
  ix : Nat
  dst : Option Nat
  names : List Nat
  eff : Bool
  reads : List Operand
  preds : List Nat

def addAll (l acc : List Nat) : List Nat := List.rec (motive := fun _ => List Nat → List Nat) (fun acc => acc) (fun x _ ih acc => ih (bb (memN x acc) acc (x :: acc))) l acc
/-- All that come before, through others too: 'done' has the latest first. -/
def ancL (done : List OI) : List Nat → List Nat :=
  List.rec (motive := fun _ => List Nat → List Nat) (fun acc => acc) (fun j _ ih acc => bb (memN j.ix acc) (forceNs (addAll j.preds acc) ih) (ih acc)) done

def pairOk (dst : Option Nat) (names : List Nat) (eff : Bool) (anc : List Nat) (j : OI) : Bool :=
  an (oo j.dst true fun t => an (oo dst true fun d => nt (Nat.beq d t)) (orr (nt (memN t names)) (memN j.ix anc)))
    (oo dst true fun t => orr (nt (memN t j.names)) (an eff (orr j.eff (memN j.ix anc))))
def watchOf (anc : List Nat) (done : List OI) : List Operand :=
  List.rec (motive := fun _ => List Operand) [] (fun j _ ih => bb (orr j.eff (memN j.ix anc)) ih (appL j.reads ih)) done
def isAssign (o : Op) : Bool := match o with | .assign _ => true | _ => false

def regPass (ops : List Oper) (ord : List Nat) : List OI → Option (List Nat) → Option (List (Nat × List Operand)) :=
  List.rec (motive := fun _ => List OI → Option (List Nat) → Option (List (Nat × List Operand))) (fun _ _ => some [])
    (fun i _ ih done since => oo (nthL ops i) none fun o =>
      forceNs (predsL o.after.toList) fun ps => forceNs (namesL ops o) fun nm => forceNs (ancL done ps) fun anc => forceB (effB o.op) fun eff =>
        bb (an (nt (anyL (fun j => Nat.beq j.ix i) done)) (an (allL (fun k => anyL (fun j => Nat.beq j.ix k) done) ps) (an (oo since true fun l => anyL (fun k => memN k l) ps)
            (an (allL (pairOk o.dst nm eff anc) done) (orr eff (oo o.dst true fun t => nt (memN t nm)))))))
          (oo (ih (⟨i, o.dst, nm, eff, readsOf o.op, ps⟩ :: done) (bb eff (some [i]) (oo since none fun l => some (i :: l)))) none fun rest =>
            some ((i, bb (an eff (nt (isAssign o.op))) (watchOf anc done) []) :: rest)) none) ord

def belowAll (p : Nat → Bool) (n : Nat) : Bool := Nat.rec (motive := fun _ => Bool) true (fun i ih => an (p i) ih) n
def regDraw (ops : Array Oper) (ord : List Nat) : Option (List ROp) :=
  oo (regPass ops.toList ord [] none) none fun ows => bb (belowAll (fun i => memN i ord) (len ops.toList))
    (some (mapL (fun p => pp p fun i W => oo (nthL ops.toList i) ⟨none, .alloc 0, 0, none, []⟩ fun o => slimL ops.toList o W) ows)) none
def regPlain (ops : Array Oper) : List ROp := mapL (fun o => slimL ops.toList o []) ops.toList

def rcReg (h : RC) : Option (List Nat) := RC.rec (motive := fun _ => Option (List Nat)) none (fun ord _ => some ord) (fun _ _ _ _ => none) (fun _ _ _ _ _ => none) (fun _ _ _ => none) (fun _ _ => none) (fun _ => none) none h
def rcSeq (h : RC) : Option (RC × RC) := RC.rec (motive := fun _ => Option (RC × RC)) none (fun _ _ => none) (fun a b _ _ => some (a, b)) (fun _ a b _ _ => some (a, b)) (fun _ _ _ => none) (fun _ _ => none) (fun _ => none) none h
def rcOne (h : RC) : Option RC := RC.rec (motive := fun _ => Option RC) none (fun _ _ => none) (fun _ _ _ _ => none) (fun _ _ _ _ _ => none) (fun _ b _ => some b) (fun b _ => some b) (fun _ => none) none h

/-- Slim code, made along what is given as its form. -/
def rcOf (c : Code) : RC → Option RC :=
  Code.rec (motive := fun _ => RC → Option RC)
    (fun _ => some .skip)
    (fun _ ops draw h => bb draw (oo (rcReg h) none fun ord => oo (regDraw ops ord) none fun l => some (.reg ord l)) (some (.reg [] (regPlain ops))))
    (fun _ _ fa fb h => oo (rcSeq h) none fun p => pp p fun x y => oo (fa x) none fun a => oo (fb y) none fun b => some (.seq a b))
    (fun c _ _ fa fb h => oo (rcSeq h) none fun p => pp p fun x y => oo (fa x) none fun a => oo (fb y) none fun b => some (.cond c a b))
    (fun id _ fb h => oo (rcOne h) none fun x => oo (fb x) none fun b => some (.block id b))
    (fun _ fb h => oo (rcOne h) none fun x => oo (fb x) none fun b => some (.loop b))
    (fun _ _ _ _ _ _ _ => none)
    (fun id _ => some (.exit id))
    (fun _ _ _ => none) (fun _ _ => none) (fun _ _ => none)
    (fun _ => some .ret)
    (fun _ _ => none) c
end

inductive Comp : Code → RC → Prop
  | skip : Comp .skip .skip
  | plain (id : Nat) (ops : Array Oper) : Comp (.region id ops false) (.reg [] (regPlain ops))
  | draw (id : Nat) {ops : Array Oper} {ord : List Nat} {l : List ROp} (h : regDraw ops ord = some l) : Comp (.region id ops true) (.reg ord l)
  | seq {a b : Code} {x y : RC} (ha : Comp a x) (hb : Comp b y) : Comp (.seq a b) (.seq x y)
  | cond (c : Operand) {a b : Code} {x y : RC} (ha : Comp a x) (hb : Comp b y) : Comp (.cond c a b) (.cond c x y)
  | block (id : Nat) {b : Code} {y : RC} (hb : Comp b y) : Comp (.block id b) (.block id y)
  | loop {b : Code} {y : RC} (hb : Comp b y) : Comp (.loop b) (.loop y)
  | exit (id : Nat) : Comp (.exit id) (.exit id)
  | ret : Comp .ret .ret

theorem rcOf_Comp {c : Code} {h r : RC} (e : rcOf c h = some r) : Comp c r := by
  induction c generalizing h r with
  | skip => injection e with e; subst e; exact .skip
  | region id ops draw =>
    cases draw with
    | false => injection e with e; subst e; exact .plain id ops
    | true =>
      obtain ⟨ord, _, e1⟩ := oo_inv (show oo (rcReg h) none _ = _ from e)
      obtain ⟨l, hl, e2⟩ := oo_inv e1
      injection e2 with e2; subst e2; exact .draw id hl
  | seq a b iha ihb =>
    obtain ⟨p, _, e1⟩ := oo_inv (show oo (rcSeq h) none _ = _ from e)
    rw [pp_eta] at e1
    obtain ⟨x, hx, e2⟩ := oo_inv e1
    obtain ⟨y, hy, e3⟩ := oo_inv e2
    injection e3 with e3; subst e3; exact .seq (iha hx) (ihb hy)
  | cond c a b iha ihb =>
    obtain ⟨p, _, e1⟩ := oo_inv (show oo (rcSeq h) none _ = _ from e)
    rw [pp_eta] at e1
    obtain ⟨x, hx, e2⟩ := oo_inv e1
    obtain ⟨y, hy, e3⟩ := oo_inv e2
    injection e3 with e3; subst e3; exact .cond c (iha hx) (ihb hy)
  | block id b ihb =>
    obtain ⟨x, _, e1⟩ := oo_inv (show oo (rcOne h) none _ = _ from e)
    obtain ⟨y, hy, e2⟩ := oo_inv e1
    injection e2 with e2; subst e2; exact .block id (ihb hy)
  | loop b ihb =>
    obtain ⟨x, _, e1⟩ := oo_inv (show oo (rcOne h) none _ = _ from e)
    obtain ⟨y, hy, e2⟩ := oo_inv e1
    injection e2 with e2; subst e2; exact .loop (ihb hy)
  | exit id => injection e with e; subst e; exact .exit id
  | ret => injection e with e; subst e; exact .ret
  | _ => cases e
end Go.Sp
