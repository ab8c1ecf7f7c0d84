/- From the model's code to slim code: definitions alone. -/
import Derived.Test.YtcjocjoaphpclaaDoorSpDefs
namespace Go.Sp

def effB : Op → Bool
  | .assign _ | .store .. | .entryStore .. | .ready _ | .recv .. | .mapUpdate .. | .mapEntry .. | .insert .. | .next .. | .range .. | .entry .. => true
  | .call { callee := .builtin b, .. } => match b with
    | .len | .cap | .min | .max => false
    | _ => true
  | .call _ => true
  | .go _ | .defer _ | .panic _ | .send .. | .select .. => true
  | _ => false

/-- What a quiet operation reads memory through. -/
def readsOf : Op → List Operand
  | .load _ a => [a]
  | .lookup _ m _ _ => [m]
  | .slice _ x _ _ _ => [x]
  | .call { callee := .builtin .len, args, .. } => args.toList
  | _ => []

structure Placed where
  order : List Nat
  deriving Inhabited

def readyB (ops : Array Oper) (done : List Nat) (i : Nat) : Bool :=
  !done.contains i && ((ops[i]?).map (·.after.all fun e => !Region.binds .any e || done.contains e.on)).getD false

def greedy (ops : Array Oper) : Nat → List Nat → List Nat
  | 0, acc => acc
  | n + 1, acc =>
    let rs := (List.range ops.size).filter (readyB ops acc)
    match rs.find? fun i => !(effB ((ops[i]?).map (·.op) |>.getD (.alloc 0))) with
    | some i => greedy ops n (acc ++ [i])
    | none => match rs with
      | i :: _ => greedy ops n (acc ++ [i])
      | [] => acc

def dstOf (ops : Array Oper) (j : Nat) : Option Nat := (ops[j]?).bind (·.dst)

def slim (ops : Array Oper) (o : Oper) (watch : List Operand) : ROp :=
  { dst := o.dst, op := o.op, ty := o.type, gd := o.guard.map fun (j, want) => (dstOf ops j, want), watch }

def predsOn (o : Oper) : List Nat := (o.after.toList.filter (Region.binds .any)).map (·.on)
def closure (ops : Array Oper) : List Nat → List Nat → List Nat
  | [], acc => acc
  | j :: done, acc => closure ops done (if acc.contains j then ((ops[j]?).map predsOn |>.getD []).foldl (fun acc x => if acc.contains x then acc else x :: acc) acc else acc)
def slimPass (ops : Array Oper) : List Nat → List Nat → List ROp
  | [], _ => []
  | i :: ord, done =>
    match ops[i]? with
    | none => []
    | some o =>
      let anc := closure ops done (predsOn o)
      let isA := match o.op with | .assign _ => true | _ => false
      let watch := if effB o.op && !isA then (done.filter fun j => !(effB ((ops[j]?).map (·.op) |>.getD (.alloc 0))) && !anc.contains j).flatMap fun j => ((ops[j]?).map fun p => readsOf p.op).getD [] else []
      slim ops o watch :: slimPass ops ord (i :: done)

def slimReg (ops : Array Oper) (draw : Bool) : List ROp :=
  if !draw then ops.toList.map (slim ops · []) else slimPass ops (greedy ops ops.size []) []

def comp : Code → Option RC
  | .skip => some .skip
  | .region _ ops draw => some (.reg (if draw then greedy ops ops.size [] else []) (slimReg ops draw))
  | .seq a b => do return .seq (← comp a) (← comp b)
  | .cond c a b => do return .cond c (← comp a) (← comp b)
  | .block id b => do return .block id (← comp b)
  | .loop b => do return .loop (← comp b)
  | .exit id => some (.exit id)
  | .ret => some .ret
  | _ => none

end Go.Sp
