import PyProof.Rows.All
import Wide.All
import OpenK.AllK
import Wide.FinOn
import HandS.ForMost
import HandS.Deep
import HandS.IsInst
import HandS.TupAny
import HandS.Style
import HandS.CallSlots
import HandS.WordsExc
import PyProof.ListStr
import HandS.Zip
import HandS.NoneIn
import HandS.Dict
import HandS.Codes
import HandS.Ends
import PySem.Challenge.RW_namesheld_k01_tags_told_from_others
set_option Elab.async false
set_option linter.all false
set_option maxRecDepth 100000
/-! Pf, part A: data, an interpreter over data for a small language. Plain Lean. -/
namespace Pf
open PySem (Str sizeLine)

/-- data: what a program's value is, the heap left out; loc: a mutable thing in the store -/
inductive D where
  | non | bl (b : Bool) | int (i : Int) | str (s : List Nat)
  | lst (xs : List D) | tup (xs : List D) | dic (kvs : List (D × D))
  | scr (ns : List Int)
  | loc (n : Nat)
  | fn (f : String)
  deriving Inhabited

/-- contents of a mutable thing -/
inductive Cell where
  | lst (xs : List D) | dic (kvs : List (D × D)) | dead
abbrev Store := List Cell
/-- what a local name holds: nothing, data, a list of its own, a dict of its own -/
inductive Sl where
  | no | dat (d : D) | lst (xs : List D) | dic (kvs : List (D × D))
abbrev Env := List Sl
structure Exn where
  cls : String
  fs : List (String × D)
inductive R (α : Type) where
  | ok (a : α) (e : Env) (S : Store)
  | exc (x : Exn) (e : Env) (S : Store)
  | bad
def R.bind {α β : Type} : R α → (α → Env → Store → R β) → R β
  | .ok a e S, f => f a e S
  | .exc x e S, _ => .exc x e S
  | .bad, _ => .bad
@[simp] theorem R.bind_ok {α β : Type} (a : α) (e S) (f : α → Env → Store → R β) : (R.ok a e S).bind f = f a e S := rfl
@[simp] theorem R.bind_exc {α β : Type} (x e S) (f : α → Env → Store → R β) : (R.exc x e S : R α).bind f = .exc x e S := rfl
@[simp] theorem R.bind_bad {α β : Type} (f : α → Env → Store → R β) : (R.bad : R α).bind f = .bad := rfl

/-- nothing is raised out of it -/
def R.nox {α : Type} : R α → R α
  | .ok a e S => .ok a e S
  | _ => .bad
@[simp] theorem R.nox_ok {α : Type} (a : α) (e S) : (R.ok a e S).nox = .ok a e S := rfl
/-- what an expression hands on: data; a new list or dict that nothing else names; the own thing of a slot -/
inductive Out where
  | val (d : D) | new (c : Cell) | hdl (i : Nat)
def Out.fz : Out → Option D
  | .val d => some d
  | .new (.lst xs) => some (.lst xs)
  | .new (.dic kvs) => some (.dic kvs)
  | .new .dead => none
  | .hdl _ => none
/-- an argument of a primitive -/
inductive Ar where
  | d (x : D) | h (i : Nat)
def Out.ar : Out → Option Ar
  | .val d => some (.d d)
  | .new (.lst xs) => some (.d (.lst xs))
  | .new (.dic kvs) => some (.d (.dic kvs))
  | .new .dead => none
  | .hdl i => some (.h i)
def Cell.vw : Cell → Option D
  | .lst xs => some (.lst xs)
  | .dic kvs => some (.dic kvs)
  | .dead => none
/-- what an argument looks like now -/
def vw (env : Env) (S : Store) : Ar → Option D
  | .d (.loc n) => match S[n]? with
    | some c => c.vw
    | none => none
  | .d x => some x
  | .h i => match env[i]? with
    | some (.lst xs) => some (.lst xs)
    | some (.dic kvs) => some (.dic kvs)
    | _ => none

/-! ### equality -/
mutual
def D.eqb : D → D → Bool
  | .non, .non => true
  | .bl a, .bl b => a == b
  | .bl a, .int j => (if a then 1 else 0) == j
  | .int i, .bl b => i == (if b then 1 else 0)
  | .int i, .int j => i == j
  | .str x, .str y => x == y
  | .lst xs, .lst ys => D.eqbs xs ys
  | .tup xs, .tup ys => D.eqbs xs ys
  | _, _ => false
def D.eqbs : List D → List D → Bool
  | [], [] => true
  | x :: xs, y :: ys => D.eqb x y && D.eqbs xs ys
  | _, _ => false
end
mutual
/-- data that can be compared (no dicts, no objects) -/
def D.pl : D → Bool
  | .non | .bl _ | .int _ | .str _ => true
  | .lst xs | .tup xs => D.pls xs
  | _ => false
def D.pls : List D → Bool
  | [] => true
  | x :: xs => D.pl x && D.pls xs
end
mutual
def D.depth : D → Nat
  | .lst xs | .tup xs => D.depths xs + 1
  | _ => 0
def D.depths : List D → Nat
  | [] => 0
  | x :: xs => max (D.depth x) (D.depths xs)
end
/-- == of data -/
def eqD (a b : D) : Option Bool := if a.pl && b.pl && decide (min a.depth b.depth ≤ 64) then some (a.eqb b) else none
/-- a flat one: none, a bool, an int, a text -/
def D.flat : D → Bool
  | .non | .bl _ | .int _ | .str _ => true
  | _ => false
/-- may be a key -/
def D.key : D → Bool
  | .int _ | .str _ => true
  | .tup xs => xs.all fun x => match x with
    | .int _ | .str _ => true
    | _ => false
  | _ => false

/-! ### the language -/
inductive BOp where
  | add | sub | mul | fdiv | mod | pow
inductive COp where
  | eq | ne | lt | le | gt | ge | isin | notin | is | isnot
inductive UOp where
  | neg
/-- a built-in type in isinstance -/
inductive Ty where
  | int | bool | str | list | tuple | dict
inductive Bf where
  | len | list | tuple | int | str | all | any | sum
inductive Mt where
  | join
inductive Mu where
  | append | pop0 | popAt | extend
inductive Tg where
  | name (i : Nat) | tup (is : List Nat)
inductive Itk where
  | val | range1 | range2 | enum | zip
mutual
inductive Ex where
  | int (i : Int) | str (s : List Nat) | bl (b : Bool) | non
  | var (i : Nat) | hv (i : Nat)
  | glo (x : String)
  | bin (o : BOp) (a b : Ex) | un (o : UOp) (a : Ex) | cmp (o : COp) (a b : Ex) | cmp2 (o p : COp) (a b c : Ex)
  | and (a b : Ex) | or (a b : Ex) | not (a : Ex) | ite (c a b : Ex)
  | lst (es : List Ex) | tup (es : List Ex) | dic (kvs : List Ex)
  | idx (a b : Ex) | slc (a : Ex) (lo hi : Option Ex)
  | bf (f : Bf) (as : List Ex) | mth (m : Mt) (r : Ex) (as : List Ex) | mut (m : Mu) (r : Ex) (as : List Ex)
  | isi (a : Ex) (ts : List Ty) (one : Bool)
  | comp (elt : Ex) (tg : Tg) (k : Itk) (its : List Ex) (cond : Option Ex) (own : List Nat)
  | call (f : String) (as : List Ex) (kws : List String)
  | new (e : Ex)
end
inductive Stm where
  | ex (e : Ex) | asg (t : Tg) (e : Ex) | own (i : Nat) (e : Ex)
  | put (o k v : Ex)
  | ret (e : Option Ex)
  | ife (c : Ex) (a b : List Stm)
  | whl (c : Ex) (a : List Stm)
  | fr (t : Tg) (k : Itk) (its : List Ex) (a : List Stm)
  | brk | cnt | pass | nev
structure FDef where
  np : Nat
  ns : Nat
  body : List Stm

/-! ### primitives -/
def cut {α : Type} (xs : List α) (lo hi : Option Int) : List α :=
  (xs.drop (HT.sIx xs.length 0 lo)).take (HT.sIx xs.length xs.length hi - HT.sIx xs.length 0 lo)
def intOf : D → Option Int
  | .int i => some i
  | _ => none
def strOf : D → Option (List Nat)
  | .str s => some s
  | _ => none
def blOf : D → Option Bool
  | .bl b => some b
  | _ => none
def listOf? {α : Type} (f : D → Option α) : List D → Option (List α)
  | [] => some []
  | x :: xs => match f x, listOf? f xs with
    | some y, some ys => some (y :: ys)
    | _, _ => none
def binF : BOp → D → D → Option Out
  | .add, .int i, .int j => some (.val (.int (i + j)))
  | .add, .str a, .str b => if a.length + b.length ≤ 16777216 then some (.val (.str (a ++ b))) else none
  | .add, .lst a, .lst b => if a.length + b.length ≤ 16777216 then some (.new (.lst (a ++ b))) else none
  | .add, .tup a, .tup b => if a.length + b.length ≤ 16777216 then some (.val (.tup (a ++ b))) else none
  | .sub, .int i, .int j => some (.val (.int (i - j)))
  | .mul, .int i, .int j => if (-(2 ^ 64) < i ∧ i < 2 ^ 64) ∨ (-(2 ^ 64) < j ∧ j < 2 ^ 64) then some (.val (.int (i * j))) else none
  | .fdiv, .int i, .int j => if 0 < j ∧ j < 1073741824 then some (.val (.int (i / j))) else none
  | .mod, .int i, .int j => if 0 < j then some (.val (.int (i % j))) else none
  | .pow, .int i, .int j => if 0 ≤ j ∧ j ≤ 1000000 ∧ i.natAbs < 2 ^ 64 then some (.val (.int (i ^ j.toNat))) else none
  | _, _, _ => none
/-- the only sign of a text of one -/
def isInF (d : D) : D → Option Bool
  | .str z => match d with
    | .str [c] => some (decide (c ∈ z))
    | _ => none
  | .lst xs => if d.pl && D.pls xs && decide (d.depth ≤ 64) then some (xs.any fun z => z.eqb d) else none
  | .tup xs => if d.flat && xs.all D.flat then some (xs.any fun z => z.eqb d) else none
  | _ => none
def isF : D → D → Option Bool
  | a, .non => match a with
    | .non => some true
    | _ => some false
  | .bl a, .bl b => some (a == b)
  | _, _ => none
def cmpF : COp → D → D → Option Bool
  | .eq, a, b => eqD a b
  | .ne, a, b => (eqD a b).map (!·)
  | .lt, .int i, .int j => some (decide (i < j))
  | .le, .int i, .int j => some (decide (i ≤ j))
  | .gt, .int i, .int j => some (decide (j < i))
  | .ge, .int i, .int j => some (decide (j ≤ i))
  | .isin, a, b => isInF a b
  | .notin, a, b => (isInF a b).map (!·)
  | .is, a, b => isF a b
  | .isnot, a, b => (isF a b).map (!·)
  | _, _, _ => none
def unF : UOp → D → Option Out
  | .neg, .int i => some (.val (.int (-i)))
  | _, _ => none
def idxF : D → D → Option D
  | .lst xs, .int i => L2.atI xs i
  | .tup xs, .int i => L2.atI xs i
  | .str s, .int i => (L2.atI s i).map fun c => .str [c]
  | _, _ => none
def slcF : D → Option Int → Option Int → Option Out
  | .lst xs, lo, hi => some (.new (.lst (cut xs lo hi)))
  | .str s, lo, hi => some (.val (.str (cut s lo hi)))
  | .tup xs, lo, hi => some (.val (.tup (cut xs lo hi)))
  | _, _, _ => none
def tyOf : D → Option Ty
  | .bl _ => some .bool
  | .int _ => some .int
  | .str _ => some .str
  | .lst _ => some .list
  | .tup _ => some .tuple
  | .dic _ => some .dict
  | _ => none
def isTy : D → Ty → Option Bool
  | .non, _ => some false
  | .bl _, t => some (match t with | .bool | .int => true | _ => false)
  | .int _, t => some (match t with | .int => true | _ => false)
  | .str _, t => some (match t with | .str => true | _ => false)
  | .lst _, t => some (match t with | .list => true | _ => false)
  | .tup _, t => some (match t with | .tuple => true | _ => false)
  | .dic _, t => some (match t with | .dict => true | _ => false)
  | _, _ => none
def isAny (d : D) : List Ty → Option Bool
  | [] => some false
  | t :: ts => match isTy d t with
    | some true => some true
    | some false => isAny d ts
    | none => none
abbrev joinS := TL.joinL
def bf1 : Bf → D → Option Out
  | .len, .lst xs => some (.val (.int xs.length))
  | .len, .tup xs => some (.val (.int xs.length))
  | .len, .str s => some (.val (.int s.length))
  | .list, .scr ns => some (.new (.lst (ns.map .int)))
  | .list, .lst xs => some (.new (.lst xs))
  | .list, .tup xs => some (.new (.lst xs))
  | .list, .str s => some (.new (.lst (s.map fun c => .str [c])))
  | .tuple, .lst xs => some (.val (.tup xs))
  | .tuple, .tup xs => some (.val (.tup xs))
  | .int, .int i => some (.val (.int i))
  | .all, .lst xs => (listOf? blOf xs).map fun bs => .val (.bl (bs.all id))
  | .any, .lst xs => (listOf? blOf xs).map fun bs => .val (.bl (bs.any id))
  | .sum, .lst xs => (listOf? intOf xs).map fun is => .val (.int is.sum)
  | _, _ => none
def bfF (f : Bf) : List D → Option Out
  | [d] => bf1 f d
  | _ => none
def mt1 : Mt → D → D → Option Out
  | .join, .str sep, .lst xs => (listOf? strOf xs).bind fun ss =>
    if (ss.map List.length).sum + ss.length * sep.length ≤ 16777216 then some (.val (.str (joinS sep ss))) else none
  | _, _, _ => none
def mtF (m : Mt) (r : D) : List D → Option Out
  | [d] => mt1 m r d
  | _ => none
/-- a change of a list by one argument: what it holds then, what is handed back -/
def mu1 : Mu → List D → D → Option (Cell × D)
  | .append, xs, d => if xs.length < 16777216 then some (.lst (xs ++ [d]), .non) else none
  | .popAt, xs, .int i => if -(2 ^ 63) ≤ i ∧ i < 2 ^ 63 then (PySem.seqIndex? i xs.length).bind fun k => (xs[k]?).map fun y => (.lst (xs.eraseIdx k), y) else none
  | .extend, xs, .lst ys => if xs.length + ys.length ≤ 16777216 then some (.lst (xs ++ ys), .non) else none
  | _, _, _ => none
def mu0 : Mu → List D → Option (Cell × D)
  | .pop0, xs => (xs[xs.length - 1]?).map fun y => (.lst xs.dropLast, y)
  | _, _ => none
def muF (m : Mu) : Cell → List D → Option (Cell × D)
  | .lst xs, [] => mu0 m xs
  | .lst xs, [d] => mu1 m xs d
  | _, _ => none
/-- d[k] = v -/
def putF : Cell → D → D → Option Cell
  | .lst xs, .int i, v => (L2.ixN xs.length i).map fun k => .lst (xs.set k v)
  | _, _, _ => none
/-- what is walked -/
def it1 (k : Itk) (d : D) : Option (List D) := match k with
  | .val => match d with
    | .lst xs => some xs
    | .tup xs => some xs
    | .str s => some (s.map fun c => .str [c])
    | _ => none
  | .range1 => match d with
    | .int n => if -(2 ^ 62) ≤ n ∧ n ≤ 16777216 then some ((List.range n.toNat).map fun (k : Nat) => .int k) else none
    | _ => none
  | .enum => match d with
    | .lst xs => some (xs.zipIdx.map fun p => .tup [.int p.2, p.1])
    | _ => none
  | _ => none
def it2 (k : Itk) (d e : D) : Option (List D) := match k with
  | .range2 => match d, e with
    | .int a, .int b => if -(2 ^ 62) ≤ a ∧ a < 2 ^ 62 ∧ -(2 ^ 62) ≤ b ∧ b < 2 ^ 62 ∧ b - a ≤ 16777216 then some ((List.range (b - a).toNat).map fun (k : Nat) => .int (a + k)) else none
    | _, _ => none
  | .zip => match d, e with
    | .lst xs, .lst ys => some ((xs.zip ys).map fun p => .tup [p.1, p.2])
    | .tup xs, .tup ys => some ((xs.zip ys).map fun p => .tup [p.1, p.2])
    | _, _ => none
  | _ => none
def itF (k : Itk) : List D → Option (List D)
  | [d] => it1 k d
  | [d, e] => it2 k d e
  | _ => none

/-! ### slots -/
def rd (env : Env) (i : Nat) : Option (D × Env) := match env[i]? with
  | some (.dat d) => some (d, env)
  | some (.lst xs) => some (.lst xs, env.set i (.dat (.lst xs)))
  | some (.dic kvs) => some (.dic kvs, env.set i (.dat (.dic kvs)))
  | _ => none
def setNames : List Nat → List D → Env → Option Env
  | [], [], env => some env
  | i :: is, d :: ds, env => setNames is ds (env.set i (.dat d))
  | _, _, _ => none
/-- a target's names take a value -/
def bindTg (t : Tg) (d : D) (env : Env) : Option Env := match t, d with
  | .name i, d => some (env.set i (.dat d))
  | .tup is, .tup ds => setNames is ds env
  | .tup is, .lst ds => setNames is ds env
  | _, _ => none
def wipeE (env : Env) : List Nat → Env
  | [] => env
  | v :: vs => (wipeE env vs).set v .no
/-- the slots vs as they were -/
def backE (old env : Env) : List Nat → Env
  | [] => env
  | v :: vs => (backE old env vs).set v (old.getD v .no)
/-- a slot with nothing of its own -/
def plainSl (env : Env) (i : Nat) : Bool := match env[i]? with
  | some (.lst _) => false
  | some (.dic _) => false
  | _ => true
def cellAt (env : Env) (S : Store) : Ar → Option Cell
  | .d (.loc n) => S[n]?
  | .d _ => none
  | .h i => match env[i]? with
    | some (.lst xs) => some (.lst xs)
    | some (.dic kvs) => some (.dic kvs)
    | _ => none
def Cell.sl : Cell → Sl
  | .lst xs => .lst xs
  | .dic kvs => .dic kvs
  | .dead => .no
def cellPut (env : Env) (S : Store) (a : Ar) (c : Cell) : Env × Store := match a with
  | .d (.loc n) => (env, S.set n c)
  | .d _ => (env, S)
  | .h i => (env.set i c.sl, S)

/-- may be the receiver of the method -/
def mtRecv : Mt → Option D → Bool
  | .join, some (.str _) => true
  | _, _ => false
def isLst : Option Cell → Bool
  | some (.lst _) => true
  | _ => false

/-! ### running -/
/-- how calls are answered -/
inductive RC where
  | ok (d : D) (S : Store) | exc (x : Exn) (S : Store) | bad
abbrev Calls := String → List D → Store → RC
def RC.r (env : Env) : RC → R Out
  | .ok d S => .ok (.val d) env S
  | .exc x S => .exc x env S
  | .bad => .bad
def ofO {α : Type} (o : Option α) (env : Env) (S : Store) : R α := match o with
  | some a => .ok a env S
  | none => .bad
@[simp] theorem ofO_some {α : Type} (a : α) (env S) : ofO (some a) env S = .ok a env S := rfl
@[simp] theorem ofO_none {α : Type} (env S) : ofO (none : Option α) env S = .bad := rfl
def vws (env : Env) (S : Store) : List Ar → Option (List D)
  | [] => some []
  | a :: as => match vw env S a, vws env S as with
    | some d, some ds => some (d :: ds)
    | _, _ => none
def ards : List Ar → Option (List D)
  | [] => some []
  | .d x :: as => (ards as).map (x :: ·)
  | .h _ :: _ => none
/-- a comprehension's turns: f gives an element or passes -/
def turns (f : D → Env → Store → R (Option D)) : List D → Env → Store → R (List D)
  | [], env, S => .ok [] env S
  | x :: xs, env, S => (f x env S).bind fun o env S => (turns f xs env S).bind fun ys env S => .ok (match o with | some y => y :: ys | none => ys) env S
/-- globals' values -/
abbrev Glos := String → Option D

def R.fz (r : R Out) : R D := r.bind fun o env S => ofO o.fz env S
def R.ar (r : R Out) : R Ar := r.bind fun o env S => ofO o.ar env S
def R.bl (r : R Out) : R Bool := r.bind fun o env S => match o with
  | .val (.bl b) => .ok b env S
  | _ => .bad
/-- k, v, k, v .. by pairs -/
def pairD : List D → Option (List (D × D))
  | [] => some []
  | k :: v :: r => (pairD r).map ((k, v) :: ·)
  | _ => none
def keyD : D → Bool
  | .int _ | .str _ => true
  | _ => false
/-- ints and texts, each once -/
def keysOk : List (D × D) → Bool
  | [] => true
  | (k, _) :: r => keyD k && r.all (fun p => !(k.eqb p.1)) && keysOk r
section
variable (C : Calls) (g : Glos)
mutual
def evO : Ex → Env → Store → R Out
  | .int i, env, S => .ok (.val (.int i)) env S
  | .str s, env, S => .ok (.val (.str s)) env S
  | .bl b, env, S => .ok (.val (.bl b)) env S
  | .non, env, S => .ok (.val .non) env S
  | .var i, env, S => match rd env i with
    | some (d, env') => .ok (.val d) env' S
    | none => .bad
  | .hv i, env, S => match env[i]? with
    | some (.lst _) => .ok (.hdl i) env S
    | some (.dic _) => .ok (.hdl i) env S
    | some (.dat d) => .ok (.val d) env S
    | _ => .bad
  | .glo x, env, S => ofO ((g x).map .val) env S
  | .bin o a b, env, S => (evO a env S).ar.bind fun x env S => (evO b env S).ar.bind fun y env S => ofO ((vw env S x).bind fun u => (vw env S y).bind fun v => binF o u v) env S
  | .un o a, env, S => (evO a env S).ar.bind fun x env S => ofO ((vw env S x).bind (unF o)) env S
  | .cmp o a b, env, S => (evO a env S).ar.bind fun x env S => (evO b env S).ar.bind fun y env S => ofO ((vw env S x).bind fun u => (vw env S y).bind fun v => (cmpF o u v).map fun r => .val (.bl r)) env S
  | .cmp2 o p a b c, env, S => (evO a env S).ar.bind fun x env S => (evO b env S).ar.bind fun y env S => (ofO ((vw env S x).bind fun u => (vw env S y).bind fun v => cmpF o u v) env S).bind fun r env S =>
    if r then (evO c env S).ar.bind fun z env S => ofO ((vw env S y).bind fun u => (vw env S z).bind fun v => (cmpF p u v).map fun r => .val (.bl r)) env S else .ok (.val (.bl false)) env S
  | .and a b, env, S => (evO a env S).bl.bind fun r env S => if r then evO b env S else .ok (.val (.bl false)) env S
  | .or a b, env, S => (evO a env S).bl.bind fun r env S => if r then .ok (.val (.bl true)) env S else evO b env S
  | .not a, env, S => (evO a env S).bl.bind fun r env S => .ok (.val (.bl (!r))) env S
  | .ite c a b, env, S => (evO c env S).bl.bind fun r env S => if r then evO a env S else evO b env S
  | .lst es, env, S => (evDs es env S).bind fun ds env S => .ok (.new (.lst ds)) env S
  | .tup es, env, S => (evDs es env S).bind fun ds env S => .ok (.val (.tup ds)) env S
  | .dic es, env, S => (evDs es env S).nox.bind fun ds env S => match pairD ds with
    | some kvs => if keysOk kvs then .ok (.new (.dic kvs)) env S else .bad
    | none => .bad
  | .idx a b, env, S => (evO a env S).ar.bind fun x env S => (evO b env S).ar.bind fun y env S => ofO ((vw env S x).bind fun u => (vw env S y).bind fun v => (idxF u v).map .val) env S
  | .slc a lo hi, env, S => (evO a env S).ar.bind fun x env S => (evP lo env S).bind fun l env S => (evP hi env S).bind fun h env S => ofO ((vw env S x).bind fun u => slcF u l h) env S
  | .bf f as, env, S => (evAs as env S).bind fun xs env S => ofO ((vws env S xs).bind (bfF f)) env S
  | .mth m r as, env, S => (evO r env S).ar.bind fun x env S => if mtRecv m (vw env S x) then (evAs as env S).bind fun xs env S => ofO ((vw env S x).bind fun u => (vws env S xs).bind (mtF m u)) env S else .bad
  | .mut m r as, env, S => (evO r env S).ar.bind fun x env S => if isLst (cellAt env S x) then (evDs as env S).bind fun ds env S => match (cellAt env S x).bind fun c => muF m c ds with
    | some (c, d) => .ok (.val d) (cellPut env S x c).1 (cellPut env S x c).2
    | none => .bad else .bad
  | .isi a ts _, env, S => (evO a env S).ar.bind fun x env S => ofO ((vw env S x).bind fun u => (isAny u ts).map fun r => .val (.bl r)) env S
  | .comp elt tg k its cond own, env, S => (evDs its env S).bind fun xs env S => match itF k xs with
    | none => .bad
    | some ds => if own.all (plainSl env) then (turns (fun d env S => match bindTg tg d (wipeE env own) with
        | none => .bad
        | some env => (evC cond env S).bind fun r env S => if r then (evO elt env S).fz.bind fun y env S => .ok (some y) env S else .ok none env S) ds env S).nox.bind fun ys env' S => .ok (.new (.lst ys)) (backE env env' own) S else .bad
  | .call f as kws, env, S => (evDs as env S).bind fun ds env S => (C f ds S).r env
  | .new e, env, S => (evO e env S).bind fun o env S => match o with
    | .new (.lst xs) => .ok (.val (.loc S.length)) env (S ++ [.lst xs])
    | _ => .bad
termination_by structural e => e
def evC : Option Ex → Env → Store → R Bool
  | none, env, S => .ok true env S
  | some c, env, S => (evO c env S).bl
termination_by structural e => e
def evP : Option Ex → Env → Store → R (Option Int)
  | none, env, S => .ok none env S
  | some e, env, S => (evO e env S).fz.bind fun d env S => ofO ((intOf d).map some) env S
termination_by structural e => e
def evDs : List Ex → Env → Store → R (List D)
  | [], env, S => .ok [] env S
  | e :: es, env, S => (evO e env S).fz.bind fun d env S => (evDs es env S).bind fun ds env S => .ok (d :: ds) env S
termination_by structural e => e
def evAs : List Ex → Env → Store → R (List Ar)
  | [], env, S => .ok [] env S
  | e :: es, env, S => (evO e env S).ar.bind fun d env S => (evAs es env S).bind fun ds env S => .ok (d :: ds) env S
termination_by structural e => e
end
abbrev evD (e : Ex) (env : Env) (S : Store) : R D := (evO C g e env S).fz
abbrev evA (e : Ex) (env : Env) (S : Store) : R Ar := (evO C g e env S).ar
abbrev evB (e : Ex) (env : Env) (S : Store) : R Bool := (evO C g e env S).bl

/-- how a statement ends -/
inductive Fl where
  | nxt | ret (d : D) | brk | cnt
/-- a loop's turns over what it walks -/
def loopF (f : D → Env → Store → R Fl) : List D → Env → Store → R Fl
  | [], env, S => .ok .nxt env S
  | x :: xs, env, S => (f x env S).bind fun fl env S => match fl with
    | .nxt | .cnt => loopF f xs env S
    | .brk => .ok .nxt env S
    | .ret d => .ok (.ret d) env S
/-- a while's turns, at most so many -/
def loopW (c : Env → Store → R Bool) (f : Env → Store → R Fl) : Nat → Env → Store → R Fl
  | 0, _, _ => .bad
  | n + 1, env, S => (c env S).bind fun b env S => if b then (f env S).bind fun fl env S => match fl with
    | .nxt | .cnt => loopW c f n env S
    | .brk => .ok .nxt env S
    | .ret d => .ok (.ret d) env S else .ok .nxt env S
variable (w : Nat)
mutual
def exS : Stm → Env → Store → R Fl
  | .ex e, env, S => (evO C g e env S).fz.bind fun _ env S => .ok .nxt env S
  | .asg t e, env, S => (evO C g e env S).fz.bind fun d env S => (ofO (bindTg t d env) env S).bind fun env' _ S => .ok .nxt env' S
  | .own i e, env, S => (evO C g e env S).bind fun o env S => match o with
    | .new (.lst xs) => .ok .nxt (env.set i (.lst xs)) S
    | _ => .bad
  | .put o k v, env, S => (evO C g v env S).fz.bind fun d env S => (evO C g o env S).ar.bind fun x env S => (evO C g k env S).fz.bind fun kd env S => match (cellAt env S x).bind fun c => putF c kd d with
    | some c => .ok .nxt (cellPut env S x c).1 (cellPut env S x c).2
    | none => .bad
  | .ret none, env, S => .ok (.ret .non) env S
  | .ret (some e), env, S => (evO C g e env S).fz.bind fun d env S => .ok (.ret d) env S
  | .ife c a b, env, S => (evO C g c env S).bl.bind fun r env S => if r then exSs a env S else exSs b env S
  | .whl c a, env, S => loopW (fun env S => (evO C g c env S).bl) (fun env S => exSs a env S) w env S
  | .fr t k its a, env, S => (evDs C g its env S).bind fun xs env S => match itF k xs with
    | none => .bad
    | some ds => loopF (fun d env S => match bindTg t d env with
      | none => .bad
      | some env => exSs a env S) ds env S
  | .brk, env, S => .ok .brk env S
  | .cnt, env, S => .ok .cnt env S
  | .pass, env, S => .ok .nxt env S
  | .nev, _, _ => .bad
termination_by structural e => e
def exSs : List Stm → Env → Store → R Fl
  | [], env, S => .ok .nxt env S
  | s :: ss, env, S => (exS s env S).bind fun fl env S => match fl with
    | .nxt => exSs ss env S
    | .brk => .ok .brk env S
    | .cnt => .ok .cnt env S
    | .ret d => .ok (.ret d) env S
termination_by structural e => e
end
end
/-- a program: its defs by name -/
abbrev Prog := String → Option FDef
def startE (ns : Nat) (ds : List D) : Env := ds.map .dat ++ List.replicate (ns - ds.length) .no
def endR : R Fl → RC
  | .ok (.ret d) _ S => .ok d S
  | .ok .nxt _ S => .ok .non S
  | .exc x _ S => .exc x S
  | _ => .bad
def callF (Γ : Prog) (g : Glos) (w : Nat) : Nat → Calls
  | 0, _, _, _ => .bad
  | n + 1, f, ds, S => match Γ f with
    | none => .bad
    | some fd => if ds.length = fd.np then endR (exSs (callF Γ g w n) g w fd.body (startE fd.ns ds) S) else .bad
end Pf
/-! Pf, part B: how data lies in the abstract heap; the state of a run. -/
namespace Pf
open PySem PySem.Spec PyProof.Rows L2

def txt (s : List Nat) : Str := ⟨s.toArray⟩
@[simp] theorem txt_len (s : List Nat) : (txt s).length = s.length := by simp [txt, PySem.Str.length]
@[simp] theorem txt_list (s : List Nat) : (txt s).cps.toList = s := by simp [txt]
def okS (s : List Nat) : Bool := decide (s.length ≤ 16777216) && s.all fun c => decide (c < 0x110000)
theorem okS_len {s : List Nat} (h : okS s = true) : s.length ≤ 16777216 := by
  unfold okS at h; simp only [Bool.and_eq_true, decide_eq_true_eq] at h; exact h.1
theorem okS_all {s : List Nat} (h : okS s = true) : ∀ c ∈ s, c < 0x110000 := by
  unfold okS at h; simp only [Bool.and_eq_true, decide_eq_true_eq, List.all_eq_true] at h; exact h.2
theorem okS_mk {s : List Nat} (h1 : s.length ≤ 16777216) (h2 : ∀ c ∈ s, c < 0x110000) : okS s = true := by
  unfold okS; simp only [Bool.and_eq_true, decide_eq_true_eq, List.all_eq_true]; exact ⟨h1, h2⟩
theorem okS_sub {s t : List Nat} (h : okS s = true) (hl : t.length ≤ s.length) (hm : ∀ c ∈ t, c ∈ s) : okS t = true :=
  okS_mk (Nat.le_trans hl (okS_len h)) fun c hc => okS_all h c (hm c hc)
theorem okS_app {s t : List Nat} (h : okS s = true) (h' : okS t = true) (hl : s.length + t.length ≤ 16777216) : okS (s ++ t) = true :=
  okS_mk (by simpa using hl) fun c hc => (List.mem_append.mp hc).elim (okS_all h c) (okS_all h' c)
theorem okS_one {s : List Nat} {c : Nat} (h : okS s = true) (hc : c ∈ s) : okS [c] = true :=
  okS_mk (by simp) fun d hd => by
    have : d = c := by simpa using hd
    subst this; exact okS_all h _ hc

def Le (F F' : Hp) : Prop := ∀ a o, F a = some o → F' a = some o
theorem Le.refl {F : Hp} : Le F F := fun _ _ h => h
theorem Le.trans {F F' F'' : Hp} (h : Le F F') (h' : Le F' F'') : Le F F'' := fun a o e => h' a o (h a o e)
theorem Le.upd {F : Hp} {a : Addr} {o : HO} (h : F a = none) : Le F (upd F a o) := fun b u e => by
  rw [upd_ne (ne_of_none e h)]; exact e
theorem Le.rd {F F' : Hp} (h : Le F F') {a : Addr} {u : HO} (r : Rd F a u) : Rd F' a u := by
  rcases r with r | ⟨o, r⟩
  · exact .inl (h _ _ r)
  · exact .inr ⟨o, h _ _ r⟩
theorem Le.sqL {F F' : Hp} (h : Le F F') {K : PySem.W.Frag} {a : Addr} {xs : List V} (r : SqL K F a xs) : SqL K F' a xs := by
  rcases r with r | r
  · exact .inl (h.rd r)
  · exact .inr r
theorem Le.sqT {F F' : Hp} (h : Le F F') {K : PySem.W.Frag} {a : Addr} {xs : List V} (r : SqT K F a xs) : SqT K F' a xs := by
  rcases r with r | r
  · exact .inl (h.rd r)
  · exact .inr r

mutual
inductive Rep (K : PySem.W.Frag) (F : Hp) (ρ : List Addr) : V → D → Prop
  | non : Rep K F ρ .non .non
  | bl (b : Bool) : Rep K F ρ (.bl b) (.bl b)
  | int (i : Int) : Rep K F ρ (.int i) (.int i)
  | str {s : List Nat} (h : okS s = true) : Rep K F ρ (.str (txt s)) (.str s)
  | lst {a : Addr} {xs : List V} {ds : List D} (h : F a = some (.lst xs)) (hl : xs.length ≤ 16777216) (r : Reps K F ρ xs ds) : Rep K F ρ (.ref a) (.lst ds)
  | tup {a : Addr} {xs : List V} {ds : List D} (h : SqT K F a xs) (hl : xs.length ≤ 16777216) (r : Reps K F ρ xs ds) : Rep K F ρ (.ref a) (.tup ds)
  | scr {a : Addr} {ns : List Int} (h : SqL K F a (ns.map V.int)) (hl : ns.length ≤ 16777216) : Rep K F ρ (.ref a) (.scr ns)
  | loc {a : Addr} {n : Nat} (h : ρ[n]? = some a) : Rep K F ρ (.ref a) (.loc n)
  | dic {a : Addr} {kvs : List (Key × V)} {ds : List (D × D)} (h : F a = some (.dK kvs)) (hl : kvs.length ≤ 16777216) (r : RepKs K F ρ kvs ds) : Rep K F ρ (.ref a) (.dic ds)
inductive Reps (K : PySem.W.Frag) (F : Hp) (ρ : List Addr) : List V → List D → Prop
  | nil : Reps K F ρ [] []
  | cons {x : V} {xs : List V} {d : D} {ds : List D} (h : Rep K F ρ x d) (t : Reps K F ρ xs ds) : Reps K F ρ (x :: xs) (d :: ds)
inductive RepKs (K : PySem.W.Frag) (F : Hp) (ρ : List Addr) : List (Key × V) → List (D × D) → Prop
  | nil : RepKs K F ρ [] []
  | cons {k : Key} {v : V} {r : List (Key × V)} {d e : D} {ds : List (D × D)} (hk : Rep K F ρ (kV k) d) (h : Rep K F ρ v e) (t : RepKs K F ρ r ds) : RepKs K F ρ ((k, v) :: r) ((d, e) :: ds)
end
variable {K : PySem.W.Frag} {F F' G H H' : Hp} {ρ ρ' : List Addr} {σ : L2.St} {env env' : Env} {S S' : Store} {v u x y : V} {d e : D} {xs ys : List V} {ds es : List D}

mutual
theorem Rep.mono (hF : Le F F') (hρ : ρ <+: ρ') : ∀ {v : V} {d : D}, Rep K F ρ v d → Rep K F' ρ' v d
  | _, _, .non => .non
  | _, _, .bl b => .bl b
  | _, _, .int i => .int i
  | _, _, .str h => .str h
  | _, _, .lst h hl r => .lst (hF _ _ h) hl (Reps.mono hF hρ r)
  | _, _, .tup h hl r => .tup (hF.sqT h) hl (Reps.mono hF hρ r)
  | _, _, .scr h hl => .scr (hF.sqL h) hl
  | _, _, .loc h => .loc (by
      obtain ⟨t, rfl⟩ := hρ
      rw [List.getElem?_append_left (List.getElem?_eq_some_iff.mp h).1]; exact h)
  | _, _, .dic h hl r => .dic (hF _ _ h) hl (RepKs.mono hF hρ r)
theorem Reps.mono (hF : Le F F') (hρ : ρ <+: ρ') : ∀ {xs : List V} {ds : List D}, Reps K F ρ xs ds → Reps K F' ρ' xs ds
  | _, _, .nil => .nil
  | _, _, .cons h t => .cons (Rep.mono hF hρ h) (Reps.mono hF hρ t)
theorem RepKs.mono (hF : Le F F') (hρ : ρ <+: ρ') : ∀ {xs : List (Key × V)} {ds : List (D × D)}, RepKs K F ρ xs ds → RepKs K F' ρ' xs ds
  | _, _, .nil => .nil
  | _, _, .cons hk h t => .cons (Rep.mono hF hρ hk) (Rep.mono hF hρ h) (RepKs.mono hF hρ t)
end
theorem Reps.length : ∀ {xs : List V} {ds : List D}, Reps K F ρ xs ds → xs.length = ds.length
  | _, _, .nil => rfl
  | _, _, .cons _ t => by rw [List.length_cons, List.length_cons, Reps.length t]
theorem Reps.append : ∀ {xs ys : List V} {ds es : List D}, Reps K F ρ xs ds → Reps K F ρ ys es → Reps K F ρ (xs ++ ys) (ds ++ es)
  | _, _, _, _, .nil, h => h
  | _, _, _, _, .cons h t, h' => .cons h (Reps.append t h')
theorem Reps.get : ∀ {xs : List V} {ds : List D} {i : Nat} {d : D}, Reps K F ρ xs ds → ds[i]? = some d → ∃ x, xs[i]? = some x ∧ Rep K F ρ x d
  | _, _, _, _, .nil, h => by simp at h
  | _, _, 0, _, .cons h _, e => by
    have := Option.some.inj (by simpa using e); subst this; exact ⟨_, rfl, h⟩
  | _, _, i + 1, _, .cons _ t, e => by
    obtain ⟨x, h1, h2⟩ := Reps.get (i := i) t (by simpa using e)
    exact ⟨x, by simpa using h1, h2⟩
theorem Reps.getV : ∀ {xs : List V} {ds : List D} {i : Nat} {x : V}, Reps K F ρ xs ds → xs[i]? = some x → ∃ d, ds[i]? = some d ∧ Rep K F ρ x d
  | _, _, _, _, .nil, h => by simp at h
  | _, _, 0, _, .cons h _, e => by
    have := Option.some.inj (by simpa using e); subst this; exact ⟨_, rfl, h⟩
  | _, _, i + 1, _, .cons _ t, e => by
    obtain ⟨x, h1, h2⟩ := Reps.getV (i := i) t (by simpa using e)
    exact ⟨x, by simpa using h1, h2⟩
theorem Reps.set : ∀ {xs : List V} {ds : List D} {i : Nat} {x : V} {d : D}, Reps K F ρ xs ds → Rep K F ρ x d → Reps K F ρ (xs.set i x) (ds.set i d)
  | _, _, _, _, _, .nil, _ => .nil
  | _, _, 0, _, _, .cons _ t, h => .cons h t
  | _, _, i + 1, _, _, .cons h' t, h => .cons h' (Reps.set t h)
theorem Reps.take : ∀ (n : Nat) {xs : List V} {ds : List D}, Reps K F ρ xs ds → Reps K F ρ (xs.take n) (ds.take n)
  | 0, _, _, _ => .nil
  | _ + 1, _, _, .nil => .nil
  | n + 1, _, _, .cons h t => .cons h (Reps.take n t)
theorem Reps.drop : ∀ (n : Nat) {xs : List V} {ds : List D}, Reps K F ρ xs ds → Reps K F ρ (xs.drop n) (ds.drop n)
  | 0, _, _, h => h
  | _ + 1, _, _, .nil => .nil
  | n + 1, _, _, .cons _ t => Reps.drop n t
theorem Reps.eraseIdx : ∀ (n : Nat) {xs : List V} {ds : List D}, Reps K F ρ xs ds → Reps K F ρ (xs.eraseIdx n) (ds.eraseIdx n)
  | _, _, _, .nil => .nil
  | 0, _, _, .cons _ t => t
  | n + 1, _, _, .cons h t => .cons h (Reps.eraseIdx n t)
theorem Reps.dropLast {xs : List V} {ds : List D} (h : Reps K F ρ xs ds) : Reps K F ρ xs.dropLast ds.dropLast := by
  rw [List.dropLast_eq_take, List.dropLast_eq_take, h.length]; exact h.take _
theorem Reps.one (h : Rep K F ρ x d) : Reps K F ρ [x] [d] := .cons h .nil
theorem Reps.ints : ∀ ns : List Int, Reps K F ρ (ns.map V.int) (ns.map D.int)
  | [] => .nil
  | n :: ns => .cons (.int n) (Reps.ints ns)
theorem Reps.strs {s : List Nat} (h : okS s = true) : ∀ t : List Nat, (∀ c ∈ t, c ∈ s) → Reps K F ρ (t.map fun c => V.str (txt [c])) (t.map fun c => D.str [c])
  | [], _ => .nil
  | c :: t, hm => .cons (.str (okS_one h (hm c List.mem_cons_self))) (Reps.strs h t fun d hd => hm d (List.mem_cons_of_mem _ hd))

/-! ### the state -/
/-- what an own slot's address is -/
def OwnAt (env : Env) (σ : L2.St) (i : Nat) (a : Addr) : Prop := (∃ ds, env[i]? = some (.lst ds)) ∧ σ[i]? = some (some (.ref a))
def SlOk (K : PySem.W.Frag) (F : Hp) (ρ : List Addr) (G H : Hp) (v : Option (Option V)) : Sl → Prop
  | .no => True
  | .dat d => ∃ x, v = some (some x) ∧ Rep K F ρ x d
  | .lst ds => ∃ a xs, v = some (some (.ref a)) ∧ H a = some (.lst xs) ∧ xs.length ≤ 16777216 ∧ Reps K F ρ xs ds ∧ F a = none ∧ G a = none ∧ a ∉ ρ
  | .dic _ => False
def ClOk (K : PySem.W.Frag) (F : Hp) (ρ : List Addr) (G H : Hp) (a : Addr) : Cell → Prop
  | .lst ds => ∃ xs, H a = some (.lst xs) ∧ xs.length ≤ 16777216 ∧ Reps K F ρ xs ds ∧ F a = none ∧ G a = none
  | .dic _ => False
  | .dead => True
structure Sim (K : PySem.W.Frag) (F : Hp) (ρ : List Addr) (G : Hp) (env : Env) (S : Store) (σ : L2.St) (H : Hp) : Prop where
  fh : Le F H
  gh : Le G H
  fg : ∀ a o, G a = some o → F a = none
  rg : ∀ a ∈ ρ, G a = none
  rlen : ρ.length = S.length
  rnd : ρ.Nodup
  live : ∀ a ∈ ρ, ∃ o, H a = some o
  cells : ∀ (n : Nat) (a : Addr) (c : Cell), ρ[n]? = some a → S[n]? = some c → ClOk K F ρ G H a c
  slots : ∀ (i : Nat) (sl : Sl), env[i]? = some sl → SlOk K F ρ G H σ[i]? sl
  own : ∀ i j a, OwnAt env σ i a → OwnAt env σ j a → i = j
  elen : env.length = σ.length

theorem ClOk.mono {a : Addr} {c : Cell} (h : ClOk K F ρ G H a c) (hF : Le F F') (hρ : ρ <+: ρ') (hH : ∀ xs, H a = some (.lst xs) → F a = none → G a = none → H' a = some (.lst xs) ∧ F' a = none) : ClOk K F' ρ' G H' a c := by
  cases c with
  | lst ds =>
    obtain ⟨xs, h1, h2, h3, h4, h5⟩ := h
    obtain ⟨q1, q2⟩ := hH xs h1 h4 h5
    exact ⟨xs, q1, h2, h3.mono hF hρ, q2, h5⟩
  | dic _ => exact h
  | dead => trivial
theorem SlOk.mono {w : Option (Option V)} {sl : Sl} (h : SlOk K F ρ G H w sl) (hF : Le F F') (hρ : ρ <+: ρ') (hH : ∀ ds a xs, sl = .lst ds → w = some (some (.ref a)) → H a = some (.lst xs) → F a = none → G a = none → a ∉ ρ → H' a = some (.lst xs) ∧ F' a = none ∧ a ∉ ρ') : SlOk K F' ρ' G H' w sl := by
  cases sl with
  | no => trivial
  | dat d => obtain ⟨x, e, r⟩ := h; exact ⟨x, e, r.mono hF hρ⟩
  | lst ds =>
    obtain ⟨a, xs, e, h1, h2, h3, h4, h5, h6⟩ := h
    obtain ⟨q1, q2, q3⟩ := hH ds a xs rfl e h1 h4 h5 h6
    exact ⟨a, xs, e, q1, h2, h3.mono hF hρ, q2, h5, q3⟩
  | dic _ => exact h

theorem nodup_at {α : Type} {l : List α} (h : l.Nodup) {i j : Nat} {x : α} (a : l[i]? = some x) (b : l[j]? = some x) : i = j := by
  obtain ⟨h1, e1⟩ := List.getElem?_eq_some_iff.mp a
  obtain ⟨h2, e2⟩ := List.getElem?_eq_some_iff.mp b
  exact (List.getElem_inj h).mp (e1.trans e2.symm)
theorem prefix_refl {α : Type} {l : List α} : l <+: l := ⟨[], by simp⟩
theorem prefix_trans {α : Type} {l m n : List α} (h : l <+: m) (h' : m <+: n) : l <+: n := by
  obtain ⟨t, rfl⟩ := h
  obtain ⟨u, rfl⟩ := h'
  exact ⟨t ++ u, by simp⟩
theorem Sim.notRho (s : Sim K F ρ G env S σ H) {p : Addr} (hp : H p = none) : p ∉ ρ := fun h => by
  obtain ⟨o, e⟩ := s.live p h
  rw [hp] at e; cases e
theorem Sim.notOwn (s : Sim K F ρ G env S σ H) {p : Addr} (hp : H p = none) (i : Nat) : ¬ OwnAt env σ i p := fun ⟨⟨ds, e⟩, ev⟩ => by
  obtain ⟨a, xs, e1, h1, _⟩ := s.slots i _ e
  rw [ev] at e1; cases e1
  rw [hp] at h1; cases h1
theorem Sim.fnone (s : Sim K F ρ G env S σ H) {p : Addr} (hp : H p = none) : F p = none := by
  cases q : F p with
  | none => rfl
  | some o => have := s.fh p o q; rw [hp] at this; cases this
theorem Sim.gnone (s : Sim K F ρ G env S σ H) {p : Addr} (hp : H p = none) : G p = none := by
  cases q : G p with
  | none => rfl
  | some o => have := s.gh p o q; rw [hp] at this; cases this

/-- a new object laid, named by nothing yet -/
theorem Sim.laid (s : Sim K F ρ G env S σ H) {p : Addr} {o : HO} (hp : H p = none) : Sim K F ρ G env S σ (upd H p o) := by
  have keep : ∀ a u, H a = some u → upd H p o a = some u := fun a u e => by rw [upd_ne (ne_of_none e hp)]; exact e
  exact ⟨fun a u e => keep a u (s.fh a u e), fun a u e => keep a u (s.gh a u e), s.fg, s.rg, s.rlen, s.rnd, fun a h => let ⟨u, e⟩ := s.live a h; ⟨u, keep a u e⟩,
    fun n a c h1 h2 => (s.cells n a c h1 h2).mono Le.refl prefix_refl fun xs e h1 _ => ⟨keep a _ e, h1⟩,
    fun i sl e => (s.slots i sl e).mono Le.refl prefix_refl fun _ a xs _ _ e h1 _ h3 => ⟨keep a _ e, h1, h3⟩, s.own, s.elen⟩
/-- an object that nothing names is frozen -/
theorem Sim.freeze (s : Sim K F ρ G env S σ H) {p : Addr} {o : HO} (hp : H p = some o) (hF : F p = none) (hG : G p = none) (hr : p ∉ ρ) (ho : ∀ i, ¬ OwnAt env σ i p) : Sim K (upd F p o) ρ G env S σ H := by
  have le : Le F (upd F p o) := Le.upd hF
  refine ⟨fun a u e => ?_, s.gh, fun a u e => by rw [upd_ne (ne_of_none e hG)]; exact s.fg a u e, s.rg, s.rlen, s.rnd, s.live, fun n a c h1 h2 => ?_, fun i sl e => ?_, s.own, s.elen⟩
  · by_cases h : a = p
    · subst h; rw [upd_same] at e; cases e; exact hp
    · rw [upd_ne h] at e; exact s.fh a u e
  · refine (s.cells n a c h1 h2).mono le prefix_refl fun xs e q _ => ⟨e, ?_⟩
    rw [upd_ne (show a ≠ p from fun z => hr (z ▸ List.mem_of_getElem? h1))]; exact q
  · refine (s.slots i sl e).mono le prefix_refl fun ds a xs hsl ev e1 h1 _ h3 => ⟨e1, ?_, h3⟩
    rw [upd_ne fun z => ho i ⟨⟨ds, by rw [e, hsl]⟩, by rw [ev, z]⟩]; exact h1
/-- a new object laid and frozen -/
theorem Sim.put (s : Sim K F ρ G env S σ H) {p : Addr} {o : HO} (hp : H p = none) : Sim K (upd F p o) ρ G env S σ (upd H p o) :=
  (s.laid hp).freeze upd_same (s.fnone hp) (s.gnone hp) (s.notRho hp) (s.notOwn hp)
/-- slots forgotten or set to data -/
theorem Sim.slot (s : Sim K F ρ G env S σ H) {i : Nat} {w : Option V} {sl : Sl} (hsl : sl = .no ∨ ∃ d x, sl = .dat d ∧ w = some x ∧ Rep K F ρ x d) : Sim K F ρ G (env.set i sl) S (σ.set i w) H := by
  refine ⟨s.fh, s.gh, s.fg, s.rg, s.rlen, s.rnd, s.live, s.cells, fun j sl' e => ?_, fun j k a => ?_, by rw [List.length_set, List.length_set]; exact s.elen⟩
  · by_cases h : i = j
    · subst h
      have hi : i < env.length := by
        have := (List.getElem?_eq_some_iff.mp e).1
        rwa [List.length_set] at this
      rw [List.getElem?_set_self hi] at e
      cases e
      rw [List.getElem?_set_self (by rw [← s.elen]; exact hi)]
      rcases hsl with rfl | ⟨d, x, rfl, rfl, r⟩
      · trivial
      · exact ⟨x, rfl, r⟩
    · rw [List.getElem?_set_ne h] at e
      rw [List.getElem?_set_ne h]
      exact s.slots j sl' e
  · rintro ⟨⟨ds, h1⟩, h2⟩ ⟨⟨es, h3⟩, h4⟩
    have ne : ∀ (m : Nat) (xs : List D), (env.set i sl)[m]? = some (.lst xs) → i ≠ m := fun m xs e z => by
      subst z
      have hi : i < env.length := by
        have := (List.getElem?_eq_some_iff.mp e).1
        rwa [List.length_set] at this
      rw [List.getElem?_set_self hi] at e
      rcases hsl with rfl | ⟨d, x, rfl, _⟩ <;> cases e
    have n1 := ne j ds h1
    have n2 := ne k es h3
    rw [List.getElem?_set_ne n1] at h1 h2
    rw [List.getElem?_set_ne n2] at h3 h4
    exact s.own j k a ⟨⟨ds, h1⟩, h2⟩ ⟨⟨es, h3⟩, h4⟩
/-- the slot's own list is frozen -/
theorem Sim.rdown (s : Sim K F ρ G env S σ H) {i : Nat} {ds : List D} (e : env[i]? = some (.lst ds)) :
    ∃ a xs F', σ[i]? = some (some (.ref a)) ∧ Le F F' ∧ F' a = some (.lst xs) ∧ xs.length ≤ 16777216 ∧ Reps K F' ρ xs ds ∧ Sim K F' ρ G (env.set i (.dat (.lst ds))) S σ H := by
  obtain ⟨a, xs, ev, h1, h2, h3, h4, h5, h6⟩ := s.slots i _ e
  have le : Le F (upd F a (.lst xs)) := Le.upd h4
  have hi : i < env.length := (List.getElem?_eq_some_iff.mp e).1
  refine ⟨a, xs, upd F a (.lst xs), ev, le, upd_same, h2, h3.mono le prefix_refl, ?_⟩
  refine ⟨fun b u q => ?_, s.gh, fun b u q => by rw [upd_ne (ne_of_none q h5)]; exact s.fg b u q, s.rg, s.rlen, s.rnd, s.live, fun n b c q1 q2 => ?_, fun j sl q => ?_, fun j k b => ?_, by rw [List.length_set]; exact s.elen⟩
  · by_cases h : b = a
    · subst h; rw [upd_same] at q; cases q; exact h1
    · rw [upd_ne h] at q; exact s.fh b u q
  · refine (s.cells n b c q1 q2).mono le prefix_refl fun ys q3 q4 _ => ⟨q3, ?_⟩
    rw [upd_ne (show b ≠ a from fun z => h6 (z ▸ List.mem_of_getElem? q1))]; exact q4
  · by_cases h : i = j
    · subst h
      rw [List.getElem?_set_self hi] at q; cases q
      exact ⟨_, ev, .lst upd_same h2 (h3.mono le prefix_refl)⟩
    · rw [List.getElem?_set_ne h] at q
      refine (s.slots j sl q).mono le prefix_refl fun es b ys hsl ev' q1 q2 _ q3 => ⟨q1, ?_, q3⟩
      rw [upd_ne fun z => h (s.own i j a ⟨⟨ds, e⟩, ev⟩ ⟨⟨es, by rw [q, hsl]⟩, by rw [ev', z]⟩)]; exact q2
  · rintro ⟨⟨us, q1⟩, q2⟩ ⟨⟨ws, q3⟩, q4⟩
    have ne : ∀ (m : Nat) (zs : List D), (env.set i (.dat (.lst ds)))[m]? = some (.lst zs) → i ≠ m := fun m zs q z => by
      subst z
      rw [List.getElem?_set_self hi] at q; cases q
    have n1 := ne j us q1
    have n2 := ne k ws q3
    rw [List.getElem?_set_ne n1] at q1
    rw [List.getElem?_set_ne n2] at q3
    exact s.own j k b ⟨⟨us, q1⟩, q2⟩ ⟨⟨ws, q3⟩, q4⟩
/-- a slot takes a new list as its own -/
theorem Sim.ownSet (s : Sim K F ρ G env S σ H) {i : Nat} {p : Addr} {xs : List V} {ds : List D} (hp : H p = some (.lst xs)) (hl : xs.length ≤ 16777216) (r : Reps K F ρ xs ds) (hF : F p = none) (hG : G p = none) (hr : p ∉ ρ) (ho : ∀ i, ¬ OwnAt env σ i p) :
    Sim K F ρ G (env.set i (.lst ds)) S (σ.set i (some (.ref p))) H := by
  refine ⟨s.fh, s.gh, s.fg, s.rg, s.rlen, s.rnd, s.live, s.cells, fun j sl' e => ?_, fun j k a => ?_, by rw [List.length_set, List.length_set]; exact s.elen⟩
  · by_cases h : i = j
    · subst h
      have hi : i < env.length := by
        have := (List.getElem?_eq_some_iff.mp e).1
        rwa [List.length_set] at this
      rw [List.getElem?_set_self hi] at e
      cases e
      rw [List.getElem?_set_self (by rw [← s.elen]; exact hi)]
      exact ⟨p, xs, rfl, hp, hl, r, hF, hG, hr⟩
    · rw [List.getElem?_set_ne h] at e
      rw [List.getElem?_set_ne h]
      exact s.slots j sl' e
  · rintro ⟨⟨us, h1⟩, h2⟩ ⟨⟨es, h3⟩, h4⟩
    have at_ : ∀ (m : Nat) (zs : List D), (env.set i (.lst ds))[m]? = some (.lst zs) → (σ.set i (some (.ref p)))[m]? = some (some (.ref a)) → (i = m ∧ a = p) ∨ (i ≠ m ∧ OwnAt env σ m a) := fun m zs e ev => by
      by_cases z : i = m
      · subst z
        have hi : i < env.length := by
          have := (List.getElem?_eq_some_iff.mp e).1
          rwa [List.length_set] at this
        rw [List.getElem?_set_self (by rw [← s.elen]; exact hi)] at ev
        cases ev
        exact .inl ⟨rfl, rfl⟩
      · rw [List.getElem?_set_ne z] at e ev
        exact .inr ⟨z, ⟨zs, e⟩, ev⟩
    rcases at_ j us h1 h2 with ⟨e1, e2⟩ | ⟨n1, o1⟩
    · rcases at_ k es h3 h4 with ⟨e3, _⟩ | ⟨_, o2⟩
      · exact e1.symm.trans e3
      · exact absurd (e2 ▸ o2) (ho k)
    · rcases at_ k es h3 h4 with ⟨_, e4⟩ | ⟨_, o2⟩
      · exact absurd (e4 ▸ o1) (ho j)
      · exact s.own j k a o1 o2
/-- the slot's own list has changed -/
theorem Sim.ownWr (s : Sim K F ρ G env S σ H) {i : Nat} {ds es : List D} {a : Addr} {ys : List V} (e : env[i]? = some (.lst ds)) (ev : σ[i]? = some (some (.ref a))) (hl : ys.length ≤ 16777216) (r : Reps K F ρ ys es) :
    Sim K F ρ G (env.set i (.lst es)) S σ (upd H a (.lst ys)) := by
  obtain ⟨a', xs, ev', h1, h2, h3, h4, h5, h6⟩ := s.slots i _ e
  rw [ev] at ev'; cases ev'
  have hi : i < env.length := (List.getElem?_eq_some_iff.mp e).1
  have keep : ∀ b u, b ≠ a → H b = some u → upd H a (.lst ys) b = some u := fun b u n q => by rw [upd_ne n]; exact q
  refine ⟨fun b u q => keep b u (ne_of_none q h4) (s.fh b u q), fun b u q => keep b u (ne_of_none q h5) (s.gh b u q), s.fg, s.rg, s.rlen, s.rnd, fun b hb => ?_, fun n b c q1 q2 => ?_, fun j sl q => ?_, fun j k b => ?_, by rw [List.length_set]; exact s.elen⟩
  · obtain ⟨u, q⟩ := s.live b hb
    exact ⟨u, keep b u (fun z => h6 (z ▸ hb)) q⟩
  · exact (s.cells n b c q1 q2).mono Le.refl prefix_refl fun zs q3 q4 _ => ⟨keep b _ (fun z => h6 (z ▸ List.mem_of_getElem? q1)) q3, q4⟩
  · by_cases h : i = j
    · subst h
      rw [List.getElem?_set_self hi] at q; cases q
      exact ⟨a, ys, ev, upd_same, hl, r, h4, h5, h6⟩
    · rw [List.getElem?_set_ne h] at q
      exact (s.slots j sl q).mono Le.refl prefix_refl fun us b zs hsl evb q1 q2 _ q3 => ⟨keep b _ (fun z => h (s.own i j a ⟨⟨ds, e⟩, ev⟩ ⟨⟨us, by rw [q, hsl]⟩, by rw [evb, z]⟩)) q1, q2, q3⟩
  · rintro ⟨⟨us, q1⟩, q2⟩ ⟨⟨ws, q3⟩, q4⟩
    have back : ∀ (m : Nat) (zs : List D), (env.set i (.lst es))[m]? = some (.lst zs) → ∃ zs, env[m]? = some (.lst zs) := fun m zs q => by
      by_cases h : i = m
      · subst h; exact ⟨ds, e⟩
      · rw [List.getElem?_set_ne h] at q; exact ⟨zs, q⟩
    exact s.own j k b ⟨back j us q1, q2⟩ ⟨back k ws q3, q4⟩
/-- a cell of the store has changed -/
theorem Sim.cellWr (s : Sim K F ρ G env S σ H) {n : Nat} {ds es : List D} {a : Addr} {ys : List V} (e : S[n]? = some (.lst ds)) (ea : ρ[n]? = some a) (hl : ys.length ≤ 16777216) (r : Reps K F ρ ys es) :
    Sim K F ρ G env (S.set n (.lst es)) σ (upd H a (.lst ys)) := by
  obtain ⟨xs, h1, h2, h3, h4, h5⟩ := s.cells n a _ ea e
  have hn : n < S.length := (List.getElem?_eq_some_iff.mp e).1
  have hm : a ∈ ρ := List.mem_of_getElem? ea
  have keep : ∀ b u, b ≠ a → H b = some u → upd H a (.lst ys) b = some u := fun b u n q => by rw [upd_ne n]; exact q
  refine ⟨fun b u q => keep b u (ne_of_none q h4) (s.fh b u q), fun b u q => keep b u (ne_of_none q h5) (s.gh b u q), s.fg, s.rg, by rw [List.length_set]; exact s.rlen, s.rnd, fun b hb => ?_, fun m b c q1 q2 => ?_, fun j sl q => ?_, s.own, s.elen⟩
  · by_cases z : b = a
    · subst z; exact ⟨_, upd_same⟩
    · obtain ⟨u, q⟩ := s.live b hb
      exact ⟨u, keep b u z q⟩
  · by_cases h : n = m
    · subst h
      rw [ea] at q1; cases q1
      rw [List.getElem?_set_self hn] at q2; cases q2
      exact ⟨ys, upd_same, hl, r, h4, h5⟩
    · rw [List.getElem?_set_ne h] at q2
      refine (s.cells m b c q1 q2).mono Le.refl prefix_refl fun zs q3 q4 _ => ⟨keep b _ (fun z => h ?_) q3, q4⟩
      rw [z] at q1
      exact nodup_at s.rnd ea q1
  · exact (s.slots j sl q).mono Le.refl prefix_refl fun us b zs hsl evb q1 q2 _ q3 => ⟨keep b _ (fun z => q3 (z ▸ hm)) q1, q2, q3⟩
/-- a new cell of the store -/
theorem Sim.cellNew (s : Sim K F ρ G env S σ H) {p : Addr} {xs : List V} {ds : List D} (hp : H p = some (.lst xs)) (hl : xs.length ≤ 16777216) (r : Reps K F ρ xs ds) (hF : F p = none) (hG : G p = none) (hr : p ∉ ρ) (ho : ∀ i, ¬ OwnAt env σ i p) :
    Sim K F (ρ ++ [p]) G env (S ++ [.lst ds]) σ H := by
  have pre : ρ <+: ρ ++ [p] := ⟨[p], rfl⟩
  refine ⟨s.fh, s.gh, s.fg, fun a h => ?_, by simp [s.rlen], ?_, fun a h => ?_, fun n a c q1 q2 => ?_, fun i sl e => ?_, s.own, s.elen⟩
  · rcases List.mem_append.mp h with h | h
    · exact s.rg a h
    · have : a = p := by simpa using h
      subst this; exact hG
  · rw [List.nodup_append]
    exact ⟨s.rnd, by simp, fun a h b hb => by
      have : b = p := by simpa using hb
      subst this; exact fun z => hr (z ▸ h)⟩
  · rcases List.mem_append.mp h with h | h
    · exact s.live a h
    · have : a = p := by simpa using h
      subst this; exact ⟨_, hp⟩
  · by_cases h : n < ρ.length
    · rw [List.getElem?_append_left h] at q1
      rw [List.getElem?_append_left (by rw [← s.rlen]; exact h)] at q2
      exact (s.cells n a c q1 q2).mono Le.refl pre fun zs e1 e2 _ => ⟨e1, e2⟩
    · have hn : n = ρ.length := by
        have := (List.getElem?_eq_some_iff.mp q1).1
        simp at this; omega
      subst hn
      rw [List.getElem?_concat_length] at q1
      rw [s.rlen, List.getElem?_concat_length] at q2
      cases q1; cases q2
      exact ⟨xs, hp, hl, r.mono Le.refl pre, hF, hG⟩
  · refine (s.slots i sl e).mono Le.refl pre fun us a zs hsl ev e1 e2 _ e3 => ⟨e1, e2, fun h => ?_⟩
    rcases List.mem_append.mp h with h | h
    · exact e3 h
    · have : a = p := by simpa using h
      exact ho i ⟨⟨us, by rw [e, hsl]⟩, by rw [ev, this]⟩

/-! ### a call's frame -/
/-- what a callee has to leave as it is -/
noncomputable def Own (G : Hp) (env : Env) (σ : L2.St) (H : Hp) : Hp := fun a => open Classical in if ∃ i, OwnAt env σ i a then H a else G a
theorem Own.at {i : Nat} {a : Addr} (h : OwnAt env σ i a) : Own G env σ H a = H a := by unfold Own; rw [if_pos ⟨i, h⟩]
theorem Own.not {a : Addr} (h : ¬ ∃ i, OwnAt env σ i a) : Own G env σ H a = G a := by unfold Own; rw [if_neg h]
theorem Sim.ownF (s : Sim K F ρ G env S σ H) {i : Nat} {a : Addr} (h : OwnAt env σ i a) : (∃ xs, H a = some (.lst xs)) ∧ F a = none ∧ G a = none ∧ a ∉ ρ := by
  obtain ⟨⟨ds, e⟩, ev⟩ := h
  obtain ⟨b, xs, ev', h1, h2, h3, h4, h5, h6⟩ := s.slots i _ e
  rw [ev] at ev'; cases ev'
  exact ⟨⟨xs, h1⟩, h4, h5, h6⟩
theorem Sim.toCall (s : Sim K F ρ G env S σ H) : Sim K F ρ (Own G env σ H) [] S [] H := by
  refine ⟨s.fh, fun a o e => ?_, fun a o e => ?_, fun a h => ?_, s.rlen, s.rnd, s.live, fun n a c h1 h2 => ?_, fun i sl e => by simp at e, fun i j a h => by obtain ⟨⟨_, e⟩, _⟩ := h; simp at e, rfl⟩
  · by_cases q : ∃ i, OwnAt env σ i a
    · obtain ⟨i, q⟩ := q; rw [Own.at q] at e; exact e
    · rw [Own.not q] at e; exact s.gh a o e
  · by_cases q : ∃ i, OwnAt env σ i a
    · obtain ⟨i, q⟩ := q; exact (s.ownF q).2.1
    · rw [Own.not q] at e; exact s.fg a o e
  · rw [Own.not fun ⟨i, q⟩ => (s.ownF q).2.2.2 h]; exact s.rg a h
  · have q := s.cells n a c h1 h2
    cases c with
    | dead => trivial
    | dic _ => exact q
    | lst ds =>
      obtain ⟨xs, q1, q2, q3, q4, q5⟩ := q
      exact ⟨xs, q1, q2, q3, q4, by rw [Own.not fun ⟨i, z⟩ => (s.ownF z).2.2.2 (List.mem_of_getElem? h1)]; exact q5⟩
theorem Sim.fromCall (s : Sim K F ρ G env S σ H) (hF : Le F F') (hρ : ρ <+: ρ') (s' : Sim K F' ρ' (Own G env σ H) [] S' [] H') : Sim K F' ρ' G env S' σ H' := by
  have gg : ∀ a o, G a = some o → Own G env σ H a = some o := fun a o e => by
    rw [Own.not fun ⟨i, q⟩ => by rw [(s.ownF q).2.2.1] at e; cases e]; exact e
  refine ⟨s'.fh, fun a o e => s'.gh a o (gg a o e), fun a o e => s'.fg a o (gg a o e), fun a h => ?_, s'.rlen, s'.rnd, s'.live, fun n a c h1 h2 => ?_, fun i sl e => ?_, s.own, s.elen⟩
  · have q := s'.rg a h
    cases z : G a with
    | none => rfl
    | some o => rw [gg a o z] at q; cases q
  · have q := s'.cells n a c h1 h2
    cases c with
    | dead => trivial
    | dic _ => exact q
    | lst ds =>
      obtain ⟨xs, q1, q2, q3, q4, q5⟩ := q
      refine ⟨xs, q1, q2, q3, q4, ?_⟩
      cases z : G a with
      | none => rfl
      | some o => rw [gg a o z] at q5; cases q5
  · have q := s.slots i sl e
    cases sl with
    | no => trivial
    | dic _ => exact q
    | dat d => obtain ⟨x, e1, r⟩ := q; exact ⟨x, e1, r.mono hF hρ⟩
    | lst ds =>
      obtain ⟨a, xs, ev, h1, h2, h3, h4, h5, h6⟩ := q
      have o : OwnAt env σ i a := ⟨⟨ds, e⟩, ev⟩
      have e2 : Own G env σ H a = some (.lst xs) := by rw [Own.at o]; exact h1
      refine ⟨a, xs, ev, s'.gh a _ e2, h2, h3.mono hF hρ, s'.fg a _ e2, h5, fun hm => ?_⟩
      have z := s'.rg a hm
      rw [e2] at z; cases z
end Pf
/-! Pf, part C: what is asked of a run (At), readings (tR), the primitives by values. -/
namespace Pf
open PySem PySem.Spec PyProof.Rows L2

/-- how an exception of a run lies: its class, its own dict -/
abbrev EXT := Hp → List Addr → Hp → Value → Option Addr → Exn → Prop
section
variable {α β γ δ : Type} {K : PySem.W.Frag} {W : WX} {EX : EXT} {F F' G H H' : Hp} {ρ ρ' : List Addr} {σ : L2.St} {env env' : Env} {S S' : Store} {v u x y : V} {d e : D} {xs ys : List V} {ds es : List D}
abbrev Post (β α : Type) := Hp → List Addr → Env → Hp → β → α → Prop
def At (K : PySem.W.Frag) (W : WX) (EX : EXT) (G : Hp) (σ : L2.St) (P : Post β α) (Q : β → Hp → Prop) (F : Hp) (ρ : List Addr) : R α → Prop
  | .ok a env S => ∀ F' ρ' H b, Le F F' → ρ <+: ρ' → Sim K F' ρ' G env S σ H → P F' ρ' env H b a → Q b H
  | .exc x env S => ∀ F' ρ' H cls d, Le F F' → ρ <+: ρ' → Sim K F' ρ' G env S σ H → EX F' ρ' H cls d x → W cls d σ H
  | .bad => False
theorem At.mono {P : Post β α} {Q : β → Hp → Prop} {r : R α} (h : At K W EX G σ P Q F ρ r) (hF : Le F F') (hρ : ρ <+: ρ') : At K W EX G σ P Q F' ρ' r := by
  cases r with
  | ok a env S => exact fun F2 ρ2 H b h1 h2 => h F2 ρ2 H b (hF.trans h1) (prefix_trans hρ h2)
  | exc x env S => exact fun F2 ρ2 H c d h1 h2 => h F2 ρ2 H c d (hF.trans h1) (prefix_trans hρ h2)
  | bad => exact h
theorem At.imp {P : Post β α} {Q Q' : β → Hp → Prop} {r : R α} (h : At K W EX G σ P Q F ρ r) (hq : ∀ b H, Q b H → Q' b H) : At K W EX G σ P Q' F ρ r := by
  cases r with
  | ok a env S => exact fun F2 ρ2 H b h1 h2 h3 h4 => hq b H (h F2 ρ2 H b h1 h2 h3 h4)
  | exc x env S => exact h
  | bad => exact h
/-- first a run, then another from where it ends -/
theorem At.bind {P1 : Post γ δ} {P2 : Post β α} {Q : β → Hp → Prop} {r : R δ} {f : δ → Env → Store → R α} (h : At K W EX G σ P2 Q F ρ (r.bind f)) :
    At K W EX G σ P1 (fun b H => ∃ a F1 ρ1 env1 S1, Le F F1 ∧ ρ <+: ρ1 ∧ Sim K F1 ρ1 G env1 S1 σ H ∧ P1 F1 ρ1 env1 H b a ∧ At K W EX G σ P2 Q F1 ρ1 (f a env1 S1)) F ρ r := by
  cases r with
  | ok a env S => exact fun F1 ρ1 H b h1 h2 h3 h4 => ⟨a, F1, ρ1, env, S, h1, h2, h3, h4, At.mono h h1 h2⟩
  | exc x env S => exact h
  | bad => exact h
theorem At.ofO {P2 : Post β α} {Q : β → Hp → Prop} {o : Option α} (h : At K W EX G σ P2 Q F ρ (ofO o env S)) : ∃ a, o = some a ∧ At K W EX G σ P2 Q F ρ (.ok a env S) := by
  cases o with
  | none => exact h.elim
  | some a => exact ⟨a, rfl, h⟩

/-- the reading of a run -/
def tR (K : PySem.W.Frag) (W : WX) (EX : EXT) (P : Hp → L2.St → Post β α) (r : Env → Store → R α) : L2.St → Hp → (β → Hp → Prop) → Prop := fun σ H Q =>
  ∃ F ρ G env S, Sim K F ρ G env S σ H ∧ At K W EX G σ (P G σ) Q F ρ (r env S)

/-! ### what runs hand on -/
def PD (K : PySem.W.Frag) : Hp → L2.St → Post V D := fun _ _ F ρ _ _ v d => Rep K F ρ v d
def POut (K : PySem.W.Frag) : Hp → L2.St → Post V Out := fun G σ F ρ env H v o => match o with
  | .val d => Rep K F ρ v d
  | .new (.lst ds) => ∃ p xs, v = .ref p ∧ H p = some (.lst xs) ∧ xs.length ≤ 16777216 ∧ Reps K F ρ xs ds ∧ F p = none ∧ G p = none ∧ p ∉ ρ ∧ ∀ i, ¬ OwnAt env σ i p
  | .new (.dic ds) => ∃ p kvs, v = .ref p ∧ H p = some (.dK kvs) ∧ kvs.length ≤ 16777216 ∧ RepKs K F ρ kvs ds ∧ F p = none ∧ G p = none ∧ p ∉ ρ ∧ ∀ i, ¬ OwnAt env σ i p
  | .new .dead => False
  | .hdl i => σ[i]? = some (some v)
def ArRep (K : PySem.W.Frag) (F : Hp) (ρ : List Addr) (σ : L2.St) (v : V) : Ar → Prop
  | .d x => Rep K F ρ v x
  | .h i => σ[i]? = some (some v)
def PAr (K : PySem.W.Frag) : Hp → L2.St → Post V Ar := fun _ σ F ρ _ _ v a => ArRep K F ρ σ v a
def PB : Hp → L2.St → Post Bool Bool := fun _ _ _ _ _ _ b a => b = a
inductive ArReps (K : PySem.W.Frag) (F : Hp) (ρ : List Addr) (σ : L2.St) : List V → List Ar → Prop
  | nil : ArReps K F ρ σ [] []
  | cons {x : V} {xs : List V} {a : Ar} {as : List Ar} (h : ArRep K F ρ σ x a) (t : ArReps K F ρ σ xs as) : ArReps K F ρ σ (x :: xs) (a :: as)
def PArs (K : PySem.W.Frag) : Hp → L2.St → Post (List V) (List Ar) := fun _ σ F ρ _ _ vs as => ArReps K F ρ σ vs as
def PDs (K : PySem.W.Frag) : Hp → L2.St → Post (List V) (List D) := fun _ _ F ρ _ _ vs ds => Reps K F ρ vs ds
theorem ArRep.mono {a : Ar} (h : ArRep K F ρ σ v a) (hF : Le F F') (hρ : ρ <+: ρ') : ArRep K F' ρ' σ v a := by
  cases a with
  | d x => exact Rep.mono hF hρ h
  | h i => exact h
theorem ArReps.mono : ∀ {vs : List V} {as : List Ar}, ArReps K F ρ σ vs as → Le F F' → ρ <+: ρ' → ArReps K F' ρ' σ vs as
  | _, _, .nil, _, _ => .nil
  | _, _, .cons h t, h1, h2 => .cons (ArRep.mono h h1 h2) (ArReps.mono t h1 h2)

/-- frozen -/
theorem At.fz {Q : V → Hp → Prop} {r : R Out} (h : At K W EX G σ (PD K G σ) Q F ρ r.fz) : At K W EX G σ (POut K G σ) Q F ρ r := by
  cases r with
  | exc x env S => exact h
  | bad => exact h
  | ok o env S =>
    intro F1 ρ1 H1 v h1 h2 s p
    cases o with
    | val d => exact h F1 ρ1 H1 v h1 h2 s p
    | hdl i => exact (show False from h).elim
    | new c =>
      cases c with
      | dic ds =>
        obtain ⟨q, xs, rfl, e, hl, r, hF, hG, hr, ho⟩ := p
        have le : Le F1 (upd F1 q (.dK xs)) := Le.upd hF
        exact h (upd F1 q (.dK xs)) ρ1 H1 (.ref q) (h1.trans le) h2 (s.freeze e hF hG hr ho) (.dic upd_same hl (r.mono le prefix_refl))
      | dead => exact (show False from p).elim
      | lst ds =>
        obtain ⟨q, xs, rfl, e, hl, r, hF, hG, hr, ho⟩ := p
        have le : Le F1 (upd F1 q (.lst xs)) := Le.upd hF
        exact h (upd F1 q (.lst xs)) ρ1 H1 (.ref q) (h1.trans le) h2 (s.freeze e hF hG hr ho) (.lst upd_same hl (r.mono le prefix_refl))
theorem At.ar {Q : V → Hp → Prop} {r : R Out} (h : At K W EX G σ (PAr K G σ) Q F ρ r.ar) : At K W EX G σ (POut K G σ) Q F ρ r := by
  cases r with
  | exc x env S => exact h
  | bad => exact h
  | ok o env S =>
    intro F1 ρ1 H1 v h1 h2 s p
    cases o with
    | val d => exact h F1 ρ1 H1 v h1 h2 s p
    | hdl i => exact h F1 ρ1 H1 v h1 h2 s p
    | new c =>
      cases c with
      | dic ds =>
        obtain ⟨q, xs, rfl, e, hl, r, hF, hG, hr, ho⟩ := p
        have le : Le F1 (upd F1 q (.dK xs)) := Le.upd hF
        exact h (upd F1 q (.dK xs)) ρ1 H1 (.ref q) (h1.trans le) h2 (s.freeze e hF hG hr ho) (show Rep K _ _ _ (.dic ds) from .dic upd_same hl (r.mono le prefix_refl))
      | dead => exact (show False from p).elim
      | lst ds =>
        obtain ⟨q, xs, rfl, e, hl, r, hF, hG, hr, ho⟩ := p
        have le : Le F1 (upd F1 q (.lst xs)) := Le.upd hF
        exact h (upd F1 q (.lst xs)) ρ1 H1 (.ref q) (h1.trans le) h2 (s.freeze e hF hG hr ho) (show Rep K _ _ _ (.lst ds) from .lst upd_same hl (r.mono le prefix_refl))
theorem At.bl {Q : Bool → Hp → Prop} {r : R Out} (h : At K W EX G σ (PB G σ) Q F ρ r.bl) : At K W EX G σ (POut K G σ) (fun v H => ∃ k, v = .bl k ∧ Q k H) F ρ r := by
  cases r with
  | exc x env S => exact h
  | bad => exact h
  | ok o env S =>
    intro F1 ρ1 H1 v h1 h2 s p
    cases o with
    | hdl i => exact (show False from h).elim
    | new c => exact (show False from h).elim
    | val d =>
      cases d with
      | bl b =>
        have p : Rep K F1 ρ1 v (.bl b) := p
        cases p
        exact ⟨b, rfl, h F1 ρ1 H1 b h1 h2 s rfl⟩
      | _ => exact (show False from h).elim

/-! ### what an argument looks like -/
/-- v looks like d now -/
inductive VRep (K : PySem.W.Frag) (F : Hp) (ρ : List Addr) (H : Hp) : V → D → Prop
  | r {v : V} {d : D} (h : Rep K F ρ v d) (hl : ∀ xs, d ≠ .lst xs) : VRep K F ρ H v d
  | l {a : Addr} {xs : List V} {ds : List D} (h : H a = some (.lst xs)) (hl : xs.length ≤ 16777216) (r : Reps K F ρ xs ds) : VRep K F ρ H (.ref a) (.lst ds)
theorem VRep.of (s : Le F H) (h : Rep K F ρ v d) : VRep K F ρ H v d := by
  cases h with
  | lst h hl r => exact .l (s _ _ h) hl r
  | non => exact .r .non fun _ => nofun
  | bl b => exact .r (.bl b) fun _ => nofun
  | int b => exact .r (.int b) fun _ => nofun
  | str b => exact .r (.str b) fun _ => nofun
  | tup a b c => exact .r (.tup a b c) fun _ => nofun
  | scr a b => exact .r (.scr a b) fun _ => nofun
  | loc a => exact .r (.loc a) fun _ => nofun
  | dic a b c => exact .r (.dic a b c) fun _ => nofun
theorem VRep.mono (h : VRep K F ρ H v d) (hF : Le F F') (hρ : ρ <+: ρ') (hH : Le H H') : VRep K F' ρ' H' v d := by
  cases h with
  | r h hl => exact .r (h.mono hF hρ) hl
  | l h hl r => exact .l (hH _ _ h) hl (r.mono hF hρ)
theorem ArRep.view {a : Ar} (s : Sim K F ρ G env S σ H) (h : ArRep K F ρ σ v a) (e : vw env S a = some d) : VRep K F ρ H v d := by
  cases a with
  | h i =>
    have h : σ[i]? = some (some v) := h
    have e : (match env[i]? with | some (.lst xs) => some (D.lst xs) | some (.dic kvs) => some (.dic kvs) | _ => none) = some d := e
    cases q : env[i]? with
    | none => rw [q] at e; cases e
    | some sl =>
      rw [q] at e
      cases sl with
      | no => cases e
      | dat _ => cases e
      | dic _ => exact (s.slots i _ q).elim
      | lst ds =>
        cases e
        obtain ⟨b, xs, ev, h1, h2, h3, _⟩ := s.slots i _ q
        rw [h] at ev; cases ev
        exact .l h1 h2 h3
  | d z =>
    have h : Rep K F ρ v z := h
    cases z with
    | loc n =>
      have e : (match S[n]? with | some c => c.vw | none => none) = some d := e
      cases h with
      | loc ea =>
        cases q : S[n]? with
        | none => rw [q] at e; cases e
        | some c =>
          rw [q] at e
          have z := s.cells n _ c ea q
          cases c with
          | dead => cases e
          | dic _ => exact z.elim
          | lst ds =>
            cases e
            obtain ⟨xs, h1, h2, h3, _⟩ := z
            exact .l h1 h2 h3
    | _ => cases e; exact .of s.fh h
theorem VRep.int {i : Int} (h : VRep K F ρ H v (.int i)) : v = .int i := by cases h with | r h _ => cases h; rfl
theorem VRep.bl {i : Bool} (h : VRep K F ρ H v (.bl i)) : v = .bl i := by cases h with | r h _ => cases h; rfl
theorem VRep.non (h : VRep K F ρ H v .non) : v = .non := by cases h with | r h _ => cases h; rfl
theorem VRep.str {s : List Nat} (h : VRep K F ρ H v (.str s)) : v = .str (txt s) ∧ okS s = true := by cases h with | r h _ => cases h; exact ⟨rfl, by assumption⟩
theorem VRep.lst (h : VRep K F ρ H v (.lst ds)) : ∃ a xs, v = .ref a ∧ H a = some (.lst xs) ∧ xs.length ≤ 16777216 ∧ Reps K F ρ xs ds := by
  cases h with
  | r h hl => exact absurd rfl (hl ds)
  | l h hl r => exact ⟨_, _, rfl, h, hl, r⟩
theorem VRep.tup (h : VRep K F ρ H v (.tup ds)) : ∃ a xs, v = .ref a ∧ SqT K F a xs ∧ xs.length ≤ 16777216 ∧ Reps K F ρ xs ds := by
  cases h with
  | r h _ => cases h; exact ⟨_, _, rfl, by assumption, by assumption, by assumption⟩
theorem VRep.scr {ns : List Int} (h : VRep K F ρ H v (.scr ns)) : ∃ a, v = .ref a ∧ SqL K F a (ns.map V.int) ∧ ns.length ≤ 16777216 := by
  cases h with
  | r h _ => cases h; exact ⟨_, rfl, by assumption, by assumption⟩
/-- the answer of a primitive -/
theorem At.now {P : Post β α} {Q : β → Hp → Prop} {a : α} {b : β} (h : At K W EX G σ P Q F ρ (.ok a env S)) (s : Sim K F ρ G env S σ H) (p : P F ρ env H b a) : Q b H :=
  h F ρ H b Le.refl prefix_refl s p
/-- .. a new tuple -/
theorem At.tup {Q : V → Hp → Prop} (h : At K W EX G σ (POut K G σ) Q F ρ (.ok (.val (.tup ds)) env S)) (s : Sim K F ρ G env S σ H) (r : Reps K F ρ xs ds) (hl : xs.length ≤ 16777216) {p : Addr} (hp : H p = none) : Q (.ref p) (upd H p (.tup xs)) := by
  have le : Le F (upd F p (.tup xs)) := Le.upd (s.fnone hp)
  exact h _ ρ _ _ le prefix_refl (s.put hp) (show Rep K _ _ _ (.tup ds) from .tup (SqT.of upd_same) hl (r.mono le prefix_refl))
/-- .. a new list -/
theorem At.lst {Q : V → Hp → Prop} (h : At K W EX G σ (POut K G σ) Q F ρ (.ok (.new (.lst ds)) env S)) (s : Sim K F ρ G env S σ H) (r : Reps K F ρ xs ds) (hl : xs.length ≤ 16777216) {p : Addr} (hp : H p = none) : Q (.ref p) (upd H p (.lst xs)) :=
  h F ρ _ _ Le.refl prefix_refl (s.laid hp) ⟨p, xs, rfl, upd_same, hl, r, s.fnone hp, s.gnone hp, s.notRho hp, s.notOwn hp⟩
/-- .. a new dict -/
theorem At.dic {Q : V → Hp → Prop} {kvs : List (Key × V)} {ks : List (D × D)} (h : At K W EX G σ (POut K G σ) Q F ρ (.ok (.new (.dic ks)) env S)) (s : Sim K F ρ G env S σ H) (r : RepKs K F ρ kvs ks) (hl : kvs.length ≤ 16777216) {p : Addr} (hp : H p = some (.dK kvs)) (hF : F p = none) (hG : G p = none) (hr : p ∉ ρ) (ho : ∀ i, ¬ OwnAt env σ i p) : Q (.ref p) H :=
  h F ρ _ _ Le.refl prefix_refl s ⟨p, kvs, rfl, hp, hl, r, hF, hG, hr, ho⟩
theorem size24 : (sizeLine : Nat) = 16777216 := by rw [sizeLine_eq]
end
end Pf
/-! Pf, part D: the primitives by values. -/
namespace Pf
open PySem PySem.Spec PyProof.Rows L2

theorem OpR.imp {X : Cx} {f : Value → Value → Sem Value} {r r' : R2} (h : OpR X f r') (hi : ∀ x y H Q, r x y H Q → r' x y H Q) : OpR X f r := fun pins s σ H x y v u Q I rx ry q => h pins s σ H x y v u Q I rx ry (hi x y H Q q)
theorem IxR.imp {X : Cx} {r r' : R2} (h : IxR X r') (hi : ∀ x y H Q, r x y H Q → r' x y H Q) : IxR X r := fun a b pins s σ H x y v u Q I rx ry q => h a b pins s σ H x y v u Q I rx ry (hi x y H Q q)
theorem CallR.imp {X : Cx} {f : Value} {r r' : List V → Hp → VK → Prop} (h : CallR X f r') (hi : ∀ xs H Q, r xs H Q → r' xs H Q) : CallR X f r := fun pins s σ H xs us Q I rs q => h pins s σ H xs us Q I rs (hi xs H Q q)
theorem MtR.imp {X : Cx} {id : String} {r r' : V → List V → Hp → VK → Prop} (h : MtR X id r') (hi : ∀ x xs H Q, r x xs H Q → r' x xs H Q) : MtR X id r := fun pins s σ H x xs v us Q I rx rs q => h pins s σ H x xs v us Q I rx rs (hi x xs H Q q)
theorem UnR.imp {X : Cx} {f : Value → Sem Value} {r r' : V → Hp → VK → Prop} (h : UnR X f r') (hi : ∀ x H Q, r x H Q → r' x H Q) : UnR X f r := fun pins s σ H x v Q I rx q => h pins s σ H x v Q I rx (hi x H Q q)

section
variable (K : PySem.W.Frag) (W : WX) (EX : EXT)
/-- an answer o of a primitive at what its arguments look like -/
def ansV (o : Option Out) (F : Hp) (ρ : List Addr) (G : Hp) (env : Env) (S : Store) (σ : L2.St) (Q : VK) : Prop := ∃ out, o = some out ∧ At K W EX G σ (POut K G σ) Q F ρ (.ok out env S)
def rV2 (f : D → D → Option Out) : R2 := fun x y H Q => ∃ F ρ G env S σ dx dy, Sim K F ρ G env S σ H ∧ VRep K F ρ H x dx ∧ VRep K F ρ H y dy ∧ ansV K W EX (f dx dy) F ρ G env S σ Q
def rV1 (f : D → Option Out) : V → Hp → VK → Prop := fun x H Q => ∃ F ρ G env S σ dx, Sim K F ρ G env S σ H ∧ VRep K F ρ H x dx ∧ ansV K W EX (f dx) F ρ G env S σ Q
inductive VReps (F : Hp) (ρ : List Addr) (H : Hp) : List V → List D → Prop
  | nil : VReps F ρ H [] []
  | cons {x : V} {xs : List V} {d : D} {ds : List D} (h : VRep K F ρ H x d) (t : VReps F ρ H xs ds) : VReps F ρ H (x :: xs) (d :: ds)
def rVs (f : List D → Option Out) : List V → Hp → VK → Prop := fun xs H Q => ∃ F ρ G env S σ ds, Sim K F ρ G env S σ H ∧ VReps K F ρ H xs ds ∧ ansV K W EX (f ds) F ρ G env S σ Q
def rVm (f : D → List D → Option Out) : V → List V → Hp → VK → Prop := fun x xs H Q => ∃ F ρ G env S σ d ds, Sim K F ρ G env S σ H ∧ VRep K F ρ H x d ∧ VReps K F ρ H xs ds ∧ ansV K W EX (f d ds) F ρ G env S σ Q
end
section
variable {X : Cx} {W : WX} {EX : EXT} {F G H : Hp} {ρ : List Addr} {σ : L2.St} {env : Env} {S : Store} {Q : VK}
theorem ansV.int {i : Int} (h : ansV X.K W EX (some (.val (.int i))) F ρ G env S σ Q) (s : Sim X.K F ρ G env S σ H) : Q (.int i) H := by
  obtain ⟨o, e, a⟩ := h; cases e; exact a.now s (show Rep X.K F ρ _ _ from .int i)
theorem ansV.bl {i : Bool} (h : ansV X.K W EX (some (.val (.bl i))) F ρ G env S σ Q) (s : Sim X.K F ρ G env S σ H) : Q (.bl i) H := by
  obtain ⟨o, e, a⟩ := h; cases e; exact a.now s (show Rep X.K F ρ _ _ from .bl i)
theorem ansV.str {i : List Nat} (h : ansV X.K W EX (some (.val (.str i))) F ρ G env S σ Q) (s : Sim X.K F ρ G env S σ H) (ok : okS i = true) : Q (.str (txt i)) H := by
  obtain ⟨o, e, a⟩ := h; cases e; exact a.now s (show Rep X.K F ρ _ _ from .str ok)
theorem ansV.dat {d : D} {v : V} (h : ansV X.K W EX (some (.val d)) F ρ G env S σ Q) (s : Sim X.K F ρ G env S σ H) (r : Rep X.K F ρ v d) : Q v H := by
  obtain ⟨o, e, a⟩ := h; cases e; exact a.now s r
theorem ansV.tup {ds : List D} {xs : List V} (h : ansV X.K W EX (some (.val (.tup ds))) F ρ G env S σ Q) (s : Sim X.K F ρ G env S σ H) (r : Reps X.K F ρ xs ds) (hl : xs.length ≤ 16777216) {p : Addr} (hp : H p = none) : Q (.ref p) (upd H p (.tup xs)) := by
  obtain ⟨o, e, a⟩ := h; cases e; exact a.tup s r hl hp
theorem ansV.lst {ds : List D} {xs : List V} (h : ansV X.K W EX (some (.new (.lst ds))) F ρ G env S σ Q) (s : Sim X.K F ρ G env S σ H) (r : Reps X.K F ρ xs ds) (hl : xs.length ≤ 16777216) {p : Addr} (hp : H p = none) : Q (.ref p) (upd H p (.lst xs)) := by
  obtain ⟨o, e, a⟩ := h; cases e; exact a.lst s r hl hp
theorem ansV.if {c : Prop} [Decidable c] {o : Option Out} (h : ansV X.K W EX (if c then o else none) F ρ G env S σ Q) : c ∧ ansV X.K W EX o F ρ G env S σ Q := by
  by_cases hc : c
  · rw [if_pos hc] at h; exact ⟨hc, h⟩
  · rw [if_neg hc] at h; obtain ⟨_, e, _⟩ := h; cases e
theorem ansV.no (h : ansV X.K W EX none F ρ G env S σ Q) : False := by obtain ⟨_, e, _⟩ := h; cases e
theorem txt_app (a b : List Nat) : txt a ++ txt b = txt (a ++ b) := by
  have : ∀ x y : Str, x ++ y = ⟨x.cps ++ y.cps⟩ := fun _ _ => rfl
  rw [this]; simp [txt]

/-! ### operators -/
def bopOf : BOp → Operator
  | .add => .Add | .sub => .Sub | .mul => .Mult | .fdiv => .FloorDiv | .mod => .Mod | .pow => .Pow
theorem or_bin (o : BOp) : OpR X (binaryOp (bopOf o)) (rV2 X.K W EX (binF o)) := by
  cases o with
  | add =>
    refine OpR.imp (OpR.or op_add (OpR.or op_add_str (OpR.or op_cat op_catA))) fun x y H Q h => ?_
    obtain ⟨F, ρ, G, env, S, σ, dx, dy, s, rx, ry, a⟩ := h
    cases dx with
    | int i =>
      cases dy with
      | int j => exact .inl ⟨i, j, rx.int, ry.int, a.int s⟩
      | _ => exact a.no.elim
    | str i =>
      cases dy with
      | str j =>
        obtain ⟨e1, o1⟩ := rx.str
        obtain ⟨e2, o2⟩ := ry.str
        obtain ⟨c, a⟩ := ansV.if a
        refine .inr (.inl ⟨txt i, txt j, e1, e2, by rw [size24]; simpa using c, ?_⟩)
        rw [txt_app]
        exact a.str s (okS_app o1 o2 c)
      | _ => exact a.no.elim
    | lst i =>
      cases dy with
      | lst j =>
        obtain ⟨p, xs, rfl, h1, h2, h3⟩ := rx.lst
        obtain ⟨q, ys, rfl, h4, h5, h6⟩ := ry.lst
        obtain ⟨c, a⟩ := ansV.if a
        have hl : xs.length + ys.length ≤ 16777216 := by rw [h3.length, h6.length]; exact c
        exact .inr (.inr (.inl ⟨p, q, xs, ys, rfl, rfl, h1, h4, by rw [size24]; exact hl, fun b hb => a.lst s (h3.append h6) (by simpa using hl) hb⟩))
      | _ => exact a.no.elim
    | tup i =>
      cases dy with
      | tup j =>
        obtain ⟨p, xs, rfl, h1, h2, h3⟩ := rx.tup
        obtain ⟨q, ys, rfl, h4, h5, h6⟩ := ry.tup
        obtain ⟨c, a⟩ := ansV.if a
        have hl : xs.length + ys.length ≤ 16777216 := by rw [h3.length, h6.length]; exact c
        refine .inr (.inr (.inr ⟨p, q, xs, ys, rfl, rfl, s.fh.sqT h1, s.fh.sqT h4, by rw [size24]; exact hl, fun z => ?_, fun _ z => ?_, fun _ _ b hb => a.tup s (h3.append h6) (by simpa using hl) hb⟩))
        · subst z
          cases h3
          exact a.dat s (.tup h4 h5 h6)
        · subst z
          cases h6
          exact a.dat s (.tup h1 h2 (by simpa using h3))
      | _ => exact a.no.elim
    | _ => cases dy <;> exact a.no.elim
  | sub =>
    refine OpR.imp op_sub fun x y H Q h => ?_
    obtain ⟨F, ρ, G, env, S, σ, dx, dy, s, rx, ry, a⟩ := h
    cases dx with
    | int i =>
      cases dy with
      | int j => exact ⟨i, j, rx.int, ry.int, a.int s⟩
      | _ => exact a.no.elim
    | _ => cases dy <;> exact a.no.elim
  | mul =>
    refine OpR.imp op_mul fun x y H Q h => ?_
    obtain ⟨F, ρ, G, env, S, σ, dx, dy, s, rx, ry, a⟩ := h
    cases dx with
    | int i =>
      cases dy with
      | int j => obtain ⟨c, a⟩ := ansV.if a; exact ⟨i, j, rx.int, ry.int, c, a.int s⟩
      | _ => exact a.no.elim
    | _ => cases dy <;> exact a.no.elim
  | fdiv =>
    refine OpR.imp op_fdiv fun x y H Q h => ?_
    obtain ⟨F, ρ, G, env, S, σ, dx, dy, s, rx, ry, a⟩ := h
    cases dx with
    | int i =>
      cases dy with
      | int j => obtain ⟨c, a⟩ := ansV.if a; exact ⟨i, j, rx.int, ry.int, c, a.int s⟩
      | _ => exact a.no.elim
    | _ => cases dy <;> exact a.no.elim
  | mod =>
    refine OpR.imp op_mod fun x y H Q h => ?_
    obtain ⟨F, ρ, G, env, S, σ, dx, dy, s, rx, ry, a⟩ := h
    cases dx with
    | int i =>
      cases dy with
      | int j => obtain ⟨c, a⟩ := ansV.if a; exact ⟨i, j, rx.int, ry.int, c, a.int s⟩
      | _ => exact a.no.elim
    | _ => cases dy <;> exact a.no.elim
  | pow =>
    refine OpR.imp op_pow fun x y H Q h => ?_
    obtain ⟨F, ρ, G, env, S, σ, dx, dy, s, rx, ry, a⟩ := h
    cases dx with
    | int i =>
      cases dy with
      | int j => obtain ⟨c, a⟩ := ansV.if a; exact ⟨i, j, rx.int, ry.int, c, a.int s⟩
      | _ => exact a.no.elim
    | _ => cases dy <;> exact a.no.elim
theorem or_un (o : UOp) : UnR X (unaryOp .USub) (rV1 X.K W EX (unF o)) := by
  cases o
  refine UnR.imp un_neg fun x H Q h => ?_
  obtain ⟨F, ρ, G, env, S, σ, dx, s, rx, a⟩ := h
  cases dx with
  | int i => exact ⟨i, rx.int, a.int s⟩
  | _ => exact a.no.elim

/-! ### comparisons -/
mutual
def D.py : D → PyData
  | .non => .none
  | .bl b => .bool b
  | .int i => .int i
  | .str s => .str (txt s)
  | .lst xs => .list (D.pys xs)
  | .tup xs => .tuple (D.pys xs)
  | _ => .none
def D.pys : List D → List PyData
  | [] => []
  | x :: xs => D.py x :: D.pys xs
end
mutual
theorem py_eqv : ∀ (a b : D), a.pl = true → b.pl = true → PyData.eqv a.py b.py = a.eqb b
  | .non, b, _, hb => by cases b <;> first | rfl | (simp [D.pl] at hb)
  | .bl x, b, _, hb => by cases b <;> first | rfl | (simp [D.pl] at hb)
  | .int x, b, _, hb => by cases b <;> first | rfl | (simp [D.pl] at hb)
  | .str x, b, _, hb => by
    cases b with
    | str y =>
      show (txt x == txt y) = (x == y)
      rw [Bool.eq_iff_iff]; simp [txt]
    | _ => first | rfl | (simp [D.pl] at hb)
  | .lst xs, b, ha, hb => by
    cases b with
    | lst ys => exact pys_eqv xs ys ha hb
    | _ => first | rfl | (simp [D.pl] at hb)
  | .tup xs, b, ha, hb => by
    cases b with
    | tup ys => exact pys_eqv xs ys ha hb
    | _ => first | rfl | (simp [D.pl] at hb)
  | .dic _, _, ha, _ => by simp [D.pl] at ha
  | .scr _, _, ha, _ => by simp [D.pl] at ha
  | .loc _, _, ha, _ => by simp [D.pl] at ha
  | .fn _, _, ha, _ => by simp [D.pl] at ha
theorem pys_eqv : ∀ (xs ys : List D), D.pls xs = true → D.pls ys = true → PyData.eqvAll (D.pys xs) (D.pys ys) = D.eqbs xs ys
  | [], [], _, _ => rfl
  | [], _ :: _, _, _ => rfl
  | _ :: _, [], _, _ => rfl
  | x :: xs, y :: ys, ha, hb => by
    have ha : (x.pl && D.pls xs) = true := ha
    have hb : (y.pl && D.pls ys) = true := hb
    rw [Bool.and_eq_true] at ha hb
    show (PyData.eqv x.py y.py && PyData.eqvAll (D.pys xs) (D.pys ys)) = (x.eqb y && D.eqbs xs ys)
    rw [py_eqv x y ha.1 hb.1, pys_eqv xs ys ha.2 hb.2]
end
mutual
theorem py_depth : ∀ a : D, a.pl = true → a.py.depth = a.depth
  | .non, _ => rfl
  | .bl _, _ => rfl
  | .int _, _ => rfl
  | .str _, _ => rfl
  | .lst xs, h => by show PyData.depthAll (D.pys xs) + 1 = D.depths xs + 1; rw [pys_depth xs h]
  | .tup xs, h => by show PyData.depthAll (D.pys xs) + 1 = D.depths xs + 1; rw [pys_depth xs h]
  | .dic _, ha => by simp [D.pl] at ha
  | .scr _, ha => by simp [D.pl] at ha
  | .loc _, ha => by simp [D.pl] at ha
  | .fn _, ha => by simp [D.pl] at ha
theorem pys_depth : ∀ xs : List D, D.pls xs = true → PyData.depthAll (D.pys xs) = D.depths xs
  | [], _ => rfl
  | x :: xs, ha => by
    have ha : (x.pl && D.pls xs) = true := ha
    rw [Bool.and_eq_true] at ha
    show max x.py.depth (PyData.depthAll (D.pys xs)) = max x.depth (D.depths xs)
    rw [py_depth x ha.1, pys_depth xs ha.2]
end
mutual
theorem rep_py {v : V} : ∀ d : D, Rep X.K F ρ v d → d.pl = true → Le F H → Dp X.K H v d.py ∧ d.py.canLay0 = true
  | .non, h, _, _ => by cases h; exact ⟨.non, rfl⟩
  | .bl b, h, _, _ => by cases h; exact ⟨.bl b, rfl⟩
  | .int b, h, _, _ => by cases h; exact ⟨.int b, rfl⟩
  | .str b, h, _, _ => by
    cases h with
    | str h =>
      refine ⟨.str _, ?_⟩
      show PyData.strOk (txt b) = true
      unfold PyData.strOk
      simp only [txt, List.all_toArray, List.all_eq_true, decide_eq_true_eq]
      exact okS_all h
  | .lst xs, h, hp, le => by
    cases h with
    | lst h hl r =>
      obtain ⟨h1, h2⟩ := reps_py xs r hp le
      exact ⟨.lst (SqL.of (le _ _ h)) h1, h2⟩
  | .tup xs, h, hp, le => by
    cases h with
    | tup h hl r =>
      obtain ⟨h1, h2⟩ := reps_py xs r hp le
      exact ⟨.tup (le.sqT h) h1, h2⟩
  | .dic _, _, ha, _ => by simp [D.pl] at ha
  | .scr _, _, ha, _ => by simp [D.pl] at ha
  | .loc _, _, ha, _ => by simp [D.pl] at ha
  | .fn _, _, ha, _ => by simp [D.pl] at ha
theorem reps_py {vs : List V} : ∀ ds : List D, Reps X.K F ρ vs ds → D.pls ds = true → Le F H → DpAll X.K H vs (D.pys ds) ∧ PyData.canLayAll0 (D.pys ds) = true
  | [], h, _, _ => by cases h; exact ⟨.nil, rfl⟩
  | d :: ds, h, ha, le => by
    have ha : (d.pl && D.pls ds) = true := ha
    rw [Bool.and_eq_true] at ha
    cases h with
    | cons h t =>
      obtain ⟨h1, h2⟩ := rep_py d h ha.1 le
      obtain ⟨h3, h4⟩ := reps_py ds t ha.2 le
      exact ⟨.cons h1 h3, by show (d.py.canLay0 && PyData.canLayAll0 (D.pys ds)) = true; rw [h2, h4]; rfl⟩
end
theorem VRep.py {v : V} {d : D} (h : VRep X.K F ρ H v d) (hp : d.pl = true) (le : Le F H) : Dp X.K H v d.py ∧ d.py.canLay0 = true := by
  cases h with
  | r h _ => exact rep_py d h hp le
  | l h hl r =>
    obtain ⟨h1, h2⟩ := reps_py _ r hp le
    exact ⟨.lst (SqL.of h) h1, h2⟩
def rEqM (K : PySem.W.Frag) (neg : Bool) : R2 := fun x y H Q => ∃ d e, Dp K H x d ∧ Dp K H y e ∧ d.canLay0 = true ∧ e.canLay0 = true ∧ min d.depth e.depth ≤ 64 ∧ Q (.bl (if neg then !PyData.eqv d e else PyData.eqv d e)) H
theorem op_eqM (hu : X.A.units + 64 < cLine) : OpR X (compareOp .Eq) (rEqM X.K false) := by
  intro pins s σ H x y v u Q I rx ry h
  obtain ⟨d, e, hd, he, sd, se, hm, q⟩ := h
  obtain ⟨as, r1⟩ := Dp.reads I d x v hd rx
  obtain ⟨bs, r2⟩ := Dp.reads I e y u he ry
  exact SeqAt.compareEq_reads r1 r2 sd se (by omega) ⟨.bl _, H, I, rfl, q⟩
theorem op_neM (hu : X.A.units + 64 < cLine) : OpR X (compareOp .NotEq) (rEqM X.K true) := by
  intro pins s σ H x y v u Q I rx ry h
  obtain ⟨d, e, hd, he, sd, se, hm, q⟩ := h
  obtain ⟨as, r1⟩ := Dp.reads I d x v hd rx
  obtain ⟨bs, r2⟩ := Dp.reads I e y u he ry
  exact SeqAt.compareNe_reads r1 r2 sd se (by omega) ⟨.bl _, H, I, rfl, q⟩
theorem eqD_inv {a b : D} {r : Bool} (h : eqD a b = some r) : a.pl = true ∧ b.pl = true ∧ min a.depth b.depth ≤ 64 ∧ r = a.eqb b := by
  unfold eqD at h
  split at h
  · rename_i c
    simp only [Bool.and_eq_true, decide_eq_true_eq] at c
    exact ⟨c.1.1, c.1.2, c.2, (Option.some.inj h).symm⟩
  · cases h

def rInM (K : PySem.W.Frag) (neg : Bool) : R2 := fun x y H Q => ∃ d ds, Dp K H x d ∧ Dp K H y (.list ds) ∧ d.canLay0 = true ∧ PyData.canLayAll0 ds = true ∧ d.depth ≤ 64 ∧ Q (.bl (if neg then !ds.any fun z => PyData.eqv z d else ds.any fun z => PyData.eqv z d)) H
theorem shaped_of {d : PyData} (h : d.canLay0 = true) (hd : d.depth ≤ 64) : SeqAt.shaped d = true := by
  unfold SeqAt.shaped; rw [h, decide_eq_true hd]; rfl
theorem op_inM (hu : X.A.units + 65 < cLine) : OpR X (compareOp .In) (rInM X.K false) := by
  intro pins s σ H x y v u Q I rx ry h
  obtain ⟨d, ds, hd, he, sd, se, hm, q⟩ := h
  obtain ⟨as, r1⟩ := Dp.reads I d x v hd rx
  obtain ⟨bs, r2⟩ := Dp.reads I (.list ds) y u he ry
  exact SeqAt.in_list_reads r2 r1 se sd (room_in_shaped (shaped_of sd hm) hu) ⟨.bl _, H, I, rfl, q⟩
theorem op_notInM (hu : X.A.units + 65 < cLine) : OpR X (compareOp .NotIn) (rInM X.K true) := by
  intro pins s σ H x y v u Q I rx ry h
  obtain ⟨d, ds, hd, he, sd, se, hm, q⟩ := h
  obtain ⟨as, r1⟩ := Dp.reads I d x v hd rx
  obtain ⟨bs, r2⟩ := Dp.reads I (.list ds) y u he ry
  exact SeqAt.notIn_list_reads r2 r1 se sd (room_in_shaped (shaped_of sd hm) hu) ⟨.bl _, H, I, rfl, q⟩
theorem pys_any (d : D) (hd : d.pl = true) : ∀ xs : List D, D.pls xs = true → ((D.pys xs).any fun z => PyData.eqv z d.py) = xs.any fun z => z.eqb d
  | [], _ => rfl
  | x :: xs, h => by
    have h : (x.pl && D.pls xs) = true := h
    rw [Bool.and_eq_true] at h
    show (PyData.eqv x.py d.py || (D.pys xs).any fun z => PyData.eqv z d.py) = (x.eqb d || xs.any fun z => z.eqb d)
    rw [py_eqv x d h.1 hd, pys_any d hd xs h.2]
theorem rep_flat {v : V} {d : D} (h : Rep X.K F ρ v d) (hf : d.flat = true) : flatV v = true := by
  cases h <;> first | rfl | (simp [D.flat] at hf)
theorem rep_eqV {v u : V} {d e : D} (h : Rep X.K F ρ v d) (h' : Rep X.K F ρ u e) (hf : d.flat = true) (hf' : e.flat = true) : eqV v u = d.eqb e := by
  cases h <;> first | (simp [D.flat] at hf; done) | skip
  all_goals (cases h' <;> first | rfl | (simp [D.flat] at hf'; done) | skip)
  rename_i a _ b _
  show (txt a == txt b) = (a == b)
  rw [Bool.eq_iff_iff]; simp [txt]
theorem reps_flat : ∀ {vs : List V} {ds : List D}, Reps X.K F ρ vs ds → ds.all D.flat = true → vs.all flatV = true
  | _, _, .nil, _ => rfl
  | _, _, .cons h t, hf => by
    rw [List.all_cons, Bool.and_eq_true] at hf
    rw [List.all_cons, rep_flat h hf.1, reps_flat t hf.2]; rfl
theorem reps_inV {v : V} {d : D} (h : Rep X.K F ρ v d) (hd : d.flat = true) : ∀ {vs : List V} {ds : List D}, Reps X.K F ρ vs ds → ds.all D.flat = true → inV v vs = ds.any fun z => z.eqb d
  | _, _, .nil, _ => rfl
  | _, _, .cons h' t, hf => by
    rw [List.all_cons, Bool.and_eq_true] at hf
    show (eqV _ v || _) = (_ || _)
    rw [rep_eqV h' h hf.1 hd]
    exact congrArg _ (reps_inV h hd t hf.2)
theorem VRep.rep_of {v : V} {d : D} (h : VRep X.K F ρ H v d) (hf : d.flat = true) : Rep X.K F ρ v d := by
  cases h with
  | r h _ => exact h
  | l _ _ _ => simp [D.flat] at hf
theorem isIn_inv {x y : V} {dx dy : D} {r : Bool} (s : Sim X.K F ρ G env S σ H) (rx : VRep X.K F ρ H x dx) (ry : VRep X.K F ρ H y dy) (e : isInF dx dy = some r) :
    (∃ c z, x = .str ⟨#[c]⟩ ∧ y = .str z ∧ r = decide (c ∈ z.cps.toList)) ∨
    (∃ d ds, Dp X.K H x d ∧ Dp X.K H y (.list ds) ∧ d.canLay0 = true ∧ PyData.canLayAll0 ds = true ∧ d.depth ≤ 64 ∧ r = ds.any fun z => PyData.eqv z d) ∨
    (∃ p xs, y = .ref p ∧ (SqL X.K H p xs ∨ SqT X.K H p xs) ∧ flatV x = true ∧ xs.all flatV = true ∧ r = inV x xs) := by
  cases dy with
  | str z =>
    cases dx with
    | str w =>
      match w, e with
      | [c], e =>
        obtain ⟨rfl, _⟩ := rx.str
        obtain ⟨rfl, _⟩ := ry.str
        exact .inl ⟨c, txt z, rfl, rfl, by rw [txt_list]; exact (Option.some.inj e).symm⟩
      | [], e => cases e
      | _ :: _ :: _, e => cases e
    | _ => cases e
  | lst xs =>
    have e : (if (dx.pl && D.pls xs && decide (dx.depth ≤ 64)) = true then some (xs.any fun z => z.eqb dx) else none) = some r := e
    split at e
    · rename_i c
      simp only [Bool.and_eq_true, decide_eq_true_eq] at c
      obtain ⟨h1, h2⟩ := rx.py c.1.1 s.fh
      obtain ⟨h3, h4⟩ := ry.py (show D.pl (.lst xs) = true from c.1.2) s.fh
      refine .inr (.inl ⟨dx.py, D.pys xs, h1, h3, h2, h4, by rw [py_depth _ c.1.1]; exact c.2, ?_⟩)
      rw [pys_any dx c.1.1 xs c.1.2]; exact (Option.some.inj e).symm
    · cases e
  | tup xs =>
    have e : (if (dx.flat && xs.all D.flat) = true then some (xs.any fun z => z.eqb dx) else none) = some r := e
    split at e
    · rename_i c
      rw [Bool.and_eq_true] at c
      obtain ⟨p, vs, rfl, h1, h2, h3⟩ := ry.tup
      have q := rx.rep_of c.1
      refine .inr (.inr ⟨p, vs, rfl, .inr (s.fh.sqT h1), rep_flat q c.1, reps_flat h3 c.2, ?_⟩)
      rw [reps_inV q c.1 h3 c.2]; exact (Option.some.inj e).symm
    · cases e
  | _ => cases e
theorem is_inv {x y : V} {dx dy : D} {r : Bool} (rx : VRep X.K F ρ H x dx) (ry : VRep X.K F ρ H y dy) (e : isF dx dy = some r) : (y = .non ∧ r = decide (x = .non)) ∨ ∃ a b, x = .bl a ∧ y = .bl b ∧ r = decide (a = b) := by
  cases dy with
  | non =>
    refine .inl ⟨ry.non, ?_⟩
    cases rx with
    | l h hl q => cases e; rfl
    | r h _ => cases h <;> (cases e; rfl)
  | bl b =>
    cases dx with
    | bl a => exact .inr ⟨a, b, rx.bl, ry.bl, by cases e; cases a <;> cases b <;> rfl⟩
    | _ => cases e
  | _ => cases dx <;> cases e
def copOf : COp → CmpOp
  | .eq => .Eq | .ne => .NotEq | .lt => .Lt | .le => .LtE | .gt => .Gt | .ge => .GtE | .isin => .In | .notin => .NotIn | .is => .Is | .isnot => .IsNot
theorem map_some {α β : Type} {f : α → β} {o : Option α} {b : β} (h : o.map f = some b) : ∃ a, o = some a ∧ f a = b := by
  cases o with
  | none => cases h
  | some a => exact ⟨a, rfl, Option.some.inj h⟩
/-- the answer of a comparison, by its truth -/
def rC2 (K : PySem.W.Frag) (f : D → D → Option Bool) : R2 := fun x y H Q => ∃ F ρ G env S σ dx dy r, Sim K F ρ G env S σ H ∧ VRep K F ρ H x dx ∧ VRep K F ρ H y dy ∧ f dx dy = some r ∧ Q (.bl r) H
theorem or_cmp (o : COp) (hu : X.A.units + 65 < cLine) : OpR X (compareOp (copOf o)) (rC2 X.K (cmpF o)) := by
  cases o with
  | eq =>
    refine OpR.imp (op_eqM (by omega)) fun x y H Q h => ?_
    obtain ⟨F, ρ, G, env, S, σ, dx, dy, r, s, rx, ry, e, q⟩ := h
    obtain ⟨h1, h2, h3, rfl⟩ := eqD_inv e
    obtain ⟨h4, h5⟩ := rx.py h1 s.fh
    obtain ⟨h6, h7⟩ := ry.py h2 s.fh
    refine ⟨_, _, h4, h6, h5, h7, by rw [py_depth _ h1, py_depth _ h2]; exact h3, ?_⟩
    rw [py_eqv _ _ h1 h2]; exact q
  | ne =>
    refine OpR.imp (op_neM (by omega)) fun x y H Q h => ?_
    obtain ⟨F, ρ, G, env, S, σ, dx, dy, r, s, rx, ry, e, q⟩ := h
    obtain ⟨r', e2, rfl⟩ := map_some e
    obtain ⟨h1, h2, h3, rfl⟩ := eqD_inv e2
    obtain ⟨h4, h5⟩ := rx.py h1 s.fh
    obtain ⟨h6, h7⟩ := ry.py h2 s.fh
    refine ⟨_, _, h4, h6, h5, h7, by rw [py_depth _ h1, py_depth _ h2]; exact h3, ?_⟩
    rw [py_eqv _ _ h1 h2]; exact q
  | lt =>
    refine OpR.imp op_lt fun x y H Q h => ?_
    obtain ⟨F, ρ, G, env, S, σ, dx, dy, r, s, rx, ry, e, q⟩ := h
    cases dx with
    | int i =>
      cases dy with
      | int j => cases e; exact ⟨i, j, rx.int, ry.int, q⟩
      | _ => cases e
    | _ => cases dy <;> cases e
  | le =>
    refine OpR.imp op_le fun x y H Q h => ?_
    obtain ⟨F, ρ, G, env, S, σ, dx, dy, r, s, rx, ry, e, q⟩ := h
    cases dx with
    | int i =>
      cases dy with
      | int j => cases e; exact ⟨i, j, rx.int, ry.int, q⟩
      | _ => cases e
    | _ => cases dy <;> cases e
  | gt =>
    refine OpR.imp op_gt fun x y H Q h => ?_
    obtain ⟨F, ρ, G, env, S, σ, dx, dy, r, s, rx, ry, e, q⟩ := h
    cases dx with
    | int i =>
      cases dy with
      | int j => cases e; exact ⟨i, j, rx.int, ry.int, q⟩
      | _ => cases e
    | _ => cases dy <;> cases e
  | ge =>
    refine OpR.imp op_ge fun x y H Q h => ?_
    obtain ⟨F, ρ, G, env, S, σ, dx, dy, r, s, rx, ry, e, q⟩ := h
    cases dx with
    | int i =>
      cases dy with
      | int j => cases e; exact ⟨i, j, rx.int, ry.int, q⟩
      | _ => cases e
    | _ => cases dy <;> cases e
  | isin =>
    refine OpR.imp (OpR.or op_in_sign (OpR.or (op_inM hu) op_in_seq)) fun x y H Q h => ?_
    obtain ⟨F, ρ, G, env, S, σ, dx, dy, r, s, rx, ry, e, q⟩ := h
    rcases isIn_inv s rx ry e with ⟨c, z, rfl, rfl, rfl⟩ | ⟨d, ds, h1, h2, h3, h4, h5, rfl⟩ | ⟨p, xs, rfl, h1, h2, h3, rfl⟩
    · exact .inl ⟨c, z, rfl, rfl, q⟩
    · exact .inr (.inl ⟨d, ds, h1, h2, h3, h4, h5, q⟩)
    · exact .inr (.inr ⟨p, xs, rfl, h1, h2, h3, q⟩)
  | notin =>
    refine OpR.imp (OpR.or op_notIn_sign (OpR.or (op_notInM hu) op_notIn_seq)) fun x y H Q h => ?_
    obtain ⟨F, ρ, G, env, S, σ, dx, dy, r, s, rx, ry, e, q⟩ := h
    obtain ⟨r', e2, rfl⟩ := map_some e
    rcases isIn_inv s rx ry e2 with ⟨c, z, rfl, rfl, rfl⟩ | ⟨d, ds, h1, h2, h3, h4, h5, rfl⟩ | ⟨p, xs, rfl, h1, h2, h3, rfl⟩
    · exact .inl ⟨c, z, rfl, rfl, q⟩
    · exact .inr (.inl ⟨d, ds, h1, h2, h3, h4, h5, q⟩)
    · exact .inr (.inr ⟨p, xs, rfl, h1, h2, h3, q⟩)
  | is =>
    refine OpR.imp (OpR.or op_isN op_isBl) fun x y H Q h => ?_
    obtain ⟨F, ρ, G, env, S, σ, dx, dy, r, s, rx, ry, e, q⟩ := h
    rcases is_inv rx ry e with ⟨rfl, rfl⟩ | ⟨a, b, rfl, rfl, rfl⟩
    · exact .inl ⟨rfl, q⟩
    · exact .inr ⟨a, b, rfl, rfl, q⟩
  | isnot =>
    refine OpR.imp (OpR.or op_notN op_notBl) fun x y H Q h => ?_
    obtain ⟨F, ρ, G, env, S, σ, dx, dy, r, s, rx, ry, e, q⟩ := h
    obtain ⟨r', e2, rfl⟩ := map_some e
    rcases is_inv rx ry e2 with ⟨rfl, rfl⟩ | ⟨a, b, rfl, rfl, rfl⟩
    · exact .inl ⟨rfl, q⟩
    · exact .inr ⟨a, b, rfl, rfl, q⟩

/-! ### places and slices -/
theorem Reps.atI {vs : List V} {ds : List D} {i : Int} {d : D} (h : Reps X.K F ρ vs ds) (e : L2.atI ds i = some d) : ∃ v, L2.atI vs i = some v ∧ Rep X.K F ρ v d := by
  unfold L2.atI at e ⊢
  rw [h.length]
  cases q : L2.ixN ds.length i with
  | none => rw [q] at e; cases e
  | some k => rw [q] at e; exact h.get e
theorem ix_ok : IxR X (rV2 X.K W EX fun u v => (idxF u v).map .val) := by
  refine IxR.imp (IxR.or ix_list (IxR.or ix_tup ix_str)) fun x y H Q h => ?_
  obtain ⟨F, ρ, G, env, S, σ, dx, dy, s, rx, ry, o, e, q⟩ := h
  obtain ⟨d, e2, rfl⟩ := map_some e
  cases dy with
  | int i =>
    cases dx with
    | lst ds =>
      obtain ⟨p, xs, rfl, h1, h2, h3⟩ := rx.lst
      obtain ⟨v, hv, r⟩ := h3.atI (i := i) e2
      exact .inl ⟨p, xs, i, v, rfl, ry.int, SqL.of h1, hv, q.now s r⟩
    | tup ds =>
      obtain ⟨p, xs, rfl, h1, h2, h3⟩ := rx.tup
      obtain ⟨v, hv, r⟩ := h3.atI (i := i) e2
      exact .inr (.inl ⟨p, xs, i, v, rfl, ry.int, s.fh.sqT h1, hv, q.now s r⟩)
    | str z =>
      obtain ⟨rfl, ok⟩ := rx.str
      obtain ⟨c, e3, rfl⟩ := map_some e2
      refine .inr (.inr ⟨txt z, i, c, rfl, ry.int, by rw [size24, txt_len]; exact okS_len ok, by rw [txt_list]; exact e3, ?_⟩)
      refine q.now s (show Rep X.K F ρ _ _ from .str (okS_one ok ?_))
      unfold L2.atI at e3
      cases q : L2.ixN z.length i with
      | none => rw [q] at e3; cases e3
      | some k => rw [q] at e3; exact List.mem_of_getElem? e3
    | _ => cases e2
  | _ => cases dx <;> cases e2
def rVs3 (K : PySem.W.Frag) (W : WX) (EX : EXT) : V → Option Int → Option Int → Hp → VK → Prop := fun x lo hi H Q => ∃ F ρ G env S σ dx, Sim K F ρ G env S σ H ∧ VRep K F ρ H x dx ∧ ansV K W EX (slcF dx lo hi) F ρ G env S σ Q
theorem SlR.imp {r r' : V → Option Int → Option Int → Hp → VK → Prop} (h : SlR X r') (hi : ∀ x l u H Q, r x l u H Q → r' x l u H Q) : SlR X r := fun pins s σ H x v vl vu lo hi' sl Q I rx hs pl pu q => h pins s σ H x v vl vu lo hi' sl Q I rx hs pl pu (hi x lo hi' H Q q)
theorem Reps.cut {vs : List V} {ds : List D} (h : Reps X.K F ρ vs ds) (lo hi : Option Int) : Reps X.K F ρ (cutV vs lo hi) (cut ds lo hi) := by
  unfold cutV Pf.cut
  rw [h.length]
  exact (h.drop _).take _
theorem cut_all {α : Type} (xs : List α) {lo hi : Option Int} (h1 : HT.sIx xs.length 0 lo = 0) (h2 : HT.sIx xs.length xs.length hi = xs.length) : cut xs lo hi = xs := by
  unfold Pf.cut; rw [h1, h2]; simp
theorem cut_len {α : Type} (xs : List α) (lo hi : Option Int) : (cut xs lo hi).length ≤ xs.length := by
  unfold Pf.cut; rw [List.length_take, List.length_drop]; omega
theorem cut_mem {α : Type} {xs : List α} {lo hi : Option Int} {x : α} (h : x ∈ cut xs lo hi) : x ∈ xs := by
  unfold Pf.cut at h; exact List.mem_of_mem_drop (List.mem_of_mem_take h)
theorem sl_ok : SlR X (rVs3 X.K W EX) := by
  refine SlR.imp (SlR.or sl_list (SlR.or sl_tupA sl_str)) fun x lo hi H Q h => ?_
  obtain ⟨F, ρ, G, env, S, σ, dx, s, rx, a⟩ := h
  cases dx with
  | lst ds =>
    obtain ⟨p, xs, rfl, h1, h2, h3⟩ := rx.lst
    exact .inl ⟨p, xs, rfl, SqL.of h1, fun q hq => a.lst s (h3.cut lo hi) (Nat.le_trans (cutV_length _ _ _) h2) hq⟩
  | tup ds =>
    obtain ⟨p, xs, rfl, h1, h2, h3⟩ := rx.tup
    refine .inr (.inl ⟨p, xs, rfl, s.fh.sqT h1, fun ⟨q1, q2⟩ => ?_, fun _ q hq => a.tup s (h3.cut lo hi) (Nat.le_trans (cutV_length _ _ _) h2) hq⟩)
    rw [h3.length] at q1 q2
    have a : ansV X.K W EX (some (.val (.tup (cut ds lo hi)))) F ρ G env S σ Q := a
    rw [cut_all ds q1 q2] at a
    exact a.dat s (.tup h1 h2 h3)
  | str z =>
    obtain ⟨rfl, ok⟩ := rx.str
    refine .inr (.inr ⟨txt z, rfl, by rw [size24, txt_len]; exact okS_len ok, ?_⟩)
    have e : cutS (txt z) lo hi = txt (cut z lo hi) := by
      unfold cutS Pf.cut
      rw [txt_len, txt_list]; rfl
    rw [e]
    exact a.str s (okS_sub ok (cut_len z lo hi) fun c hc => cut_mem hc)
  | _ => exact a.no.elim
end
end Pf
/-! Pf, part E: built-in functions, methods, changes, isinstance, by values. -/
namespace Pf
open PySem PySem.Spec PyProof.Rows L2
section
variable {X : Cx} {W : WX} {EX : EXT} {F G H : Hp} {ρ : List Addr} {σ : L2.St} {env : Env} {S : Store} {Q : VK}
variable {K : PySem.W.Frag}
theorem VReps.one {xs : List V} {d : D} (h : VReps K F ρ H xs [d]) : ∃ x, xs = [x] ∧ VRep K F ρ H x d := by
  cases h with
  | cons h t => cases t; exact ⟨_, rfl, h⟩
theorem VReps.two {xs : List V} {d e : D} (h : VReps K F ρ H xs [d, e]) : ∃ x y, xs = [x, y] ∧ VRep K F ρ H x d ∧ VRep K F ρ H y e := by
  cases h with
  | cons h t => obtain ⟨y, rfl, h'⟩ := t.one; exact ⟨_, _, rfl, h, h'⟩
theorem vals_signs {z : Str} {acc : List Value} (h : ItemsOf (SignAt z) acc.toArray z.cps.size) : Vals (z.cps.toList.map fun c => V.str ⟨#[c]⟩) acc := by
  obtain ⟨h1, h2⟩ := h
  have key : ∀ (cs : List Nat) (acc : List Value), acc.length = cs.length → (∀ (j : Nat) v, acc[j]? = some v → ∃ c u, cs[j]? = some c ∧ v = Value.str ⟨#[c]⟩ u) → Vals (cs.map fun c => V.str ⟨#[c]⟩) acc := by
    intro cs
    induction cs with
    | nil => intro acc hl _; cases acc with
      | nil => exact .nil
      | cons _ _ => cases hl
    | cons c cs ih =>
      intro acc hl hj
      cases acc with
      | nil => cases hl
      | cons v acc =>
        obtain ⟨c', u, e1, e2⟩ := hj 0 v rfl
        cases e1
        exact .cons ⟨u, e2⟩ (ih acc (by simpa using hl) fun j v h => by simpa using hj (j + 1) v (by simpa using h))
  refine key _ _ (by simpa using h1) fun j v h => ?_
  obtain ⟨c, u, e1, e2⟩ := h2 j v (by simpa using h)
  exact ⟨c, u, by simpa using e1, e2⟩
theorem call_list_strR (hc : X.calm = true) : CallR X (.type "list") (fun xs H Q => ∃ z, xs = [.str z] ∧ z.length ≤ sizeLine ∧ ∀ l, H l = none → Q (.ref l) (upd H l (.lst (z.cps.toList.map fun c => V.str ⟨#[c]⟩)))) := by
  intro pins s σ H xs us Q I r h
  obtain ⟨z, rfl, hz, q⟩ := h
  obtain ⟨u, rfl, t, rfl⟩ := vals1 r
  refine PySem.call_list_str (I.ok.hd hc) z t (fun h' tk acc c' kp e hi => ?_) hz
  have hi : ItemsOf (SignAt z) acc.toList.toArray z.cps.size := by simpa using hi
  have hv := vals_signs hi
  refine ⟨.ref s.heap.objs.size, _, I.laid (t' := tk) kp (Nat.le_refl _) (show ObjOk X.prog X.w _ h' _ (.lst (z.cps.toList.map fun c => V.str ⟨#[c]⟩)) from ⟨by rw [List.length_map]; simpa [PySem.Str.length] using hz, acc.toList, c', hv, by simpa using e⟩), rfl, q _ (I.hok.fresh (Nat.le_refl _))⟩

inductive Bk where
  | bf (n : String) | ty (n : String)
def bfOf : Bf → Bk
  | .len => .bf "len" | .list => .ty "list" | .tuple => .ty "tuple" | .int => .ty "int" | .str => .ty "str" | .all => .bf "all" | .any => .bf "any" | .sum => .bf "sum"
def Bk.val : Bk → Value
  | .bf n => .builtin n
  | .ty n => .type n
def Bk.name : Bk → String
  | .bf n => n
  | .ty n => n
theorem listOf_len {α : Type} {f : D → Option α} : ∀ {ds : List D} {ys : List α}, listOf? f ds = some ys → ys.length = ds.length
  | [], _, h => by cases h; rfl
  | d :: ds, ys, h => by
    unfold listOf? at h
    split at h
    · rename_i y ys' e1 e2
      cases h
      rw [List.length_cons, List.length_cons, listOf_len e2]
    · cases h
theorem reps_bls : ∀ {vs : List V} {ds : List D} {bs : List Bool}, Reps K F ρ vs ds → listOf? blOf ds = some bs → vs = bs.map V.bl
  | _, _, _, .nil, h => by cases h; rfl
  | _, _, bs, .cons (d := d) (ds := ds) h t, e => by
    unfold listOf? at e
    split at e
    · rename_i y ys' e1 e2
      cases e
      cases d with
      | bl b => cases e1; cases h; rw [reps_bls t e2]; rfl
      | _ => cases e1
    · cases e
theorem reps_ints : ∀ {vs : List V} {ds : List D} {bs : List Int}, Reps K F ρ vs ds → listOf? intOf ds = some bs → vs = bs.map V.int
  | _, _, _, .nil, h => by cases h; rfl
  | _, _, bs, .cons (d := d) (ds := ds) h t, e => by
    unfold listOf? at e
    split at e
    · rename_i y ys' e1 e2
      cases e
      cases d with
      | int b => cases e1; cases h; rw [reps_ints t e2]; rfl
      | _ => cases e1
    · cases e
theorem reps_strs : ∀ {vs : List V} {ds : List D} {bs : List (List Nat)}, Reps K F ρ vs ds → listOf? strOf ds = some bs → vs = (bs.map txt).map V.str ∧ ∀ b ∈ bs, okS b = true
  | _, _, _, .nil, h => by cases h; exact ⟨rfl, fun _ h => nomatch h⟩
  | _, _, bs, .cons (d := d) (ds := ds) h t, e => by
    unfold listOf? at e
    split at e
    · rename_i y ys' e1 e2
      cases e
      cases d with
      | str b =>
        cases e1
        cases h with
        | str h =>
          obtain ⟨q1, q2⟩ := reps_strs t e2
          refine ⟨by rw [q1]; rfl, fun b' hb => ?_⟩
          rcases List.mem_cons.mp hb with rfl | hb
          · exact h
          · exact q2 b' hb
      | _ => cases e1
    · cases e
theorem bind_some {α β : Type} {f : α → Option β} {o : Option α} {b : β} (h : o.bind f = some b) : ∃ a, o = some a ∧ f a = some b := by
  cases o with
  | none => cases h
  | some a => exact ⟨a, rfl, h⟩
theorem cr_bf (hc : X.calm = true) (f : Bf) : CallR X (bfOf f).val (rVs X.K W EX (bfF f)) := by
  cases f with
  | len =>
    refine CallR.imp (CallR.or call_len_seq call_len_str) fun xs H Q h => ?_
    obtain ⟨F, ρ, G, env, S, σ, ds, s, r, a⟩ := h
    match ds, r, a with
    | [], _, a => exact a.no.elim
    | _ :: _ :: _, _, a => exact a.no.elim
    | [d], r, a =>
      obtain ⟨x, rfl, r1⟩ := r.one
      cases d with
      | lst zs =>
        obtain ⟨p, ys, rfl, h1, h2, h3⟩ := r1.lst
        exact .inl ⟨p, ys, rfl, .inl (SqL.of h1), by rw [h3.length]; exact a.int s⟩
      | tup zs =>
        obtain ⟨p, ys, rfl, h1, h2, h3⟩ := r1.tup
        exact .inl ⟨p, ys, rfl, .inr (s.fh.sqT h1), by rw [h3.length]; exact a.int s⟩
      | str z =>
        obtain ⟨rfl, ok⟩ := r1.str
        exact .inr ⟨txt z, rfl, by rw [size24, txt_len]; exact okS_len ok, by rw [txt_len]; exact a.int s⟩
      | _ => exact a.no.elim
  | list =>
    refine CallR.imp (CallR.or call_list_of (call_list_strR hc)) fun xs H Q h => ?_
    obtain ⟨F, ρ, G, env, S, σ, ds, s, r, a⟩ := h
    match ds, r, a with
    | [], _, a => exact a.no.elim
    | _ :: _ :: _, _, a => exact a.no.elim
    | [d], r, a =>
      obtain ⟨x, rfl, r1⟩ := r.one
      cases d with
      | scr ns =>
        obtain ⟨p, rfl, h1, h2⟩ := r1.scr
        exact .inl ⟨p, _, rfl, .inl (s.fh.sqL h1), fun l hl => a.lst s (Reps.ints ns) (by simpa using h2) hl⟩
      | lst zs =>
        obtain ⟨p, ys, rfl, h1, h2, h3⟩ := r1.lst
        exact .inl ⟨p, ys, rfl, .inl (SqL.of h1), fun l hl => a.lst s h3 h2 hl⟩
      | tup zs =>
        obtain ⟨p, ys, rfl, h1, h2, h3⟩ := r1.tup
        exact .inl ⟨p, ys, rfl, .inr (s.fh.sqT h1), fun l hl => a.lst s h3 h2 hl⟩
      | str z =>
        obtain ⟨rfl, ok⟩ := r1.str
        refine .inr ⟨txt z, rfl, by rw [size24, txt_len]; exact okS_len ok, fun l hl => ?_⟩
        rw [txt_list]
        exact a.lst s (Reps.strs ok z fun _ h => h) (by simpa using okS_len ok) hl
      | _ => exact a.no.elim
  | tuple =>
    refine CallR.imp call_tuple_of fun xs H Q h => ?_
    obtain ⟨F, ρ, G, env, S, σ, ds, s, r, a⟩ := h
    match ds, r, a with
    | [], _, a => exact a.no.elim
    | _ :: _ :: _, _, a => exact a.no.elim
    | [d], r, a =>
      obtain ⟨x, rfl, r1⟩ := r.one
      cases d with
      | lst zs =>
        obtain ⟨p, ys, rfl, h1, h2, h3⟩ := r1.lst
        exact ⟨p, ys, rfl, .inl ⟨SqL.of h1, fun l hl => a.tup s h3 h2 hl⟩⟩
      | tup zs =>
        obtain ⟨p, ys, rfl, h1, h2, h3⟩ := r1.tup
        exact ⟨p, ys, rfl, .inr ⟨s.fh.sqT h1, a.dat s (.tup h1 h2 h3)⟩⟩
      | _ => exact a.no.elim
  | int =>
    refine CallR.imp call_int1 fun xs H Q h => ?_
    obtain ⟨F, ρ, G, env, S, σ, ds, s, r, a⟩ := h
    match ds, r, a with
    | [], _, a => exact a.no.elim
    | _ :: _ :: _, _, a => exact a.no.elim
    | [d], r, a =>
      obtain ⟨x, rfl, r1⟩ := r.one
      cases d with
      | int i => exact .inl ⟨i, by rw [r1.int], a.int s⟩
      | _ => exact a.no.elim
  | str =>
    intro pins s σ H xs us Q I rs h
    obtain ⟨F, ρ, G, env, S, σ, ds, s, r, a⟩ := h
    match ds, a with
    | [], a => exact a.no.elim
    | _ :: _ :: _, a => exact a.no.elim
    | [d], a => cases d <;> exact a.no.elim
  | all =>
    refine CallR.imp (cr_all hc) fun xs H Q h => ?_
    obtain ⟨F, ρ, G, env, S, σ, ds, s, r, a⟩ := h
    match ds, r, a with
    | [], _, a => exact a.no.elim
    | _ :: _ :: _, _, a => exact a.no.elim
    | [d], r, a =>
      obtain ⟨x, rfl, r1⟩ := r.one
      cases d with
      | lst zs =>
        obtain ⟨p, ys, rfl, h1, h2, h3⟩ := r1.lst
        obtain ⟨o, e, q⟩ := a
        obtain ⟨bs, e2, rfl⟩ := map_some e
        exact ⟨p, bs, rfl, by rw [← reps_bls h3 e2]; exact SqL.of h1, q.now s (show Rep X.K F ρ _ _ from .bl _)⟩
      | _ => exact a.no.elim
  | any =>
    refine CallR.imp (cr_any hc) fun xs H Q h => ?_
    obtain ⟨F, ρ, G, env, S, σ, ds, s, r, a⟩ := h
    match ds, r, a with
    | [], _, a => exact a.no.elim
    | _ :: _ :: _, _, a => exact a.no.elim
    | [d], r, a =>
      obtain ⟨x, rfl, r1⟩ := r.one
      cases d with
      | lst zs =>
        obtain ⟨p, ys, rfl, h1, h2, h3⟩ := r1.lst
        obtain ⟨o, e, q⟩ := a
        obtain ⟨bs, e2, rfl⟩ := map_some e
        exact ⟨p, bs, rfl, by rw [← reps_bls h3 e2]; exact SqL.of h1, q.now s (show Rep X.K F ρ _ _ from .bl _)⟩
      | _ => exact a.no.elim
  | sum =>
    refine CallR.imp (cr_sum hc) fun xs H Q h => ?_
    obtain ⟨F, ρ, G, env, S, σ, ds, s, r, a⟩ := h
    match ds, r, a with
    | [], _, a => exact a.no.elim
    | _ :: _ :: _, _, a => exact a.no.elim
    | [d], r, a =>
      obtain ⟨x, rfl, r1⟩ := r.one
      cases d with
      | lst zs =>
        obtain ⟨p, ys, rfl, h1, h2, h3⟩ := r1.lst
        obtain ⟨o, e, q⟩ := a
        obtain ⟨bs, e2, rfl⟩ := map_some e
        exact ⟨p, bs, rfl, by rw [← reps_ints h3 e2]; exact SqL.of h1, q.now s (show Rep X.K F ρ _ _ from .int _)⟩
      | _ => exact a.no.elim

/-! ### methods -/
theorem joinL_len (sep : List Nat) : ∀ ss : List (List Nat), (TL.joinL sep ss).length ≤ (ss.map List.length).sum + ss.length * sep.length
  | [] => by simp [TL.joinL]
  | [p] => by simp [TL.joinL]
  | p :: q :: r => by
    have ih := joinL_len sep (q :: r)
    show (p ++ (sep ++ TL.joinL sep (q :: r))).length ≤ _
    simp only [List.length_append, List.map_cons, List.sum_cons, List.length_cons, Nat.succ_mul] at *
    omega
theorem joinL_ok {sep : List Nat} (hs : okS sep = true) : ∀ ss : List (List Nat), (∀ b ∈ ss, okS b = true) → ∀ c ∈ TL.joinL sep ss, c < 0x110000
  | [], _, c, h => by simp [TL.joinL] at h
  | [p], hb, c, h => okS_all (hb p (by simp)) c h
  | p :: q :: r, hb, c, h => by
    have h : c ∈ p ++ (sep ++ TL.joinL sep (q :: r)) := h
    rcases List.mem_append.mp h with h | h
    · exact okS_all (hb p (by simp)) c h
    · rcases List.mem_append.mp h with h | h
      · exact okS_all hs c h
      · exact joinL_ok hs (q :: r) (fun b hb' => hb b (List.mem_cons_of_mem _ hb')) c h
def mtOf : Mt → String × String × String
  | .join => ("str", "join", "str.join")
theorem txt_tl (s : List Nat) : TL.tl (txt s) = s := by simp [TL.tl, txt]
theorem txt_join (sep : List Nat) (ss : List (List Nat)) : Txt.join (txt sep) (ss.map txt) = txt (TL.joinL sep ss) := by
  have h := TL.tl_join (txt sep) (ss.map txt)
  rw [txt_tl, List.map_map, show (TL.tl ∘ txt) = id from funext txt_tl, List.map_id] at h
  have e : ∀ z : Str, z = txt (TL.tl z) := fun z => by simp [TL.tl, txt]
  rw [TL.join_eq, e (Str.join (txt sep) (ss.map txt)), h]
theorem mt_ok (m : Mt) : MtR X (mtOf m).2.2 (rVm X.K W EX (mtF m)) := by
  cases m with
  | join =>
    refine MtR.imp mt_join fun x xs H Q h => ?_
    obtain ⟨F, ρ, G, env, S, σ, d, ds, s, rx, r, a⟩ := h
    match ds, r, a with
    | [], _, a => exact a.no.elim
    | _ :: _ :: _, _, a => exact a.no.elim
    | [e0], r, a =>
      obtain ⟨y, rfl, r1⟩ := r.one
      cases d with
      | str sep =>
        cases e0 with
        | lst zs =>
          obtain ⟨rfl, oks⟩ := rx.str
          obtain ⟨p, ys, rfl, h1, h2, h3⟩ := r1.lst
          obtain ⟨o, e, q⟩ := a
          obtain ⟨ss, e4, e2⟩ := bind_some e
          obtain ⟨e3, ok⟩ := reps_strs h3 e4
          split at e2
          · rename_i c
            cases e2
            refine ⟨txt sep, p, ss.map txt, rfl, rfl, .inl (by rw [← e3]; exact SqL.of h1), ?_, ?_⟩
            · rw [List.map_map, List.length_map, txt_len]
              have : (PySem.Str.length ∘ txt) = List.length := funext fun z => txt_len z
              rw [this]; exact c
            · rw [txt_join]
              exact q.now s (show Rep X.K F ρ _ _ from .str (okS_mk (Nat.le_trans (joinL_len sep ss) c) (joinL_ok oks ss ok)))
          · cases e2
        | _ => exact a.no.elim
      | _ => exact a.no.elim

/-! ### changes -/
theorem cell_at {x : V} {a : Ar} {ds : List D} (s : Sim K F ρ G env S σ H) (r : ArRep K F ρ σ x a) (e : cellAt env S a = some (.lst ds)) :
    ∃ p xs, x = .ref p ∧ H p = some (.lst xs) ∧ xs.length ≤ 16777216 ∧ Reps K F ρ xs ds ∧ ∀ ys es, ys.length ≤ 16777216 → Reps K F ρ ys es → Sim K F ρ G (cellPut env S a (.lst es)).1 (cellPut env S a (.lst es)).2 σ (upd H p (.lst ys)) := by
  cases a with
  | h i =>
    have r : σ[i]? = some (some x) := r
    have e : (match env[i]? with | some (.lst xs) => some (Cell.lst xs) | some (.dic kvs) => some (.dic kvs) | _ => none) = some (.lst ds) := e
    cases q : env[i]? with
    | none => rw [q] at e; cases e
    | some sl =>
      rw [q] at e
      cases sl with
      | lst es =>
        cases e
        obtain ⟨p, xs, ev, h1, h2, h3, _⟩ := s.slots i _ q
        rw [r] at ev; cases ev
        exact ⟨p, xs, rfl, h1, h2, h3, fun ys es hl rr => s.ownWr q r hl rr⟩
      | no => cases e
      | dat _ => cases e
      | dic _ => cases e
  | d z =>
    cases z with
    | loc n =>
      have e : S[n]? = some (.lst ds) := e
      cases (show Rep K F ρ x (.loc n) from r) with
      | loc ea =>
        obtain ⟨xs, h1, h2, h3, _⟩ := s.cells n _ _ ea e
        exact ⟨_, xs, rfl, h1, h2, h3, fun ys es hl rr => s.cellWr e ea hl rr⟩
    | _ => cases e
def muOf : Mu → String × String × String
  | .append => ("list", "append", "list.append") | .pop0 => ("list", "pop", "list.pop") | .popAt => ("list", "pop", "list.pop") | .extend => ("list", "extend", "list.extend")
def rMu (K : PySem.W.Frag) (W : WX) (EX : EXT) (m : Mu) : V → List V → Hp → VK → Prop := fun x xs H Q => ∃ F ρ G env S σ a ds c c' d, Sim K F ρ G env S σ H ∧ ArRep K F ρ σ x a ∧ Reps K F ρ xs ds ∧ cellAt env S a = some c ∧ muF m c ds = some (c', d) ∧
  At K W EX G σ (POut K G σ) Q F ρ (.ok (.val d) (cellPut env S a c').1 (cellPut env S a c').2)
theorem mu_ok (m : Mu) : MtR X (muOf m).2.2 (rMu X.K W EX m) := by
  cases m with
  | append =>
    refine MtR.imp mt_append fun x xs H Q h => ?_
    obtain ⟨F, ρ, G, env, S, σ, a, ds, c, c', d, s, ra, r, e, em, q⟩ := h
    cases c with
    | lst zs =>
      match ds, r, em with
      | [], _, em => cases em
      | _ :: _ :: _, _, em => cases em
      | [y], r, em =>
        cases r with
        | cons ry rt =>
          cases rt
          obtain ⟨p, ys, rfl, h1, h2, h3, wr⟩ := cell_at s ra e
          have em : (if zs.length < 16777216 then some (Cell.lst (zs ++ [y]), D.non) else none) = some (c', d) := em
          split at em
          · rename_i hz
            cases em
            have hl := h3.length
            have s2 := wr (ys ++ [_]) (zs ++ [y]) (by simp; omega) (h3.append (.one ry))
            exact ⟨p, ys, _, rfl, rfl, h1, by rw [size24, hl]; exact hz, q.now s2 (show Rep X.K F ρ _ _ from .non)⟩
          · cases em
    | dic _ => cases em
    | dead => cases em
  | pop0 =>
    refine MtR.imp mt_pop fun x xs H Q h => ?_
    obtain ⟨F, ρ, G, env, S, σ, a, ds, c, c', d, s, ra, r, e, em, q⟩ := h
    cases c with
    | lst zs =>
      match ds, r, em with
      | [_], _, em => cases em
      | _ :: _ :: _, _, em => cases em
      | [], r, em =>
        cases r
        obtain ⟨p, ys, rfl, h1, h2, h3, wr⟩ := cell_at s ra e
        obtain ⟨y, ey, e2⟩ := map_some em
        cases e2
        have hl := h3.length
        obtain ⟨v, hv, rv⟩ := h3.get ey
        have s2 := wr ys.dropLast zs.dropLast (by simp; omega) h3.dropLast
        exact ⟨p, ys, v, rfl, rfl, h1, by rw [hl]; exact hv, q.now s2 rv⟩
    | dic _ => cases em
    | dead => cases em
  | popAt =>
    refine MtR.imp mt_popAt fun x xs H Q h => ?_
    obtain ⟨F, ρ, G, env, S, σ, a, ds, c, c', d, s, ra, r, e, em, q⟩ := h
    cases c with
    | lst zs =>
      match ds, r, em with
      | [], _, em => cases em
      | _ :: _ :: _, _, em => cases em
      | [y], r, em =>
        cases y with
        | int i =>
          cases r with
          | cons ry rt =>
            cases rt
            cases ry
            obtain ⟨p, ys, rfl, h1, h2, h3, wr⟩ := cell_at s ra e
            have em : (if -(2 ^ 63) ≤ i ∧ i < 2 ^ 63 then (PySem.seqIndex? i zs.length).bind fun k => (zs[k]?).map fun y => (Cell.lst (zs.eraseIdx k), y) else none) = some (c', d) := em
            split at em
            · rename_i hz
              obtain ⟨k, ek, em⟩ := bind_some em
              obtain ⟨y, ey, e2⟩ := map_some em
              cases e2
              have hl := h3.length
              obtain ⟨v, hv, rv⟩ := h3.get ey
              have s2 := wr (ys.eraseIdx k) (zs.eraseIdx k) (Nat.le_trans (List.length_eraseIdx_le ..) h2) (h3.eraseIdx k)
              exact ⟨p, ys, i, k, v, rfl, rfl, h1, hz.1, hz.2, by rw [hl]; exact ek, hv, q.now s2 rv⟩
            · cases em
        | _ => cases em
    | dic _ => cases em
    | dead => cases em
  | extend =>
    refine MtR.imp mt_extend fun x xs H Q h => ?_
    obtain ⟨F, ρ, G, env, S, σ, a, ds, c, c', d, s, ra, r, e, em, q⟩ := h
    cases c with
    | lst zs =>
      match ds, r, em with
      | [], _, em => cases em
      | _ :: _ :: _, _, em => cases em
      | [y], r, em =>
        cases y with
        | lst us =>
          cases r with
          | cons ry rt =>
            cases rt
            cases ry with
            | lst g1 g2 g3 =>
              obtain ⟨p, ys, rfl, h1, h2, h3, wr⟩ := cell_at s ra e
              have em : (if zs.length + us.length ≤ 16777216 then some (Cell.lst (zs ++ us), D.non) else none) = some (c', d) := em
              split at em
              · rename_i hz
                cases em
                have hl := h3.length
                have hl2 := g3.length
                have s2 := wr (ys ++ _) (zs ++ us) (by simp; omega) (h3.append g3)
                exact ⟨p, _, ys, _, rfl, rfl, h1, s.fh _ _ g1, by rw [size24]; omega, q.now s2 (show Rep X.K F ρ _ _ from .non)⟩
              · cases em
        | _ => cases em
    | dic _ => cases em
    | dead => cases em

/-! ### isinstance -/
def tyN : Ty → String
  | .int => "int" | .bool => "bool" | .str => "str" | .list => "list" | .tuple => "tuple" | .dict => "dict"
def dTy : D → Option String
  | .non => some "NoneType" | .bl _ => some "bool" | .int _ => some "int" | .str _ => some "str" | .lst _ => some "list" | .tup _ => some "tuple" | .dic _ => some "dict" | _ => none
theorem kit_all : ∀ t : Ty, kitB "NoneType" (tyN t) = isTy .non t ∧ kitB "bool" (tyN t) = isTy (.bl true) t ∧ kitB "int" (tyN t) = isTy (.int 0) t ∧ kitB "str" (tyN t) = isTy (.str []) t ∧ kitB "list" (tyN t) = isTy (.lst []) t ∧ kitB "tuple" (tyN t) = isTy (.tup []) t ∧ kitB "dict" (tyN t) = isTy (.dic []) t := by
  intro t; cases t <;> decide +kernel
theorem isTy_kit {d : D} {t : Ty} {n : String} {b : Bool} (hn : dTy d = some n) (h : isTy d t = some b) : kitB n (tyN t) = some b := by
  obtain ⟨k1, k2, k3, k4, k5, k6, k7⟩ := kit_all t
  cases d with
  | non => cases hn; rw [k1]; exact h
  | bl _ => cases hn; rw [k2]; exact h
  | int _ => cases hn; rw [k3]; exact h
  | str _ => cases hn; rw [k4]; exact h
  | lst _ => cases hn; rw [k5]; exact h
  | tup _ => cases hn; rw [k6]; exact h
  | dic _ => cases hn; rw [k7]; exact h
  | _ => cases hn
theorem VRep.ty {v : V} {d : D} {n : String} (h : VRep K F ρ H v d) (le : Le F H) (hn : dTy d = some n) : TyX K H v (.type n) := by
  cases h with
  | l h hl r => cases hn; exact .base (.lst h)
  | r h hl =>
    cases h with
    | non => cases hn; exact .base .non
    | bl b => cases hn; exact .base (.bl b)
    | int b => cases hn; exact .base (.int b)
    | str b => cases hn; exact .base (.str _)
    | lst _ _ _ => exact absurd rfl (hl _)
    | tup h _ _ =>
      cases hn
      rcases le.sqT h with (h | ⟨o, h⟩) | ⟨o, its, n, h1, h2, _⟩
      · exact .base (.tup h)
      · exact .fTuple h
      · exact .kTuple h1 h2
    | scr _ _ => cases hn
    | loc _ => cases hn
    | dic h _ _ => cases hn; exact .base (.dK (le _ _ h))
theorem isAny_kit {d : D} {n : String} (hn : dTy d = some n) : ∀ {ts : List Ty} {b : Bool}, isAny d ts = some b → PySem.W.kitAny K (.type n) (ts.map fun t => .type (tyN t)) = some b
  | [], b, h => by cases h; rfl
  | t :: ts, b, h => by
    unfold isAny at h
    split at h
    · rename_i e
      cases h
      exact kitAny_cons (kit_ty (isTy_kit hn e)) (fun z => nomatch z) fun _ => rfl
    · rename_i e
      exact kitAny_cons (kit_ty (isTy_kit hn e)) (fun _ => isAny_kit hn h) fun z => nomatch z
    · cases h
theorem isAny_dTy {d : D} {ts : List Ty} {b : Bool} (h : isAny d ts = some b) (hne : ts ≠ []) : ∃ n, dTy d = some n := by
  cases ts with
  | nil => exact absurd rfl hne
  | cons t ts =>
    cases d with
    | non => exact ⟨_, rfl⟩
    | bl _ => exact ⟨_, rfl⟩
    | int _ => exact ⟨_, rfl⟩
    | str _ => exact ⟨_, rfl⟩
    | lst _ => exact ⟨_, rfl⟩
    | tup _ => exact ⟨_, rfl⟩
    | dic kvs => exact ⟨_, rfl⟩
    | scr _ => cases h
    | loc _ => cases h
    | fn _ => cases h
end
end Pf
/-! Pf, part F: which Python an expression of the small language stands for (mE). -/
namespace Pf
open PySem PySem.Spec PyProof.Rows L2

/-! ### the side conditions of the rules -/
def isStar : Expr → Bool
  | .Starred .. => true
  | _ => false
def isCompr : Expr → Bool
  | .ListComp .. | .SetComp .. | .DictComp .. => true
  | _ => false
def isCall0 : Expr → Bool
  | .Call (.Name ..) [] [] _ => true
  | _ => false
def isSlice : Expr → Bool
  | .Slice .. => true
  | _ => false
def isSet : Expr → Bool
  | .Set .. => true
  | _ => false
def isTest : Expr → Bool
  | .UnaryOp .Not _ _ | .BoolOp .. | .IfExp .. | .Compare .. => true
  | _ => false
theorem star_cons {e : Expr} {es : List Expr} {env : PySem.Env} (h : isStar e = false) : starEach (e :: es) env = (false, eval e env) :: starEach es env := by
  cases e <;> first | rfl | (cases h)
theorem swaps_none {e : Expr} {t : Option Expr} {n : Nat} {env : PySem.Env} (h : isCompr e = false) : swapsWith e t n env = pure false := by
  cases e <;> first | rfl | (cases h)
theorem attr_base {o : Expr} {f : Str} {env : PySem.Env} (h : isCall0 o = false) : attributeBase o f env (eval o env) = eval o env := by
  cases o with
  | Call fn as ks pos =>
    cases fn with
    | Name id p =>
      cases as with
      | nil => cases ks with
        | nil => cases h
        | cons _ _ => rfl
      | cons _ _ => rfl
    | _ => rfl
  | _ => rfl
theorem plain_ix {b : Expr} (h : isSlice b = false) : PlainIx b := by
  intro o i
  cases b <;> first | rfl | (cases h)
theorem fold_set {e : Expr} {env : PySem.Env} (h : isSet e = false) : ∀ x, foldedSetIterable e env x = pure x := by
  intro x
  cases e <;> first | rfl | (cases h)
theorem true_plain {e : Expr} {env : PySem.Env} (h : isTest e = false) : ∀ whole, isTrue e env whole = (do let v ← whole; standAt e.pos; holding [v] (truthy v)) := by
  intro wh
  cases e with
  | UnaryOp op a p => cases op <;> first | rfl | (cases h)
  | _ => first | rfl | (cases h)
theorem behind_in {e : Expr} {op : CmpOp} (h : isSet e = false) : behindInMarks op e = false := by
  cases e <;> first | rfl | (cases h)
def noStars (es : List Expr) : Bool := es.all fun e => !isStar e
theorem back_cons {pos : Pos} {env : PySem.Env} {e : Expr} {es : List Expr} (h : isStar e = false) : backTo pos (starEach (e :: es) env) = (false, eval e env) :: backTo pos (starEach es env) := by
  rw [star_cons h]; rfl
theorem back_any {pos : Pos} {env : PySem.Env} : ∀ {es : List Expr}, noStars es = true → (backTo pos (starEach es env)).any (·.1) = false
  | [], _ => rfl
  | e :: es, h => by
    unfold noStars at h
    rw [List.all_cons, Bool.and_eq_true] at h
    rw [back_cons (by simpa using h.1), List.any_cons, back_any h.2]; rfl
theorem back_all {pos : Pos} {env : PySem.Env} : ∀ {es : List Expr}, noStars es = true → (backTo pos (starEach es env)).all (fun x => !x.1) = true
  | [], _ => rfl
  | e :: es, h => by
    unfold noStars at h
    rw [List.all_cons, Bool.and_eq_true] at h
    rw [back_cons (by simpa using h.1), List.all_cons, back_all h.2]; rfl

/-! ### the match -/
/-- where code stands: the names by slot, the scope, the names whose cells are the block's own -/
structure MC where
  N : List Str
  sc : Scope
  fnP : Str → Bool
  kw : String → Option (List Str)
  ar : String → Option Nat
def visB (sc : Scope) (x : Str) : Bool := match sc.names.lookup x with
  | some .local => true
  | some .cell => true
  | some .free => true
  | _ => false
def locB (sc : Scope) (x : Str) : Bool := match sc.names.lookup x with
  | some .local => true
  | some .cell => true
  | _ => false
def glB (sc : Scope) (x : Str) : Bool := decide (sc.names.lookup x = some .globalImplicit)
def okN (x : Str) : Bool := !(x == ("__debug__" : Str)) && !(x == ("__classdict__" : Str))
def stoB (m : MC) (x : Str) : Bool := locB m.sc x && (m.fnP x || decide (m.sc.names.lookup x = some .local))
def mName (m : MC) (i : Nat) : Expr → Bool
  | .Name x _ => decide (m.N[i]? = some x) && visB m.sc x && okN x
  | _ => false
def mSto (m : MC) (i : Nat) : Expr → Bool
  | .Name x _ => decide (m.N[i]? = some x) && stoB m x
  | _ => false
def mStos (m : MC) : List Nat → List Expr → Bool
  | [], [] => true
  | i :: is, x :: xs => mSto m i x && mStos m is xs
  | _, _ => false
def mTg (m : MC) : Tg → Expr → Bool
  | .name i, x => mSto m i x
  | .tup is, .Tuple es _ _ => mStos m is es
  | _, _ => false
def mTy (m : MC) (t : Ty) : Expr → Bool
  | .Name x _ => decide (x = Str.ofString (tyN t)) && glB m.sc x
  | _ => false
def mTys (m : MC) : List Ty → List Expr → Bool
  | [], [] => true
  | t :: ts, x :: xs => mTy m t x && mTys m ts xs
  | _, _ => false
def inner (m : MC) (scope : Scope) : MC := { m with sc := relS scope m.sc, fnP := fun x => scope.names.lookup x == some .cell }
def ownOf (m : MC) (own : List Nat) : List (Str × Nat) := own.map fun i => (m.N.getD i ⟨#[]⟩, i)
def tgSlots : Tg → List Nat
  | .name i => [i]
  | .tup is => is
mutual
def mE (m : MC) : Ex → Expr → Bool
  | .int i => fun x => match x with
    | .Constant (.int j) _ _ => i == j
    | _ => false
  | .str s => fun x => match x with
    | .Constant (.str z) _ _ => decide (z = txt s) && okS s
    | _ => false
  | .bl b => fun x => match x with
    | .Constant (.bool c) _ _ => b == c
    | _ => false
  | .non => fun x => match x with
    | .Constant .none _ _ => true
    | _ => false
  | .var i => mName m i
  | .hv i => mName m i
  | .glo g => fun x => match x with
    | .Name z _ => decide (z = Str.ofString g) && glB m.sc z && okN z
    | _ => false
  | .bin o a b => fun x => match x with
    | .BinOp l op r _ => decide (op = bopOf o) && mE m a l && mE m b r
    | _ => false
  | .un _ a => fun x => match x with
    | .UnaryOp .USub l _ => mE m a l
    | _ => false
  | .cmp o a b => fun x => match x with
    | .Compare l [op] [r] _ => decide (op = copOf o) && mE m a l && mE m b r && !isSet r
    | _ => false
  | .cmp2 o p a b c => fun x => match x with
    | .Compare l [op, op'] [r, t] _ => decide (op = copOf o) && decide (op' = copOf p) && mE m a l && mE m b r && mE m c t && !isSet r && !isSet t
    | _ => false
  | .and a b => fun x => match x with
    | .BoolOp .And (y :: z :: rest) p => mE m a y && (match rest with
      | [] => mE m b z
      | u :: us => mE m b (.BoolOp .And (z :: u :: us) p))
    | _ => false
  | .or a b => fun x => match x with
    | .BoolOp .Or (y :: z :: rest) p => mE m a y && (match rest with
      | [] => mE m b z
      | u :: us => mE m b (.BoolOp .Or (z :: u :: us) p))
    | _ => false
  | .not a => fun x => match x with
    | .UnaryOp .Not l _ => mE m a l
    | _ => false
  | .ite c a b => fun x => match x with
    | .IfExp t l r _ => mE m c t && mE m a l && mE m b r
    | _ => false
  | .lst es => fun x => match x with
    | .List xs _ => mEs m es xs && decide (es.length < 1000)
    | _ => false
  | .tup es => fun x => match x with
    | .Tuple xs _ _ => mEs m es xs && decide (es.length < 1000)
    | _ => false
  | .dic es => fun x => match x with
    | .Dict ks vs _ => mKV m es ks vs && !ks.isEmpty && decide (ks.length ≤ 15)
    | _ => false
  | .idx a b => fun x => match x with
    | .Subscript l r _ => mE m a l && mE m b r && !isSlice r
    | _ => false
  | .slc a lo hi => fun x => match x with
    | .Subscript l (.Slice u v none _) _ => mE m a l && mO m lo u && mO m hi v
    | _ => false
  | .bf f as => fun x => match x with
    | .Call (.Name z _) (e :: es) [] _ => decide (z = Str.ofString (bfOf f).name) && glB m.sc z && mEs m as (e :: es)
    | _ => false
  | .mth t r as => fun x => match x with
    | .Call (.Attribute o n apos) (e :: es) [] cpos => decide (n = Str.ofString (mtOf t).2.1) && mE m r o && mEs m as (e :: es) && !isCall0 o && (apos.endLine == cpos.line) && decide ((e :: es).length < 29)
    | _ => false
  | .mut t r as => fun x => match x with
    | .Call (.Attribute o n apos) es [] cpos => decide (n = Str.ofString (muOf t).2.1) && mE m r o && mEs m as es && !isCall0 o && (apos.endLine == cpos.line) && decide (es.length < 29)
    | _ => false
  | .isi a ts one => fun x => match x with
    | .Call (.Name z _) [l, r] [] _ => decide (z = Str.ofString "isinstance") && glB m.sc z && mE m a l && !isStar l && (match one, ts, r with
      | true, [t], r => mTy m t r
      | false, ts, .Tuple rs _ _ => mTys m ts rs && decide (ts ≠ []) && decide (rs.length < 100)
      | _, _, _ => false)
    | _ => false
  | .comp elt tg k its cond own => fun x => match x with
    | .ListComp e [⟨t, it, ifs, 0⟩] scope _ => blkC m.N m.sc scope (ownOf m own) && decide (own = tgSlots tg) && own.all (fun i => decide (i < m.N.length)) && mTg (inner m scope) tg t && mIt m k its it t && mC (inner m scope) cond ifs && mE (inner m scope) elt e
    | _ => false
  | .call f as kws => fun x => match x with
    | .Call (.Name z _) es ks _ => decide (z = Str.ofString f) && glB m.sc z && okN z && decide (m.ar f = some as.length) && (match kws, ks with
      | [], [] => mEs m as es
      | _ :: _, ks => (match es with
        | [] => mKs m as ks && decide (m.kw f = some (ks.filterMap (·.arg))) && ks.all (·.arg.isSome)
        | _ => false)
      | _, _ => false)
    | _ => false
  | .new e => mE m e
def mO (m : MC) : Option Ex → Option Expr → Bool
  | none => fun x => match x with
    | none => true
    | _ => false
  | some e => fun x => match x with
    | some y => mE m e y
    | none => false
def mC (m : MC) : Option Ex → List Expr → Bool
  | none => fun x => match x with
    | [] => true
    | _ => false
  | some e => fun x => match x with
    | [y] => mE m e y
    | _ => false
def mEs (m : MC) : List Ex → List Expr → Bool
  | [] => fun x => match x with
    | [] => true
    | _ => false
  | e :: es => fun x => match x with
    | y :: ys => mE m e y && !isStar y && mEs m es ys
    | [] => false
def mKV (m : MC) : List Ex → List (Option Expr) → List Expr → Bool
  | [] => fun x y => match x, y with
    | [], [] => true
    | _, _ => false
  | k :: es => fun x y => match x, y with
    | some a :: ks, b :: vs => mE m k a && mV m es ks (b :: vs)
    | _, _ => false
def mV (m : MC) : List Ex → List (Option Expr) → List Expr → Bool
  | [] => fun _ _ => false
  | v :: es => fun ks y => match y with
    | b :: vs => mE m v b && mKV m es ks vs
    | _ => false
def mKs (m : MC) : List Ex → List Keyword → Bool
  | [] => fun x => match x with
    | [] => true
    | _ => false
  | e :: es => fun x => match x with
    | ⟨_, y, _⟩ :: ys => mE m e y && mKs m es ys
    | [] => false
def mIt (m : MC) : Itk → List Ex → Expr → Expr → Bool
  | k, [e] => fun x t => match k with
    | .val => mE m e x && !isSet x
    | .range1 => (match x with
      | .Call (.Name z _) [y] [] _ => decide (z = Str.ofString "range") && glB m.sc z && mE m e y && !isStar y
      | _ => false)
    | .enum => (match x, t with
      | .Call (.Name z _) [y] [] _, .Tuple _ _ _ => decide (z = Str.ofString "enumerate") && glB m.sc z && mE m e y && !isStar y
      | _, _ => false)
    | _ => false
  | k, [e, f] => fun x t => match k with
    | .range2 => (match x with
      | .Call (.Name z _) [y, u] [] _ => decide (z = Str.ofString "range") && glB m.sc z && mE m e y && !isStar y && mE m f u && !isStar u
      | _ => false)
    | .zip => (match x, t with
      | .Call (.Name z _) [y, u] [] _, .Tuple _ _ _ => decide (z = Str.ofString "zip") && glB m.sc z && mE m e y && !isStar y && mE m f u && !isStar u
      | _, _ => false)
    | _ => false
  | _, _ => fun _ _ => false
end
end Pf
/-! Pf, part G: expressions: the readings of the rules from the runs. -/
namespace Pf
open PySem PySem.Spec PyProof.Rows L2

theorem PE.imp {X : Cx} {x : Expr} {t t' : TE} (h : PE X x t) (hi : ∀ σ H Q, t' σ H Q → t σ H Q) : PE X x t' := ⟨fun pins s σ H Q I q => h.run pins s σ H Q I (hi σ H Q q)⟩
theorem PT.imp {X : Cx} {x : Expr} {t t' : TT} (h : PT X x t) (hi : ∀ σ H Q, t' σ H Q → t σ H Q) : PT X x t' := ⟨fun pins s σ H Q I q => h.run pins s σ H Q I (hi σ H Q q)⟩
theorem PW.imp {X : Cx} {x : Expr} {t t' : TT} (h : PW X x t) (hi : ∀ σ H Q, t' σ H Q → t σ H Q) : PW X x t' := ⟨fun wh pins s σ H Q I q => h.run wh pins s σ H Q I (hi σ H Q q)⟩
theorem PA.imp {X : Cx} {x : List Expr} {t t' : TA} (h : PA X x t) (hi : ∀ σ H Q, t' σ H Q → t σ H Q) : PA X x t' := ⟨fun pos pins s σ H Q I q => h.run pos pins s σ H Q I (hi σ H Q q)⟩
theorem PO.imp {X : Cx} {x : Option Expr} {t t' : TO} (h : PO X x t) (hi : ∀ σ H Q, t' σ H Q → t σ H Q) : PO X x t' := ⟨fun pins s σ H Q I q => h.run pins s σ H Q I (hi σ H Q q)⟩
theorem PK.imp {X : Cx} {x : List Keyword} {t t' : TA} (h : PK X x t) (hi : ∀ σ H Q, t' σ H Q → t σ H Q) : PK X x t' := ⟨fun pos pins s σ H Q I q => h.run pos pins s σ H Q I (hi σ H Q q)⟩

/-! ### what defs promise -/
def AtC (K : PySem.W.Frag) (EX : EXT) (G : Hp) (Q : VK) (E : XK) (F : Hp) (ρ : List Addr) : RC → Prop
  | .ok d S => ∀ F' ρ' H v, Le F F' → ρ <+: ρ' → Sim K F' ρ' G [] S [] H → Rep K F' ρ' v d → Q v H
  | .exc x S => ∀ F' ρ' H cls d, Le F F' → ρ <+: ρ' → Sim K F' ρ' G [] S [] H → EX F' ρ' H cls d x → E cls d H
  | .bad => False
def spF (K : PySem.W.Frag) (EX : EXT) (np : Nat) (c : List D → Store → RC) : Sp := fun vs H Q E =>
  vs.length = np ∧ ∃ F ρ G S ds, Sim K F ρ G [] S [] H ∧ Reps K F ρ vs ds ∧ AtC K EX G Q E F ρ (c ds S)
/-- a def of the program, ready at a level -/
def FnIn (EX : EXT) (X : Cx) (n : Nat) (c : List D → Store → RC) (kw : Option (List Str)) (f : String) (np : Nat) : Prop :=
  ∃ a fdt ps, X.mg (Str.ofString f) = some (.ref a) ∧ PySem.W.keepIn X.K (.ref a) = true ∧ Binds X.K fdt ps [] ∧ ps.length = np ∧ FnOk X.prog X.w X.K X.mg X.base (L2.CX X.prog X.w) n a fdt ps (spF X.K EX np c) ∧
    ∀ ks, kw = some ks → ks = ps ∧ ∀ (s : Shared) (ws : List Value), X.K.In s.heap → ws.length = ps.length → BindsTo s fdt ⟨[], ps.zip ws⟩ (ps.zip ws)
def blts : List String := ["len", "list", "tuple", "int", "str", "all", "any", "sum", "isinstance", "bool", "dict", "range", "enumerate", "zip", "sorted", "min", "max", "ord", "type", "repr"]
structure XF (Γ : Prog) (g : Glos) (w n : Nat) (EX : EXT) (m : MC) (W : WX) (X : Cx) : Prop where
  hN : X.N = m.N
  nd : m.N.Nodup
  hsc : X.env.scope = m.sc
  hfn : X.fn = m.fnP
  calm : X.calm = true
  room : Room n X.A
  tk : Takes X W
  fns : ∀ f k, m.ar f = some k → FnIn EX X n (callF Γ g w n f) (m.kw f) f k
  glo : ∀ x d, g x = some d → ∃ u v, X.mg (Str.ofString x) = some u ∧ RelV v u ∧ ∀ F ρ, Rep X.K F ρ v d
  blt : ∀ b ∈ blts, X.mg (Str.ofString b) = none
section
variable {Γ : Prog} {g : Glos} {w n : Nat} {EX : EXT} {m : MC} {W : WX} {X : Cx}
abbrev tO (Γ : Prog) (g : Glos) (w n : Nat) (EX : EXT) (W : WX) (X : Cx) (e : Ex) : TE := tR X.K W EX (POut X.K) (evO (callF Γ g w n) g e)
abbrev tBo (Γ : Prog) (g : Glos) (w n : Nat) (EX : EXT) (W : WX) (X : Cx) (e : Ex) : TT := tR X.K W EX PB (fun env S => (evO (callF Γ g w n) g e env S).bl)
abbrev tDs (Γ : Prog) (g : Glos) (w n : Nat) (EX : EXT) (W : WX) (X : Cx) (es : List Ex) : TA := tR X.K W EX (PDs X.K) (evDs (callF Γ g w n) g es)
abbrev tAs (Γ : Prog) (g : Glos) (w n : Nat) (EX : EXT) (W : WX) (X : Cx) (es : List Ex) : TA := tR X.K W EX (PArs X.K) (evAs (callF Γ g w n) g es)
/-- what is shown of an expression -/
structure Snd (Γ : Prog) (g : Glos) (w n : Nat) (EX : EXT) (W : WX) (X : Cx) (e : Ex) (x : Expr) : Prop where
  pe : PE X x (tO Γ g w n EX W X e)
  pt : PT X x (tBo Γ g w n EX W X e)
  pw : ∀ op vs p, x = .BoolOp op vs p → PW X x (tBo Γ g w n EX W X e)
theorem kind_eq {x : Str} : X.env.kindOf x = X.env.scope.names.lookup x := rfl
theorem vis_of (f : XF Γ g w n EX m W X) {x : Str} (h : visB m.sc x = true) : Vis X.env.scope x := by
  rw [f.hsc]; unfold visB at h
  split at h <;> first | exact .inl (by assumption) | exact .inr (.inl (by assumption)) | exact .inr (.inr (by assumption)) | cases h
theorem gl_of (f : XF Γ g w n EX m W X) {x : Str} (h : glB m.sc x = true) : Gl X x := by
  show X.env.scope.names.lookup x = _
  rw [f.hsc]; exact of_decide_eq_true h
theorem dbg_of {x : Str} (h : okN x = true) : (x == ("__debug__" : Str)) = false ∧ (x == ("__classdict__" : Str)) = false := by
  unfold okN at h
  simp only [Bool.and_eq_true, Bool.not_eq_true'] at h
  exact h
/-- a test that is no test's own form -/
theorem Snd.plain {e : Ex} {x : Expr} (h : PE X x (tO Γ g w n EX W X e)) (ht : isTest x = false) : Snd Γ g w n EX W X e x := by
  refine ⟨h, PT.imp (pt_val h (true_plain ht)) fun σ H Q ⟨F, ρ, G, env, S, s, a⟩ => ⟨F, ρ, G, env, S, s, a.bl⟩, fun op vs p z => ?_⟩
  subst z; cases ht
theorem Snd.nobool {e : Ex} {x : Expr} (h : PE X x (tO Γ g w n EX W X e)) (h2 : PT X x (tBo Γ g w n EX W X e)) (ht : ∀ op vs p, x ≠ .BoolOp op vs p) : Snd Γ g w n EX W X e x := ⟨h, h2, fun op vs p z => absurd z (ht op vs p)⟩

/-! ### constants and names -/
theorem s_val {d : D} {v : V} {e : Ex} {x : Expr} (hp : PE X x (tC v)) (he : ∀ env S, evO (callF Γ g w n) g e env S = .ok (.val d) env S) (r : ∀ F ρ, Rep X.K F ρ v d) : PE X x (tO Γ g w n EX W X e) := by
  refine PE.imp hp fun σ H Q h => ?_
  obtain ⟨F, ρ, G, env, S, s, a⟩ := h
  rw [he] at a
  exact a.now s (r F ρ)
theorem s_var {i : Nat} {x : Expr} (hp : PE X x (tVar i)) : PE X x (tO Γ g w n EX W X (.var i)) := by
  refine PE.imp hp fun σ H Q h => ?_
  obtain ⟨F, ρ, G, env, S, s, a⟩ := h
  have a : At X.K W EX G σ (POut X.K G σ) Q F ρ (match rd env i with | some (d, env') => .ok (.val d) env' S | none => .bad) := a
  cases q : env[i]? with
  | none =>
    have : rd env i = none := by unfold rd; rw [q]
    rw [this] at a; exact a.elim
  | some sl =>
    cases sl with
    | no =>
      have : rd env i = none := by unfold rd; rw [q]
      rw [this] at a; exact a.elim
    | dat d =>
      have : rd env i = some (d, env) := by unfold rd; rw [q]
      rw [this] at a
      obtain ⟨v, e, r⟩ := s.slots i _ q
      exact ⟨v, e, a.now s r⟩
    | lst ds =>
      have : rd env i = some (.lst ds, env.set i (.dat (.lst ds))) := by unfold rd; rw [q]
      rw [this] at a
      obtain ⟨b, xs, F', ev, le, e1, e2, e3, s'⟩ := s.rdown q
      exact ⟨_, ev, a F' ρ H (.ref b) le prefix_refl s' (show Rep X.K F' ρ _ (.lst ds) from .lst e1 e2 e3)⟩
    | dic _ => exact (s.slots i _ q).elim
theorem s_hv {i : Nat} {x : Expr} (hp : PE X x (tVar i)) : PE X x (tO Γ g w n EX W X (.hv i)) := by
  refine PE.imp hp fun σ H Q h => ?_
  obtain ⟨F, ρ, G, env, S, s, a⟩ := h
  have a : At X.K W EX G σ (POut X.K G σ) Q F ρ (match env[i]? with | some (.lst _) => .ok (.hdl i) env S | some (.dic _) => .ok (.hdl i) env S | some (.dat d) => .ok (.val d) env S | _ => .bad) := a
  cases q : env[i]? with
  | none => rw [q] at a; exact a.elim
  | some sl =>
    rw [q] at a
    cases sl with
    | no => exact a.elim
    | dic _ => exact (s.slots i _ q).elim
    | dat d =>
      obtain ⟨v, e, r⟩ := s.slots i _ q
      exact ⟨v, e, a.now s r⟩
    | lst ds =>
      obtain ⟨b, xs, ev, _⟩ := s.slots i _ q
      exact ⟨_, ev, a.now s (show POut X.K G σ F ρ env H (.ref b) (.hdl i) from ev)⟩

/-! ### operators -/
theorem r_2 {f : D → D → Option Out} {ea eb : Ex} {σ : L2.St} {H : Hp} {Q : VK} {F G : Hp} {ρ : List Addr} {env : Env} {S : Store} (s : Sim X.K F ρ G env S σ H)
    (a : At X.K W EX G σ (POut X.K G σ) Q F ρ ((evO (callF Γ g w n) g ea env S).ar.bind fun x env S => (evO (callF Γ g w n) g eb env S).ar.bind fun y env S => ofO ((vw env S x).bind fun u => (vw env S y).bind fun v => f u v) env S)) :
    tOp (rV2 X.K W EX f) (tO Γ g w n EX W X ea) (tO Γ g w n EX W X eb) σ H Q := by
  refine ⟨F, ρ, G, env, S, s, At.ar (At.imp (At.bind (P1 := PAr X.K G σ) a) ?_)⟩
  intro x H1 ⟨ax, F1, ρ1, env1, S1, le1, pre1, sim1, rx, at1⟩
  refine ⟨F1, ρ1, G, env1, S1, sim1, At.ar (At.imp (At.bind (P1 := PAr X.K G σ) at1) ?_)⟩
  intro y H2 ⟨ay, F2, ρ2, env2, S2, le2, pre2, sim2, ry, at2⟩
  obtain ⟨out, eo, at3⟩ := At.ofO at2
  obtain ⟨u, eu, eo⟩ := bind_some eo
  obtain ⟨v, ev, eo⟩ := bind_some eo
  exact ⟨F2, ρ2, G, env2, S2, σ, u, v, sim2, (ArRep.mono rx le2 pre2).view sim2 eu, ArRep.view sim2 ry ev, out, eo, at3⟩
theorem r_c2 {f : D → D → Option Bool} {ea eb : Ex} {σ : L2.St} {H : Hp} {Q : VK} {F G : Hp} {ρ : List Addr} {env : Env} {S : Store} (s : Sim X.K F ρ G env S σ H)
    (a : At X.K W EX G σ (POut X.K G σ) Q F ρ ((evO (callF Γ g w n) g ea env S).ar.bind fun x env S => (evO (callF Γ g w n) g eb env S).ar.bind fun y env S => ofO ((vw env S x).bind fun u => (vw env S y).bind fun v => (f u v).map fun r => .val (.bl r)) env S)) :
    tOp (rC2 X.K f) (tO Γ g w n EX W X ea) (tO Γ g w n EX W X eb) σ H Q := by
  refine ⟨F, ρ, G, env, S, s, At.ar (At.imp (At.bind (P1 := PAr X.K G σ) a) ?_)⟩
  intro x H1 ⟨ax, F1, ρ1, env1, S1, le1, pre1, sim1, rx, at1⟩
  refine ⟨F1, ρ1, G, env1, S1, sim1, At.ar (At.imp (At.bind (P1 := PAr X.K G σ) at1) ?_)⟩
  intro y H2 ⟨ay, F2, ρ2, env2, S2, le2, pre2, sim2, ry, at2⟩
  obtain ⟨out, eo, at3⟩ := At.ofO at2
  obtain ⟨u, eu, eo⟩ := bind_some eo
  obtain ⟨v, ev, eo⟩ := bind_some eo
  obtain ⟨r, er, rfl⟩ := map_some eo
  exact ⟨F2, ρ2, G, env2, S2, σ, u, v, r, sim2, (ArRep.mono rx le2 pre2).view sim2 eu, ArRep.view sim2 ry ev, er, at3.now sim2 (show Rep X.K F2 ρ2 _ _ from .bl r)⟩
theorem units_of (f : XF Γ g w n EX m W X) : X.A.units + 65 < cLine := by have := f.room.un; omega
theorem s_bin (f : XF Γ g w n EX m W X) {o : BOp} {a b : Ex} {l r : Expr} {p : Pos} (ha : Snd Γ g w n EX W X a l) (hb : Snd Γ g w n EX W X b r) : PE X (.BinOp l (bopOf o) r p) (tO Γ g w n EX W X (.bin o a b)) :=
  PE.imp (pe_op (or_bin o) ha.pe hb.pe) fun σ H Q ⟨F, ρ, G, env, S, s, a⟩ => r_2 s a
theorem s_un {o : UOp} {a : Ex} {l : Expr} {p : Pos} (ha : Snd Γ g w n EX W X a l) : PE X (.UnaryOp .USub l p) (tO Γ g w n EX W X (.un o a)) := by
  refine PE.imp (pe_un (or_un (W := W) (EX := EX) o) ha.pe) fun σ H Q ⟨F, ρ, G, env, S, s, a⟩ => ?_
  refine ⟨F, ρ, G, env, S, s, At.ar (At.imp (At.bind (P1 := PAr X.K G σ) a) ?_)⟩
  intro x H1 ⟨ax, F1, ρ1, env1, S1, le1, pre1, sim1, rx, at1⟩
  obtain ⟨out, eo, at3⟩ := At.ofO at1
  obtain ⟨u, eu, eo⟩ := bind_some eo
  exact ⟨F1, ρ1, G, env1, S1, σ, u, sim1, ArRep.view sim1 rx eu, out, eo, at3⟩
theorem s_cmp (f : XF Γ g w n EX m W X) {o : COp} {a b : Ex} {l r : Expr} {p : Pos} (ha : Snd Γ g w n EX W X a l) (hb : Snd Γ g w n EX W X b r) (hs : isSet r = false) : Snd Γ g w n EX W X (.cmp o a b) (.Compare l [copOf o] [r] p) := by
  refine .nobool (PE.imp (pe_cmpR (or_cmp o (units_of f)) ha.pe hb.pe (behind_in hs)) fun σ H Q ⟨F, ρ, G, env, S, s, a⟩ => r_c2 s a)
    (PT.imp (pt_cmpR (or_cmp o (units_of f)) ha.pe hb.pe (behind_in hs)) fun σ H Q ⟨F, ρ, G, env, S, s, a⟩ => ?_) fun _ _ _ => nofun
  exact r_c2 s a.bl
theorem r_chain {o p : COp} {a b c : Ex} {σ : L2.St} {H : Hp} {Q : VK} {F G : Hp} {ρ : List Addr} {env : Env} {S : Store} (s : Sim X.K F ρ G env S σ H) (h : At X.K W EX G σ (POut X.K G σ) Q F ρ (evO (callF Γ g w n) g (.cmp2 o p a b c) env S)) :
    tChain (rC2 X.K (cmpF o)) (rC2 X.K (cmpF p)) (tO Γ g w n EX W X a) (tO Γ g w n EX W X b) (tO Γ g w n EX W X c) σ H Q := by
  refine ⟨F, ρ, G, env, S, s, At.ar (At.imp (At.bind (P1 := PAr X.K G σ) h) ?_)⟩
  intro x H1 ⟨ax, F1, ρ1, env1, S1, le1, pre1, sim1, rx, at1⟩
  refine ⟨F1, ρ1, G, env1, S1, sim1, At.ar (At.imp (At.bind (P1 := PAr X.K G σ) at1) ?_)⟩
  intro y H2 ⟨ay, F2, ρ2, env2, S2, le2, pre2, sim2, ry, at2⟩
  cases eo : ((vw env2 S2 ax).bind fun u => (vw env2 S2 ay).bind fun v => cmpF o u v) with
  | none => rw [eo] at at2; exact at2.elim
  | some r =>
    rw [eo] at at2
    obtain ⟨u, eu, eo⟩ := bind_some eo
    obtain ⟨v, ev, eo⟩ := bind_some eo
    refine ⟨F2, ρ2, G, env2, S2, σ, u, v, r, sim2, (ArRep.mono rx le2 pre2).view sim2 eu, ArRep.view sim2 ry ev, eo, r, rfl, ?_⟩
    cases r with
    | false => exact at2.now sim2 (show Rep X.K F2 ρ2 _ _ from .bl false)
    | true =>
      refine ⟨F2, ρ2, G, env2, S2, sim2, At.ar (At.imp (At.bind (P1 := PAr X.K G σ) (show At X.K W EX G σ (POut X.K G σ) Q F2 ρ2 ((evO (callF Γ g w n) g c env2 S2).ar.bind _) from at2)) ?_)⟩
      intro z H3 ⟨az, F3, ρ3, env3, S3, le3, pre3, sim3, rz, at3⟩
      obtain ⟨out, eo', at4⟩ := At.ofO at3
      obtain ⟨u', eu', eo'⟩ := bind_some eo'
      obtain ⟨v', ev', eo'⟩ := bind_some eo'
      obtain ⟨r', er, rfl⟩ := map_some eo'
      exact ⟨F3, ρ3, G, env3, S3, σ, u', v', r', sim3, (ArRep.mono ry le3 pre3).view sim3 eu', ArRep.view sim3 rz ev', er, at4.now sim3 (show Rep X.K F3 ρ3 _ _ from .bl r')⟩
theorem last2 {o o' : CmpOp} {b c : Expr} (hb : isSet c = false) : lastMarks [o, o'] [b, c] = false := behind_in hb
theorem s_cmp2 (f : XF Γ g w n EX m W X) {o q : COp} {a b c : Ex} {l r t : Expr} {p : Pos} (ha : Snd Γ g w n EX W X a l) (hb : Snd Γ g w n EX W X b r) (hc : Snd Γ g w n EX W X c t) (hs : isSet t = false) : Snd Γ g w n EX W X (.cmp2 o q a b c) (.Compare l [copOf o, copOf q] [r, t] p) := by
  refine .nobool (PE.imp (pe_chain (or_cmp o (units_of f)) (or_cmp q (units_of f)) ha.pe hb.pe hc.pe (last2 hs)) fun σ H Q ⟨F, ρ, G, env, S, s, a⟩ => r_chain s a)
    (PT.imp (pt_chain (or_cmp o (units_of f)) (or_cmp q (units_of f)) ha.pe hb.pe hc.pe (last2 hs)) fun σ H Q ⟨F, ρ, G, env, S, s, a⟩ => ?_) fun _ _ _ => nofun
  exact r_chain s a.bl

/-! ### and, or, not, if -/
theorem bl_bind {α : Type} (r : R α) (f : α → Env → Store → R Out) : (r.bind f).bl = r.bind fun a env S => (f a env S).bl := by cases r <;> rfl
theorem s_and {a b : Ex} {y z : Expr} {rest : List Expr} {p : Pos} (ha : Snd Γ g w n EX W X a y)
    (hb : PE X (.BoolOp .And (z :: rest) p) (tO Γ g w n EX W X b)) (hb2 : PW X (.BoolOp .And (z :: rest) p) (tBo Γ g w n EX W X b)) : Snd Γ g w n EX W X (.and a b) (.BoolOp .And (y :: z :: rest) p) := by
  have pw : PW X (.BoolOp .And (y :: z :: rest) p) (tBo Γ g w n EX W X (.and a b)) := by
    refine PW.imp (pw_and ha.pt hb2) fun σ H Q ⟨F, ρ, G, env, S, s, h⟩ => ?_
    have h : At X.K W EX G σ (PB G σ) Q F ρ ((evO (callF Γ g w n) g a env S).bl.bind fun r env S => (if r then evO (callF Γ g w n) g b env S else .ok (.val (.bl false)) env S).bl) := by rw [← bl_bind]; exact h
    refine ⟨F, ρ, G, env, S, s, At.imp (At.bind (P1 := PB G σ) h) ?_⟩
    rintro c H1 ⟨r, F1, ρ1, env1, S1, le1, pre1, sim1, e, at1⟩
    cases (show c = r from e)
    cases c with
    | true => exact ⟨F1, ρ1, G, env1, S1, sim1, at1⟩
    | false => exact at1.now sim1 (b := false) rfl
  refine ⟨PE.imp (pe_and ha.pe hb) fun σ H Q ⟨F, ρ, G, env, S, s, h⟩ => ?_, pw.pt, fun op vs q e => by cases e; exact pw⟩
  refine ⟨F, ρ, G, env, S, s, At.imp (At.bl (At.bind (P1 := PB G σ) h)) ?_⟩
  rintro v H1 ⟨c, rfl, r, F1, ρ1, env1, S1, le1, pre1, sim1, e, at1⟩
  cases (show c = r from e)
  refine ⟨c, rfl, ?_⟩
  cases c with
  | true => exact ⟨F1, ρ1, G, env1, S1, sim1, at1⟩
  | false => exact at1.now sim1 (show Rep X.K F1 ρ1 _ _ from .bl false)
theorem s_or {a b : Ex} {y z : Expr} {rest : List Expr} {p : Pos} (ha : Snd Γ g w n EX W X a y)
    (hb : PE X (.BoolOp .Or (z :: rest) p) (tO Γ g w n EX W X b)) (hb2 : PW X (.BoolOp .Or (z :: rest) p) (tBo Γ g w n EX W X b)) : Snd Γ g w n EX W X (.or a b) (.BoolOp .Or (y :: z :: rest) p) := by
  have pw : PW X (.BoolOp .Or (y :: z :: rest) p) (tBo Γ g w n EX W X (.or a b)) := by
    refine PW.imp (pw_or ha.pt hb2) fun σ H Q ⟨F, ρ, G, env, S, s, h⟩ => ?_
    have h : At X.K W EX G σ (PB G σ) Q F ρ ((evO (callF Γ g w n) g a env S).bl.bind fun r env S => (if r then .ok (.val (.bl true)) env S else evO (callF Γ g w n) g b env S).bl) := by rw [← bl_bind]; exact h
    refine ⟨F, ρ, G, env, S, s, At.imp (At.bind (P1 := PB G σ) h) ?_⟩
    rintro c H1 ⟨r, F1, ρ1, env1, S1, le1, pre1, sim1, e, at1⟩
    cases (show c = r from e)
    cases c with
    | false => exact ⟨F1, ρ1, G, env1, S1, sim1, at1⟩
    | true => exact at1.now sim1 (b := true) rfl
  refine ⟨PE.imp (pe_or ha.pe hb) fun σ H Q ⟨F, ρ, G, env, S, s, h⟩ => ?_, pw.pt, fun op vs q e => by cases e; exact pw⟩
  refine ⟨F, ρ, G, env, S, s, At.imp (At.bl (At.bind (P1 := PB G σ) h)) ?_⟩
  rintro v H1 ⟨c, rfl, r, F1, ρ1, env1, S1, le1, pre1, sim1, e, at1⟩
  cases (show c = r from e)
  refine ⟨c, rfl, ?_⟩
  cases c with
  | false => exact ⟨F1, ρ1, G, env1, S1, sim1, at1⟩
  | true => exact at1.now sim1 (show Rep X.K F1 ρ1 _ _ from .bl true)
theorem s_not {a : Ex} {y : Expr} {p : Pos} (ha : Snd Γ g w n EX W X a y) : Snd Γ g w n EX W X (.not a) (.UnaryOp .Not y p) := by
  refine .nobool (PE.imp (pe_not ha.pe) fun σ H Q ⟨F, ρ, G, env, S, s, h⟩ => ?_) (PT.imp (pt_not ha.pt) fun σ H Q ⟨F, ρ, G, env, S, s, h⟩ => ?_) fun _ _ _ => nofun
  · refine ⟨F, ρ, G, env, S, s, At.imp (At.bl (At.bind (P1 := PB G σ) h)) ?_⟩
    rintro v H1 ⟨c, rfl, r, F1, ρ1, env1, S1, le1, pre1, sim1, e, at1⟩
    cases (show c = r from e)
    exact ⟨c, rfl, at1.now sim1 (show Rep X.K F1 ρ1 _ _ from .bl _)⟩
  · have h : At X.K W EX G σ (PB G σ) Q F ρ ((evO (callF Γ g w n) g a env S).bl.bind fun r env S => (R.ok (.val (.bl (!r))) env S).bl) := by rw [← bl_bind]; exact h
    refine ⟨F, ρ, G, env, S, s, At.imp (At.bind (P1 := PB G σ) h) ?_⟩
    rintro c H1 ⟨r, F1, ρ1, env1, S1, le1, pre1, sim1, e, at1⟩
    cases (show c = r from e)
    exact at1.now sim1 (b := !c) rfl
theorem pt_ifExp {c a b : Expr} {tc ta tb : TT} {pos : Pos} (hc : PT X c tc) (ha : PT X a ta) (hb : PT X b tb) : PT X (.IfExp c a b pos) (fun σ H Q => tc σ H fun d H1 => if d = true then ta σ H1 Q else tb σ H1 Q) := by
  refine ⟨fun pins s σ H Q I h => ?_⟩
  have e : isTrue (.IfExp c a b pos) X.env (eval (.IfExp c a b pos) X.env) = (do if ← isTrue c X.env (eval c X.env) then isTrue a X.env (eval a X.env) else isTrue b X.env (eval b X.env)) := rfl
  rw [e]
  refine wpAny_bind (thn (hc.run pins s σ H _ I h) fun d s1 ⟨H1, I1, q1⟩ => ?_)
  cases d with
  | true => exact ha.run pins s1 σ H1 Q I1 q1
  | false => exact hb.run pins s1 σ H1 Q I1 q1
theorem s_ite {c a b : Ex} {x y z : Expr} {p : Pos} (hc : Snd Γ g w n EX W X c x) (ha : Snd Γ g w n EX W X a y) (hb : Snd Γ g w n EX W X b z) : Snd Γ g w n EX W X (.ite c a b) (.IfExp x y z p) := by
  refine .nobool (PE.imp (pe_ifExp hc.pt ha.pe hb.pe) fun σ H Q ⟨F, ρ, G, env, S, s, h⟩ => ?_) (PT.imp (pt_ifExp hc.pt ha.pt hb.pt) fun σ H Q ⟨F, ρ, G, env, S, s, h⟩ => ?_) fun _ _ _ => nofun
  · refine ⟨F, ρ, G, env, S, s, At.imp (At.bind (P1 := PB G σ) h) ?_⟩
    rintro d H1 ⟨r, F1, ρ1, env1, S1, le1, pre1, sim1, e, at1⟩
    cases (show d = r from e)
    cases d with
    | true => exact ⟨F1, ρ1, G, env1, S1, sim1, at1⟩
    | false => exact ⟨F1, ρ1, G, env1, S1, sim1, at1⟩
  · have h : At X.K W EX G σ (PB G σ) Q F ρ ((evO (callF Γ g w n) g c env S).bl.bind fun r env S => (if r then evO (callF Γ g w n) g a env S else evO (callF Γ g w n) g b env S).bl) := by rw [← bl_bind]; exact h
    refine ⟨F, ρ, G, env, S, s, At.imp (At.bind (P1 := PB G σ) h) ?_⟩
    rintro d H1 ⟨r, F1, ρ1, env1, S1, le1, pre1, sim1, e, at1⟩
    cases (show d = r from e)
    cases d with
    | true => exact ⟨F1, ρ1, G, env1, S1, sim1, at1⟩
    | false => exact ⟨F1, ρ1, G, env1, S1, sim1, at1⟩

/-! ### lists of expressions -/
theorem a_nil : PA X [] (tAs Γ g w n EX W X []) ∧ PA X [] (tDs Γ g w n EX W X []) := by
  constructor
  · refine PA.imp pa_nil fun σ H Q ⟨F, ρ, G, env, S, s, h⟩ => ?_
    have h : At X.K W EX G σ (PArs X.K G σ) Q F ρ (.ok [] env S) := h
    exact h.now s ArReps.nil
  · refine PA.imp pa_nil fun σ H Q ⟨F, ρ, G, env, S, s, h⟩ => ?_
    have h : At X.K W EX G σ (PDs X.K G σ) Q F ρ (.ok [] env S) := h
    exact h.now s Reps.nil
theorem a_cons {e : Ex} {es : List Ex} {x : Expr} {xs : List Expr} (hx : isStar x = false) (h1 : Snd Γ g w n EX W X e x) (h2 : PA X xs (tAs Γ g w n EX W X es) ∧ PA X xs (tDs Γ g w n EX W X es)) :
    PA X (x :: xs) (tAs Γ g w n EX W X (e :: es)) ∧ PA X (x :: xs) (tDs Γ g w n EX W X (e :: es)) := by
  constructor
  · refine PA.imp (pa_cons h1.pe h2.1 (star_cons hx)) fun σ H Q ⟨F, ρ, G, env, S, s, h⟩ => ?_
    refine ⟨F, ρ, G, env, S, s, At.ar (At.imp (At.bind (P1 := PAr X.K G σ) h) ?_)⟩
    intro v H1 ⟨a, F1, ρ1, env1, S1, le1, pre1, sim1, ra, at1⟩
    refine ⟨F1, ρ1, G, env1, S1, sim1, At.imp (At.bind (P1 := PArs X.K G σ) at1) ?_⟩
    intro vs H2 ⟨as, F2, ρ2, env2, S2, le2, pre2, sim2, ras, at2⟩
    exact at2.now sim2 (ArReps.cons (ArRep.mono ra le2 pre2) ras)
  · refine PA.imp (pa_cons h1.pe h2.2 (star_cons hx)) fun σ H Q ⟨F, ρ, G, env, S, s, h⟩ => ?_
    refine ⟨F, ρ, G, env, S, s, At.fz (At.imp (At.bind (P1 := PD X.K G σ) h) ?_)⟩
    intro v H1 ⟨a, F1, ρ1, env1, S1, le1, pre1, sim1, ra, at1⟩
    refine ⟨F1, ρ1, G, env1, S1, sim1, At.imp (At.bind (P1 := PDs X.K G σ) at1) ?_⟩
    intro vs H2 ⟨as, F2, ρ2, env2, S2, le2, pre2, sim2, ras, at2⟩
    exact at2.now sim2 (Reps.cons (Rep.mono le2 pre2 ra) ras)
theorem k_nil : PK X [] (tDs Γ g w n EX W X []) := by
  refine PK.imp pk_nil fun σ H Q ⟨F, ρ, G, env, S, s, h⟩ => ?_
  have h : At X.K W EX G σ (PDs X.K G σ) Q F ρ (.ok [] env S) := h
  exact h.now s Reps.nil
theorem k_cons {e : Ex} {es : List Ex} {nm : Option Str} {x : Expr} {kp : Pos} {xs : List Keyword} (h1 : Snd Γ g w n EX W X e x) (h2 : PK X xs (tDs Γ g w n EX W X es)) : PK X (⟨nm, x, kp⟩ :: xs) (tDs Γ g w n EX W X (e :: es)) := by
  refine PK.imp (pk_cons h1.pe h2) fun σ H Q ⟨F, ρ, G, env, S, s, h⟩ => ?_
  refine ⟨F, ρ, G, env, S, s, At.fz (At.imp (At.bind (P1 := PD X.K G σ) h) ?_)⟩
  intro v H1 ⟨a, F1, ρ1, env1, S1, le1, pre1, sim1, ra, at1⟩
  refine ⟨F1, ρ1, G, env1, S1, sim1, At.imp (At.bind (P1 := PDs X.K G σ) at1) ?_⟩
  intro vs H2 ⟨as, F2, ρ2, env2, S2, le2, pre2, sim2, ras, at2⟩
  exact at2.now sim2 (Reps.cons (Rep.mono le2 pre2 ra) ras)
theorem p_none : PO X none (tR X.K W EX (fun _ _ _ _ _ _ b a => b = a) (evP (callF Γ g w n) g none)) := by
  refine PO.imp po_none fun σ H Q ⟨F, ρ, G, env, S, s, h⟩ => ?_
  have h : At X.K W EX G σ (fun _ _ _ _ b a => b = a) Q F ρ (.ok none env S) := h
  exact h.now s (b := none) rfl
theorem p_some {e : Ex} {x : Expr} (h1 : Snd Γ g w n EX W X e x) : PO X (some x) (tR X.K W EX (fun _ _ _ _ _ _ b a => b = a) (evP (callF Γ g w n) g (some e))) := by
  refine PO.imp (po_some h1.pe) fun σ H Q ⟨F, ρ, G, env, S, s, h⟩ => ?_
  refine ⟨F, ρ, G, env, S, s, At.fz (At.imp (At.bind (P1 := PD X.K G σ) h) ?_)⟩
  intro v H1 ⟨a, F1, ρ1, env1, S1, le1, pre1, sim1, ra, at1⟩
  obtain ⟨o, eo, at2⟩ := At.ofO at1
  obtain ⟨i, ei, rfl⟩ := map_some eo
  have ra : Rep X.K F1 ρ1 v a := ra
  cases a with
  | int j => cases ei; cases ra; exact ⟨i, rfl, at2.now sim1 (b := some i) rfl⟩
  | _ => cases ei
theorem evDs_len : ∀ (es : List Ex) (env : Env) (S : Store) {ds : List D} {env' : Env} {S' : Store}, evDs (callF Γ g w n) g es env S = .ok ds env' S' → ds.length = es.length
  | [], env, S, ds, env', S', e => by cases e; rfl
  | e :: es, env, S, ds, env', S', q => by
    have q : ((evO (callF Γ g w n) g e env S).fz.bind fun d env S => (evDs (callF Γ g w n) g es env S).bind fun ds env S => .ok (d :: ds) env S) = .ok ds env' S' := q
    cases z : (evO (callF Γ g w n) g e env S).fz with
    | exc _ _ _ => rw [z] at q; cases q
    | bad => rw [z] at q; cases q
    | ok d env1 S1 =>
      rw [z] at q
      have q : ((evDs (callF Γ g w n) g es env1 S1).bind fun ds env S => .ok (d :: ds) env S) = .ok ds env' S' := q
      cases z2 : evDs (callF Γ g w n) g es env1 S1 with
      | exc _ _ _ => rw [z2] at q; cases q
      | bad => rw [z2] at q; cases q
      | ok ds1 env2 S2 =>
        rw [z2] at q
        cases q
        rw [List.length_cons, List.length_cons, evDs_len es env1 S1 z2]
/-- the items of a display -/
theorem r_disp {es : List Ex} {f : List D → Out} {σ : L2.St} {H : Hp} {Q : VK} {F G : Hp} {ρ : List Addr} {env : Env} {S : Store} (s : Sim X.K F ρ G env S σ H) (hl : es.length < 1000)
    (a : At X.K W EX G σ (POut X.K G σ) Q F ρ ((evDs (callF Γ g w n) g es env S).bind fun ds env S => .ok (f ds) env S)) :
    tDs Γ g w n EX W X es σ H fun vs H1 => vs.length ≤ 16777216 ∧ ∃ ds F1 ρ1 env1 S1, Sim X.K F1 ρ1 G env1 S1 σ H1 ∧ Reps X.K F1 ρ1 vs ds ∧ At X.K W EX G σ (POut X.K G σ) Q F1 ρ1 (.ok (f ds) env1 S1) := by
  refine ⟨F, ρ, G, env, S, s, ?_⟩
  cases z : evDs (callF Γ g w n) g es env S with
  | exc _ _ _ => rw [z] at a; exact a
  | bad => rw [z] at a; exact a
  | ok ds env1 S1 =>
    rw [z] at a
    intro F1 ρ1 H1 vs le1 pre1 sim1 r
    have hd := evDs_len es env S z
    have hv : vs.length ≤ 16777216 := by rw [Reps.length r, hd]; omega
    have a : At X.K W EX G σ (POut X.K G σ) Q F ρ (.ok (f ds) env1 S1) := a
    exact ⟨hv, ds, F1, ρ1, env1, S1, sim1, r, a.mono le1 pre1⟩
theorem tR_imp {β α : Type} {K : PySem.W.Frag} {P : Hp → L2.St → Post β α} {r : Env → Store → R α} {σ : L2.St} {H : Hp} {Q Q' : β → Hp → Prop} (h : tR K W EX P r σ H Q) (hi : ∀ b H, Q b H → Q' b H) : tR K W EX P r σ H Q' := by
  obtain ⟨F, ρ, G, env, S, s, a⟩ := h
  exact ⟨F, ρ, G, env, S, s, a.imp hi⟩
theorem s_lst {es : List Ex} {xs : List Expr} {p : Pos} (h : PA X xs (tDs Γ g w n EX W X es)) (hl : es.length < 1000) : PE X (.List xs p) (tO Γ g w n EX W X (.lst es)) := by
  refine PE.imp (pe_lst h) fun σ H Q ⟨F, ρ, G, env, S, s, a⟩ => ?_
  refine tR_imp (r_disp (f := fun ds => .new (.lst ds)) s hl a) ?_
  rintro vs H1 ⟨hv, ds, F1, ρ1, env1, S1, sim1, r, a1⟩
  exact ⟨by rw [size24]; exact hv, fun p hp => a1.lst sim1 r hv hp⟩
theorem s_tup {es : List Ex} {xs : List Expr} {k : Nat} {p : Pos} (h : PA X xs (tDs Γ g w n EX W X es)) (hl : es.length < 1000) : PE X (.Tuple xs k p) (tO Γ g w n EX W X (.tup es)) := by
  refine PE.imp (pe_tup h) fun σ H Q ⟨F, ρ, G, env, S, s, a⟩ => ?_
  refine tR_imp (r_disp (f := fun ds => .val (.tup ds)) s hl a) ?_
  rintro vs H1 ⟨hv, ds, F1, ρ1, env1, S1, sim1, r, a1⟩
  exact ⟨by rw [size24]; exact hv, fun p hp => a1.tup sim1 r hv hp⟩

/-! ### subscripts -/
theorem s_idx {a b : Ex} {l r : Expr} {p : Pos} (ha : Snd Γ g w n EX W X a l) (hb : Snd Γ g w n EX W X b r) (hs : isSlice r = false) : PE X (.Subscript l r p) (tO Γ g w n EX W X (.idx a b)) :=
  PE.imp (pe_ix ix_ok ha.pe hb.pe (plain_ix hs)) fun σ H Q ⟨F, ρ, G, env, S, s, a⟩ => r_2 (f := fun u v => (idxF u v).map .val) s a
theorem s_slc {a : Ex} {lo hi : Option Ex} {l : Expr} {u v : Option Expr} {p p2 : Pos} (ha : Snd Γ g w n EX W X a l) (hl : PO X u (tR X.K W EX (fun _ _ _ _ _ _ b a => b = a) (evP (callF Γ g w n) g lo))) (hh : PO X v (tR X.K W EX (fun _ _ _ _ _ _ b a => b = a) (evP (callF Γ g w n) g hi))) :
    PE X (.Subscript l (.Slice u v none p2) p) (tO Γ g w n EX W X (.slc a lo hi)) := by
  refine PE.imp (pe_slice (sl_ok (W := W) (EX := EX)) ha.pe hl hh) fun σ H Q ⟨F, ρ, G, env, S, s, h⟩ => ?_
  refine ⟨F, ρ, G, env, S, s, At.ar (At.imp (At.bind (P1 := PAr X.K G σ) h) ?_)⟩
  intro x H1 ⟨ax, F1, ρ1, env1, S1, le1, pre1, sim1, rx, at1⟩
  refine ⟨F1, ρ1, G, env1, S1, sim1, At.imp (At.bind (P1 := fun _ _ _ _ b a => b = a) at1) ?_⟩
  rintro l1 H2 ⟨l2, F2, ρ2, env2, S2, le2, pre2, sim2, e2, at2⟩
  cases (show l1 = l2 from e2)
  refine ⟨F2, ρ2, G, env2, S2, sim2, At.imp (At.bind (P1 := fun _ _ _ _ b a => b = a) at2) ?_⟩
  rintro h1 H3 ⟨h2, F3, ρ3, env3, S3, le3, pre3, sim3, e3, at3⟩
  cases (show h1 = h2 from e3)
  obtain ⟨out, eo, at4⟩ := At.ofO at3
  obtain ⟨u, eu, eo⟩ := bind_some eo
  exact ⟨F3, ρ3, G, env3, S3, σ, u, sim3, (ArRep.mono rx (le2.trans le3) (prefix_trans pre2 pre3)).view sim3 eu, out, eo, at4⟩

/-! ### built-ins, methods -/
theorem views {F G H : Hp} {ρ : List Addr} {σ : L2.St} {env : Env} {S : Store} (s : Sim X.K F ρ G env S σ H) : ∀ {xs : List V} {as : List Ar} {ds : List D}, ArReps X.K F ρ σ xs as → vws env S as = some ds → VReps X.K F ρ H xs ds
  | _, _, _, .nil, e => by cases e; exact .nil
  | _, _, ds, .cons (a := a) (as := as) h t, e => by
    unfold vws at e
    split at e
    · rename_i d ds' e1 e2
      cases e
      exact .cons (h.view s e1) (views s t e2)
    · cases e
theorem s_bf (f : XF Γ g w n EX m W X) {b : Bf} {as : List Ex} {z : Str} {x : Expr} {xs : List Expr} {p pp : Pos} (hz : z = Str.ofString (bfOf b).name) (hg : glB m.sc z = true) (hn : noStars (x :: xs) = true) (h : PA X (x :: xs) (tAs Γ g w n EX W X as)) :
    PE X (.Call (.Name z pp) (x :: xs) [] p) (tO Γ g w n EX W X (.bf b as)) := by
  have hx : isStar x = false := by unfold noStars at hn; rw [List.all_cons, Bool.and_eq_true] at hn; simpa using hn.1
  have hxs : noStars xs = true := by unfold noStars at hn ⊢; rw [List.all_cons, Bool.and_eq_true] at hn; exact hn.2
  have key : ∀ σ H Q, tO Γ g w n EX W X (.bf b as) σ H Q → tCB (rVs X.K W EX (bfF b)) (tAs Γ g w n EX W X as) σ H Q := fun σ H Q ⟨F, ρ, G, env, S, s, h⟩ => by
    refine ⟨F, ρ, G, env, S, s, At.imp (At.bind (P1 := PArs X.K G σ) h) ?_⟩
    intro vs H1 ⟨ax, F1, ρ1, env1, S1, le1, pre1, sim1, rx, at1⟩
    obtain ⟨out, eo, at2⟩ := At.ofO at1
    obtain ⟨ds, eu, eo⟩ := bind_some eo
    exact ⟨F1, ρ1, G, env1, S1, σ, ds, sim1, views sim1 rx eu, out, eo, at2⟩
  have gl := gl_of f hg
  subst hz
  have cr := cr_bf (W := W) (EX := EX) f.calm b
  cases b with
  | len => exact PE.imp (pe_callB cr gl (f.blt "len" (by decide)) (by decide +kernel) h (he := star_cons hx) (hpl := back_any hxs)) key
  | list => exact PE.imp (pe_callTy cr gl (f.blt "list" (by decide)) (by decide +kernel) h (he := star_cons hx) (hpl := back_any hxs)) key
  | tuple => exact PE.imp (pe_callTy cr gl (f.blt "tuple" (by decide)) (by decide +kernel) h (he := star_cons hx) (hpl := back_any hxs)) key
  | int => exact PE.imp (pe_callTy cr gl (f.blt "int" (by decide)) (by decide +kernel) h (he := star_cons hx) (hpl := back_any hxs)) key
  | str => exact PE.imp (pe_callTy cr gl (f.blt "str" (by decide)) (by decide +kernel) h (he := star_cons hx) (hpl := back_any hxs)) key
  | all => exact PE.imp (pe_callB cr gl (f.blt "all" (by decide)) (by decide +kernel) h (he := star_cons hx) (hpl := back_any hxs)) key
  | any => exact PE.imp (pe_callB cr gl (f.blt "any" (by decide)) (by decide +kernel) h (he := star_cons hx) (hpl := back_any hxs)) key
  | sum => exact PE.imp (pe_callB cr gl (f.blt "sum" (by decide)) (by decide +kernel) h (he := star_cons hx) (hpl := back_any hxs)) key
end
end Pf
/-! Pf, part H: methods, changes, isinstance, calls. -/
namespace Pf
open PySem PySem.Spec PyProof.Rows L2
section
variable {Γ : Prog} {g : Glos} {w n : Nat} {EX : EXT} {m : MC} {W : WX} {X : Cx}
theorem noStars_cons {x : Expr} {xs : List Expr} (hn : noStars (x :: xs) = true) : isStar x = false ∧ noStars xs = true := by
  unfold noStars at hn ⊢; rw [List.all_cons, Bool.and_eq_true] at hn; exact ⟨by simpa using hn.1, hn.2⟩
theorem few {x : Expr} {xs : List Expr} {env : PySem.Env} {p : Pos} (hn : noStars (x :: xs) = true) (hl : (x :: xs).length < 29) :
    ((backTo p (starEach (x :: xs) env)).all (fun x => !x.1) && (backToKw p (keywordEach [] env)).all (fun x => x.1.isSome) && decide ((x :: xs).length + ([] : List Keyword).length + (if ([] : List Keyword).isEmpty then 0 else 1) < 30)) = true := by
  rw [back_all hn]
  have e : (backToKw p (keywordEach [] env)).all (fun x => x.1.isSome) = true := rfl
  rw [e]
  have e2 : ((x :: xs).length + ([] : List Keyword).length + (if ([] : List Keyword).isEmpty then 0 else 1) < 30) := by
    show (x :: xs).length + 0 + 0 < 30
    omega
  rw [decide_eq_true e2]; rfl
theorem s_mth {b : Mt} {r : Ex} {as : List Ex} {o : Expr} {z : Str} {x : Expr} {xs : List Expr} {ap cp : Pos} (hz : z = Str.ofString (mtOf b).2.1) (ho : Snd Γ g w n EX W X r o) (hn : noStars (x :: xs) = true) (h : PA X (x :: xs) (tAs Γ g w n EX W X as))
    (hc : isCall0 o = false) (hl : (ap.endLine == cp.line) = true) (hf : (x :: xs).length < 29) : PE X (.Call (.Attribute o z ap) (x :: xs) [] cp) (tO Γ g w n EX W X (.mth b r as)) := by
  obtain ⟨h1, h2⟩ := noStars_cons hn
  have key : ∀ σ H Q, tO Γ g w n EX W X (.mth b r as) σ H Q → tBM X.K (mtOf b).1 (rVm X.K W EX (mtF b)) (tO Γ g w n EX W X r) (tAs Γ g w n EX W X as) σ H Q := fun σ H Q ⟨F, ρ, G, env, S, s, h⟩ => by
    refine ⟨F, ρ, G, env, S, s, At.ar (At.imp (At.bind (P1 := PAr X.K G σ) h) ?_)⟩
    intro v H1 ⟨a, F1, ρ1, env1, S1, le1, pre1, sim1, rv, at1⟩
    cases hr : mtRecv b (vw env1 S1 a) with
    | false => rw [hr] at at1; exact at1.elim
    | true =>
      rw [hr] at at1
      refine ⟨?_, F1, ρ1, G, env1, S1, sim1, At.imp (At.bind (P1 := PArs X.K G σ) (show At X.K W EX G σ (POut X.K G σ) Q F1 ρ1 ((evAs (callF Γ g w n) g as env1 S1).bind _) from at1)) ?_⟩
      · cases b with
        | join =>
          cases hv : vw env1 S1 a with
          | none => rw [hv] at hr; cases hr
          | some d =>
            rw [hv] at hr
            cases d with
            | str t =>
              obtain ⟨rfl, _⟩ := (ArRep.view sim1 rv hv).str
              rfl
            | _ => cases hr
      · intro vs H2 ⟨ax, F2, ρ2, env2, S2, le2, pre2, sim2, rx, at2⟩
        obtain ⟨out, eo, at3⟩ := At.ofO at2
        obtain ⟨u, eu, eo⟩ := bind_some eo
        obtain ⟨ds, ed, eo⟩ := bind_some eo
        exact ⟨F2, ρ2, G, env2, S2, σ, u, ds, sim2, (ArRep.mono rv le2 pre2).view sim2 eu, views sim2 rx ed, out, eo, at3⟩
  subst hz
  have mr := mt_ok (X := X) (W := W) (EX := EX) b
  cases b with
  | join => exact PE.imp (pe_bm PySem.F.plainAttrs_str PySem.F.slot_str_join PySem.F.type_str_join mr ho.pe h (attr_base hc) (few hn hf) hl (star_cons h1) (back_any h2)) key
theorem cell_ty {F G H : Hp} {ρ : List Addr} {σ : L2.St} {env : Env} {S : Store} {v : V} {a : Ar} (s : Sim X.K F ρ G env S σ H) (rv : ArRep X.K F ρ σ v a) (h : isLst (cellAt env S a) = true) : tyV X.K "list" v H := by
  cases e : cellAt env S a with
  | none => rw [e] at h; cases h
  | some c =>
    rw [e] at h
    cases c with
    | lst ds =>
      obtain ⟨p, xs, rfl, h1, _⟩ := cell_at s rv e
      exact .inl ⟨rfl, xs, SqL.of h1⟩
    | dic _ => cases h
    | dead => cases h
theorem s_mut {b : Mu} {r : Ex} {as : List Ex} {o : Expr} {z : Str} {xs : List Expr} {ap cp : Pos} (hz : z = Str.ofString (muOf b).2.1) (ho : Snd Γ g w n EX W X r o) (hn : noStars xs = true) (h : PA X xs (tDs Γ g w n EX W X as)) (hlen : as.length = xs.length)
    (hc : isCall0 o = false) (hl : (ap.endLine == cp.line) = true) (hf : xs.length < 29) : PE X (.Call (.Attribute o z ap) xs [] cp) (tO Γ g w n EX W X (.mut b r as)) := by
  have key : ∀ σ H Q, tO Γ g w n EX W X (.mut b r as) σ H Q → tO Γ g w n EX W X r σ H fun v H1 => tyV X.K "list" v H1 ∧ tDs Γ g w n EX W X as σ H1 fun vs H2 => rMu X.K W EX b v vs H2 Q := fun σ H Q ⟨F, ρ, G, env, S, s, h⟩ => by
    refine ⟨F, ρ, G, env, S, s, At.ar (At.imp (At.bind (P1 := PAr X.K G σ) h) ?_)⟩
    intro v H1 ⟨a, F1, ρ1, env1, S1, le1, pre1, sim1, rv, at1⟩
    cases hr : isLst (cellAt env1 S1 a) with
    | false => rw [hr] at at1; exact at1.elim
    | true =>
      rw [hr] at at1
      refine ⟨cell_ty sim1 rv hr, F1, ρ1, G, env1, S1, sim1, At.imp (At.bind (P1 := PDs X.K G σ) (show At X.K W EX G σ (POut X.K G σ) Q F1 ρ1 ((evDs (callF Γ g w n) g as env1 S1).bind _) from at1)) ?_⟩
      intro vs H2 ⟨ds, F2, ρ2, env2, S2, le2, pre2, sim2, rx, at2⟩
      cases e : (cellAt env2 S2 a).bind fun c => muF b c ds with
      | none => rw [e] at at2; exact at2.elim
      | some cd =>
        rw [e] at at2
        obtain ⟨c', d⟩ := cd
        obtain ⟨c, ec, em⟩ := bind_some e
        exact ⟨F2, ρ2, G, env2, S2, σ, a, ds, c, c', d, sim2, ArRep.mono rv le2 pre2, rx, ec, em, at2⟩
  subst hz
  have mr := mu_ok (X := X) (W := W) (EX := EX) b
  cases xs with
  | nil =>
    have e : as = [] := by cases as with
      | nil => rfl
      | cons _ _ => cases hlen
    subst e
    have key0 : ∀ σ H Q, tO Γ g w n EX W X (.mut b r []) σ H Q → tBM0 X.K "list" (rMu X.K W EX b) (tO Γ g w n EX W X r) σ H Q := fun σ H Q q => by
      refine tR_imp (key σ H Q q) ?_
      rintro v H1 ⟨t, F1, ρ1, G1, env1, S1, sim1, a1⟩
      have a1 : At X.K W EX G1 σ (PDs X.K G1 σ) _ F1 ρ1 (.ok [] env1 S1) := a1
      exact ⟨t, a1.now sim1 Reps.nil⟩
    cases b with
    | append => exact PE.imp (pe_bm0 PySem.F.plainAttrs_list PySem.F.slot_list_append PySem.F.type_list_append mr ho.pe (attr_base hc) hl) key0
    | pop0 => exact PE.imp (pe_bm0 PySem.F.plainAttrs_list PySem.F.slot_list_pop PySem.F.type_list_pop mr ho.pe (attr_base hc) hl) key0
    | popAt => exact PE.imp (pe_bm0 PySem.F.plainAttrs_list PySem.F.slot_list_pop PySem.F.type_list_pop mr ho.pe (attr_base hc) hl) key0
    | extend => exact PE.imp (pe_bm0 PySem.F.plainAttrs_list PySem.F.slot_list_extend PySem.F.type_list_extend mr ho.pe (attr_base hc) hl) key0
  | cons x xs =>
    obtain ⟨h1, h2⟩ := noStars_cons hn
    cases b with
    | append => exact PE.imp (pe_bm PySem.F.plainAttrs_list PySem.F.slot_list_append PySem.F.type_list_append mr ho.pe h (attr_base hc) (few hn hf) hl (star_cons h1) (back_any h2)) key
    | pop0 => exact PE.imp (pe_bm PySem.F.plainAttrs_list PySem.F.slot_list_pop PySem.F.type_list_pop mr ho.pe h (attr_base hc) (few hn hf) hl (star_cons h1) (back_any h2)) key
    | popAt => exact PE.imp (pe_bm PySem.F.plainAttrs_list PySem.F.slot_list_pop PySem.F.type_list_pop mr ho.pe h (attr_base hc) (few hn hf) hl (star_cons h1) (back_any h2)) key
    | extend => exact PE.imp (pe_bm PySem.F.plainAttrs_list PySem.F.slot_list_extend PySem.F.type_list_extend mr ho.pe h (attr_base hc) (few hn hf) hl (star_cons h1) (back_any h2)) key

/-! ### isinstance -/
theorem ty_pe (f : XF Γ g w n EX m W X) {t : Ty} {x : Expr} (h : mTy m t x = true) : PE X x (tC (.ty (tyN t))) ∧ isStar x = false := by
  cases x with
  | Name z p =>
    have h : (decide (z = Str.ofString (tyN t)) && glB m.sc z) = true := h
    rw [Bool.and_eq_true] at h
    have e := of_decide_eq_true h.1
    have gl := gl_of f h.2
    subst e
    refine ⟨?_, rfl⟩
    cases t with
    | int => exact pe_bltn gl (f.blt "int" (by decide)) (by decide +kernel) rfl
    | bool => exact pe_bltn gl (f.blt "bool" (by decide)) (by decide +kernel) rfl
    | str => exact pe_bltn gl (f.blt "str" (by decide)) (by decide +kernel) rfl
    | list => exact pe_bltn gl (f.blt "list" (by decide)) (by decide +kernel) rfl
    | tuple => exact pe_bltn gl (f.blt "tuple" (by decide)) (by decide +kernel) rfl
    | dict => exact pe_bltn gl (f.blt "dict" (by decide)) (by decide +kernel) rfl
  | _ => cases h
def tTys : List Ty → TA
  | [] => tNil
  | t :: ts => tCons (tC (.ty (tyN t))) (tTys ts)
theorem tys_pa (f : XF Γ g w n EX m W X) : ∀ {ts : List Ty} {xs : List Expr}, mTys m ts xs = true → PA X xs (tTys ts) ∧ noStars xs = true ∧ ts.length = xs.length
  | [], [], _ => ⟨pa_nil, rfl, rfl⟩
  | [], _ :: _, h => by cases h
  | _ :: _, [], h => by cases h
  | t :: ts, x :: xs, h => by
    have h : (mTy m t x && mTys m ts xs) = true := h
    rw [Bool.and_eq_true] at h
    obtain ⟨h1, h2⟩ := ty_pe f h.1
    obtain ⟨h3, h4, h5⟩ := tys_pa f h.2
    refine ⟨pa_cons h1 h3 (star_cons h2), ?_, by rw [List.length_cons, List.length_cons, h5]⟩
    unfold noStars at h4 ⊢
    rw [List.all_cons, h2, h4]; rfl
theorem tTys_run : ∀ {ts : List Ty} {σ : L2.St} {H : Hp} {Q : List V → Hp → Prop}, Q (ts.map fun t => .ty (tyN t)) H → tTys ts σ H Q
  | [], _, _, _, h => h
  | _ :: ts, _, _, _, h => tTys_run (ts := ts) h
theorem clsVs : ∀ ts : List Ty, Paired ClsV (ts.map fun t => V.ty (tyN t)) (ts.map fun t => Value.type (tyN t))
  | [] => .nil
  | t :: ts => .cons (.ty _) (clsVs ts)
theorem isTy_noDic {d : D} {t : Ty} {F : Hp} {ρ : List Addr} {H : Hp} {v : V} {b : Bool} (r : VRep X.K F ρ H v d) (e : isTy d t = some b) : ∃ s, dTy d = some s := by
  cases d with
  | scr _ => cases e
  | loc _ => cases e
  | fn _ => cases e
  | _ => exact ⟨_, rfl⟩
theorem isAny_one {d : D} {t : Ty} {b : Bool} (h : isAny d [t] = some b) : isTy d t = some b := by
  unfold isAny at h
  split at h
  · rename_i e; cases h; exact e
  · rename_i e; cases h; exact e
  · cases h
theorem isAny_ty {d : D} {ts : List Ty} {b : Bool} (h : isAny d ts = some b) (hne : ts ≠ []) : ∃ t b', isTy d t = some b' := by
  cases ts with
  | nil => exact absurd rfl hne
  | cons t ts =>
    unfold isAny at h
    split at h
    · exact ⟨t, _, by assumption⟩
    · exact ⟨t, _, by assumption⟩
    · cases h
theorem s_isi1 (f : XF Γ g w n EX m W X) {a : Ex} {t : Ty} {l r : Expr} {z : Str} {p pp : Pos} (hz : z = Str.ofString "isinstance") (hg : glB m.sc z = true) (ha : Snd Γ g w n EX W X a l) (hl : isStar l = false) (hr : mTy m t r = true) :
    PE X (.Call (.Name z pp) [l, r] [] p) (tO Γ g w n EX W X (.isi a [t] true)) := by
  obtain ⟨h1, h2⟩ := ty_pe f hr
  have gl := gl_of f hg
  subst hz
  refine PE.imp (pe_callB call_isi gl (f.blt "isinstance" (by decide)) (by decide +kernel) (pa_cons ha.pe (pa_cons h1 pa_nil (star_cons h2)) (star_cons hl)) (he := star_cons hl) (hpl := back_any (by unfold noStars; rw [List.all_cons, h2]; rfl))) fun σ H Q ⟨F, ρ, G, env, S, s, h⟩ => ?_
  refine ⟨F, ρ, G, env, S, s, At.ar (At.imp (At.bind (P1 := PAr X.K G σ) h) ?_)⟩
  intro v H1 ⟨x, F1, ρ1, env1, S1, le1, pre1, sim1, rv, at1⟩
  obtain ⟨out, eo, at2⟩ := At.ofO at1
  obtain ⟨d, ed, eo⟩ := bind_some eo
  obtain ⟨b, eb, rfl⟩ := map_some eo
  have hv := ArRep.view sim1 rv ed
  have e1 := isAny_one eb
  obtain ⟨s, es⟩ := isTy_noDic hv e1
  exact ⟨v, .ty (tyN t), .type s, .type (tyN t), b, rfl, .ty _, hv.ty sim1.fh es, kit_ty (isTy_kit es e1), at2.now sim1 (show Rep X.K F1 ρ1 _ _ from .bl b)⟩
theorem s_isi (f : XF Γ g w n EX m W X) {a : Ex} {ts : List Ty} {l : Expr} {rs : List Expr} {z : Str} {k : Nat} {p pp tp : Pos} (hz : z = Str.ofString "isinstance") (hg : glB m.sc z = true) (ha : Snd Γ g w n EX W X a l) (hl : isStar l = false) (hr : mTys m ts rs = true) (hne : ts ≠ []) (hlen : rs.length < 100) :
    PE X (.Call (.Name z pp) [l, .Tuple rs k tp] [] p) (tO Γ g w n EX W X (.isi a ts false)) := by
  obtain ⟨h1, h2, h3⟩ := tys_pa f hr
  have gl := gl_of f hg
  subst hz
  refine PE.imp (pe_callB call_isiT gl (f.blt "isinstance" (by decide)) (by decide +kernel) (pa_cons ha.pe (pa_cons (pe_tup h1) pa_nil rfl) (star_cons hl)) (he := star_cons hl) (hpl := back_any rfl)) fun σ H Q ⟨F, ρ, G, env, S, s, h⟩ => ?_
  refine ⟨F, ρ, G, env, S, s, At.ar (At.imp (At.bind (P1 := PAr X.K G σ) h) ?_)⟩
  intro v H1 ⟨x, F1, ρ1, env1, S1, le1, pre1, sim1, rv, at1⟩
  obtain ⟨out, eo, at2⟩ := At.ofO at1
  obtain ⟨d, ed, eo⟩ := bind_some eo
  obtain ⟨b, eb, rfl⟩ := map_some eo
  have hv := ArRep.view sim1 rv ed
  obtain ⟨t, b', et⟩ := isAny_ty eb hne
  obtain ⟨s, es⟩ := isTy_noDic hv et
  refine tTys_run (Q := fun xs H1 => xs.length ≤ sizeLine ∧ _) ⟨by rw [List.length_map, h3, size24]; omega, fun q hq => ?_⟩
  have hv2 : TyX X.K (upd H1 q (.tup (ts.map fun t => V.ty (tyN t)))) v (.type s) := (hv.mono Le.refl prefix_refl (Le.upd hq)).ty (Le.trans sim1.fh (Le.upd hq)) es
  exact ⟨v, q, _, .type s, _, b, rfl, upd_same, clsVs ts, hv2, isAny_kit es eb, at2.mono Le.refl prefix_refl |>.now (sim1.laid hq) (show Rep X.K F1 ρ1 _ _ from .bl b)⟩

/-! ### calls -/
theorem at_call {F G H : Hp} {ρ : List Addr} {σ : L2.St} {env : Env} {S : Store} {Q : VK} {c : RC} (s : Sim X.K F ρ G env S σ H) (h : At X.K W EX G σ (POut X.K G σ) Q F ρ (c.r env)) : AtC X.K EX (Own G env σ H) Q (WE W σ) F ρ c := by
  cases c with
  | ok d S' => exact fun F' ρ' H' v le pre s' r => h F' ρ' H' v le pre (s.fromCall le pre s') r
  | exc x S' => exact fun F' ρ' H' cls d le pre s' e => h F' ρ' H' cls d le pre (s.fromCall le pre s') e
  | bad => exact h
theorem r_call {f : String} {np : Nat} {as : List Ex} {kws : List String} {σ : L2.St} {H : Hp} {Q : VK} (hlen : as.length = np) (q : tO Γ g w n EX W X (.call f as kws) σ H Q) :
    tDs Γ g w n EX W X as σ H fun vs H1 => spF X.K EX np (callF Γ g w n f) vs H1 Q (WE W σ) := by
  obtain ⟨F, ρ, G, env, S, s, a⟩ := q
  have a : At X.K W EX G σ (POut X.K G σ) Q F ρ ((evDs (callF Γ g w n) g as env S).bind fun ds env S => (callF Γ g w n f ds S).r env) := a
  refine ⟨F, ρ, G, env, S, s, ?_⟩
  cases z : evDs (callF Γ g w n) g as env S with
  | exc _ _ _ => rw [z] at a; exact a
  | bad => rw [z] at a; exact a
  | ok ds env1 S1 =>
    rw [z] at a
    intro F1 ρ1 H1 vs le1 pre1 sim1 r
    have a : At X.K W EX G σ (POut X.K G σ) Q F ρ ((callF Γ g w n f ds S1).r env1) := a
    exact ⟨by rw [Reps.length r, evDs_len as env S z]; exact hlen, F1, ρ1, _, S1, ds, sim1.toCall, r, at_call sim1 (a.mono le1 pre1)⟩
theorem pe_callS0 {CX : CXT} {k : Nat} {f : Addr} {fd : FuncData} {ps : List Str} {sp : Sp} {E : L2.St → XK} {x : Str} {p pos : Pos} (F : FnOk X.prog X.w X.K X.mg X.base CX k f fd ps sp) (hr : Room k X.A) (hg : Gl X x) (hm : X.mg x = some (.ref f)) (hk : PySem.W.keepIn X.K (.ref f) = true) (hb : Binds X.K fd ps []) (hx : ∀ σ, PassesAt CX X σ (E σ))
    (hdb : (x == ("__debug__" : Str)) = false) : PE X (.Call (.Name x p) [] [] pos) (tCallS sp E tNil) := by
  refine ⟨fun pins s σ H Q I h => ?_⟩
  refine wpAny_Call_Name_kw (ld_glob I hg hm ?_ hdb)
  exact PySem.W.callWith_K0 I.kIn hk (run_fnS (us := []) F hr hb (hx σ) I .nil h)
theorem pe_callSK {CX : CXT} {k : Nat} {f : Addr} {fd : FuncData} {ps : List Str} {sp : Sp} {E : L2.St → XK} {x : Str} {p pos : Pos} {kws : List Keyword} {tk : TA} (F : FnOk X.prog X.w X.K X.mg X.base CX k f fd ps sp) (hr : Room k X.A) (hg : Gl X x) (hm : X.mg x = some (.ref f)) (hk : PySem.W.keepIn X.K (.ref f) = true)
    (hb : ∀ (s : Shared) (ws : List Value), X.K.In s.heap → ws.length = ps.length → BindsTo s fd ⟨[], ps.zip ws⟩ (ps.zip ws)) (hx : ∀ σ, PassesAt CX X σ (E σ))
    (hkw : PK X kws tk) (hall : (backToKw pos (keywordEach kws X.env)).all (·.1.isSome) = true) (hks : (backToKw pos (keywordEach kws X.env)).filterMap (·.1) = ps) (hpl : (backToKw pos (keywordEach kws X.env)).any (·.1.isNone) = false)
    (hdb : (x == ("__debug__" : Str)) = false) : PE X (.Call (.Name x p) [] kws pos) (tCallS sp E tk) := by
  refine ⟨fun pins s σ H Q I h => ?_⟩
  refine wpAny_Call_Name_kw (ld_glob I hg hm ?_ hdb)
  refine PySem.W.callWith_KW0 (h₀ := X.base) I.ok.mod.kin hk hall ?_ (by rw [hpl]; rfl)
  refine thn (hkw.run pos pins s σ H _ I h) fun ws s2 ⟨zs, H2, I2, rz, q2⟩ => ⟨I2.kIn, ?_⟩
  rw [hks]
  have hl : ws.length = ps.length := by rw [← rz.length]; exact F.len _ _ _ _ q2
  refine wpAny_call (codeAny_mono (F.run X.A X.stack s2 H2 ⟨[], ps.zip ws⟩ ws zs Q (E σ) hr I2.env0 (hb s2 ws I2.kIn hl) rz q2) fun r s' hq => ?_)
  cases r with
  | error e => exact hx σ pins H2 s2 e s' I2 hq
  | ok fl =>
    cases fl with
    | ret u => exact I2.after hq
    | next => exact False.elim hq
    | brk => exact False.elim hq
    | cont => exact False.elim hq
theorem kw_all {p : Pos} {env : PySem.Env} : ∀ {ks : List Keyword}, ks.all (·.arg.isSome) = true → (backToKw p (keywordEach ks env)).all (·.1.isSome) = true ∧ (backToKw p (keywordEach ks env)).any (·.1.isNone) = false ∧ (backToKw p (keywordEach ks env)).filterMap (·.1) = ks.filterMap (·.arg)
  | [], _ => ⟨rfl, rfl, rfl⟩
  | ⟨a, e, q⟩ :: ks, h => by
    rw [List.all_cons, Bool.and_eq_true] at h
    obtain ⟨h1, h2, h3⟩ := kw_all (p := p) (env := env) h.2
    have h0 : a.isSome = true := h.1
    have e1 : backToKw p (keywordEach (⟨a, e, q⟩ :: ks) env) = (a, do let v ← eval e env; standAt p; pure v) :: backToKw p (keywordEach ks env) := rfl
    rw [e1]
    cases a with
    | none => cases h0
    | some a =>
      refine ⟨?_, ?_, ?_⟩
      · rw [List.all_cons, h1]; rfl
      · rw [List.any_cons, h2]; rfl
      · rw [List.filterMap_cons, List.filterMap_cons, h3]
theorem s_call (f : XF Γ g w n EX m W X) {fn : String} {as : List Ex} {z : Str} {es : List Expr} {p pp : Pos} (hz : z = Str.ofString fn) (hg : glB m.sc z = true) (hd : okN z = true) (har : m.ar fn = some as.length) (hn : noStars es = true) (hlen : as.length = es.length) (h : PA X es (tDs Γ g w n EX W X as)) :
    PE X (.Call (.Name z pp) es [] p) (tO Γ g w n EX W X (.call fn as [])) := by
  have gl := gl_of f hg
  subst hz
  obtain ⟨a, fdt, ps, h1, h2, h3, h4, h5, _⟩ := f.fns fn _ har
  cases es with
  | nil =>
    refine PE.imp (pe_callS0 h5 f.room gl h1 h2 h3 (passAt f.tk) (dbg_of hd).1) fun σ H Q q => ?_
    have h6 : as = [] := by
      cases as with
      | nil => rfl
      | cons a as => exact absurd hlen (by simp)
    subst h6
    obtain ⟨F1, ρ1, G1, env1, S1, sim1, a1⟩ := r_call rfl q
    have a1 : At X.K W EX G1 σ (PDs X.K G1 σ) _ F1 ρ1 (.ok [] env1 S1) := a1
    exact a1.now sim1 Reps.nil
  | cons x xs =>
    obtain ⟨n1, n2⟩ := noStars_cons hn
    exact PE.imp (pe_callS h5 f.room gl h1 h2 h3 (passAt f.tk) h (dbg_of hd).1 (star_cons n1) (back_any n2)) fun σ H Q q => r_call rfl q
theorem s_callK (f : XF Γ g w n EX m W X) {fn : String} {as : List Ex} {kws : List String} {z : Str} {ks : List Keyword} {p pp : Pos} (hz : z = Str.ofString fn) (hg : glB m.sc z = true) (hd : okN z = true) (har : m.ar fn = some as.length) (h : PK X ks (tDs Γ g w n EX W X as))
    (hk : m.kw fn = some (ks.filterMap (·.arg))) (hall : ks.all (·.arg.isSome) = true) : PE X (.Call (.Name z pp) [] ks p) (tO Γ g w n EX W X (.call fn as kws)) := by
  have gl := gl_of f hg
  subst hz
  obtain ⟨a, fdt, ps, h1, h2, h3, h4, h5, h6⟩ := f.fns fn _ har
  obtain ⟨e, h7⟩ := h6 _ hk
  obtain ⟨k1, k2, k3⟩ := kw_all (p := p) (env := X.env) hall
  exact PE.imp (pe_callSK h5 f.room gl h1 h2 h7 (passAt f.tk) h k1 (k3.trans e) k2 (dbg_of hd).1) fun σ H Q q => r_call rfl q
end
end Pf
/-! Pf, part I: what is walked, targets, comprehensions. -/
namespace Pf
open PySem PySem.Spec PyProof.Rows L2
section
variable {K : PySem.W.Frag} {F F' G H H' : Hp} {ρ ρ' : List Addr} {σ σ' : L2.St} {env env' : Env} {S S' : Store}

/-! ### ghosts, wiping -/
theorem Sim.ghost (s : Sim K F ρ (upd G p o) env S σ H) (hG : G p = none) {o' : HO} : Sim K F ρ (upd G p o') env S σ (upd H p o') := by
  have eq : ∀ a, a ≠ p → upd G p o' a = upd G p o a := fun a n => by rw [upd_ne n, upd_ne n]
  have atp : upd G p o p = some o := upd_same
  have keep : ∀ b u, b ≠ p → H b = some u → upd H p o' b = some u := fun b u n q => by rw [upd_ne n]; exact q
  have fp : F p = none := s.fg p o atp
  have none_ne : ∀ a, upd G p o a = none → a ≠ p := fun a e z => by rw [z, atp] at e; cases e
  refine ⟨fun a u e => keep a u (ne_of_none e fp) (s.fh a u e), fun a u e => ?_, fun a u e => ?_, fun a h => ?_, s.rlen, s.rnd, fun a h => ?_, fun n a c h1 h2 => ?_, fun i sl e => ?_, s.own, s.elen⟩
  · by_cases z : a = p
    · subst z; rw [upd_same] at e ⊢; exact e
    · rw [eq a z] at e; exact keep a u z (s.gh a u e)
  · by_cases z : a = p
    · subst z; exact fp
    · rw [eq a z] at e; exact s.fg a u e
  · have q := s.rg a h
    rw [eq a (none_ne a q)]; exact q
  · obtain ⟨u, q⟩ := s.live a h
    exact ⟨u, keep a u (none_ne a (s.rg a h)) q⟩
  · have q := s.cells n a c h1 h2
    cases c with
    | dead => trivial
    | dic _ => exact q
    | lst ds =>
      obtain ⟨xs, q1, q2, q3, q4, q5⟩ := q
      have n := none_ne a q5
      exact ⟨xs, keep a _ n q1, q2, q3, q4, by rw [eq a n]; exact q5⟩
  · have q := s.slots i sl e
    cases sl with
    | no => trivial
    | dic _ => exact q
    | dat _ => exact q
    | lst ds =>
      obtain ⟨a, xs, ev, q1, q2, q3, q4, q5, q6⟩ := q
      have n := none_ne a q5
      exact ⟨a, xs, ev, keep a _ n q1, q2, q3, q4, by rw [eq a n]; exact q5, q6⟩
theorem Sim.unghost {p : Addr} {o : HO} (s : Sim K F ρ (upd G p o) env S σ H) (hG : G p = none) : Sim K F ρ G env S σ H := by
  have le : ∀ a u, G a = some u → upd G p o a = some u := fun a u e => by rw [upd_ne (ne_of_none e hG)]; exact e
  have back : ∀ a, upd G p o a = none → G a = none := fun a e => by
    cases z : G a with
    | none => rfl
    | some u => rw [le a u z] at e; cases e
  refine ⟨s.fh, fun a u e => s.gh a u (le a u e), fun a u e => s.fg a u (le a u e), fun a h => back a (s.rg a h), s.rlen, s.rnd, s.live, fun n a c h1 h2 => ?_, fun i sl e => ?_, s.own, s.elen⟩
  · have q := s.cells n a c h1 h2
    cases c with
    | dead => trivial
    | dic _ => exact q
    | lst ds => obtain ⟨xs, q1, q2, q3, q4, q5⟩ := q; exact ⟨xs, q1, q2, q3, q4, back a q5⟩
  · have q := s.slots i sl e
    cases sl with
    | no => trivial
    | dic _ => exact q
    | dat _ => exact q
    | lst ds => obtain ⟨a, xs, ev, q1, q2, q3, q4, q5, q6⟩ := q; exact ⟨a, xs, ev, q1, q2, q3, q4, back a q5, q6⟩
/-- a new object that is the caller's alone -/
theorem Sim.ghostNew (s : Sim K F ρ G env S σ H) {p : Addr} {o : HO} (hp : H p = none) : Sim K F ρ (upd G p o) env S σ (upd H p o) := by
  have s1 := s.laid (o := o) hp
  have hF := s.fnone hp
  have hG := s.gnone hp
  have hr := s.notRho hp
  have ho := s.notOwn hp
  have eq : ∀ a, a ≠ p → upd G p o a = G a := fun a n => upd_ne n
  refine ⟨s1.fh, fun a u e => ?_, fun a u e => ?_, fun a h => by rw [eq a (fun z => hr (z ▸ h))]; exact s.rg a h, s.rlen, s.rnd, s1.live, fun n a c h1 h2 => ?_, fun i sl e => ?_, s.own, s.elen⟩
  · by_cases z : a = p
    · subst z; rw [upd_same] at e ⊢; exact e
    · rw [eq a z] at e; exact s1.gh a u e
  · by_cases z : a = p
    · subst z; exact hF
    · rw [eq a z] at e; exact s.fg a u e
  · have q := s1.cells n a c h1 h2
    cases c with
    | dead => trivial
    | dic _ => exact q
    | lst ds =>
      obtain ⟨xs, q1, q2, q3, q4, q5⟩ := q
      exact ⟨xs, q1, q2, q3, q4, by rw [eq a (fun z => hr (z ▸ List.mem_of_getElem? h1))]; exact q5⟩
  · have q := s1.slots i sl e
    cases sl with
    | no => trivial
    | dic _ => exact q
    | dat _ => exact q
    | lst ds =>
      obtain ⟨a, xs, ev, q1, q2, q3, q4, q5, q6⟩ := q
      exact ⟨a, xs, ev, q1, q2, q3, q4, by rw [eq a (fun z => ho i ⟨⟨ds, e⟩, by rw [ev, z]⟩)]; exact q5, q6⟩
theorem Sim.ghostAt {p : Addr} {o : HO} (s : Sim K F ρ (upd G p o) env S σ H) : H p = some o ∧ F p = none ∧ p ∉ ρ ∧ ∀ i, ¬ OwnAt env σ i p := by
  refine ⟨s.gh p o upd_same, s.fg p o upd_same, fun h => ?_, fun i h => ?_⟩
  · have q := s.rg p h; rw [upd_same] at q; cases q
  · have q := (s.ownF h).2.2.1; rw [upd_same] at q; cases q
theorem Sim.wipe (s : Sim K F ρ G env S σ H) : ∀ vs : List Nat, Sim K F ρ G (wipeE env vs) S (L2.wipe σ vs) H
  | [] => s
  | v :: vs => (Sim.wipe s vs).slot (i := v) (w := none) (.inl rfl)
theorem wipeE_len (env : Env) : ∀ vs : List Nat, (wipeE env vs).length = env.length
  | [] => rfl
  | v :: vs => by show ((wipeE env vs).set v .no).length = _; rw [List.length_set, wipeE_len env vs]
theorem backE_len (old env : Env) : ∀ vs : List Nat, (backE old env vs).length = env.length
  | [] => rfl
  | v :: vs => by show ((backE old env vs).set v _).length = _; rw [List.length_set, backE_len old env vs]
theorem wipeE_out {env : Env} {j : Nat} : ∀ {vs : List Nat}, j ∉ vs → (wipeE env vs)[j]? = env[j]?
  | [], _ => rfl
  | v :: vs, h => by
    have h1 : v ≠ j := fun e => h (e ▸ List.mem_cons_self)
    show ((wipeE env vs).set v .no)[j]? = _
    rw [List.getElem?_set_ne h1, wipeE_out fun z => h (List.mem_cons_of_mem _ z)]
theorem backE_out {old env : Env} {j : Nat} : ∀ {vs : List Nat}, j ∉ vs → (backE old env vs)[j]? = env[j]?
  | [], _ => rfl
  | v :: vs, h => by
    have h1 : v ≠ j := fun e => h (e ▸ List.mem_cons_self)
    show ((backE old env vs).set v _)[j]? = _
    rw [List.getElem?_set_ne h1, backE_out fun z => h (List.mem_cons_of_mem _ z)]
theorem backE_in {old env : Env} {j : Nat} (hj : j < env.length) : ∀ {vs : List Nat}, j ∈ vs → (backE old env vs)[j]? = some (old.getD j .no)
  | v :: vs, h => by
    show ((backE old env vs).set v _)[j]? = _
    by_cases e : v = j
    · subst e
      rw [List.getElem?_set_self (by rw [backE_len]; exact hj)]
    · rw [List.getElem?_set_ne e]
      rcases List.mem_cons.mp h with z | z
      · exact absurd z.symm e
      · exact backE_in hj z
theorem wipe_out {σ : L2.St} {j : Nat} : ∀ {vs : List Nat}, j ∉ vs → (L2.wipe σ vs)[j]? = σ[j]?
  | [], _ => rfl
  | v :: vs, h => by
    have h1 : v ≠ j := fun e => h (e ▸ List.mem_cons_self)
    show ((L2.wipe σ vs).set v none)[j]? = _
    rw [List.getElem?_set_ne h1, wipe_out fun z => h (List.mem_cons_of_mem _ z)]
theorem wipe_in {σ : L2.St} {j : Nat} (hj : j < σ.length) : ∀ {vs : List Nat}, j ∈ vs → (L2.wipe σ vs)[j]? = some none
  | v :: vs, h => by
    show ((L2.wipe σ vs).set v none)[j]? = _
    by_cases e : v = j
    · subst e
      rw [List.getElem?_set_self (by rw [L2.wipe_length]; exact hj)]
    · rw [List.getElem?_set_ne e]
      rcases List.mem_cons.mp h with z | z
      · exact absurd z.symm e
      · exact wipe_in hj z
theorem wipe_ext {a b : L2.St} {vs : List Nat} (hl : a.length = b.length) (h : ∀ j, j ∉ vs → a[j]? = b[j]?) : L2.wipe a vs = L2.wipe b vs := by
  apply List.ext_getElem?
  intro j
  by_cases hj : j ∈ vs
  · by_cases hlt : j < a.length
    · rw [wipe_in hlt hj, wipe_in (hl ▸ hlt) hj]
    · rw [List.getElem?_eq_none (by rw [L2.wipe_length]; omega), List.getElem?_eq_none (by rw [L2.wipe_length]; omega)]
  · rw [wipe_out hj, wipe_out hj]; exact h j hj
/-- the slots as they were ahead -/
theorem Sim.back {F0 G0 H0 : Hp} {ρ0 : List Addr} {env0 : Env} {S0 : Store} {vs : List Nat} (s0 : Sim K F0 ρ0 G0 env0 S0 σ H0) (hp : vs.all (plainSl env0) = true) (hF : Le F0 F) (hρ : ρ0 <+: ρ) (s : Sim K F ρ G (wipeE env vs) S (L2.wipe σ vs) H) : Sim K F ρ G (backE env0 env vs) S σ H := by
  have hlen : env.length = σ.length := by have := s.elen; rw [wipeE_len, L2.wipe_length] at this; exact this
  have own : ∀ i a, OwnAt (backE env0 env vs) σ i a → OwnAt (wipeE env vs) (L2.wipe σ vs) i a := fun i a ⟨⟨ds, h1⟩, h2⟩ => by
    by_cases hi : i ∈ vs
    · have hlt : i < env.length := by rw [hlen]; exact (List.getElem?_eq_some_iff.mp h2).1
      rw [backE_in hlt hi] at h1
      have q := List.all_eq_true.mp hp i hi
      unfold plainSl at q
      have e := Option.some.inj h1
      rw [List.getD_eq_getElem?_getD] at e
      cases z : env0[i]? with
      | none => rw [z] at e; cases e
      | some sl => rw [z] at e q; simp at e; subst e; cases q
    · rw [backE_out hi] at h1
      exact ⟨⟨ds, by rw [wipeE_out hi]; exact h1⟩, by rw [wipe_out hi]; exact h2⟩
  refine ⟨s.fh, s.gh, s.fg, s.rg, s.rlen, s.rnd, s.live, s.cells, fun i sl e => ?_, fun i j a h1 h2 => s.own i j a (own i a h1) (own j a h2), by rw [backE_len]; exact hlen⟩
  by_cases hi : i ∈ vs
  · have hlt : i < env.length := by have := (List.getElem?_eq_some_iff.mp e).1; rw [backE_len] at this; exact this
    rw [backE_in hlt hi] at e
    have q := List.all_eq_true.mp hp i hi
    unfold plainSl at q
    have e := Option.some.inj e
    rw [List.getD_eq_getElem?_getD] at e
    cases z : env0[i]? with
    | none => rw [z] at e; subst e; trivial
    | some sl' =>
      rw [z] at e q
      simp at e
      subst e
      have r := s0.slots i _ z
      cases sl' with
      | no => trivial
      | dat d => obtain ⟨x, e1, r⟩ := r; exact ⟨x, e1, r.mono hF hρ⟩
      | lst _ => cases q
      | dic _ => cases q
  · rw [backE_out hi] at e
    have r := s.slots i sl (by rw [wipeE_out hi]; exact e)
    rw [wipe_out hi] at r
    exact r

/-! ### what is walked -/
structure ItOk (K : PySem.W.Frag) (J : It) (F0 : Hp) (ρ0 : List Addr) (ds : List D) : Prop where
  go : ∀ i H, Le F0 H → i < ds.length → J.go i H
  stop : ∀ H, Le F0 H → J.stop ds.length H
  yld : ∀ i d H x H', Le F0 H → ds[i]? = some d → J.yld i H x H' → ∀ {F ρ G env S σ}, Le F0 F → ρ0 <+: ρ → Sim K F ρ G env S σ H → ∃ F', Le F F' ∧ Sim K F' ρ G env S σ H' ∧ Rep K F' ρ x d
  len : ds.length ≤ 16777216
theorem it_lst {a : Addr} {xs : List V} {ds : List D} (h : F a = some (.lst xs)) (hl : xs.length ≤ 16777216) (r : Reps K F ρ xs ds) : ItOk K (Itl K a) F ρ ds where
  go i H le hi := by
    have q : ∃ x, xs[i]? = some x := ⟨_, List.getElem?_eq_getElem (by rw [r.length]; exact hi)⟩
    obtain ⟨x, q⟩ := q
    exact ⟨xs, x, SqL.of (le _ _ h), q⟩
  stop H le := ⟨xs, SqL.of (le _ _ h), by rw [r.length]; exact Nat.le_refl _⟩
  yld i d H x H' le e y := by
    intro F' ρ' G env S σ le' pre s
    obtain ⟨rfl, y⟩ := y
    obtain ⟨d', e', rr⟩ := r.getV (y xs (SqL.of (le _ _ h)))
    rw [e] at e'; cases e'
    exact ⟨F', Le.refl, s, rr.mono le' pre⟩
  len := by rw [← r.length]; exact hl
theorem it_tup {a : Addr} {xs : List V} {ds : List D} (h : SqT K F a xs) (hl : xs.length ≤ 16777216) (r : Reps K F ρ xs ds) : ItOk K (Itt K a) F ρ ds where
  go i H le hi := by
    have q : ∃ x, xs[i]? = some x := ⟨_, List.getElem?_eq_getElem (by rw [r.length]; exact hi)⟩
    obtain ⟨x, q⟩ := q
    exact ⟨xs, x, le.sqT h, q⟩
  stop H le := ⟨xs, le.sqT h, by rw [r.length]; exact Nat.le_refl _⟩
  yld i d H x H' le e y := by
    intro F' ρ' G env S σ le' pre s
    obtain ⟨rfl, y⟩ := y
    obtain ⟨d', e', rr⟩ := r.getV (y xs (le.sqT h))
    rw [e] at e'; cases e'
    exact ⟨F', Le.refl, s, rr.mono le' pre⟩
  len := by rw [← r.length]; exact hl
theorem it_str {z : List Nat} (ok : okS z = true) : ItOk K (Its (txt z)) F ρ (z.map fun c => .str [c]) where
  go i H le hi := by show i < (txt z).cps.size; simp [txt] at hi ⊢; exact hi
  stop H le := by show (txt z).cps.size ≤ _; simp [txt]
  yld i d H x H' le e y := by
    intro F' ρ' G env S σ le' pre s
    obtain ⟨rfl, c, e1, rfl⟩ := y
    have e1 : z[i]? = some c := by simpa [txt] using e1
    rw [List.getElem?_map, e1] at e
    cases e
    exact ⟨F', Le.refl, s, .str (okS_one ok (List.mem_of_getElem? e1))⟩
  len := by rw [List.length_map]; exact okS_len ok
theorem it_rng {lo : Int} {n : Nat} (hn : n ≤ 16777216) : ItOk K (Itr lo n) F ρ ((List.range n).map fun (k : Nat) => .int (lo + k)) where
  go i H le hi := by show i < n; simpa using hi
  stop H le := by show n ≤ _; simp
  yld i d H x H' le e y := by
    intro F' ρ' G env S σ le' pre s
    obtain ⟨rfl, rfl⟩ := y
    have hi : i < n := by have := (List.getElem?_eq_some_iff.mp e).1; simpa using this
    rw [List.getElem?_map, List.getElem?_range hi] at e
    cases e
    exact ⟨F', Le.refl, s, .int _⟩
  len := by simpa using hn
theorem it_enum {a : Addr} {xs : List V} {ds : List D} (h : F a = some (.lst xs)) (hl : xs.length ≤ 16777216) (r : Reps K F ρ xs ds) : ItOk K (Ite K a) F ρ (ds.zipIdx.map fun p => .tup [.int p.2, p.1]) where
  go i H le hi := by
    have q : ∃ x, xs[i]? = some x := ⟨_, List.getElem?_eq_getElem (by rw [r.length]; simpa using hi)⟩
    obtain ⟨x, q⟩ := q
    exact ⟨xs, x, SqL.of (le _ _ h), q⟩
  stop H le := ⟨xs, SqL.of (le _ _ h), by rw [r.length]; simp⟩
  yld i d H x H' le e y := by
    intro F' ρ' G env S σ le' pre s
    obtain ⟨T, v, rfl, nT, rfl, y⟩ := y
    obtain ⟨d', e', rr⟩ := r.getV (y xs (SqL.of (le _ _ h)))
    rw [List.getElem?_map, List.getElem?_zipIdx, e'] at e
    simp at e
    subst e
    have le2 : Le F' (upd F' T (.tup [.int (i : Nat), v])) := Le.upd (s.fnone nT)
    exact ⟨_, le2, s.put nT, .tup (SqT.of upd_same) (by simp) (.cons (.int _) (.one (rr.mono (le'.trans le2) pre)))⟩
  len := by simpa [← r.length] using hl
theorem it_zip {a b : Addr} {xs ys : List V} {ds es : List D} (h : F a = some (.lst xs)) (hl : xs.length ≤ 16777216) (r : Reps K F ρ xs ds) (h' : F b = some (.lst ys)) (r' : Reps K F ρ ys es) : ItOk K (Itz K a b) F ρ ((ds.zip es).map fun p => .tup [p.1, p.2]) where
  go i H le hi := by
    have hi : i < ds.length ∧ i < es.length := by simp at hi; omega
    exact ⟨xs, ys, _, _, SqL.of (le _ _ h), SqL.of (le _ _ h'), List.getElem?_eq_getElem (by rw [r.length]; exact hi.1), List.getElem?_eq_getElem (by rw [r'.length]; exact hi.2)⟩
  stop H le := ⟨xs, ys, SqL.of (le _ _ h), SqL.of (le _ _ h'), by rw [r.length, r'.length]; simp; omega⟩
  yld i d H x H' le e y := by
    intro F' ρ' G env S σ le' pre s
    obtain ⟨T, v, u, rfl, nT, rfl, y1, y2⟩ := y
    obtain ⟨d1, e1, r1⟩ := r.getV (y1 xs (SqL.of (le _ _ h)))
    obtain ⟨d2, e2, r2⟩ := r'.getV (y2 ys (SqL.of (le _ _ h')))
    rw [List.getElem?_map, (List.getElem?_zip_eq_some (z := (d1, d2))).mpr ⟨e1, e2⟩] at e
    cases e
    have le2 : Le F' (upd F' T (.tup [v, u])) := Le.upd (s.fnone nT)
    exact ⟨_, le2, s.put nT, .tup (SqT.of upd_same) (by simp) (.cons (r1.mono (le'.trans le2) pre) (.one (r2.mono (le'.trans le2) pre)))⟩
  len := by rw [List.length_map, List.length_zip, ← r.length]; omega
theorem it_zipT {a b : Addr} {xs ys : List V} {ds es : List D} (h : SqT K F a xs) (hl : xs.length ≤ 16777216) (r : Reps K F ρ xs ds) (h' : SqT K F b ys) (r' : Reps K F ρ ys es) : ItOk K (RZ.ItzT K a b) F ρ ((ds.zip es).map fun p => .tup [p.1, p.2]) where
  go i H le hi := by
    have hi : i < ds.length ∧ i < es.length := by simp at hi; omega
    exact ⟨xs, ys, _, _, le.sqT h, le.sqT h', List.getElem?_eq_getElem (by rw [r.length]; exact hi.1), List.getElem?_eq_getElem (by rw [r'.length]; exact hi.2)⟩
  stop H le := ⟨xs, ys, le.sqT h, le.sqT h', by rw [r.length, r'.length]; simp; omega⟩
  yld i d H x H' le e y := by
    intro F' ρ' G env S σ le' pre s
    obtain ⟨T, v, u, rfl, nT, rfl, y1, y2⟩ := y
    obtain ⟨d1, e1, r1⟩ := r.getV (y1 xs (le.sqT h))
    obtain ⟨d2, e2, r2⟩ := r'.getV (y2 ys (le.sqT h'))
    rw [List.getElem?_map, (List.getElem?_zip_eq_some (z := (d1, d2))).mpr ⟨e1, e2⟩] at e
    cases e
    have le2 : Le F' (upd F' T (.tup [v, u])) := Le.upd (s.fnone nT)
    exact ⟨_, le2, s.put nT, .tup (SqT.of upd_same) (by simp) (.cons (r1.mono (le'.trans le2) pre) (.one (r2.mono (le'.trans le2) pre)))⟩
  len := by rw [List.length_map, List.length_zip, ← r.length]; omega
end
end Pf
/-! Pf, part J: what a for walks, targets, comprehensions: all expressions. -/
namespace Pf
open PySem PySem.Spec PyProof.Rows L2
section
variable {Γ : Prog} {g : Glos} {w n : Nat} {EX : EXT} {m : MC} {W : WX} {X : Cx}
theorem PI.imp {tg x : Expr} {t t' : TI} (h : PI X tg x t) (hi : ∀ σ H R, t' σ H R → t σ H R) : PI X tg x t' := ⟨fun pins s σ H R I q => h.run pins s σ H R I (hi σ H R q)⟩
theorem PI.or {tg x : Expr} {t t' : TI} (h : PI X tg x t) (h' : PI X tg x t') : PI X tg x (fun σ H R => t σ H R ∨ t' σ H R) := ⟨fun pins s σ H R I q => q.elim (h.run pins s σ H R I) (h'.run pins s σ H R I)⟩
theorem PG.imp {x : Expr} {t t' : TG} (h : PG X x t) (hi : ∀ v σ H Q, t' v σ H Q → t v σ H Q) : PG X x t' := ⟨fun pins s σ H v u Q I r q => h.run pins s σ H v u Q I r (hi v σ H Q q)⟩
theorem PG.or {x : Expr} {t t' : TG} (h : PG X x t) (h' : PG X x t') : PG X x (fun v σ H Q => t v σ H Q ∨ t' v σ H Q) := ⟨fun pins s σ H v u Q I r q => q.elim (h.run pins s σ H v u Q I r) (h'.run pins s σ H v u Q I r)⟩

/-- the reading of what is walked -/
def tIt (Γ : Prog) (g : Glos) (w n : Nat) (EX : EXT) (W : WX) (X : Cx) (k : Itk) (its : List Ex) : TI := fun σ H R => ∃ F ρ G env S, Sim X.K F ρ G env S σ H ∧
  At X.K W EX G σ (PDs X.K G σ) (fun vs H1 => ∃ F1 ρ1 xs ds, Le F1 H1 ∧ Reps X.K F1 ρ1 vs xs ∧ itF k xs = some ds ∧ ∀ J, ItOk X.K J F1 ρ1 ds → R J H1) F ρ (evDs (callF Γ g w n) g its env S)
theorem one_of {e : Ex} {F G : Hp} {ρ : List Addr} {σ : L2.St} {env : Env} {S : Store} {Q : List V → Hp → Prop} (h : At X.K W EX G σ (PDs X.K G σ) Q F ρ (evDs (callF Γ g w n) g [e] env S)) : At X.K W EX G σ (POut X.K G σ) (fun v H => Q [v] H) F ρ (evO (callF Γ g w n) g e env S) := by
  refine At.fz (At.imp (At.bind (P1 := PD X.K G σ) h) ?_)
  intro v H1 ⟨a, F1, ρ1, env1, S1, le1, pre1, sim1, ra, at1⟩
  have at1 : At X.K W EX G σ (PDs X.K G σ) Q F1 ρ1 (.ok [a] env1 S1) := at1
  exact at1.now sim1 (Reps.one ra)
theorem two_of {e f : Ex} {F G H : Hp} {ρ : List Addr} {σ : L2.St} {env : Env} {S : Store} {Q : List V → Hp → Prop} (s : Sim X.K F ρ G env S σ H) (h : At X.K W EX G σ (PDs X.K G σ) Q F ρ (evDs (callF Γ g w n) g [e, f] env S)) :
    tO Γ g w n EX W X e σ H fun v H1 => tO Γ g w n EX W X f σ H1 fun u H2 => Q [v, u] H2 := by
  refine ⟨F, ρ, G, env, S, s, At.fz (At.imp (At.bind (P1 := PD X.K G σ) h) ?_)⟩
  intro v H1 ⟨a, F1, ρ1, env1, S1, le1, pre1, sim1, ra, at1⟩
  refine ⟨F1, ρ1, G, env1, S1, sim1, ?_⟩
  have at1 : At X.K W EX G σ (PDs X.K G σ) Q F1 ρ1 ((evDs (callF Γ g w n) g [f] env1 S1).bind fun ds env S => .ok (a :: ds) env S) := at1
  refine At.imp (one_of (Q := fun us H2 => Q (v :: us) H2) ?_) fun b H hq => hq
  cases z : evDs (callF Γ g w n) g [f] env1 S1 with
  | exc _ _ _ => rw [z] at at1; exact at1
  | bad => rw [z] at at1; exact at1
  | ok ds env2 S2 =>
    rw [z] at at1
    have at1 : At X.K W EX G σ (PDs X.K G σ) Q F1 ρ1 (.ok (a :: ds) env2 S2) := at1
    exact fun F2 ρ2 H2 us le pre sim r => at1 F2 ρ2 H2 (v :: us) le pre sim (Reps.cons (Rep.mono le pre ra) r)
/-- a list, a tuple, a text, by its value -/
def iAny (K : PySem.W.Frag) (tl : TE) : TI := fun σ H R => tl σ H fun x H1 => (∃ a, x = .ref a ∧ (∃ xs, SqL K H1 a xs) ∧ R (Itl K a) H1) ∨ (∃ a, x = .ref a ∧ (∃ xs, SqT K H1 a xs) ∧ R (Itt K a) H1) ∨ ∃ z, x = .str z ∧ R (Its z) H1
theorem pi_any {l tg : Expr} {tl : TE} (hl : PE X l tl) : PI X tg l (iAny X.K tl) := by
  refine ⟨fun pins s σ H R I h => ?_⟩
  refine thn (hl.run pins s σ H _ I h) fun v s1 ⟨x, H1, I1, r1, q1⟩ => ?_
  rcases q1 with ⟨a, e, ⟨xs, hq⟩, q⟩ | ⟨a, e, ⟨xs, hq⟩, q⟩ | ⟨z, e, q⟩
  · subst e
    cases r1
    obtain ⟨its, rv, p, hz⟩ := I1.list hq
    refine wpAny_pyIter_list p.isList ?_
    refine ⟨s1.heap.objs.size, [s1.heap.objs.size], _, _, H1, rfl, I1.kept (t' := s1.toks) fun b o e => Heap.get?_push_of_some _ e, turn_list a _, ⟨_, Heap.get?_push_size _ rfl, rfl, rfl⟩, fun b hb => ?_, q⟩
    have e : b = s1.heap.objs.size := by simpa using hb
    subst e
    exact I1.fpOk (Nat.le_refl _) (I1.hok.fresh (Nat.le_refl _))
  · subst e
    cases r1
    obtain ⟨its, rv, p, hz⟩ := I1.tuple hq
    refine wpAny_pyIter_tuple (show s1.heap.IsTuple a its.toArray from p) ?_
    refine ⟨s1.heap.objs.size, [s1.heap.objs.size], _, _, H1, rfl, I1.kept (t' := s1.toks) fun b o e => Heap.get?_push_of_some _ e, turn_tuple a _, ⟨_, Heap.get?_push_size _ rfl, rfl, rfl⟩, fun b hb => ?_, q⟩
    have e : b = s1.heap.objs.size := by simpa using hb
    subst e
    exact I1.fpOk (Nat.le_refl _) (I1.hok.fresh (Nat.le_refl _))
  · subst e
    obtain ⟨t, rfl⟩ := r1
    cases ha : z.cps.all (· < 128)
    · exact wpAny_pyIter_wide ha (pi_one (tk := s1.toks) I1 _ (turn_str _ z t "str_iterator" (.inr rfl)) ⟨_, Heap.get?_push_size _ rfl, rfl, rfl⟩ q)
    · exact wpAny_pyIter_ascii ha (pi_one (tk := s1.toks) I1 _ (turn_str _ z t "str_ascii_iterator" (.inl rfl)) ⟨_, Heap.get?_push_size _ rfl, rfl, rfl⟩ q)
theorem pi_val {e : Ex} {x t : Expr} (he : PE X x (tO Γ g w n EX W X e)) : PI X t x (tIt Γ g w n EX W X .val [e]) := by
  refine PI.imp (pi_any he) fun σ H R ⟨F, ρ, G, env, S, s, h⟩ => ?_
  refine ⟨F, ρ, G, env, S, s, At.imp (one_of h) ?_⟩
  rintro v H1 ⟨F1, ρ1, xs, ds, le, r, e, f⟩
  match xs, r, e with
  | [], r, _ => cases r
  | _ :: _ :: _, r, _ => cases r with | cons _ t => cases t
  | [d], r, e =>
    cases r with
    | cons r _ =>
      cases r with
      | lst h1 h2 h3 => cases e; exact .inl ⟨_, rfl, ⟨_, SqL.of (le _ _ h1)⟩, f _ (it_lst h1 h2 h3)⟩
      | tup h1 h2 h3 => cases e; exact .inr (.inl ⟨_, rfl, ⟨_, le.sqT h1⟩, f _ (it_tup h1 h2 h3)⟩)
      | str ok => cases e; exact .inr (.inr ⟨_, rfl, f _ (it_str ok)⟩)
      | _ => cases e
theorem pi_r1 (f : XF Γ g w n EX m W X) {e : Ex} {x t : Expr} {z : Str} {p pp : Pos} (hz : z = Str.ofString "range") (hg : glB m.sc z = true) (he : PA X [x] (tDs Γ g w n EX W X [e])) (hx : isStar x = false) : PI X t (.Call (.Name z pp) [x] [] p) (tIt Γ g w n EX W X .range1 [e]) := by
  have gl := gl_of f hg
  subst hz
  refine PI.imp (pi_range1 gl (f.blt "range" (by decide)) he (star_cons hx)) fun σ H R ⟨F, ρ, G, env, S, s, h⟩ => ?_
  refine ⟨F, ρ, G, env, S, s, At.imp h ?_⟩
  rintro vs H1 ⟨F1, ρ1, xs, ds, le, r, e, f⟩
  match xs, r, e with
  | [], _, e => cases e
  | [_, _], _, e => cases e
  | _ :: _ :: _ :: _, _, e => cases e
  | [d], r, e =>
    cases r with
    | cons r t =>
      cases t
      cases d with
      | int i =>
        cases r
        have e : (if -(2 ^ 62) ≤ i ∧ i ≤ 16777216 then some ((List.range i.toNat).map fun (k : Nat) => D.int k) else none) = some ds := e
        split at e
        · rename_i c
          cases e
          refine ⟨i, rfl, c.1, by omega, f _ ?_⟩
          have := it_rng (K := X.K) (F := F1) (ρ := ρ1) (lo := 0) (n := i.toNat) (by omega)
          simpa using this
        · cases e
      | _ => cases e
theorem pi_r2 (f : XF Γ g w n EX m W X) {e e' : Ex} {x y t : Expr} {z : Str} {p pp : Pos} (hz : z = Str.ofString "range") (hg : glB m.sc z = true) (he : PA X [x, y] (tDs Γ g w n EX W X [e, e'])) (hx : isStar x = false) (hy : isStar y = false) : PI X t (.Call (.Name z pp) [x, y] [] p) (tIt Γ g w n EX W X .range2 [e, e']) := by
  have gl := gl_of f hg
  subst hz
  refine PI.imp (pi_range2 gl (f.blt "range" (by decide)) he (by rw [star_cons hx, star_cons hy]; rfl) (star_cons hy)) fun σ H R ⟨F, ρ, G, env, S, s, h⟩ => ?_
  refine ⟨F, ρ, G, env, S, s, At.imp h ?_⟩
  rintro vs H1 ⟨F1, ρ1, xs, ds, le, r, e, f⟩
  match xs, r, e with
  | [], _, e => cases e
  | [_], _, e => cases e
  | _ :: _ :: _ :: _, _, e => cases e
  | [d, d'], r, e =>
    cases r with
    | cons r t =>
      cases t with
      | cons r' t =>
        cases t
        cases d with
        | int i =>
          cases d' with
          | int j =>
            cases r
            cases r'
            have e : (if -(2 ^ 62) ≤ i ∧ i < 2 ^ 62 ∧ -(2 ^ 62) ≤ j ∧ j < 2 ^ 62 ∧ j - i ≤ 16777216 then some ((List.range (j - i).toNat).map fun (k : Nat) => D.int (i + k)) else none) = some ds := e
            split at e
            · rename_i c
              cases e
              exact ⟨i, j, rfl, ⟨c.1, c.2.1, c.2.2.1, c.2.2.2.1⟩, f _ (it_rng (by omega))⟩
            · cases e
          | _ => cases e
        | _ => cases d' <;> cases e
theorem pi_en (f : XF Γ g w n EX m W X) {e : Ex} {x : Expr} {ts : List Expr} {kk : Nat} {tp : Pos} {z : Str} {p pp : Pos} (hz : z = Str.ofString "enumerate") (hg : glB m.sc z = true) (he : PA X [x] (tDs Γ g w n EX W X [e])) (hx : isStar x = false) : PI X (.Tuple ts kk tp) (.Call (.Name z pp) [x] [] p) (tIt Γ g w n EX W X .enum [e]) := by
  have gl := gl_of f hg
  subst hz
  refine PI.imp (pi_enum gl (f.blt "enumerate" (by decide)) he (star_cons hx)) fun σ H R ⟨F, ρ, G, env, S, s, h⟩ => ?_
  refine ⟨F, ρ, G, env, S, s, At.imp h ?_⟩
  rintro vs H1 ⟨F1, ρ1, xs, ds, le, r, e, f⟩
  match xs, r, e with
  | [], _, e => cases e
  | [_, _], _, e => cases e
  | _ :: _ :: _ :: _, _, e => cases e
  | [d], r, e =>
    cases r with
    | cons r1 t =>
      cases t
      cases d with
      | lst ds1 =>
        cases e
        cases r1 with
        | lst h1 h2 h3 => exact ⟨_, _, rfl, SqL.of (le _ _ h1), f _ (it_enum h1 h2 h3)⟩
      | _ => cases e
theorem pi_zp (f : XF Γ g w n EX m W X) {e e' : Ex} {x y : Expr} {ts : List Expr} {kk : Nat} {tp : Pos} {z : Str} {p pp : Pos} (hz : z = Str.ofString "zip") (hg : glB m.sc z = true) (he : PA X [x, y] (tDs Γ g w n EX W X [e, e'])) (hx : isStar x = false) (hy : isStar y = false) : PI X (.Tuple ts kk tp) (.Call (.Name z pp) [x, y] [] p) (tIt Γ g w n EX W X .zip [e, e']) := by
  have gl := gl_of f hg
  subst hz
  refine PI.imp (RZ.pi_zipA gl (f.blt "zip" (by decide)) he (star_cons hx) (back_any (by unfold noStars; rw [List.all_cons, hy]; rfl))) fun σ H R ⟨F, ρ, G, env, S, s, h⟩ => ?_
  refine ⟨F, ρ, G, env, S, s, At.imp h ?_⟩
  rintro vs H1 ⟨F1, ρ1, xs, ds, le, r, e, f⟩
  match xs, r, e with
  | [], _, e => cases e
  | [_], _, e => cases e
  | _ :: _ :: _ :: _, _, e => cases e
  | [d, d'], r, e =>
    cases r with
    | cons r1 t =>
      cases t with
      | cons r2 t =>
        cases t
        cases d with
        | lst ds1 =>
          cases d' with
          | lst ds2 =>
            cases e
            cases r1 with
            | lst h1 h2 h3 => cases r2 with
              | lst h4 h5 h6 => exact ⟨_, _, _, _, rfl, .inl ⟨SqL.of (le _ _ h1), SqL.of (le _ _ h4), f _ (it_zip h1 h2 h3 h4 h6)⟩⟩
          | _ => cases e
        | tup ds1 =>
          cases d' with
          | tup ds2 =>
            cases e
            cases r1 with
            | tup h1 h2 h3 => cases r2 with
              | tup h4 h5 h6 => exact ⟨_, _, _, _, rfl, .inr ⟨le.sqT h1, le.sqT h4, f _ (it_zipT h1 h2 h3 h4 h6)⟩⟩
          | _ => cases e
        | _ => cases d' <;> cases e

/-! ### targets -/
/-- a target's reading -/
def tTg (K : PySem.W.Frag) (tg : Tg) : TG := fun v σ H Q => ∃ F ρ G env S d env', Sim K F ρ G env S σ H ∧ Rep K F ρ v d ∧ bindTg tg d env = some env' ∧
  ∀ σ', Sim K F ρ G env' S σ' H → σ'.length = σ.length → (∀ j, j ∉ tgSlots tg → σ'[j]? = σ[j]?) → Q σ' H
theorem sto_of (f : XF Γ g w n EX m W X) {i : Nat} {x : Expr} (h : mSto m i x = true) : ∃ z p, x = .Name z p ∧ X.N[i]? = some z ∧ Loc X.env.scope z ∧ (X.fn z = true ∨ X.env.scope.names.lookup z = some .local) := by
  cases x with
  | Name z p =>
    have h : (decide (m.N[i]? = some z) && stoB m z) = true := h
    rw [Bool.and_eq_true] at h
    have h2 : (locB m.sc z && (m.fnP z || decide (m.sc.names.lookup z = some .local))) = true := h.2
    rw [Bool.and_eq_true, Bool.or_eq_true] at h2
    refine ⟨z, p, rfl, by rw [f.hN]; exact of_decide_eq_true h.1, ?_, ?_⟩
    · rw [f.hsc]
      have q := h2.1
      unfold locB at q
      split at q <;> first | exact .inl (by assumption) | exact .inr (by assumption) | cases q
    · rw [f.hsc, f.hfn]
      exact h2.2.imp id of_decide_eq_true
  | _ => cases h
theorem pg_sto (f : XF Γ g w n EX m W X) {i : Nat} {x : Expr} (h : mSto m i x = true) : PG X x (gName i) := by
  obtain ⟨z, p, rfl, h1, h2, h3⟩ := sto_of f h
  exact pg_name (by rw [f.hN]; exact f.nd) h1 h2 h3
def gStos : List Nat → TGs
  | [] => gNil
  | i :: is => gCons (gName i) (gStos is)
theorem each_cons {x : Expr} {xs : List Expr} {env : PySem.Env} {z : Str} {p : Pos} (h : x = .Name z p) : (assignEach (x :: xs) env).map (·.2) = assign x env :: (assignEach xs env).map (·.2) ∧ (assignEach (x :: xs) env).length = (assignEach xs env).length + 1 ∧ (assignEach (x :: xs) env).findIdx? (·.1) = ((assignEach xs env).findIdx? (·.1)).map (· + 1) := by
  subst h
  refine ⟨rfl, rfl, ?_⟩
  have e : assignEach (.Name z p :: xs) env = (false, assign (.Name z p) env) :: assignEach xs env := rfl
  rw [e, List.findIdx?_cons]; rfl
theorem pgs_sto (f : XF Γ g w n EX m W X) : ∀ {is : List Nat} {xs : List Expr}, mStos m is xs = true → PGs X xs (gStos is) ∧ (assignEach xs X.env).length = is.length ∧ (assignEach xs X.env).findIdx? (·.1) = none
  | [], [], _ => ⟨pgs_nil, rfl, rfl⟩
  | [], _ :: _, h => by cases h
  | _ :: _, [], h => by cases h
  | i :: is, x :: xs, h => by
    have h : (mSto m i x && mStos m is xs) = true := h
    rw [Bool.and_eq_true] at h
    obtain ⟨z, p, e, _⟩ := sto_of f h.1
    obtain ⟨e1, e2, e3⟩ := each_cons (xs := xs) (env := X.env) e
    obtain ⟨h1, h2, h3⟩ := pgs_sto f h.2
    exact ⟨pgs_cons (pg_sto f h.1) h1 e1, by rw [e2, h2]; rfl, by rw [e3, h3]; rfl⟩
theorem stos_run {K : PySem.W.Frag} {F G H : Hp} {ρ : List Addr} {S : Store} : ∀ {is : List Nat} {vs : List V} {ds : List D} {σ : L2.St} {env env' : Env} {Q : L2.St → Hp → Prop}, Sim K F ρ G env S σ H → Reps K F ρ vs ds → setNames is ds env = some env' →
    (∀ σ', Sim K F ρ G env' S σ' H → σ'.length = σ.length → (∀ j, j ∉ is → σ'[j]? = σ[j]?) → Q σ' H) → gStos is vs σ H Q
  | [], _, [], _, _, _, _, s, .nil, e, q => by cases e; exact ⟨rfl, q _ s rfl fun _ _ => rfl⟩
  | [], _, _ :: _, _, _, _, _, _, _, e, _ => by cases e
  | _ :: _, _, [], _, _, _, _, _, .nil, e, _ => by cases e
  | i :: is, _, d :: ds, σ, env, env', Q, s, .cons (x := v) (xs := vs) r t, e, q => by
    refine ⟨v, vs, rfl, ?_⟩
    refine stos_run (s.slot (i := i) (w := some v) (.inr ⟨d, v, rfl, rfl, r⟩)) t e fun σ' s' hl ho => q σ' s' (by rw [hl, List.length_set]) fun j hj => ?_
    rw [ho j fun z => hj (List.mem_cons_of_mem _ z), List.getElem?_set_ne (show i ≠ j from fun z => hj (z ▸ List.mem_cons_self))]
theorem setNames_len : ∀ {is : List Nat} {ds : List D} {env env' : Env}, setNames is ds env = some env' → is.length = ds.length
  | [], [], _, _, _ => rfl
  | [], _ :: _, _, _, h => by cases h
  | _ :: _, [], _, _, h => by cases h
  | _ :: is, _ :: ds, _, _, h => by rw [List.length_cons, List.length_cons, setNames_len (is := is) (ds := ds) h]
theorem pg_tg (f : XF Γ g w n EX m W X) {tg : Tg} {t : Expr} (h : mTg m tg t = true) : PG X t (tTg X.K tg) := by
  cases tg with
  | name i =>
    refine PG.imp (pg_sto f h) fun v σ H Q ⟨F, ρ, G, env, S, d, env', s, r, e, q⟩ => ?_
    cases e
    exact q _ (s.slot (i := i) (w := some v) (.inr ⟨d, v, rfl, rfl, r⟩)) (List.length_set ..) fun j hj => List.getElem?_set_ne fun z => hj (by show j ∈ [i]; rw [z]; exact List.mem_singleton.mpr rfl)
  | tup is =>
    cases t with
    | Tuple es k p =>
      obtain ⟨h1, h2, h3⟩ := pgs_sto f (show mStos m is es = true from h)
      refine PG.imp (PG.or (pg_tup f.calm h1 h2 h3) (pg_unl f.calm h1 h2 h3)) fun v σ H Q ⟨F, ρ, G, env, S, d, env', s, r, e, q⟩ => ?_
      cases d with
      | tup ds =>
        have e : setNames is ds env = some env' := e
        cases r with
        | tup g1 g2 g3 => exact .inl ⟨_, _, rfl, s.fh.sqT g1, by rw [g3.length]; exact (setNames_len e).symm, stos_run s g3 e q⟩
      | lst ds =>
        have e : setNames is ds env = some env' := e
        cases r with
        | lst g1 g2 g3 => exact .inr ⟨_, _, rfl, SqL.of (s.fh _ _ g1), by rw [g3.length]; exact (setNames_len e).symm, stos_run s g3 e q⟩
      | _ => cases e
    | _ => cases h
end
end Pf
/-! Pf, part K: comprehensions; every expression. -/
namespace Pf
open PySem PySem.Spec PyProof.Rows L2
section
variable {Γ : Prog} {g : Glos} {w n : Nat} {EX : EXT} {m : MC} {W : WX} {X : Cx}
abbrev W0 : WX := fun _ _ _ _ => False
theorem nox_ok {α : Type} {r : R α} {a : α} {env : Env} {S : Store} (h : r.nox = .ok a env S) : r = .ok a env S := by cases r <;> first | (cases h; rfl) | cases h
theorem bind_ok {α β : Type} {r : R α} {f : α → Env → Store → R β} {b : β} {env : Env} {S : Store} (h : r.bind f = .ok b env S) : ∃ a env1 S1, r = .ok a env1 S1 ∧ f a env1 S1 = .ok b env S := by
  cases r with
  | ok a e1 S1 => exact ⟨a, e1, S1, rfl, h⟩
  | exc _ _ _ => cases h
  | bad => cases h
def compF (C : Calls) (g : Glos) (elt : Ex) (tg : Tg) (cond : Option Ex) (own : List Nat) (d : D) (env : Env) (S : Store) : R (Option D) := match bindTg tg d (wipeE env own) with
  | none => .bad
  | some env => (evC C g cond env S).bind fun r env S => if r then (evO C g elt env S).fz.bind fun y env S => .ok (some y) env S else .ok none env S
abbrev tCn (Γ : Prog) (g : Glos) (w n : Nat) (EX : EXT) (X : Cx) (cond : Option Ex) : TT := tR X.K W0 EX PB (evC (callF Γ g w n) g cond)
theorem r_comp {elt : Ex} {tg : Tg} {k : Itk} {its : List Ex} {cond : Option Ex} {own : List Nat} {σ : L2.St} {H : Hp} {Q : VK} (hown : own = tgSlots tg) (q : tO Γ g w n EX W X (.comp elt tg k its cond own) σ H Q) :
    tLc (tIt Γ g w n EX W X k its) (tTg X.K tg) (tCn Γ g w n EX X cond) (tO Γ g w n EX W0 X elt) own σ H Q := by
  obtain ⟨F, ρ, G, env, S, s, h⟩ := q
  have h : At X.K W EX G σ (POut X.K G σ) Q F ρ ((evDs (callF Γ g w n) g its env S).bind fun xs env S => match itF k xs with
    | none => .bad
    | some ds => if own.all (plainSl env) then (turns (compF (callF Γ g w n) g elt tg cond own) ds env S).nox.bind fun ys env' S => .ok (.new (.lst ys)) (backE env env' own) S else .bad) := h
  refine ⟨F, ρ, G, env, S, s, At.imp (At.bind (P1 := PDs X.K G σ) h) ?_⟩
  intro vs H1 ⟨xs, F1, ρ1, env1, S1, le1, pre1, sim1, rx, at1⟩
  cases ei : itF k xs with
  | none => rw [ei] at at1; exact at1.elim
  | some ds =>
    rw [ei] at at1
    have at1 : At X.K W EX G σ (POut X.K G σ) Q F1 ρ1 (if own.all (plainSl env1) then (turns (compF (callF Γ g w n) g elt tg cond own) ds env1 S1).nox.bind fun ys env' S => .ok (.new (.lst ys)) (backE env1 env' own) S else .bad) := at1
    cases hp : own.all (plainSl env1) with
    | false => rw [hp] at at1; exact at1.elim
    | true =>
      rw [hp, if_pos rfl] at at1
      cases et : (turns (compF (callF Γ g w n) g elt tg cond own) ds env1 S1).nox with
      | bad => rw [et] at at1; exact at1.elim
      | exc x e1 s1 =>
        exfalso
        cases z : turns (compF (callF Γ g w n) g elt tg cond own) ds env1 S1 <;> (rw [z] at et; cases et)
      | ok ys envF SF =>
        rw [et] at at1
        have et := nox_ok et
        have at1 : At X.K W EX G σ (POut X.K G σ) Q F1 ρ1 (.ok (.new (.lst ys)) (backE env1 envF own) SF) := at1
        refine ⟨F1, ρ1, xs, ds, sim1.fh, rx, ei, fun J ok Dd nD => ?_⟩
        have gD : G Dd = none := sim1.gnone nD
        let Rem : List D → Hp → List Addr → R (List D) → Prop := fun accD F ρ r => ∃ ys envF SF, r = .ok ys envF SF ∧ ∀ F' ρ' H' acc', Le F F' → ρ <+: ρ' → Sim X.K F' ρ' (upd G Dd (.lst acc')) (wipeE envF own) SF (L2.wipe σ own) H' → Reps X.K F' ρ' acc' (accD ++ ys) → acc'.length ≤ 16777216 → Q (.ref Dd) H'
        let Iv : Nat → Hp → Prop := fun i H => ∃ F ρ env S accD acc, Le F1 F ∧ ρ1 <+: ρ ∧ Sim X.K F ρ (upd G Dd (.lst acc)) (wipeE env own) S (L2.wipe σ own) H ∧ Reps X.K F ρ acc accD ∧ acc.length ≤ i ∧ Rem accD F ρ (turns (compF (callF Γ g w n) g elt tg cond own) (ds.drop i) env S)
        have start : Iv 0 (upd H1 Dd (.lst [])) := by
          refine ⟨F1, ρ1, env1, S1, [], [], Le.refl, prefix_refl, (sim1.ghostNew nD).wipe own, .nil, Nat.le_refl _, ys, envF, SF, et, fun F' ρ' H' acc' le pre sim r hl => ?_⟩
          have sb := sim1.back hp le pre sim
          obtain ⟨g1, g2, g3, g4⟩ := sb.ghostAt
          exact at1 F' ρ' H' (.ref Dd) le pre (sb.unghost gD) ⟨Dd, acc', rfl, g1, hl, r, g2, gD, g3, g4⟩
        refine ⟨fun i mm H => mm = ds.length - i ∧ i ≤ ds.length ∧ Iv i H, ⟨ds.length, by simp, Nat.zero_le _, start⟩, ?_⟩
        rintro i mm H ⟨rfl, hi, Fi, ρi, envi, Si, accD, acc, lei, prei, simi, ri, hacc, rem⟩
        have leH : Le F1 H := lei.trans simi.fh
        by_cases hlt : i < ds.length
        · refine .inr ⟨ok.go i H leH hlt, Iv (i + 1), fun H' p' => ⟨ds.length - (i + 1), by omega, rfl, hlt, p'⟩, fun x H' y => ?_⟩
          have hd : ds[i]? = some ds[i] := List.getElem?_eq_getElem hlt
          obtain ⟨F2, le2, sim2, r2⟩ := ok.yld i ds[i] H x H' leH hd y lei prei simi
          obtain ⟨ys', envF', SF', e', fin⟩ := rem
          rw [List.drop_eq_getElem_cons hlt] at e'
          have e' : ((compF (callF Γ g w n) g elt tg cond own ds[i] envi Si).bind fun o env S => (turns (compF (callF Γ g w n) g elt tg cond own) (ds.drop (i + 1)) env S).bind fun ys env S => .ok (match o with | some y => y :: ys | none => ys) env S) = .ok ys' envF' SF' := e'
          obtain ⟨o, env2, S2, ef, e'⟩ := bind_ok e'
          obtain ⟨ys2, env3, S3, er, e'⟩ := bind_ok e'
          cases e'
          unfold compF at ef
          cases eb : bindTg tg ds[i] (wipeE envi own) with
          | none => rw [eb] at ef; cases ef
          | some env4 =>
            rw [eb] at ef
            obtain ⟨r, env5, S5, ec, ef⟩ := bind_ok ef
            refine ⟨F2, ρi, _, wipeE envi own, Si, ds[i], env4, sim2, r2, eb, fun σ' sim4 hl4 ho4 => ?_⟩
            have hw : L2.wipe σ' own = L2.wipe σ own := wipe_ext (by rw [hl4, L2.wipe_length]) fun j hj => by
              rw [ho4 j (by rw [← hown]; exact hj), wipe_out hj]
            refine ⟨hw, F2, ρi, _, env4, Si, sim4, ?_⟩
            show At X.K W0 EX _ σ' (PB _ σ') _ F2 ρi (evC (callF Γ g w n) g cond env4 Si)
            rw [ec]
            rintro F5 ρ5 H5 b le5 pre5 sim5 eb5
            cases (show b = r from eb5)
            cases r with
            | false =>
              have ef : R.ok (none : Option D) env5 S5 = .ok o env2 S2 := ef
              cases ef
              refine ⟨F5, ρ5, env2, S2, accD, acc, (lei.trans le2).trans le5, prefix_trans prei pre5, ?_, ri.mono (le2.trans le5) pre5, by omega, ys2, envF', SF', er, fun F' ρ' H' acc' le pre sim r hl => fin F' ρ' H' acc' ((le2.trans le5).trans le) (prefix_trans pre5 pre) sim r hl⟩
              rw [← hw]; exact sim5.wipe own
            | true =>
              have ef : ((evO (callF Γ g w n) g elt env5 S5).fz.bind fun y env S => R.ok (some y) env S) = .ok o env2 S2 := ef
              obtain ⟨y, env6, S6, ey, ef⟩ := bind_ok ef
              cases ef
              refine ⟨F5, ρ5, _, env5, S5, sim5, At.fz ?_⟩
              rw [ey]
              intro F6 ρ6 H6 v le6 pre6 sim6 rv
              obtain ⟨g1, g2, g3, g4⟩ := sim6.ghostAt
              have hlen := ok.len
              have simN := sim6.ghost (o' := .lst (acc ++ [v])) gD
              refine ⟨acc, g1, by rw [size24]; omega, F6, ρ6, env2, S2, accD ++ [y], acc ++ [v], ((lei.trans le2).trans le5).trans le6, prefix_trans (prefix_trans prei pre5) pre6, ?_, (ri.mono ((le2.trans le5).trans le6) (prefix_trans pre5 pre6)).append (.one rv), by simp; omega, ys2, envF', SF', er, fun F' ρ' H' acc' le pre sim r hl => fin F' ρ' H' acc' (((le2.trans le5).trans le6).trans le) (prefix_trans (prefix_trans pre5 pre6) pre) sim (by simpa using r) hl⟩
              rw [← hw]; exact simN.wipe own
        · have hie : i = ds.length := by omega
          refine .inl ⟨by rw [hie]; exact ok.stop H leH, ?_⟩
          obtain ⟨ys', envF', SF', e', fin⟩ := rem
          rw [hie, List.drop_length] at e'
          cases e'
          have hlen := ok.len
          exact fin Fi ρi H acc Le.refl prefix_refl simi (by simpa using ri) (by omega)
/-- a block's context -/
theorem XF.blk (f : XF Γ g w n EX m W X) {scope : Scope} (s : Shared) (H : Hp) (C : Addr) (cl : List (Str × Addr)) (fp : List Addr) : XF Γ g w n EX (inner m scope) W0 (X.blk s H scope (compEnvC scope cl C X.env) fp) where
  hN := f.hN
  nd := f.nd
  hsc := by
    show relabel scope X.env = relS scope m.sc
    rw [← f.hsc]; rfl
  hfn := rfl
  calm := f.calm
  room := f.room
  tk := takes0
  fns := f.fns
  glo := f.glo
  blt := f.blt
/-- all that the rules of a comprehension ask -/
structure CompOk (Γ : Prog) (g : Glos) (w n : Nat) (EX : EXT) (W : WX) (X : Cx) (e : Ex) (elt tg iter : Expr) (ifs : List Expr) (scope : Scope) : Prop where
  ex : ∃ (wi : TI) (gg : TG) (tt : TT) (te : TE) (own : List (Str × Nat)), PI X tg iter wi ∧ BlkOk X.N X.env.scope scope own ∧
    (∀ (s : Shared) (H : Hp) (C : Addr) (cl : List (Str × Addr)) (fp : List Addr), PG (X.blk s H scope (compEnvC scope cl C X.env) fp) tg gg) ∧
    (∀ (s : Shared) (H : Hp) (C : Addr) (cl : List (Str × Addr)) (fp : List Addr), PTs (X.blk s H scope (compEnvC scope cl C X.env) fp) ifs tt) ∧
    (∀ (s : Shared) (H : Hp) (C : Addr) (cl : List (Str × Addr)) (fp : List Addr), PE (X.blk s H scope (compEnvC scope cl C X.env) fp) elt te) ∧
    (∀ x, foldedSetIterable iter X.env x = pure x) ∧ ∀ σ H Q, tO Γ g w n EX W X e σ H Q → tLc wi gg tt te (own.map (·.2)) σ H Q
theorem CompOk.pe (f : XF Γ g w n EX m W X) {e : Ex} {elt tg iter : Expr} {ifs : List Expr} {scope : Scope} {pos : Pos} (h : CompOk Γ g w n EX W X e elt tg iter ifs scope) : PE X (.ListComp elt [⟨tg, iter, ifs, 0⟩] scope pos) (tO Γ g w n EX W X e) := by
  obtain ⟨wi, gg, tt, te, own, h1, h2, h3, h4, h5, h6, h7⟩ := h.ex
  exact PE.imp (pe_lc f.calm (by rw [f.hN]; exact f.nd) h1 h2 h3 h4 h5 h6) h7
end
end Pf
/-! Pf, part D2: dict displays. -/
namespace Pf
open PySem PySem.Spec PyProof.Rows L2
section
variable {K : PySem.W.Frag} {F F' G H H' : Hp} {ρ ρ' : List Addr} {σ : L2.St} {env env' : Env} {S S' : Store}
inductive RepPs (K : PySem.W.Frag) (F : Hp) (ρ : List Addr) : List (V × V) → List (D × D) → Prop
  | nil : RepPs K F ρ [] []
  | cons {x y : V} {r : List (V × V)} {d e : D} {ds : List (D × D)} (hk : Rep K F ρ x d) (h : Rep K F ρ y e) (t : RepPs K F ρ r ds) : RepPs K F ρ ((x, y) :: r) ((d, e) :: ds)
theorem keyV {x : V} {d : D} (h : Rep K F ρ x d) (k : keyD d = true) : ∃ z : Key, x = kV z := by
  cases h with
  | int i => exact ⟨.inl i, rfl⟩
  | str h => exact ⟨.inr _, rfl⟩
  | _ => cases k
theorem rep_str {x : Str} {d : D} : ∀ {v : V}, Rep K F ρ v d → v = .str x → d = .str x.cps.toList
  | _, .str (s := s) _, e => by
    have : txt s = x := V.str.inj e
    rw [← this, txt_list]
  | _, .non, e => by cases e
  | _, .bl _, e => by cases e
  | _, .int _, e => by cases e
  | _, .lst _ _ _, e => by cases e
  | _, .tup _ _ _, e => by cases e
  | _, .scr _ _, e => by cases e
  | _, .loc _, e => by cases e
  | _, .dic _ _ _, e => by cases e
theorem keyEq {z : Key} {d e : D} (h : Rep K F ρ (kV z) d) (h' : Rep K F ρ (kV z) e) : d = e := by
  cases z with
  | inl i => cases h; cases h'; rfl
  | inr x => rw [rep_str h rfl, rep_str h' rfl]
theorem key_eqb {d : D} (k : keyD d = true) : d.eqb d = true := by
  cases d <;> first | (cases k; done) | simp [D.eqb]
theorem RepPs.keys : ∀ {ps : List (V × V)} {ds : List (D × D)}, RepPs K F ρ ps ds → keysOk ds = true → ∃ kvs : List (Key × V), ps = kvs.map (fun kv => (kV kv.1, kv.2)) ∧ RepKs K F ρ kvs ds
  | _, _, .nil, _ => ⟨[], rfl, .nil⟩
  | _, _, .cons (d := d) (ds := ds) hk h t, ok => by
    have ok : (keyD d && ds.all (fun p => !(d.eqb p.1)) && keysOk ds) = true := ok
    simp only [Bool.and_eq_true] at ok
    obtain ⟨kvs, rfl, r⟩ := RepPs.keys t ok.2
    obtain ⟨z, rfl⟩ := keyV hk ok.1.1
    exact ⟨(z, _) :: kvs, rfl, .cons hk h r⟩
theorem RepKs.notIn {z : Key} {d : D} (hk : Rep K F ρ (kV z) d) (hd : keyD d = true) : ∀ {kvs : List (Key × V)} {ds : List (D × D)}, RepKs K F ρ kvs ds → ds.all (fun p => !(d.eqb p.1)) = true → ∀ q ∈ kvs, q.1 ≠ z
  | _, _, .nil, _, q, h => by cases h
  | _, _, .cons (k := k) (d := d1) hk1 _ t, ok, q, h => by
    simp only [List.all_cons, Bool.and_eq_true, Bool.not_eq_true'] at ok
    rcases List.mem_cons.mp h with rfl | h
    · intro e
      have e : k = z := e
      subst e
      have := keyEq hk hk1
      subst this
      rw [key_eqb hd] at ok; cases ok.1
    · exact RepKs.notIn hk hd t ok.2 q h
theorem putK_new {acc : List (Key × V)} {k : Key} {v : V} (h : ∀ q ∈ acc, q.1 ≠ k) : putK acc k v = acc ++ [(k, v)] := by
  unfold putK
  rw [if_neg]
  intro z
  obtain ⟨q, h1, h2⟩ := List.any_eq_true.mp z
  exact h q h1 (of_decide_eq_true h2)
theorem merge_new : ∀ {kvs : List (Key × V)} {ds : List (D × D)} {acc : List (Key × V)}, RepKs K F ρ kvs ds → keysOk ds = true → (∀ q ∈ acc, ∀ r ∈ kvs, q.1 ≠ r.1) → mergeK acc kvs = acc ++ kvs
  | _, _, acc, .nil, _, _ => by simp [mergeK]
  | _, _, acc, .cons (k := k) (v := v) (r := r) (d := d) (ds := ds) hk h t, ok, ha => by
    have ok : (keyD d && ds.all (fun p => !(d.eqb p.1)) && keysOk ds) = true := ok
    simp only [Bool.and_eq_true] at ok
    have e : mergeK acc ((k, v) :: r) = mergeK (putK acc k v) r := rfl
    rw [e, putK_new fun q hq => ha q hq _ List.mem_cons_self, merge_new t ok.2 fun q hq p hp => ?_, List.append_assoc]
    · rfl
    · rcases List.mem_append.mp hq with hq | hq
      · exact ha q hq p (List.mem_cons_of_mem _ hp)
      · have : q = (k, v) := by simpa using hq
        subst this
        exact fun z => RepKs.notIn hk ok.1.1 t ok.1.2 p hp z.symm
theorem RepKs.length : ∀ {kvs : List (Key × V)} {ds : List (D × D)}, RepKs K F ρ kvs ds → kvs.length = ds.length
  | _, _, .nil => rfl
  | _, _, .cons _ _ t => by rw [List.length_cons, List.length_cons, RepKs.length t]
end
section
variable {Γ : Prog} {g : Glos} {w n : Nat} {EX : EXT} {m : MC} {W : WX} {X : Cx}
def trsOf (Γ : Prog) (g : Glos) (w n : Nat) (EX : EXT) (W : WX) (X : Cx) : List Ex → List (TE × TE)
  | k :: v :: r => (tO Γ g w n EX W X k, tO Γ g w n EX W X v) :: trsOf Γ g w n EX W X r
  | _ => []
theorem pairD_len : ∀ {ds : List D} {ks : List (D × D)}, pairD ds = some ks → ds.length = 2 * ks.length
  | [], _, h => by cases h; rfl
  | [_], _, h => by cases h
  | _ :: _ :: r, ks, h => by
    obtain ⟨ks', h1, rfl⟩ := map_some (show (pairD r).map _ = some ks from h)
    have := pairD_len h1
    simp only [List.length_cons]; omega
theorem bindOk {α β : Type} {r : R α} {f : α → Env → Store → R β} {b : β} {env : Env} {S : Store} (h : r.bind f = .ok b env S) : ∃ a e1 S1, r = .ok a e1 S1 ∧ f a e1 S1 = .ok b env S := bind_ok h
theorem pairs_run {σ : L2.St} {envF : Env} {SF : Store} {G : Hp} : ∀ (es : List Ex) {ds : List D} {kds : List (D × D)} {F : Hp} {ρ : List Addr} {env : Env} {S : Store} {H : Hp} {Q : List (V × V) → Hp → Prop},
    evDs (callF Γ g w n) g es env S = .ok ds envF SF → pairD ds = some kds → Sim X.K F ρ G env S σ H →
    (∀ F' ρ' H' ps, Le F F' → ρ <+: ρ' → Sim X.K F' ρ' G envF SF σ H' → RepPs X.K F' ρ' ps kds → Q ps H') → tPairs (trsOf Γ g w n EX W X es) σ H Q
  | [], ds, kds, F, ρ, env, S, H, Q, e, ek, s, q => by
    cases e
    cases ek
    exact q F ρ H [] Le.refl prefix_refl s .nil
  | [k], ds, kds, F, ρ, env, S, H, Q, e, ek, s, q => by
    have hl := evDs_len [k] env S e
    have := pairD_len ek
    simp only [List.length_cons, List.length_nil] at hl
    omega
  | k :: v :: r, ds, kds, F, ρ, env, S, H, Q, e, ek, s, q => by
    have e : ((evO (callF Γ g w n) g k env S).fz.bind fun d env S => ((evO (callF Γ g w n) g v env S).fz.bind fun d env S => (evDs (callF Γ g w n) g r env S).bind fun ds env S => .ok (d :: ds) env S).bind fun ds env S => .ok (d :: ds) env S) = .ok ds envF SF := e
    obtain ⟨d1, e1, S1, z1, e⟩ := bindOk e
    obtain ⟨ds2, e2, S2, z2, e⟩ := bindOk e
    cases e
    obtain ⟨d3, e3, S3, z3, z2⟩ := bindOk z2
    obtain ⟨ds4, e4, S4, z4, z2⟩ := bindOk z2
    cases z2
    obtain ⟨kds', ek', rfl⟩ := map_some (show (pairD ds4).map ((d1, d3) :: ·) = some kds from ek)
    refine ⟨F, ρ, G, env, S, s, At.fz ?_⟩
    show At _ _ _ _ _ _ _ _ _ (evO (callF Γ g w n) g k env S).fz
    rw [z1]
    intro F1 ρ1 H1 x le1 pre1 s1 r1
    refine ⟨F1, ρ1, G, e1, S1, s1, At.fz ?_⟩
    show At _ _ _ _ _ _ _ _ _ (evO (callF Γ g w n) g v e1 S1).fz
    rw [z3]
    intro F2 ρ2 H2 y le2 pre2 s2 r2
    exact pairs_run r z4 ek' s2 fun F' ρ' H' ps le pre s' rp => q F' ρ' H' _ ((le1.trans le2).trans le) (prefix_trans (prefix_trans pre1 pre2) pre) s' (.cons (Rep.mono (le2.trans le) (prefix_trans pre2 pre) r1) (Rep.mono le pre r2) rp)
theorem s_dic {es : List Ex} {ks : List (Option Expr)} {vs : List Expr} {pos : Pos} (h : PPs X pos ks vs (trsOf Γ g w n EX W X es)) (hall : ks.all (·.isSome) = true) (hl : ks.length = vs.length) (h2 : es.length = 2 * ks.length) (h0 : ks ≠ []) (h15 : ks.length ≤ 15) :
    PE X (.Dict ks vs pos) (tO Γ g w n EX W X (.dic es)) := by
  refine PE.imp (pe_disp h hall hl h0 h15) fun σ H Q ⟨F, ρ, G, env, S, s, a⟩ => ?_
  have a : At X.K W EX G σ (POut X.K G σ) Q F ρ ((evDs (callF Γ g w n) g es env S).nox.bind fun ds env S => match pairD ds with
    | some kvs => if keysOk kvs then .ok (.new (.dic kvs)) env S else .bad
    | none => .bad) := a
  cases et : (evDs (callF Γ g w n) g es env S).nox with
  | bad => rw [et] at a; exact a.elim
  | exc x e1 s1 =>
    exfalso
    cases z : evDs (callF Γ g w n) g es env S <;> (rw [z] at et; cases et)
  | ok ds envF SF =>
    rw [et] at a
    have et := nox_ok et
    cases ek : pairD ds with
    | none => rw [R.bind_ok, ek] at a; exact (show False from a).elim
    | some kds =>
      rw [R.bind_ok, ek] at a
      have a : At X.K W EX G σ (POut X.K G σ) Q F ρ (if keysOk kds then .ok (.new (.dic kds)) envF SF else .bad) := a
      cases ok : keysOk kds with
      | false => rw [ok] at a; exact (show False from a).elim
      | true =>
        rw [ok, if_pos rfl] at a
        intro p hp
        have gD := s.gnone hp
        refine pairs_run es et ek (s.ghostNew hp) fun F1 ρ1 H1 ps le1 pre1 s1 rp => ?_
        obtain ⟨kvs, rfl, rk⟩ := rp.keys ok
        obtain ⟨g1, g2, g3, g4⟩ := s1.ghostAt
        have em : mergeK [] kvs = kvs := by rw [merge_new rk ok fun q hq => by cases hq]; rfl
        have l1 := pairD_len ek
        have l2 := evDs_len es env S et
        have l3 := rk.length
        refine ⟨g1, kvs, rfl, by omega, ?_⟩
        rw [em]
        exact (a.mono le1 pre1).dic ((s1.ghost gD).unghost gD) rk (by omega) upd_same g2 gD g3 g4
end
end Pf
/-! Pf, part L: every expression. -/
namespace Pf
open PySem PySem.Spec PyProof.Rows L2
section
variable {Γ : Prog} {g : Glos} {w n : Nat} {EX : EXT}
theorem and2 {a b : Bool} (h : (a && b) = true) : a = true ∧ b = true := by rw [Bool.and_eq_true] at h; exact h
theorem not1 {a : Bool} (h : (!a) = true) : a = false := by simpa using h
theorem name_of {m : MC} {W : WX} {X : Cx} (f : XF Γ g w n EX m W X) {i : Nat} {x : Expr} (h : mName m i x = true) : PE X x (tVar i) ∧ isTest x = false := by
  cases x with
  | Name z p =>
    have h : (decide (m.N[i]? = some z) && visB m.sc z && okN z) = true := h
    obtain ⟨h1, h2⟩ := and2 h
    obtain ⟨h3, h4⟩ := and2 h1
    obtain ⟨d1, d2⟩ := dbg_of h2
    exact ⟨pe_var (by rw [f.hN]; exact of_decide_eq_true h3) (vis_of f h4) d1 d2, rfl⟩
  | _ => cases h
theorem own_names {m : MC} {own : List Nat} : (ownOf m own).map (·.2) = own := by
  unfold ownOf
  rw [List.map_map]
  exact (List.map_congr_left (fun _ _ => rfl)).trans (List.map_id _)
mutual
theorem sound {m : MC} {W : WX} {X : Cx} (f : XF Γ g w n EX m W X) : ∀ (e : Ex) {x : Expr}, mE m e x = true → Snd Γ g w n EX W X e x
  | .int i, x, h => by
    have h : (match (generalizing := false) x with | .Constant (.int j) _ _ => i == j | _ => false) = true := h
    split at h
    · rename_i j _ _ _
      have e : i = j := by simpa using h
      subst e
      exact .plain (s_val pe_int (fun _ _ => rfl) fun _ _ => .int i) rfl
    · cases h
  | .str z, x, h => by
    have h : (match (generalizing := false) x with | .Constant (.str y) _ _ => decide (y = txt z) && okS z | _ => false) = true := h
    split at h
    · rename_i y _ _ _
      obtain ⟨h1, h2⟩ := and2 h
      have e := of_decide_eq_true h1
      subst e
      exact .plain (s_val pe_str (fun _ _ => rfl) fun _ _ => .str h2) rfl
    · cases h
  | .bl i, x, h => by
    have h : (match (generalizing := false) x with | .Constant (.bool j) _ _ => i == j | _ => false) = true := h
    split at h
    · rename_i j _ _ _
      have e : i = j := by simpa using h
      subst e
      exact .plain (s_val pe_bl (fun _ _ => rfl) fun _ _ => .bl i) rfl
    · cases h
  | .non, x, h => by
    have h : (match (generalizing := false) x with | .Constant .none _ _ => true | _ => false) = true := h
    split at h
    · exact .plain (s_val pe_non (fun _ _ => rfl) fun _ _ => .non) rfl
    · cases h
  | .var i, x, h => by
    obtain ⟨h1, h2⟩ := name_of f (show mName m i x = true from h)
    exact .plain (s_var h1) h2
  | .hv i, x, h => by
    obtain ⟨h1, h2⟩ := name_of f (show mName m i x = true from h)
    exact .plain (s_hv h1) h2
  | .glo gx, x, h => by
    have h : (match (generalizing := false) x with | .Name z _ => decide (z = Str.ofString gx) && glB m.sc z && okN z | _ => false) = true := h
    split at h
    · rename_i z p _
      obtain ⟨h1, h2⟩ := and2 h
      obtain ⟨h3, h4⟩ := and2 h1
      have e := of_decide_eq_true h3
      have gl := gl_of f h4
      subst e
      have d1 := (dbg_of h2).1
      refine .plain ?_ rfl
      cases q : g gx with
      | none =>
        refine ⟨fun pins s σ H Q I hh => ?_⟩
        obtain ⟨F, ρ, G, env, S, sm, a⟩ := hh
        have a : At X.K W EX G σ (POut X.K G σ) Q F ρ (ofO ((g gx).map Out.val) env S) := a
        rw [q] at a
        exact a.elim
      | some d =>
        obtain ⟨u, v, h5, h6, h7⟩ := f.glo gx d q
        exact s_val (d := d) (pe_glob gl h5 h6 d1) (fun env S => by show ofO ((g gx).map Out.val) env S = _; rw [q]; rfl) h7
    · cases h
  | .bin o a b, x, h => by
    have h : (match (generalizing := false) x with | .BinOp l op r _ => decide (op = bopOf o) && mE m a l && mE m b r | _ => false) = true := h
    split at h
    · obtain ⟨h1, h2⟩ := and2 h
      obtain ⟨h3, h4⟩ := and2 h1
      have e := of_decide_eq_true h3
      subst e
      exact .plain (s_bin f (sound f a h4) (sound f b h2)) rfl
    · cases h
  | .un o a, x, h => by
    have h : (match (generalizing := false) x with | .UnaryOp .USub l _ => mE m a l | _ => false) = true := h
    split at h
    · exact .plain (s_un (sound f a h)) rfl
    · cases h
  | .cmp o a b, x, h => by
    have h : (match (generalizing := false) x with | .Compare l [op] [r] _ => decide (op = copOf o) && mE m a l && mE m b r && !isSet r | _ => false) = true := h
    split at h
    · obtain ⟨h1, h2⟩ := and2 h
      obtain ⟨h3, h4⟩ := and2 h1
      obtain ⟨h5, h6⟩ := and2 h3
      have e := of_decide_eq_true h5
      subst e
      exact s_cmp f (sound f a h6) (sound f b h4) (not1 h2)
    · cases h
  | .cmp2 o p a b c, x, h => by
    have h : (match (generalizing := false) x with | .Compare l [op, op'] [r, t] _ => decide (op = copOf o) && decide (op' = copOf p) && mE m a l && mE m b r && mE m c t && !isSet r && !isSet t | _ => false) = true := h
    split at h
    · obtain ⟨h1, h2⟩ := and2 h
      obtain ⟨h3, h4⟩ := and2 h1
      obtain ⟨h5, h6⟩ := and2 h3
      obtain ⟨h7, h8⟩ := and2 h5
      obtain ⟨h9, h10⟩ := and2 h7
      obtain ⟨h11, h12⟩ := and2 h9
      have e := of_decide_eq_true h11
      have e' := of_decide_eq_true h12
      subst e e'
      exact s_cmp2 f (sound f a h10) (sound f b h8) (sound f c h6) (not1 h2)
    · cases h
  | .and a b, x, h => by
    have h : (match (generalizing := false) x with
      | .BoolOp .And (y :: z :: rest) p => mE m a y && (match (generalizing := false) rest with
        | [] => mE m b z
        | u :: us => mE m b (.BoolOp .And (z :: u :: us) p))
      | _ => false) = true := h
    split at h
    · rename_i y z rest p _
      obtain ⟨h1, h2⟩ := and2 h
      cases rest with
      | nil =>
        have q := sound f b (show mE m b z = true from h2)
        exact s_and (sound f a h1) (pe_one q.pe) (pw_and1 q.pt)
      | cons u us =>
        have q := sound f b (show mE m b (.BoolOp .And (z :: u :: us) p) = true from h2)
        exact s_and (sound f a h1) q.pe (q.pw _ _ _ rfl)
    · cases h
  | .or a b, x, h => by
    have h : (match (generalizing := false) x with
      | .BoolOp .Or (y :: z :: rest) p => mE m a y && (match (generalizing := false) rest with
        | [] => mE m b z
        | u :: us => mE m b (.BoolOp .Or (z :: u :: us) p))
      | _ => false) = true := h
    split at h
    · rename_i y z rest p _
      obtain ⟨h1, h2⟩ := and2 h
      cases rest with
      | nil =>
        have q := sound f b (show mE m b z = true from h2)
        exact s_or (sound f a h1) (pe_one q.pe) (pw_or1 q.pt)
      | cons u us =>
        have q := sound f b (show mE m b (.BoolOp .Or (z :: u :: us) p) = true from h2)
        exact s_or (sound f a h1) q.pe (q.pw _ _ _ rfl)
    · cases h
  | .not a, x, h => by
    have h : (match (generalizing := false) x with | .UnaryOp .Not l _ => mE m a l | _ => false) = true := h
    split at h
    · exact s_not (sound f a h)
    · cases h
  | .ite c a b, x, h => by
    have h : (match (generalizing := false) x with | .IfExp t l r _ => mE m c t && mE m a l && mE m b r | _ => false) = true := h
    split at h
    · obtain ⟨h1, h2⟩ := and2 h
      obtain ⟨h3, h4⟩ := and2 h1
      exact s_ite (sound f c h3) (sound f a h4) (sound f b h2)
    · cases h
  | .lst es, x, h => by
    have h : (match (generalizing := false) x with | .List xs _ => mEs m es xs && decide (es.length < 1000) | _ => false) = true := h
    split at h
    · obtain ⟨h1, h2⟩ := and2 h
      exact .plain (s_lst (soundEs f es h1).1.2 (of_decide_eq_true h2)) rfl
    · cases h
  | .tup es, x, h => by
    have h : (match (generalizing := false) x with | .Tuple xs _ _ => mEs m es xs && decide (es.length < 1000) | _ => false) = true := h
    split at h
    · obtain ⟨h1, h2⟩ := and2 h
      exact .plain (s_tup (soundEs f es h1).1.2 (of_decide_eq_true h2)) rfl
    · cases h
  | .dic es, x, h => by
    have h : (match (generalizing := false) x with | .Dict ks vs _ => mKV m es ks vs && !ks.isEmpty && decide (ks.length ≤ 15) | _ => false) = true := h
    split at h
    · obtain ⟨h1, h2⟩ := and2 h
      obtain ⟨h3, h4⟩ := and2 h1
      obtain ⟨q1, q2, q3, q4⟩ := soundKV f es h3
      refine .plain (s_dic q1 q2 q3 q4 (fun z => ?_) (of_decide_eq_true h2)) rfl
      rw [z] at h4; cases h4
    · cases h
  | .idx a b, x, h => by
    have h : (match (generalizing := false) x with | .Subscript l r _ => mE m a l && mE m b r && !isSlice r | _ => false) = true := h
    split at h
    · obtain ⟨h1, h2⟩ := and2 h
      obtain ⟨h3, h4⟩ := and2 h1
      exact .plain (s_idx (sound f a h3) (sound f b h4) (not1 h2)) rfl
    · cases h
  | .slc a lo hi, x, h => by
    have h : (match (generalizing := false) x with | .Subscript l (.Slice u v none _) _ => mE m a l && mO m lo u && mO m hi v | _ => false) = true := h
    split at h
    · obtain ⟨h1, h2⟩ := and2 h
      obtain ⟨h3, h4⟩ := and2 h1
      exact .plain (s_slc (sound f a h3) (soundO f lo h4) (soundO f hi h2)) rfl
    · cases h
  | .bf b as, x, h => by
    have h : (match (generalizing := false) x with | .Call (.Name z _) (e :: es) [] _ => decide (z = Str.ofString (bfOf b).name) && glB m.sc z && mEs m as (e :: es) | _ => false) = true := h
    split at h
    · obtain ⟨h1, h2⟩ := and2 h
      obtain ⟨h3, h4⟩ := and2 h1
      have q := soundEs f as h2
      exact .plain (s_bf f (of_decide_eq_true h3) h4 q.2.1 q.1.1) rfl
    · cases h
  | .mth t r as, x, h => by
    have h : (match (generalizing := false) x with
      | .Call (.Attribute o n apos) (e :: es) [] cpos => decide (n = Str.ofString (mtOf t).2.1) && mE m r o && mEs m as (e :: es) && !isCall0 o && (apos.endLine == cpos.line) && decide ((e :: es).length < 29)
      | _ => false) = true := h
    split at h
    · obtain ⟨h1, h2⟩ := and2 h
      obtain ⟨h3, h4⟩ := and2 h1
      obtain ⟨h5, h6⟩ := and2 h3
      obtain ⟨h7, h8⟩ := and2 h5
      obtain ⟨h9, h10⟩ := and2 h7
      have q := soundEs f as h8
      exact .plain (s_mth (of_decide_eq_true h9) (sound f r h10) q.2.1 q.1.1 (not1 h6) h4 (of_decide_eq_true h2)) rfl
    · cases h
  | .mut t r as, x, h => by
    have h : (match (generalizing := false) x with
      | .Call (.Attribute o n apos) es [] cpos => decide (n = Str.ofString (muOf t).2.1) && mE m r o && mEs m as es && !isCall0 o && (apos.endLine == cpos.line) && decide (es.length < 29)
      | _ => false) = true := h
    split at h
    · obtain ⟨h1, h2⟩ := and2 h
      obtain ⟨h3, h4⟩ := and2 h1
      obtain ⟨h5, h6⟩ := and2 h3
      obtain ⟨h7, h8⟩ := and2 h5
      obtain ⟨h9, h10⟩ := and2 h7
      have q := soundEs f as h8
      exact .plain (s_mut (of_decide_eq_true h9) (sound f r h10) q.2.1 q.1.2 q.2.2 (not1 h6) h4 (of_decide_eq_true h2)) rfl
    · cases h
  | .isi a ts one, x, h => by
    have h : (match (generalizing := false) x with
      | .Call (.Name z _) [l, r] [] _ => decide (z = Str.ofString "isinstance") && glB m.sc z && mE m a l && !isStar l && (match (generalizing := false) one, ts, r with
        | true, [t], r => mTy m t r
        | false, ts, .Tuple rs _ _ => mTys m ts rs && decide (ts ≠ []) && decide (rs.length < 100)
        | _, _, _ => false)
      | _ => false) = true := h
    split at h
    · obtain ⟨h1, h2⟩ := and2 h
      obtain ⟨h3, h4⟩ := and2 h1
      obtain ⟨h5, h6⟩ := and2 h3
      obtain ⟨h7, h8⟩ := and2 h5
      split at h2
      · exact .plain (s_isi1 f (of_decide_eq_true h7) h8 (sound f a h6) (not1 h4) h2) rfl
      · obtain ⟨g1, g2⟩ := and2 h2
        obtain ⟨g3, g4⟩ := and2 g1
        exact .plain (s_isi f (of_decide_eq_true h7) h8 (sound f a h6) (not1 h4) g3 (of_decide_eq_true g4) (of_decide_eq_true g2)) rfl
      · cases h2
    · cases h
  | .comp elt tg k its cond own, x, h => by
    have h : (match (generalizing := false) x with
      | .ListComp e [⟨t, it, ifs, 0⟩] scope _ => blkC m.N m.sc scope (ownOf m own) && decide (own = tgSlots tg) && own.all (fun i => decide (i < m.N.length)) && mTg (inner m scope) tg t && mIt m k its it t && mC (inner m scope) cond ifs && mE (inner m scope) elt e
      | _ => false) = true := h
    split at h
    · rename_i e t it ifs scope pos _
      obtain ⟨h1, h2⟩ := and2 h
      obtain ⟨h3, h4⟩ := and2 h1
      obtain ⟨h5, h6⟩ := and2 h3
      obtain ⟨h7, h8⟩ := and2 h5
      obtain ⟨h9, _⟩ := and2 h7
      obtain ⟨h11, h12⟩ := and2 h9
      obtain ⟨p1, p2⟩ := soundIt f k its h6
      refine .plain (CompOk.pe f ⟨tIt Γ g w n EX W X k its, tTg X.K tg, tCn Γ g w n EX X cond, tO Γ g w n EX W0 X elt, ownOf m own, p1, ?_, fun s H C cl fp => pg_tg (f.blk s H C cl fp) h8, fun s H C cl fp => soundC (f.blk s H C cl fp) cond h4, fun s H C cl fp => (sound (f.blk s H C cl fp) elt h2).pe, fold_set p2, fun σ H Q q => ?_⟩) rfl
      · rw [f.hN, f.hsc]; exact blkOk_by h11
      · rw [own_names]; exact r_comp (of_decide_eq_true h12) q
    · cases h
  | .call fn as kws, x, h => by
    have h : (match (generalizing := false) x with
      | .Call (.Name z _) es ks _ => decide (z = Str.ofString fn) && glB m.sc z && okN z && decide (m.ar fn = some as.length) && (match (generalizing := false) kws, ks with
        | [], [] => mEs m as es
        | _ :: _, ks => (match (generalizing := false) es with
          | [] => mKs m as ks && decide (m.kw fn = some (ks.filterMap (·.arg))) && ks.all (·.arg.isSome)
          | _ => false)
        | _, _ => false)
      | _ => false) = true := h
    split at h
    · obtain ⟨h1, h2⟩ := and2 h
      obtain ⟨h3, h4⟩ := and2 h1
      obtain ⟨h5, h6⟩ := and2 h3
      obtain ⟨h7, h8⟩ := and2 h5
      split at h2
      · have q := soundEs f as h2
        exact .plain (s_call f (of_decide_eq_true h7) h8 h6 (of_decide_eq_true h4) q.2.1 q.2.2 q.1.2) rfl
      · split at h2
        · obtain ⟨g1, g2⟩ := and2 h2
          obtain ⟨g3, g4⟩ := and2 g1
          exact .plain (s_callK f (of_decide_eq_true h7) h8 h6 (of_decide_eq_true h4) (soundK f as g3) (of_decide_eq_true g4) g2) rfl
        · cases h2
      · cases h2
    · cases h
  | .new e, x, h => by
    have q := sound f e (show mE m e x = true from h)
    have key : ∀ σ H Q, tO Γ g w n EX W X (.new e) σ H Q → tO Γ g w n EX W X e σ H Q := fun σ H Q ⟨F, ρ, G, env, S, s, a⟩ => by
      refine ⟨F, ρ, G, env, S, s, ?_⟩
      have a : At X.K W EX G σ (POut X.K G σ) Q F ρ ((evO (callF Γ g w n) g e env S).bind fun o env S => match o with | .new (.lst xs) => .ok (.val (.loc S.length)) env (S ++ [.lst xs]) | _ => .bad) := a
      cases z : evO (callF Γ g w n) g e env S with
      | bad => rw [z] at a; exact a
      | exc _ _ _ => rw [z] at a; exact a
      | ok o env1 S1 =>
        rw [z] at a
        cases o with
        | val _ => exact a.elim
        | hdl _ => exact a.elim
        | new c =>
          intro F1 ρ1 H1 v le pre sim r
          cases c with
          | dic _ => exact (show False from a).elim
          | dead => exact (show False from r).elim
          | lst ds =>
            obtain ⟨p, xs, rfl, e1, e2, e3, e4, e5, e6, e7⟩ := r
            have a : At X.K W EX G σ (POut X.K G σ) Q F ρ (.ok (.val (.loc S1.length)) env1 (S1 ++ [.lst ds])) := a
            exact a F1 (ρ1 ++ [p]) H1 (.ref p) le (prefix_trans pre ⟨[p], rfl⟩) (sim.cellNew e1 e2 e3 e4 e5 e6 e7) (show Rep X.K F1 (ρ1 ++ [p]) _ (.loc S1.length) from .loc (by rw [← sim.rlen]; exact List.getElem?_concat_length ..))
    have key2 : ∀ σ H Q, tBo Γ g w n EX W X (.new e) σ H Q → tBo Γ g w n EX W X e σ H Q := fun σ H Q ⟨F, ρ, G, env, S, s, a⟩ => by
      refine ⟨F, ρ, G, env, S, s, ?_⟩
      have a : At X.K W EX G σ (PB G σ) Q F ρ (((evO (callF Γ g w n) g e env S).bind fun o env S => match o with | .new (.lst xs) => .ok (.val (.loc S.length)) env (S ++ [.lst xs]) | _ => .bad).bl) := a
      show At X.K W EX G σ (PB G σ) Q F ρ ((evO (callF Γ g w n) g e env S).bl)
      cases z : evO (callF Γ g w n) g e env S with
      | bad => rw [z] at a; exact a.elim
      | exc _ _ _ => rw [z] at a; exact a
      | ok o env1 S1 =>
        rw [z] at a
        cases o <;> first | exact (show False from a).elim | (rename_i c; cases c <;> exact (show False from a).elim)
    exact ⟨PE.imp q.pe key, PT.imp q.pt key2, fun op vs p e => PW.imp (q.pw op vs p e) key2⟩
theorem soundEs {m : MC} {W : WX} {X : Cx} (f : XF Γ g w n EX m W X) : ∀ (es : List Ex) {xs : List Expr}, mEs m es xs = true → (PA X xs (tAs Γ g w n EX W X es) ∧ PA X xs (tDs Γ g w n EX W X es)) ∧ noStars xs = true ∧ es.length = xs.length
  | [], xs, h => by
    cases xs with
    | nil => exact ⟨a_nil, rfl, rfl⟩
    | cons _ _ => cases h
  | e :: es, xs, h => by
    cases xs with
    | nil => cases h
    | cons x xs =>
      have h : (mE m e x && !isStar x && mEs m es xs) = true := h
      obtain ⟨h1, h2⟩ := and2 h
      obtain ⟨h3, h4⟩ := and2 h1
      obtain ⟨q1, q2, q3⟩ := soundEs f es h2
      refine ⟨a_cons (not1 h4) (sound f e h3) q1, ?_, by rw [List.length_cons, List.length_cons, q3]⟩
      unfold noStars at q2 ⊢
      rw [List.all_cons, not1 h4, q2]; rfl
theorem soundO {m : MC} {W : WX} {X : Cx} (f : XF Γ g w n EX m W X) : ∀ (e : Option Ex) {x : Option Expr}, mO m e x = true → PO X x (tR X.K W EX (fun _ _ _ _ _ _ b a => b = a) (evP (callF Γ g w n) g e))
  | none, x, h => by
    cases x with
    | none => exact p_none
    | some _ => cases h
  | some e, x, h => by
    cases x with
    | none => cases h
    | some x => exact p_some (sound f e (show mE m e x = true from h))
theorem soundC {m : MC} {X : Cx} {W : WX} (f : XF Γ g w n EX m W X) : ∀ (e : Option Ex) {x : List Expr}, mC m e x = true → PTs X x (tR X.K W EX PB (evC (callF Γ g w n) g e))
  | none, x, h => by
    match x, h with
    | [], _ =>
      refine ⟨fun pins s σ H Q I q => pts_nil.run pins s σ H Q I ?_⟩
      obtain ⟨F, ρ, G, env, S, sm, a⟩ := q
      have a : At X.K W EX G σ (PB G σ) Q F ρ (.ok true env S) := a
      exact a.now sm (b := true) rfl
    | _ :: _, h => cases h
  | some e, x, h => by
    match x, h with
    | [], h => cases h
    | [y], h => exact pts_one (sound f e (show mE m e y = true from h)).pt
    | _ :: _ :: _, h => cases h
theorem soundKV {m : MC} {W : WX} {X : Cx} (f : XF Γ g w n EX m W X) : ∀ (es : List Ex) {ks : List (Option Expr)} {vs : List Expr} {pos : Pos}, mKV m es ks vs = true → PPs X pos ks vs (trsOf Γ g w n EX W X es) ∧ ks.all (·.isSome) = true ∧ ks.length = vs.length ∧ es.length = 2 * ks.length
  | [], ks, vs, pos, h => by
    cases ks with
    | nil => cases vs with
      | nil => exact ⟨pps_nil, rfl, rfl, rfl⟩
      | cons _ _ => cases h
    | cons _ _ => cases h
  | [k], ks, vs, pos, h => by
    cases ks with
    | nil => cases h
    | cons a ks => cases a with
      | none => cases h
      | some a => cases vs with
        | nil => cases h
        | cons b vs =>
          have h : (mE m k a && false) = true := h
          rw [Bool.and_false] at h; cases h
  | k :: v :: es, ks, vs, pos, h => by
    cases ks with
    | nil => cases h
    | cons a ks => cases a with
      | none => cases h
      | some a => cases vs with
        | nil => cases h
        | cons b vs =>
          have h : (mE m k a && (mE m v b && mKV m es ks vs)) = true := h
          obtain ⟨h1, h2⟩ := and2 h
          obtain ⟨h3, h4⟩ := and2 h2
          obtain ⟨q1, q2, q3, q4⟩ := soundKV f es (pos := pos) h4
          refine ⟨pps_cons (sound f k h1).pe (sound f v h3).pe q1, ?_, by rw [List.length_cons, List.length_cons, q3], by simp only [List.length_cons]; omega⟩
          rw [List.all_cons, q2]; rfl
theorem soundK {m : MC} {W : WX} {X : Cx} (f : XF Γ g w n EX m W X) : ∀ (es : List Ex) {xs : List Keyword}, mKs m es xs = true → PK X xs (tDs Γ g w n EX W X es)
  | [], xs, h => by
    cases xs with
    | nil => exact k_nil
    | cons _ _ => cases h
  | e :: es, xs, h => by
    cases xs with
    | nil => cases h
    | cons x xs =>
      obtain ⟨a, y, p⟩ := x
      have h : (mE m e y && mKs m es xs) = true := h
      obtain ⟨h1, h2⟩ := and2 h
      exact k_cons (sound f e h1) (soundK f es h2)
theorem soundIt {m : MC} {W : WX} {X : Cx} (f : XF Γ g w n EX m W X) (k : Itk) : ∀ (es : List Ex) {x t : Expr}, mIt m k es x t = true → PI X t x (tIt Γ g w n EX W X k es) ∧ isSet x = false
  | [], x, t, h => by cases k <;> cases h
  | [e], x, t, h => by
    cases k with
    | val =>
      have h : (mE m e x && !isSet x) = true := h
      obtain ⟨h1, h2⟩ := and2 h
      exact ⟨pi_val (sound f e h1).pe, not1 h2⟩
    | range1 =>
      have h : (match (generalizing := false) x with
        | .Call (.Name z _) [y] [] _ => decide (z = Str.ofString "range") && glB m.sc z && mE m e y && !isStar y
        | _ => false) = true := h
      split at h
      · obtain ⟨h1, h2⟩ := and2 h
        obtain ⟨h3, h4⟩ := and2 h1
        obtain ⟨h5, h6⟩ := and2 h3
        exact ⟨pi_r1 f (of_decide_eq_true h5) h6 (a_cons (not1 h2) (sound f e h4) a_nil).2 (not1 h2), rfl⟩
      · cases h
    | enum =>
      have h : (match (generalizing := false) x, t with
        | .Call (.Name z _) [y] [] _, .Tuple _ _ _ => decide (z = Str.ofString "enumerate") && glB m.sc z && mE m e y && !isStar y
        | _, _ => false) = true := h
      split at h
      · obtain ⟨h1, h2⟩ := and2 h
        obtain ⟨h3, h4⟩ := and2 h1
        obtain ⟨h5, h6⟩ := and2 h3
        exact ⟨pi_en f (of_decide_eq_true h5) h6 (a_cons (not1 h2) (sound f e h4) a_nil).2 (not1 h2), rfl⟩
      · cases h
    | range2 => cases h
    | zip => cases h
  | [e, e'], x, t, h => by
    cases k with
    | range2 =>
      have h : (match (generalizing := false) x with
        | .Call (.Name z _) [y, u] [] _ => decide (z = Str.ofString "range") && glB m.sc z && mE m e y && !isStar y && mE m e' u && !isStar u
        | _ => false) = true := h
      split at h
      · obtain ⟨h1, h2⟩ := and2 h
        obtain ⟨h3, h4⟩ := and2 h1
        obtain ⟨h5, h6⟩ := and2 h3
        obtain ⟨h7, h8⟩ := and2 h5
        obtain ⟨h9, h10⟩ := and2 h7
        exact ⟨pi_r2 f (of_decide_eq_true h9) h10 (a_cons (not1 h6) (sound f e h8) (a_cons (not1 h2) (sound f e' h4) a_nil)).2 (not1 h6) (not1 h2), rfl⟩
      · cases h
    | zip =>
      have h : (match (generalizing := false) x, t with
        | .Call (.Name z _) [y, u] [] _, .Tuple _ _ _ => decide (z = Str.ofString "zip") && glB m.sc z && mE m e y && !isStar y && mE m e' u && !isStar u
        | _, _ => false) = true := h
      split at h
      · obtain ⟨h1, h2⟩ := and2 h
        obtain ⟨h3, h4⟩ := and2 h1
        obtain ⟨h5, h6⟩ := and2 h3
        obtain ⟨h7, h8⟩ := and2 h5
        obtain ⟨h9, h10⟩ := and2 h7
        exact ⟨pi_zp f (of_decide_eq_true h9) h10 (a_cons (not1 h6) (sound f e h8) (a_cons (not1 h2) (sound f e' h4) a_nil)).2 (not1 h6) (not1 h2), rfl⟩
      · cases h
    | val => cases h
    | range1 => cases h
    | enum => cases h
  | _ :: _ :: _ :: _, x, t, h => by cases k <;> cases h
end
end
end Pf
/-! Pf, part M: statements. -/
namespace Pf
open PySem PySem.Spec PyProof.Rows L2
theorem PS.imp {X : Cx} {st : Stmt} {t t' : TS} (h : PS X st t) (hi : ∀ D σ H, t' D σ H → t D σ H) : PS X st t' := ⟨fun pins s σ H D I q => h.run pins s σ H D I (hi D σ H q)⟩
theorem PSs.imp {X : Cx} {st : List Stmt} {t t' : TS} (h : PSs X st t) (hi : ∀ D σ H, t' D σ H → t D σ H) : PSs X st t' := ⟨fun pins s σ H D I q => h.run pins s σ H D I (hi D σ H q)⟩

/-! ### the match -/
def isName : Expr → Bool
  | .Name .. => true
  | _ => false
def isTup : Expr → Bool
  | .Tuple .. => true
  | _ => false
/-- a comprehension's value stored in exchange -/
def lcSwap (m : MC) (t v : Expr) : Bool := match v, t with
  | .ListComp _ _ scope vp, .Name y yp => m.sc.kind == .function && decide (m.sc.names.lookup y = some .local) && yp.line == vp.line && !(scope.names.any fun (n, k) => n == y && (k == .local || k == .cell))
  | _, _ => false
/-- two names from a display of two -/
def mPar (m : MC) (is : List Nat) : List Expr → List Expr → Bool
  | [.Name x px, .Name y py], [a, b] => (match is with
    | [i, j] => decide (m.N[i]? = some x) && decide (m.N[j]? = some y) && decide (i ≠ j) && decide (x ≠ y) && decide (m.sc.names.lookup x = some .local) && decide (m.sc.names.lookup y = some .local) && m.sc.kind == .function && px.line == py.line && !isStar a && !isStar b && !foldedForSure 8 a && !constantsAlone 8 a
    | _ => false)
  | _, _ => false
def isComp : Ex → Bool
  | .comp .. => true
  | _ => false
def tupEs : Ex → Option (List Ex)
  | .tup es => some es
  | _ => none
mutual
def mS (m : MC) : Stm → Stmt → Bool
  | .ex e => fun x => match x with
    | .Expr y _ => mE m e y && !isCompr y
    | _ => false
  | .asg (.name i) e => fun x => match x with
    | .Assign [t] y _ => mSto m i t && mE m e y && (!isCompr y || (isComp e && lcSwap m t y))
    | _ => false
  | .asg (.tup is) e => fun x => match x with
    | .Assign [.Tuple ts k tp] y _ => (match y with
      | .Tuple ys _ _ => (match tupEs e with
        | some es => mPar m is ts ys && mEs m es ys
        | none => false)
      | y => mTg m (.tup is) (.Tuple ts k tp) && mE m e y && !isCompr y)
    | _ => false
  | .own i e => fun x => match x with
    | .Assign [t] y _ => mSto m i t && mE m e y && (!isCompr y || (isComp e && lcSwap m t y))
    | _ => false
  | .put o k v => fun x => match x with
    | .Assign [.Subscript a b _] y _ => mE m o a && mE m k b && mE m v y && !isCompr y && !isSlice b
    | _ => false
  | .ret none => fun x => match x with
    | .Return none _ => true
    | _ => false
  | .ret (some e) => fun x => match x with
    | .Return (some y) _ => mE m e y
    | _ => false
  | .ife c a b => fun x => match x with
    | .If y p q _ => mE m c y && mSs m a p && mSs m b q
    | _ => false
  | .whl c a => fun x => match x with
    | .While y p [] _ => mE m c y && mSs m a p
    | _ => false
  | .fr t k its a => fun x => match x with
    | .For tg it p [] _ => mTg m t tg && mIt m k its it tg && mSs m a p
    | _ => false
  | .brk => fun x => match x with
    | .Break _ => true
    | _ => false
  | .cnt => fun x => match x with
    | .Continue _ => true
    | _ => false
  | .pass => fun x => match x with
    | .Pass _ => true
    | .Expr (.Constant (.str _) _ _) _ => true
    | _ => false
  | .nev => fun _ => true
def mSs (m : MC) : List Stm → List Stmt → Bool
  | [] => fun x => match x with
    | [] => true
    | _ => false
  | s :: ss => fun x => match x with
    | y :: ys => mS m s y && mSs m ss ys
    | [] => false
end

/-! ### what is asked of a run of statements -/
section
variable {γ δ : Type} {K : PySem.W.Frag} {W : WX} {EX : EXT} {F F' G H H' : Hp} {ρ ρ' : List Addr} {σ : L2.St} {env env' : Env} {S S' : Store}
def AtS (K : PySem.W.Frag) (W : WX) (EX : EXT) (G : Hp) (D : Ends) (F : Hp) (ρ : List Addr) : R Fl → Prop
  | .ok .nxt env S => ∀ F' ρ' σ' H, Le F F' → ρ <+: ρ' → Sim K F' ρ' G env S σ' H → D.nx σ' H
  | .ok .brk env S => ∀ F' ρ' σ' H, Le F F' → ρ <+: ρ' → Sim K F' ρ' G env S σ' H → D.bk σ' H
  | .ok .cnt env S => ∀ F' ρ' σ' H, Le F F' → ρ <+: ρ' → Sim K F' ρ' G env S σ' H → D.ct σ' H
  | .ok (.ret d) env S => ∀ F' ρ' σ' H v, Le F F' → ρ <+: ρ' → Sim K F' ρ' G env S σ' H → Rep K F' ρ' v d → D.rt v H
  | .exc x env S => ∀ F' ρ' σ' H cls d, Le F F' → ρ <+: ρ' → Sim K F' ρ' G env S σ' H → EX F' ρ' H cls d x → W cls d σ' H
  | .bad => False
theorem AtS.mono {D : Ends} {r : R Fl} (h : AtS K W EX G D F ρ r) (hF : Le F F') (hρ : ρ <+: ρ') : AtS K W EX G D F' ρ' r := by
  cases r with
  | ok a env S => cases a with
    | ret d => exact fun F2 ρ2 σ' H v h1 h2 => h F2 ρ2 σ' H v (hF.trans h1) (prefix_trans hρ h2)
    | _ => exact fun F2 ρ2 σ' H h1 h2 => h F2 ρ2 σ' H (hF.trans h1) (prefix_trans hρ h2)
  | exc x env S => exact fun F2 ρ2 σ' H c d h1 h2 => h F2 ρ2 σ' H c d (hF.trans h1) (prefix_trans hρ h2)
  | bad => exact h
theorem AtS.bind {P1 : Post γ δ} {D : Ends} {r : R δ} {f : δ → Env → Store → R Fl} (h : AtS K W EX G D F ρ (r.bind f)) :
    At K W EX G σ P1 (fun b H => ∃ a F1 ρ1 env1 S1, Le F F1 ∧ ρ <+: ρ1 ∧ Sim K F1 ρ1 G env1 S1 σ H ∧ P1 F1 ρ1 env1 H b a ∧ AtS K W EX G D F1 ρ1 (f a env1 S1)) F ρ r := by
  cases r with
  | ok a env S => exact fun F1 ρ1 H b h1 h2 h3 h4 => ⟨a, F1, ρ1, env, S, h1, h2, h3, h4, AtS.mono h h1 h2⟩
  | exc x env S => exact fun F1 ρ1 H c d h1 h2 h3 h4 => h F1 ρ1 σ H c d h1 h2 h3 h4
  | bad => exact h
/-- first statements, then what comes after each end of theirs -/
theorem AtS.then {D D' : Ends} {r : R Fl} {f : Fl → Env → Store → R Fl} (h : AtS K W EX G D F ρ (r.bind f))
    (hn : ∀ F1 ρ1 env1 S1 σ' H, Le F F1 → ρ <+: ρ1 → Sim K F1 ρ1 G env1 S1 σ' H → AtS K W EX G D F1 ρ1 (f .nxt env1 S1) → D'.nx σ' H)
    (hb : ∀ F1 ρ1 env1 S1 σ' H, Le F F1 → ρ <+: ρ1 → Sim K F1 ρ1 G env1 S1 σ' H → AtS K W EX G D F1 ρ1 (f .brk env1 S1) → D'.bk σ' H)
    (hc : ∀ F1 ρ1 env1 S1 σ' H, Le F F1 → ρ <+: ρ1 → Sim K F1 ρ1 G env1 S1 σ' H → AtS K W EX G D F1 ρ1 (f .cnt env1 S1) → D'.ct σ' H)
    (hr : ∀ F1 ρ1 env1 S1 σ' H d v, Le F F1 → ρ <+: ρ1 → Sim K F1 ρ1 G env1 S1 σ' H → Rep K F1 ρ1 v d → AtS K W EX G D F1 ρ1 (f (.ret d) env1 S1) → D'.rt v H) : AtS K W EX G D' F ρ r := by
  cases r with
  | ok a env S => cases a with
    | ret d => exact fun F2 ρ2 σ' H v h1 h2 h3 h4 => hr F2 ρ2 env S σ' H d v h1 h2 h3 h4 (AtS.mono h h1 h2)
    | nxt => exact fun F2 ρ2 σ' H h1 h2 h3 => hn F2 ρ2 env S σ' H h1 h2 h3 (AtS.mono h h1 h2)
    | brk => exact fun F2 ρ2 σ' H h1 h2 h3 => hb F2 ρ2 env S σ' H h1 h2 h3 (AtS.mono h h1 h2)
    | cnt => exact fun F2 ρ2 σ' H h1 h2 h3 => hc F2 ρ2 env S σ' H h1 h2 h3 (AtS.mono h h1 h2)
  | exc x env S => exact h
  | bad => exact h
theorem AtS.nxt {D : Ends} (h : AtS K W EX G D F ρ (.ok .nxt env S)) (s : Sim K F ρ G env S σ H) : D.nx σ H := h F ρ σ H Le.refl prefix_refl s
theorem AtS.ret {D : Ends} {d : Pf.D} {v : V} (h : AtS K W EX G D F ρ (.ok (.ret d) env S)) (s : Sim K F ρ G env S σ H) (r : Rep K F ρ v d) : D.rt v H := h F ρ σ H v Le.refl prefix_refl s r
def tS (K : PySem.W.Frag) (W : WX) (EX : EXT) (r : Env → Store → R Fl) : TS := fun D σ H => ∃ F ρ G env S, Sim K F ρ G env S σ H ∧ AtS K W EX G D F ρ (r env S)
end

section
variable {Γ : Prog} {g : Glos} {w n : Nat} {EX : EXT} {m : MC} {W : WX} {X : Cx}
/-- the context of a def's own code -/
structure XS (Γ : Prog) (g : Glos) (w n : Nat) (EX : EXT) (m : MC) (W : WX) (X : Cx) : Prop extends XF Γ g w n EX m W X where
  po : PassesOwn (model X.prog X.w) X.A X.env X.xe
abbrev tX (Γ : Prog) (g : Glos) (w n : Nat) (EX : EXT) (W : WX) (X : Cx) (s : Stm) : TS := tS X.K W EX (exS (callF Γ g w n) g w s)
abbrev tXs (Γ : Prog) (g : Glos) (w n : Nat) (EX : EXT) (W : WX) (X : Cx) (s : List Stm) : TS := tS X.K W EX (exSs (callF Γ g w n) g w s)
theorem x_nil : PSs X [] (tXs Γ g w n EX W X []) := PSs.imp pss_nil fun D σ H ⟨F, ρ, G, env, S, s, h⟩ => AtS.nxt h s
theorem x_cons {s : Stm} {ss : List Stm} {st : Stmt} {sts : List Stmt} (h1 : PS X st (tX Γ g w n EX W X s)) (h2 : PSs X sts (tXs Γ g w n EX W X ss)) : PSs X (st :: sts) (tXs Γ g w n EX W X (s :: ss)) := by
  refine PSs.imp (pss_cons h1 h2) fun D σ H ⟨F, ρ, G, env, S, sm, h⟩ => ?_
  have h : AtS X.K W EX G D F ρ ((exS (callF Γ g w n) g w s env S).bind fun fl env S => match fl with
    | .nxt => exSs (callF Γ g w n) g w ss env S
    | .brk => .ok .brk env S
    | .cnt => .ok .cnt env S
    | .ret d => .ok (.ret d) env S) := h
  refine ⟨F, ρ, G, env, S, sm, AtS.then h ?_ ?_ ?_ ?_⟩
  · exact fun F1 ρ1 env1 S1 σ1 H1 _ _ s1 a1 => ⟨F1, ρ1, G, env1, S1, s1, a1⟩
  · exact fun F1 ρ1 env1 S1 σ1 H1 _ _ s1 a1 => a1 F1 ρ1 σ1 H1 Le.refl prefix_refl s1
  · exact fun F1 ρ1 env1 S1 σ1 H1 _ _ s1 a1 => a1 F1 ρ1 σ1 H1 Le.refl prefix_refl s1
  · exact fun F1 ρ1 env1 S1 σ1 H1 d v _ _ s1 rv a1 => a1 F1 ρ1 σ1 H1 v Le.refl prefix_refl s1 rv
theorem x_ex {e : Ex} {y : Expr} {p : Pos} (f : XS Γ g w n EX m W X) (h : mE m e y = true) (hc : isCompr y = false) : PS X (.Expr y p) (tX Γ g w n EX W X (.ex e)) := by
  refine PS.imp (ps_expr (sound f.toXF e h).pe (swaps_none hc)) fun D σ H ⟨F, ρ, G, env, S, s, q⟩ => ?_
  refine ⟨F, ρ, G, env, S, s, At.fz (At.imp (AtS.bind (P1 := PD X.K G σ) q) ?_)⟩
  intro v H1 ⟨a, F1, ρ1, env1, S1, le1, pre1, s1, ra, a1⟩
  exact AtS.nxt a1 s1
theorem x_ret {e : Ex} {y : Expr} {p : Pos} (f : XS Γ g w n EX m W X) (h : mE m e y = true) : PS X (.Return (some y) p) (tX Γ g w n EX W X (.ret (some e))) := by
  refine PS.imp (ps_ret (sound f.toXF e h).pe) fun D σ H ⟨F, ρ, G, env, S, s, q⟩ => ?_
  refine ⟨F, ρ, G, env, S, s, At.fz (At.imp (AtS.bind (P1 := PD X.K G σ) q) ?_)⟩
  intro v H1 ⟨a, F1, ρ1, env1, S1, le1, pre1, s1, ra, a1⟩
  exact AtS.ret a1 s1 ra
theorem x_if {c : Ex} {a b : List Stm} {y : Expr} {ps qs : List Stmt} {p : Pos} (f : XS Γ g w n EX m W X) (h : mE m c y = true) (ha : PSs X ps (tXs Γ g w n EX W X a)) (hb : PSs X qs (tXs Γ g w n EX W X b)) : PS X (.If y ps qs p) (tX Γ g w n EX W X (.ife c a b)) := by
  refine PS.imp (ps_if (sound f.toXF c h).pt ha hb) fun D σ H ⟨F, ρ, G, env, S, s, q⟩ => ?_
  refine ⟨F, ρ, G, env, S, s, At.imp (AtS.bind (P1 := PB G σ) q) ?_⟩
  rintro d H1 ⟨r, F1, ρ1, env1, S1, le1, pre1, s1, e, a1⟩
  cases (show d = r from e)
  cases d with
  | true => exact ⟨F1, ρ1, G, env1, S1, s1, a1⟩
  | false => exact ⟨F1, ρ1, G, env1, S1, s1, a1⟩
theorem x_while {c : Ex} {a : List Stm} {y : Expr} {ps : List Stmt} {p : Pos} (f : XS Γ g w n EX m W X) (h : mE m c y = true) (ha : PSs X ps (tXs Γ g w n EX W X a)) : PS X (.While y ps [] p) (tX Γ g w n EX W X (.whl c a)) := by
  refine PS.imp (ps_while f.po (sound f.toXF c h).pt ha) fun D σ H ⟨F, ρ, G, env, S, s, q⟩ => ?_
  let cF := fun env S => (evO (callF Γ g w n) g c env S).bl
  let aF := fun env S => exSs (callF Γ g w n) g w a env S
  refine ⟨fun k σ H => ∃ F ρ env S, Sim X.K F ρ G env S σ H ∧ AtS X.K W EX G D F ρ (loopW cF aF k env S), ⟨w, F, ρ, env, S, s, q⟩, ?_⟩
  rintro k σ H ⟨F, ρ, env, S, s, q⟩
  cases k with
  | zero => exact (show False from q).elim
  | succ k =>
    have q : AtS X.K W EX G D F ρ ((cF env S).bind fun b env S => if b then (aF env S).bind fun fl env S => match fl with
      | .nxt | .cnt => loopW cF aF k env S
      | .brk => .ok .nxt env S
      | .ret d => .ok (.ret d) env S else .ok .nxt env S) := q
    refine ⟨F, ρ, G, env, S, s, At.imp (AtS.bind (P1 := PB G σ) q) ?_⟩
    rintro d H1 ⟨r, F1, ρ1, env1, S1, le1, pre1, s1, e, a1⟩
    cases (show d = r from e)
    cases d with
    | false => exact AtS.nxt a1 s1
    | true =>
      have a1 : AtS X.K W EX G D F1 ρ1 ((aF env1 S1).bind fun fl env S => match fl with
        | .nxt | .cnt => loopW cF aF k env S
        | .brk => .ok .nxt env S
        | .ret d => .ok (.ret d) env S) := a1
      refine ⟨fun σ H => ∃ F ρ env S, Sim X.K F ρ G env S σ H ∧ AtS X.K W EX G D F ρ (loopW cF aF k env S), fun σ' H' z => ⟨k, Nat.lt_succ_self k, z⟩, F1, ρ1, G, env1, S1, s1, AtS.then a1 ?_ ?_ ?_ ?_⟩
      · exact fun F2 ρ2 env2 S2 σ2 H2 _ _ s2 a2 => ⟨F2, ρ2, env2, S2, s2, a2⟩
      · exact fun F2 ρ2 env2 S2 σ2 H2 _ _ s2 a2 => AtS.nxt (W := W) (EX := EX) (D := D) a2 s2
      · exact fun F2 ρ2 env2 S2 σ2 H2 _ _ s2 a2 => ⟨F2, ρ2, env2, S2, s2, a2⟩
      · exact fun F2 ρ2 env2 S2 σ2 H2 d v _ _ s2 rv a2 => AtS.ret (W := W) (EX := EX) (D := D) a2 s2 rv
theorem x_for {t : Tg} {k : Itk} {its : List Ex} {a : List Stm} {tg it : Expr} {ps : List Stmt} {p : Pos} (f : XS Γ g w n EX m W X) (ht : mTg m t tg = true) (hi : mIt m k its it tg = true) (ha : PSs X ps (tXs Γ g w n EX W X a)) : PS X (.For tg it ps [] p) (tX Γ g w n EX W X (.fr t k its a)) := by
  obtain ⟨h1, h2⟩ := soundIt f.toXF k its hi
  refine PS.imp (ps_for f.po f.calm h1 (pg_tg f.toXF ht) ha (fold_set h2)) fun D σ H ⟨F, ρ, G, env, S, s, q⟩ => ?_
  let aF := fun d env S => match bindTg t d env with
    | none => R.bad
    | some env => exSs (callF Γ g w n) g w a env S
  have q : AtS X.K W EX G D F ρ ((evDs (callF Γ g w n) g its env S).bind fun xs env S => match itF k xs with
    | none => .bad
    | some ds => loopF aF ds env S) := q
  refine ⟨F, ρ, G, env, S, s, At.imp (AtS.bind (P1 := PDs X.K G σ) q) ?_⟩
  intro vs H1 ⟨xs, F1, ρ1, env1, S1, le1, pre1, s1, rx, a1⟩
  cases ei : itF k xs with
  | none => rw [ei] at a1; exact (show False from a1).elim
  | some ds =>
    rw [ei] at a1
    refine ⟨F1, ρ1, xs, ds, s1.fh, rx, ei, fun J ok => ?_⟩
    let Iv : Nat → L2.St → Hp → Prop := fun i σ H => ∃ F ρ env S, Le F1 F ∧ ρ1 <+: ρ ∧ Sim X.K F ρ G env S σ H ∧ AtS X.K W EX G D F ρ (loopF aF (ds.drop i) env S)
    refine ⟨fun i mm σ H => mm = ds.length - i ∧ i ≤ ds.length ∧ Iv i σ H, ⟨ds.length, by simp, Nat.zero_le _, F1, ρ1, env1, S1, Le.refl, prefix_refl, s1, a1⟩, ?_⟩
    rintro i mm σ H ⟨rfl, hi, Fi, ρi, envi, Si, lei, prei, si, ai⟩
    have leH : Le F1 H := lei.trans si.fh
    by_cases hlt : i < ds.length
    · refine .inr ⟨ok.go i H leH hlt, Iv (i + 1), fun σ' H' p' => ⟨ds.length - (i + 1), by omega, rfl, hlt, p'⟩, fun x H' y => ?_⟩
      have hd : ds[i]? = some ds[i] := List.getElem?_eq_getElem hlt
      obtain ⟨F2, le2, s2, r2⟩ := ok.yld i ds[i] H x H' leH hd y lei prei si
      rw [List.drop_eq_getElem_cons hlt] at ai
      have ai : AtS X.K W EX G D Fi ρi ((aF ds[i] envi Si).bind fun fl env S => match fl with
        | .nxt | .cnt => loopF aF (ds.drop (i + 1)) env S
        | .brk => .ok .nxt env S
        | .ret d => .ok (.ret d) env S) := ai
      cases eb : bindTg t ds[i] envi with
      | none =>
        have : aF ds[i] envi Si = R.bad := by show (match bindTg t ds[i] envi with | none => R.bad | some env => exSs (callF Γ g w n) g w a env Si) = _; rw [eb]
        rw [this] at ai; exact (show False from ai).elim
      | some env4 =>
        have e4 : aF ds[i] envi Si = exSs (callF Γ g w n) g w a env4 Si := by show (match bindTg t ds[i] envi with | none => R.bad | some env => exSs (callF Γ g w n) g w a env Si) = _; rw [eb]
        rw [e4] at ai
        refine ⟨F2, ρi, G, envi, Si, ds[i], env4, s2, r2, eb, fun σ' s4 hl4 ho4 => ⟨F2, ρi, G, env4, Si, s4, AtS.mono (AtS.then ai ?_ ?_ ?_ ?_) le2 prefix_refl⟩⟩
        · exact fun F5 ρ5 env5 S5 σ5 H5 le5 pre5 s5 a5 => ⟨F5, ρ5, env5, S5, lei.trans le5, prefix_trans prei pre5, s5, a5⟩
        · exact fun F5 ρ5 env5 S5 σ5 H5 le5 pre5 s5 a5 => AtS.nxt (W := W) (EX := EX) (D := D) a5 s5
        · exact fun F5 ρ5 env5 S5 σ5 H5 le5 pre5 s5 a5 => ⟨F5, ρ5, env5, S5, lei.trans le5, prefix_trans prei pre5, s5, a5⟩
        · exact fun F5 ρ5 env5 S5 σ5 H5 d v le5 pre5 s5 rv a5 => AtS.ret (W := W) (EX := EX) (D := D) a5 s5 rv
    · have hie : i = ds.length := by omega
      refine .inl ⟨by rw [hie]; exact ok.stop H leH, ?_⟩
      rw [hie, List.drop_length] at ai
      exact AtS.nxt ai si

/-! ### assignments -/
theorem gens_of (f : XF Γ g w n EX m W X) {e : Ex} {elt : Expr} {gens : List Comprehension} {scope : Scope} {vp : Pos} (hc : isComp e = true) (h : mE m e (.ListComp elt gens scope vp) = true) : ∃ t it ifs, gens = [⟨t, it, ifs, 0⟩] ∧ CompOk Γ g w n EX W X e elt t it ifs scope := by
  cases e with
  | comp el tg k its cond own =>
    have h : (match (generalizing := false) Expr.ListComp elt gens scope vp with
      | .ListComp e [⟨t, it, ifs, 0⟩] scope _ => blkC m.N m.sc scope (ownOf m own) && decide (own = tgSlots tg) && own.all (fun i => decide (i < m.N.length)) && mTg (inner m scope) tg t && mIt m k its it t && mC (inner m scope) cond ifs && mE (inner m scope) el e
      | _ => false) = true := h
    split at h
    · rename_i e t it ifs sc p he
      cases he
      obtain ⟨h1, h2⟩ := and2 h
      obtain ⟨h3, h4⟩ := and2 h1
      obtain ⟨h5, h6⟩ := and2 h3
      obtain ⟨h7, h8⟩ := and2 h5
      obtain ⟨h9, _⟩ := and2 h7
      obtain ⟨h11, h12⟩ := and2 h9
      obtain ⟨p1, p2⟩ := soundIt f k its h6
      refine ⟨t, it, ifs, rfl, tIt Γ g w n EX W X k its, tTg X.K tg, tCn Γ g w n EX X cond, tO Γ g w n EX W0 X el, ownOf m own, p1, ?_, fun s H C cl fp => pg_tg (f.blk s H C cl fp) h8, fun s H C cl fp => soundC (f.blk s H C cl fp) cond h4, fun s H C cl fp => (sound (f.blk s H C cl fp) el h2).pe, fold_set p2, fun σ H Q q => ?_⟩
      · rw [f.hN, f.hsc]; exact blkOk_by h11
      · rw [own_names]; exact r_comp (of_decide_eq_true h12) q
    · cases h
  | _ => cases hc
theorem sole_none {t e : Expr} {n : Nat} {env : PySem.Env} (h : isCompr e = false) : swapsWithSole [t] e n env = pure false := by
  unfold swapsWithSole; exact swaps_none h
theorem swap_t {env : PySem.Env} {elt : Expr} {gens : List Comprehension} {scope : Scope} {vp yp : Pos} {y : Str} {l : Nat} (h : (env.blockKind == .function && env.kindOf y == some .local && yp.line == vp.line && !(scope.names.any fun (n, k) => n == y && (k == .local || k == .cell))) = true) :
    swapsWith (.ListComp elt gens scope vp) (some (.Name y yp)) l env = pure true := by
  show (pure (env.blockKind == .function && env.kindOf y == some .local && yp.line == vp.line && !(scope.names.any fun (n, k) => n == y && (k == .local || k == .cell))) : Sem Bool) = pure true
  rw [h]
theorem fun_block {env : PySem.Env} (h : (env.scope.kind == .function) = true) : env.blockKind = .function := by
  have e := beq_iff_eq.mp h
  unfold PySem.Env.blockKind
  rw [e]; rfl
theorem sto_or (f : XF Γ g w n EX m W X) {e : Ex} {i : Nat} {t y : Expr} {p : Pos} (ht : mSto m i t = true) (he : mE m e y = true) (hs : (!isCompr y || (isComp e && lcSwap m t y)) = true) : PS X (.Assign [t] y p) (tAsg (tO Γ g w n EX W X e) (gName i)) := by
  obtain ⟨z, zp, rfl, h1, h2, h3⟩ := sto_of f ht
  have hN : X.N.Nodup := by rw [f.hN]; exact f.nd
  cases hc : isCompr y with
  | false => exact ps_set hN h1 h2 (sound f e he).pe (swaps_none hc) h3
  | true =>
    rw [hc] at hs
    obtain ⟨q1, q2⟩ := and2 (show (isComp e && lcSwap m (.Name z zp) y) = true from hs)
    cases y with
    | ListComp elt gens scope vp =>
      obtain ⟨tg, it, ifs, rfl, wi, gg, tt, te, own, k1, k2, k3, k4, k5, k6, k7⟩ := gens_of f q1 he
      have q2 : (m.sc.kind == .function && decide (m.sc.names.lookup z = some .local) && zp.line == vp.line && !(scope.names.any fun (n, k) => n == z && (k == .local || k == .cell))) = true := q2
      obtain ⟨a1, a2⟩ := and2 q2
      obtain ⟨a3, a4⟩ := and2 a1
      obtain ⟨a5, a6⟩ := and2 a3
      have lk : X.env.scope.names.lookup z = some .local := by rw [f.hsc]; exact of_decide_eq_true a6
      have sw : (X.env.blockKind == .function && X.env.kindOf z == some .local && zp.line == vp.line && !(scope.names.any fun (n, k) => n == z && (k == .local || k == .cell))) = true := by
        rw [fun_block (by rw [f.hsc]; exact a5), a4, a2, kind_eq, lk]; rfl
      exact PS.imp (ps_setLc f.calm hN h1 lk (swap_t sw) k1 k2 k3 k4 k5 k6) fun D σ H q => k7 σ H _ q
    | _ => cases q2
theorem x_name (f : XS Γ g w n EX m W X) {e : Ex} {i : Nat} {t y : Expr} {p : Pos} (ht : mSto m i t = true) (he : mE m e y = true) (hs : (!isCompr y || (isComp e && lcSwap m t y)) = true) : PS X (.Assign [t] y p) (tX Γ g w n EX W X (.asg (.name i) e)) := by
  refine PS.imp (sto_or f.toXF ht he hs) fun D σ H ⟨F, ρ, G, env, S, s, q⟩ => ?_
  refine ⟨F, ρ, G, env, S, s, At.fz (At.imp (AtS.bind (P1 := PD X.K G σ) q) ?_)⟩
  intro v H1 ⟨a, F1, ρ1, env1, S1, le1, pre1, s1, ra, a1⟩
  have a1 : AtS X.K W EX G D F1 ρ1 (.ok .nxt (env1.set i (.dat a)) S1) := a1
  exact AtS.nxt a1 (s1.slot (.inr ⟨a, v, rfl, rfl, ra⟩))
theorem x_own (f : XS Γ g w n EX m W X) {e : Ex} {i : Nat} {t y : Expr} {p : Pos} (ht : mSto m i t = true) (he : mE m e y = true) (hs : (!isCompr y || (isComp e && lcSwap m t y)) = true) : PS X (.Assign [t] y p) (tX Γ g w n EX W X (.own i e)) := by
  refine PS.imp (sto_or f.toXF ht he hs) fun D σ H ⟨F, ρ, G, env, S, s, q⟩ => ?_
  refine ⟨F, ρ, G, env, S, s, At.imp (AtS.bind (P1 := POut X.K G σ) q) ?_⟩
  intro v H1 ⟨a, F1, ρ1, env1, S1, le1, pre1, s1, ra, a1⟩
  cases a with
  | val d => exact (show False from a1).elim
  | hdl j => exact (show False from a1).elim
  | new c =>
    cases c with
    | dead => exact (show False from a1).elim
    | dic _ => exact (show False from a1).elim
    | lst ds =>
      obtain ⟨b, xs, rfl, q1, q2, q3, q4, q5, q6, q7⟩ := ra
      have a1 : AtS X.K W EX G D F1 ρ1 (.ok .nxt (env1.set i (.lst ds)) S1) := a1
      exact AtS.nxt a1 (s1.ownSet q1 q2 q3 q4 q5 q6 q7)
theorem x_put (f : XS Γ g w n EX m W X) {o k v : Ex} {a b y : Expr} {tp p : Pos} (ho : mE m o a = true) (hk : mE m k b = true) (hv : mE m v y = true) (hc : isCompr y = false) (hs : isSlice b = false) : PS X (.Assign [.Subscript a b tp] y p) (tX Γ g w n EX W X (.put o k v)) := by
  have hg := pg_sub (pos := tp) (sound f.toXF o ho).pe (sound f.toXF k hk).pe set_list (by intro v; cases b <;> first | rfl | (cases hs))
  refine PS.imp (ps_asg (sound f.toXF v hv).pe hg (sole_none hc) (by cases y <;> rfl) rfl) fun D σ H ⟨F, ρ, G, env, S, s, q⟩ => ?_
  refine ⟨F, ρ, G, env, S, s, At.fz (At.imp (AtS.bind (P1 := PD X.K G σ) q) ?_)⟩
  intro u H1 ⟨d, F1, ρ1, env1, S1, le1, pre1, s1, rd, a1⟩
  refine ⟨F1, ρ1, G, env1, S1, s1, At.ar (At.imp (AtS.bind (P1 := PAr X.K G σ) a1) ?_)⟩
  intro x H2 ⟨ax, F2, ρ2, env2, S2, le2, pre2, s2, rx, a2⟩
  refine ⟨F2, ρ2, G, env2, S2, s2, At.fz (At.imp (AtS.bind (P1 := PD X.K G σ) a2) ?_)⟩
  intro j H3 ⟨kd, F3, ρ3, env3, S3, le3, pre3, s3, rk, a3⟩
  cases e : (cellAt env3 S3 ax).bind fun c => putF c kd d with
  | none => rw [e] at a3; exact (show False from a3).elim
  | some c =>
    rw [e] at a3
    have a3 : AtS X.K W EX G D F3 ρ3 (.ok .nxt (cellPut env3 S3 ax c).1 (cellPut env3 S3 ax c).2) := a3
    obtain ⟨c0, ec, em⟩ := bind_some e
    cases c0 with
    | dic _ => cases em
    | dead => cases em
    | lst ds =>
      cases kd with
      | int i =>
        obtain ⟨pp, xs, rfl, h1, h2, h3, wr⟩ := cell_at s3 (ArRep.mono rx le3 pre3) ec
        obtain ⟨jj, ej, rfl⟩ := map_some (show (L2.ixN ds.length i).map (fun k => Cell.lst (ds.set k d)) = some c from em)
        cases rk
        refine ⟨pp, xs, i, jj, rfl, rfl, h1, by rw [h3.length]; exact ej, ?_⟩
        exact AtS.nxt a3 (wr _ _ (by rw [List.length_set]; exact h2) (h3.set (rd.mono (le2.trans le3) (prefix_trans pre2 pre3))))
      | _ => cases em
theorem set_names {K : PySem.W.Frag} {F G H : Hp} {ρ : List Addr} {S : Store} {σ : L2.St} {env env' : Env} {i j : Nat} {x y : V} {d e : D} (s : Sim K F ρ G env S σ H) (r : Rep K F ρ x d) (r' : Rep K F ρ y e) (h : setNames [i, j] [d, e] env = some env') : Sim K F ρ G env' S ((σ.set i (some x)).set j (some y)) H := by
  cases h
  exact (s.slot (.inr ⟨d, x, rfl, rfl, r⟩)).slot (.inr ⟨e, y, rfl, rfl, r'⟩)
theorem swapped_two {env : PySem.Env} {x y : Str} {px py pt p2 : Pos} {kt k2 : Nat} {a b : Expr} (hk : env.blockKind = .function) (hx : env.kindOf x = some .local) (hy : env.kindOf y = some .local) (hl : (px.line == py.line) = true) (hxy : x ≠ y)
    (ha : isStar a = false) (hb : isStar b = false) (fa : foldedForSure 8 a = false) (ca : constantsAlone 8 a = false) : swappedStores [.Tuple [.Name x px, .Name y py] kt pt] (.Tuple [a, b] k2 p2) env = pure (some [x, y]) := by
  have hl' : py.line = px.line := (beq_iff_eq.mp hl).symm
  have sa : ∀ z, isStar z = false → (match z with | .Starred .. => true | _ => false) = false := fun z h => by
    cases z <;> first | rfl | (cases h)
  have hn : ([Expr.Name x px, Expr.Name y py].filterMap fun
      | .Name id pos => if env.kindOf id == some .local && pos.line == (([Expr.Name x px, Expr.Name y py].head?.map (·.pos.line)).getD 0) then some id else none
      | _ => none) = [x, y] := by
    simp [hx, hy, Expr.pos, hl']
  unfold swappedStores
  refine (if_neg ?_).trans ?_
  · rw [hk]; simp
  refine (if_neg ?_).trans ?_
  · intro z
    simp only [List.any_cons, List.any_nil, Bool.or_false, Bool.or_eq_true] at z
    rcases z with z | z
    · exact absurd (z.symm.trans (sa a ha)) (by decide)
    · exact absurd (z.symm.trans (sa b hb)) (by decide)
  refine Eq.trans (congrArg (fun (ns : List Str) => if (ns.length != [Expr.Name x px, Expr.Name y py].length || ns.eraseDups.length != ns.length) = true then pure none else if ([a, b].all (foldedForSure 8)) = true then pure none else if ([a, b].all (constantsAlone 8)) = true then (do unsupported "assign.tuple-of-constant-expressions:order-of-the-stores"; return some ns : Sem (Option (List Str))) else pure (some ns)) hn) ?_
  have he : [x, y].eraseDups.length = 2 := by
    rw [List.eraseDups_cons]
    simp [hxy, Ne.symm hxy]
    rfl
  simp [he, fa, ca]
theorem x_par (f : XS Γ g w n EX m W X) {es : List Ex} {is : List Nat} {ts ys : List Expr} {k k2 : Nat} {tp yp p : Pos} (hp : mPar m is ts ys = true) (he : mEs m es ys = true) : PS X (.Assign [.Tuple ts k tp] (.Tuple ys k2 yp) p) (tX Γ g w n EX W X (.asg (.tup is) (.tup es))) := by
  unfold mPar at hp
  split at hp
  · rename_i x px y py a b
    split at hp
    · rename_i i j
      simp only [Bool.and_eq_true, decide_eq_true_eq, Bool.not_eq_true'] at hp
      obtain ⟨⟨⟨⟨⟨⟨⟨⟨⟨⟨⟨h1, h2⟩, h3⟩, h4⟩, h5⟩, h6⟩, h7⟩, h8⟩, h9⟩, h10⟩, h11⟩, h12⟩ := hp
      have hN : X.N.Nodup := by rw [f.hN]; exact f.nd
      have lx : X.env.scope.names.lookup x = some .local := by rw [f.hsc]; exact h5
      have ly : X.env.scope.names.lookup y = some .local := by rw [f.hsc]; exact h6
      obtain ⟨q1, q2, q3⟩ := soundEs f.toXF es he
      refine PS.imp (ps_par f.calm hN (by rw [f.hN]; exact h1) (by rw [f.hN]; exact h2) h3 lx ly q1.2 (swapped_two (fun_block (by rw [f.hsc]; exact h7)) (by rw [kind_eq]; exact lx) (by rw [kind_eq]; exact ly) h8 h4 h9 h10 h11 h12) (sole_none rfl)) fun D σ H ⟨F, ρ, G, env, S, s, q⟩ => ?_
      have q : AtS X.K W EX G D F ρ ((((evDs (callF Γ g w n) g es env S).bind fun ds env S => .ok (.val (.tup ds)) env S).fz).bind fun d env S => (ofO (bindTg (.tup [i, j]) d env) env S).bind fun env' _ S => .ok .nxt env' S) := q
      have q : AtS X.K W EX G D F ρ ((evDs (callF Γ g w n) g es env S).bind fun ds env S => (ofO (setNames [i, j] ds env) env S).bind fun env' _ S => .ok .nxt env' S) := by
        cases z : evDs (callF Γ g w n) g es env S with
        | ok a b c => rw [z] at q; exact q
        | exc a b c => rw [z] at q; exact q
        | bad => rw [z] at q; exact q
      refine ⟨F, ρ, G, env, S, s, At.imp (AtS.bind (P1 := PDs X.K G σ) q) ?_⟩
      intro vs H1 ⟨ds, F1, ρ1, env1, S1, le1, pre1, s1, rds, a1⟩
      cases z : setNames [i, j] ds env1 with
      | none => rw [z] at a1; exact (show False from a1).elim
      | some env2 =>
        rw [z] at a1
        have a1 : AtS X.K W EX G D F1 ρ1 (.ok .nxt env2 S1) := a1
        match ds, vs, rds, z with
        | [d, e], _, .cons r1 (.cons r2 .nil), z => exact ⟨_, _, rfl, AtS.nxt a1 (set_names s1 r1 r2 z)⟩
        | [], _, _, z => cases z
        | [_], _, _, z => cases z
        | _ :: _ :: _ :: _, _, _, z => cases z
    · cases hp
  · cases hp
theorem x_tup (f : XS Γ g w n EX m W X) {e : Ex} {is : List Nat} {ts : List Expr} {k : Nat} {y : Expr} {tp p : Pos} (ht : mTg m (.tup is) (.Tuple ts k tp) = true) (he : mE m e y = true) (hc : isCompr y = false) (hy : isTup y = false) : PS X (.Assign [.Tuple ts k tp] y p) (tX Γ g w n EX W X (.asg (.tup is) e)) := by
  refine PS.imp (ps_asg (sound f.toXF e he).pe (pg_tg f.toXF ht) (sole_none hc) (by cases y <;> first | rfl | (cases hy)) rfl) fun D σ H ⟨F, ρ, G, env, S, s, q⟩ => ?_
  refine ⟨F, ρ, G, env, S, s, At.fz (At.imp (AtS.bind (P1 := PD X.K G σ) q) ?_)⟩
  intro v H1 ⟨a, F1, ρ1, env1, S1, le1, pre1, s1, ra, a1⟩
  cases z : bindTg (.tup is) a env1 with
  | none => rw [z] at a1; exact (show False from a1).elim
  | some env2 =>
    rw [z] at a1
    have a1 : AtS X.K W EX G D F1 ρ1 (.ok .nxt env2 S1) := a1
    exact ⟨F1, ρ1, G, env1, S1, a, env2, s1, ra, z, fun σ' s' _ _ => AtS.nxt a1 s'⟩

/-! ### every statement -/
mutual
theorem soundS (f : XS Γ g w n EX m W X) : ∀ (s : Stm) {st : Stmt}, mS m s st = true → PS X st (tX Γ g w n EX W X s)
  | .ex e, st, h => by
    have h : (match (generalizing := false) st with
      | .Expr y _ => mE m e y && !isCompr y
      | _ => false) = true := h
    split at h
    · obtain ⟨h1, h2⟩ := and2 h
      exact x_ex f h1 (not1 h2)
    · cases h
  | .asg (.name i) e, st, h => by
    have h : (match (generalizing := false) st with
      | .Assign [t] y _ => mSto m i t && mE m e y && (!isCompr y || (isComp e && lcSwap m t y))
      | _ => false) = true := h
    split at h
    · obtain ⟨h1, h2⟩ := and2 h
      obtain ⟨h3, h4⟩ := and2 h1
      exact x_name f h3 h4 h2
    · cases h
  | .asg (.tup is) e, st, h => by
    have h : (match (generalizing := false) st with
      | .Assign [.Tuple ts k tp] y _ => (match (generalizing := false) y with
        | .Tuple ys _ _ => (match (generalizing := false) tupEs e with
          | some es => mPar m is ts ys && mEs m es ys
          | none => false)
        | y => mTg m (.tup is) (.Tuple ts k tp) && mE m e y && !isCompr y)
      | _ => false) = true := h
    split at h
    · split at h
      · split at h
        · rename_i es he
          obtain ⟨h1, h2⟩ := and2 h
          cases e with
          | tup es' =>
            cases he
            exact x_par f h1 h2
          | _ => cases he
        · cases h
      · rename_i hn
        obtain ⟨h1, h2⟩ := and2 h
        obtain ⟨h3, h4⟩ := and2 h1
        exact x_tup f h3 h4 (not1 h2) (by unfold isTup; split <;> first | rfl | exact (hn _ _ _ rfl).elim)
    · cases h
  | .own i e, st, h => by
    have h : (match (generalizing := false) st with
      | .Assign [t] y _ => mSto m i t && mE m e y && (!isCompr y || (isComp e && lcSwap m t y))
      | _ => false) = true := h
    split at h
    · obtain ⟨h1, h2⟩ := and2 h
      obtain ⟨h3, h4⟩ := and2 h1
      exact x_own f h3 h4 h2
    · cases h
  | .put o k v, st, h => by
    have h : (match (generalizing := false) st with
      | .Assign [.Subscript a b _] y _ => mE m o a && mE m k b && mE m v y && !isCompr y && !isSlice b
      | _ => false) = true := h
    split at h
    · obtain ⟨h1, h2⟩ := and2 h
      obtain ⟨h3, h4⟩ := and2 h1
      obtain ⟨h5, h6⟩ := and2 h3
      obtain ⟨h7, h8⟩ := and2 h5
      exact x_put f h7 h8 h6 (not1 h4) (not1 h2)
    · cases h
  | .ret none, st, h => by
    have h : (match (generalizing := false) st with
      | .Return none _ => true
      | _ => false) = true := h
    split at h
    · refine PS.imp ps_retN fun D σ H ⟨F, ρ, G, env, S, s, q⟩ => ?_
      have q : AtS X.K W EX G D F ρ (.ok (.ret .non) env S) := q
      exact AtS.ret q s .non
    · cases h
  | .ret (some e), st, h => by
    have h : (match (generalizing := false) st with
      | .Return (some y) _ => mE m e y
      | _ => false) = true := h
    split at h
    · exact x_ret f h
    · cases h
  | .ife c a b, st, h => by
    have h : (match (generalizing := false) st with
      | .If y p q _ => mE m c y && mSs m a p && mSs m b q
      | _ => false) = true := h
    split at h
    · obtain ⟨h1, h2⟩ := and2 h
      obtain ⟨h3, h4⟩ := and2 h1
      exact x_if f h3 (soundSs f a h4) (soundSs f b h2)
    · cases h
  | .whl c a, st, h => by
    have h : (match (generalizing := false) st with
      | .While y p [] _ => mE m c y && mSs m a p
      | _ => false) = true := h
    split at h
    · obtain ⟨h1, h2⟩ := and2 h
      exact x_while f h1 (soundSs f a h2)
    · cases h
  | .fr t k its a, st, h => by
    have h : (match (generalizing := false) st with
      | .For tg it p [] _ => mTg m t tg && mIt m k its it tg && mSs m a p
      | _ => false) = true := h
    split at h
    · obtain ⟨h1, h2⟩ := and2 h
      obtain ⟨h3, h4⟩ := and2 h1
      exact x_for f h3 h4 (soundSs f a h2)
    · cases h
  | .brk, st, h => by
    have h : (match (generalizing := false) st with
      | .Break _ => true
      | _ => false) = true := h
    split at h
    · exact PS.imp ps_break fun D σ H ⟨F, ρ, G, env, S, s, q⟩ => (show AtS X.K W EX G D F ρ (.ok .brk env S) from q) F ρ σ H Le.refl prefix_refl s
    · cases h
  | .cnt, st, h => by
    have h : (match (generalizing := false) st with
      | .Continue _ => true
      | _ => false) = true := h
    split at h
    · exact PS.imp ps_continue fun D σ H ⟨F, ρ, G, env, S, s, q⟩ => (show AtS X.K W EX G D F ρ (.ok .cnt env S) from q) F ρ σ H Le.refl prefix_refl s
    · cases h
  | .pass, st, h => by
    have h : (match (generalizing := false) st with
      | .Pass _ => true
      | .Expr (.Constant (.str _) _ _) _ => true
      | _ => false) = true := h
    split at h
    · exact PS.imp ps_pass fun D σ H ⟨F, ρ, G, env, S, s, q⟩ => AtS.nxt (show AtS X.K W EX G D F ρ (.ok .nxt env S) from q) s
    · exact PS.imp ps_doc fun D σ H ⟨F, ρ, G, env, S, s, q⟩ => AtS.nxt (show AtS X.K W EX G D F ρ (.ok .nxt env S) from q) s
    · cases h
  | .nev, st, h => PS.imp ps_never fun D σ H ⟨F, ρ, G, env, S, s, q⟩ => (show False from q)
theorem soundSs (f : XS Γ g w n EX m W X) : ∀ (s : List Stm) {st : List Stmt}, mSs m s st = true → PSs X st (tXs Γ g w n EX W X s)
  | [], st, h => by
    cases st with
    | nil => exact x_nil
    | cons _ _ => cases h
  | s :: ss, st, h => by
    cases st with
    | nil => cases h
    | cons y ys =>
      have h : (mS m s y && mSs m ss ys) = true := h
      obtain ⟨h1, h2⟩ := and2 h
      exact x_cons (soundS f s h1) (soundSs f ss h2)
end
end
end Pf
/-! Pf, part N: defs. -/
namespace Pf
open PySem PySem.Spec PyProof.Rows L2
section
variable {K : PySem.W.Frag} {F F' G H H' : Hp} {ρ ρ' : List Addr} {σ : L2.St} {env env' : Env} {S S' : Store}
theorem Reps.dat {vs : List V} {ds : List D} (r : Reps K F ρ vs ds) {i : Nat} {sl : Sl} (e : (ds.map Sl.dat)[i]? = some sl) : ∃ d x, sl = .dat d ∧ vs[i]? = some x ∧ Rep K F ρ x d := by
  rw [List.getElem?_map] at e
  cases z : ds[i]? with
  | none => rw [z] at e; cases e
  | some d =>
    rw [z] at e; cases e
    obtain ⟨x, e1, e2⟩ := r.get z
    exact ⟨d, x, rfl, e1, e2⟩
theorem Sim.start (s : Sim K F ρ G [] S [] H) {N : List Str} {ns : Nat} {vs : List V} {ds : List D} (r : Reps K F ρ vs ds) (hn : N.length = ns) : Sim K F ρ G (startE ns ds) S (L2.start N vs) H := by
  have hl : (ds.map Sl.dat).length = vs.length := by rw [List.length_map, r.length]
  have key : ∀ i sl, (startE ns ds)[i]? = some sl → sl = Sl.no ∨ ∃ d x, sl = Sl.dat d ∧ (L2.start N vs)[i]? = some (some x) ∧ Rep K F ρ x d := fun i sl e => by
    unfold startE at e
    by_cases hi : i < (ds.map Sl.dat).length
    · rw [List.getElem?_append_left hi] at e
      obtain ⟨d, x, e1, e2, e3⟩ := r.dat e
      refine .inr ⟨d, x, e1, ?_, e3⟩
      unfold L2.start
      rw [List.getElem?_append_left (by rw [List.length_map, ← hl]; exact hi), List.getElem?_map, e2]; rfl
    · rw [List.getElem?_append_right (by omega)] at e
      exact .inl (List.eq_of_mem_replicate (List.mem_of_getElem? e))
  refine ⟨s.fh, s.gh, s.fg, s.rg, s.rlen, s.rnd, s.live, s.cells, fun i sl e => ?_, fun i j a ⟨⟨ds, h⟩, _⟩ => ?_, ?_⟩
  · rcases key i sl e with rfl | ⟨d, x, rfl, e1, e2⟩
    · trivial
    · exact ⟨x, e1, e2⟩
  · rcases key i _ h with z | ⟨_, _, z, _⟩ <;> cases z
  · unfold startE L2.start
    simp [r.length, hn]
theorem Sim.nil (s : Sim K F ρ G env S σ H) : Sim K F ρ G [] S [] H :=
  ⟨s.fh, s.gh, s.fg, s.rg, s.rlen, s.rnd, s.live, s.cells, fun i sl e => by simp at e, fun i j a ⟨⟨_, h⟩, _⟩ => by simp at h, rfl⟩
theorem AtC.ends {EX : EXT} {Q : VK} {E : XK} {r : R Fl} (h : AtC K EX G Q E F ρ (endR r)) : AtS K (fun cls d _ H => E cls d H) EX G { nx := fun _ H' => Q .non H', rt := Q } F ρ r := by
  cases r with
  | ok a env S => cases a with
    | ret d => exact fun F' ρ' σ' H v le pre s r => h F' ρ' H v le pre s.nil r
    | nxt => exact fun F' ρ' σ' H le pre s => h F' ρ' H .non le pre s.nil .non
    | brk => exact (show False from h).elim
    | cnt => exact (show False from h).elim
  | exc x env S => exact fun F' ρ' σ' H cls d le pre s e => h F' ρ' H cls d le pre s.nil e
  | bad => exact h
end

/-! ### the defs of a program -/
structure DI where
  f : String
  st : Stmt
  N : List Str
  ps : List Str
  k : Bool
  fd : FDef
def gOf (L : List DI) : Prog := fun f => (L.find? (·.f == f)).map (·.fd)
def arOf (L : List DI) : String → Option Nat := fun f => (L.find? (·.f == f)).map (·.ps.length)
def kwOf (L : List DI) : String → Option (List Str) := fun f => (L.find? (·.f == f)).bind fun i => if i.k then some i.ps else none
def DI.mc (L : List DI) (i : DI) : MC := ⟨i.N, defScope i.st, fun _ => true, kwOf L, arOf L⟩
def DI.ok (L : List DI) (i : DI) : Bool := C8.scC i.N i.ps (defScope i.st) && decide (i.ps.length = i.fd.np) && decide (i.N.length = i.fd.ns) && mSs (i.mc L) i.fd.body (defBody i.st)
/-- .. as it stands behind the top -/
structure DefIn (K : PySem.W.Frag) (mg : Str → Option Value) (i : DI) : Prop where
  ex : ∃ a fdt, L2.Fun K (Str.ofString i.f) (Str.ofString i.f) i.st a fdt ∧ mg (Str.ofString i.f) = some (.ref a) ∧ Binds K fdt i.ps [] ∧
    (i.k = true → ∀ (s : Shared) (ws : List Value), K.In s.heap → ws.length = i.ps.length → BindsTo s fdt ⟨[], i.ps.zip ws⟩ (i.ps.zip ws))
section
variable {P : Program} {wd : World} {K : PySem.W.Frag} {mg : Str → Option Value} {base : Heap} {EX : EXT} {L : List DI} {g : Glos} {w : Nat}
/-- a def's promise at a level -/
def Lev (P : Program) (wd : World) (K : PySem.W.Frag) (mg : Str → Option Value) (base : Heap) (EX : EXT) (L : List DI) (g : Glos) (w n : Nat) (i : DI) : Prop :=
  ∃ a fdt, L2.Fun K (Str.ofString i.f) (Str.ofString i.f) i.st a fdt ∧ mg (Str.ofString i.f) = some (.ref a) ∧ Binds K fdt i.ps [] ∧
    (i.k = true → ∀ (s : Shared) (ws : List Value), K.In s.heap → ws.length = i.ps.length → BindsTo s fdt ⟨[], i.ps.zip ws⟩ (i.ps.zip ws)) ∧
    FnOk P wd K mg base (L2.CX P wd) n a fdt i.ps (spF K EX i.ps.length (callF (gOf L) g w n i.f))
theorem find_at {i : DI} (hf : L.find? (·.f == i.f) = some i) : gOf L i.f = some i.fd := by unfold gOf; rw [hf]; rfl
/-- THE RULE for all defs at once -/
theorem defs_ok (hin : ∀ i ∈ L, DefIn K mg i) (hok : ∀ i ∈ L, i.ok L = true) (hnd : ∀ i ∈ L, L.find? (·.f == i.f) = some i)
    (glo : ∀ x d, g x = some d → ∃ u v, mg (Str.ofString x) = some u ∧ RelV v u ∧ ∀ F ρ, Rep K F ρ v d) (blt : ∀ b ∈ blts, mg (Str.ofString b) = none) :
    ∀ n, ∀ i ∈ L, Lev P wd K mg base EX L g w n i := by
  intro n
  induction n with
  | zero =>
    intro i hi
    obtain ⟨a, fdt, h1, h2, h3, h4⟩ := (hin i hi).ex
    refine ⟨a, fdt, h1, h2, h3, h4, fun vs H Q E h => h.1, fun A outer s H args us vs Q E hr he hb hv h => ?_⟩
    obtain ⟨_, _, _, _, _, _, _, _, h⟩ := h
    exact (show False from h).elim
  | succ n ih =>
    intro i hi
    obtain ⟨a, fdt, h1, h2, h3, h4⟩ := (hin i hi).ex
    have ok := hok i hi
    unfold DI.ok at ok
    obtain ⟨o1, o2⟩ := and2 ok
    obtain ⟨o3, o4⟩ := and2 o1
    obtain ⟨o5, o6⟩ := and2 o3
    have S := C8.fnScope_by o5
    have o4 := of_decide_eq_true o4
    have o6 := of_decide_eq_true o6
    refine ⟨a, fdt, h1, h2, h3, h4, h1.okX S (fun vs H Q E h => h.1) fun cdv A outer s H vs Q E hr h => ?_⟩
    obtain ⟨hl, F, ρ, G, St, ds, sim, r, at1⟩ := h
    let X := cxOf (L2.CX P wd) P wd K mg base i.N (Str.ofString i.f) (defScope i.st) a cdv A outer s H E
    let W : WX := fun cls d _ H => E cls d H
    have f : XS (gOf L) g w n EX (i.mc L) W X := {
      hN := rfl, nd := S.nd, hsc := rfl, hfn := rfl, calm := rfl, room := hr
      tk := L2.takes_of rfl rfl rfl rfl
      fns := fun nm k e => by
        have e : (L.find? (·.f == nm)).map (·.ps.length) = some k := e
        cases z : L.find? (·.f == nm) with
        | none => rw [z] at e; cases e
        | some j =>
          rw [z] at e
          cases e
          have hj : j ∈ L := List.mem_of_find?_eq_some z
          have hn : j.f = nm := by
            have := List.find?_some z
            exact beq_iff_eq.mp this
          subst hn
          obtain ⟨b, fdb, p1, p2, p3, p4, p5⟩ := ih j hj
          refine ⟨b, fdb, j.ps, p2, p1.kp, p3, rfl, p5, fun ks q => ?_⟩
          have q : ((L.find? (·.f == j.f)).bind fun i => if i.k then some i.ps else none) = some ks := q
          rw [z] at q
          have q : (if j.k = true then some j.ps else none) = some ks := q
          by_cases hk : j.k = true
          · rw [if_pos hk] at q
            cases q
            exact ⟨rfl, p4 hk⟩
          · rw [if_neg hk] at q; cases q
      glo := glo, blt := blt
      po := passes_of rfl }
    refine ⟨_, soundSs f i.fd.body o2, ?_⟩
    have at1 : AtC K EX G Q E F ρ (match gOf L i.f with
      | none => .bad
      | some fd => if ds.length = fd.np then endR (exSs (callF (gOf L) g w n) g w fd.body (startE fd.ns ds) St) else .bad) := at1
    rw [find_at (hnd i hi)] at at1
    have at1 : AtC K EX G Q E F ρ (if ds.length = i.fd.np then endR (exSs (callF (gOf L) g w n) g w i.fd.body (startE i.fd.ns ds) St) else .bad) := at1
    rw [if_pos (by rw [← r.length, hl, o6])] at at1
    exact ⟨F, ρ, G, startE i.fd.ns ds, St, sim.start r o4, AtC.ends at1⟩
end
end Pf
/-! Pf, part O: what the top has written; the law's own head. -/
namespace Pf
open PySem PySem.Spec PyProof.Rows L2
theorem defIn_of {K : PySem.W.Frag} {mg : Str → Option Value} {i : DI} {f : Addr} {fdt : FuncData} (F : L2.Fun K (Str.ofString i.f) (Str.ofString i.f) i.st f fdt) (hm : mg (Str.ofString i.f) = some (.ref f)) (hb : Binds K fdt i.ps [])
    (hk : i.k = true → ∀ (s : Shared) (ws : List Value), K.In s.heap → ws.length = i.ps.length → BindsTo s fdt ⟨[], i.ps.zip ws⟩ (i.ps.zip ws)) : DefIn K mg i := ⟨f, fdt, F, hm, hb, hk⟩
/-- a global's value -/
def GloIn (K : PySem.W.Frag) (mg : Str → Option Value) (x : String) (d : D) : Prop := ∃ u v, mg (Str.ofString x) = some u ∧ RelV v u ∧ ∀ F ρ, Rep K F ρ v d
def flatRel : D → Value → Bool
  | .non, .none => true
  | .bl b, .bool c => b == c
  | .int i, .int j _ => i == j
  | .str s, .str x _ => decide (x = txt s) && okS s
  | _, _ => false
def flatRels : List D → List Value → Bool
  | [], [] => true
  | d :: ds, u :: us => flatRel d u && flatRels ds us
  | _, _ => false
theorem flat_of {K : PySem.W.Frag} {d : D} {u : Value} (h : flatRel d u = true) : ∃ v, RelV v u ∧ ∀ F ρ, Rep K F ρ v d := by
  unfold flatRel at h
  split at h
  · exact ⟨.non, rfl, fun _ _ => .non⟩
  · rename_i b c; cases (beq_iff_eq.mp h); exact ⟨.bl b, rfl, fun _ _ => .bl b⟩
  · rename_i b c t; cases (beq_iff_eq.mp h); exact ⟨.int b, ⟨t, rfl⟩, fun _ _ => .int b⟩
  · rename_i s x t
    obtain ⟨h1, h2⟩ := and2 h
    cases (of_decide_eq_true h1)
    exact ⟨.str (txt s), ⟨t, rfl⟩, fun _ _ => .str h2⟩
  · cases h
theorem flats_of {K : PySem.W.Frag} : ∀ {ds : List D} {us : List Value}, flatRels ds us = true → ∃ vs, Vals vs us ∧ (∀ F ρ, Reps K F ρ vs ds)
  | [], [], _ => ⟨[], .nil, fun _ _ => .nil⟩
  | d :: ds, u :: us, h => by
    have h : (flatRel d u && flatRels ds us) = true := h
    obtain ⟨h1, h2⟩ := and2 h
    obtain ⟨v, r1, r2⟩ := flat_of (K := K) h1
    obtain ⟨vs, r3, r4⟩ := flats_of (K := K) h2
    exact ⟨v :: vs, .cons r1 r3, fun F ρ => .cons (r2 F ρ) (r4 F ρ)⟩
  | [], _ :: _, h => by cases h
  | _ :: _, [], h => by cases h
theorem glo_flat {K : PySem.W.Frag} {mg : Str → Option Value} {x : String} {d : D} {u : Value} (a : mg (Str.ofString x) = some u) (h : flatRel d u = true) : GloIn K mg x d := by
  obtain ⟨v, r1, r2⟩ := flat_of (K := K) h
  exact ⟨u, v, a, r1, r2⟩
theorem vals_len {xs : List V} {us : List Value} (h : Vals xs us) : xs.length = us.length := by
  unfold Vals at h
  induction h with
  | nil => rfl
  | cons _ _ ih => rw [List.length_cons, List.length_cons, ih]
theorem glo_tup {K : PySem.W.Frag} {mg : Str → Option Value} {x : String} {ds : List D} {t : Addr} {od : Option Addr} {its : Array Value} {n : Nat} {sl : Array (Option Value)} (a : mg (Str.ofString x) = some (.ref t))
    (l : K.lookup t = some ⟨.type "tuple", od, .seq its n, sl⟩) (h : flatRels ds its.toList = true) (hs : its.size ≤ 16777216) : GloIn K mg x (.tup ds) := by
  obtain ⟨vs, r1, r2⟩ := flats_of (K := K) h
  have hl := vals_len r1
  have hs2 : vs.length ≤ 16777216 := by rw [hl]; simpa using hs
  exact ⟨.ref t, .ref t, a, rfl, fun F ρ => .tup (.inr ⟨_, its, n, l, rfl, rfl, by rw [size24]; exact hs, r1⟩) hs2 (r2 F ρ)⟩
abbrev EX0 : EXT := fun _ _ _ _ _ _ => False
/-- the promise of the law's def, at the script -/
theorem law_sp {K : PySem.W.Frag} {a : Addr} {ns : List Int} {H : Hp} {c : List D → Store → RC} {EX : EXT} (hS : SqL K H a (ns.map V.int)) (hl : ns.length ≤ 63) (h : ∃ S, c [.scr ns] [] = .ok (.bl true) S) : spF K EX 1 c [.ref a] H (fun v _ => v = .bl true) fun _ _ _ => False := by
  obtain ⟨S, e⟩ := h
  refine ⟨rfl, H, [], fun _ => none, [], [.scr ns], ?_, .cons (.scr hS (by omega)) .nil, ?_⟩
  · exact ⟨Le.refl, fun _ _ e => (by cases e), fun _ _ e => (by cases e), fun _ h => (by cases h), rfl, List.nodup_nil, fun _ h => (by cases h), fun n a c e => (by simp at e), fun i sl e => (by simp at e), fun i j a ⟨⟨_, h⟩, _⟩ => (by simp at h), rfl⟩
  · rw [e]
    intro F' ρ' H' v _ _ _ r
    cases r; rfl
theorem fun_same {K : PySem.W.Frag} {x q : Str} {st : Stmt} {f : Addr} {fd fd' : FuncData} (F : L2.Fun K x q st f fd) (F' : L2.Fun K x q st f fd') : fd = fd' := by
  obtain ⟨oc, od, kV, doc, pm, an, cdv, ct, osl, e1, e2, _⟩ := F.ex
  obtain ⟨oc', od', kV', doc', pm', an', cdv', ct', osl', e3, e4, _⟩ := F'.ex
  rw [e2] at e4
  injection e4 with e4
  injection e4 with _ _ e5 _
  injection e5
theorem law_F {P : Program} {wd : World} {K : PySem.W.Frag} {mg : Str → Option Value} {EX : EXT} {L : List DI} {g : Glos} {w n : Nat} {i : DI} {x : Str} {fa : Addr} {fd : FuncData} (hi : i ∈ L) (hx : i.ps = [x])
    (F : L2.Fun K (Str.ofString i.f) (Str.ofString i.f) i.st fa fd) (hmg : mg (Str.ofString i.f) = some (.ref fa)) {base : Heap} (h : ∀ j ∈ L, Lev P wd K mg base EX L g w n j) : FnOk P wd K mg base (L2.CX P wd) n fa fd [x] (spF K EX 1 (callF (gOf L) g w n i.f)) := by
  obtain ⟨a, fdt, F1, F2, _, _, F5⟩ := h i hi
  rw [F2] at hmg
  cases hmg
  have e := fun_same F1 F
  subst e
  rw [hx] at F5
  exact F5
theorem no_exc {P : Program} {w : World} {H : Hp} {s : Shared} {e : Value} {s' : Shared} (h : L2.CX P w [] H s (fun _ _ _ => False) e s') : False := by
  obtain ⟨_, _, _, _, _, _, _, _, _, _, _, _, z⟩ := h
  exact z.elim
end Pf
/-! Pf, part Q: evaluating runs by simp. Plain Lean. -/
namespace Pf
section
variable {α β : Type} {env e : Env} {S : Store} {d : D} {xs : List D} {kvs : List (D × D)} {b : Bool} {i : Nat} {s : List Nat} {n : Int}
@[simp] theorem ar_val : (R.ok (.val d) e S).ar = .ok (.d d) e S := rfl
@[simp] theorem ar_lst : (R.ok (.new (.lst xs)) e S).ar = .ok (.d (.lst xs)) e S := rfl
@[simp] theorem ar_dic : (R.ok (.new (.dic kvs)) e S).ar = .ok (.d (.dic kvs)) e S := rfl
@[simp] theorem ar_hdl : (R.ok (.hdl i) e S).ar = .ok (.h i) e S := rfl
@[simp] theorem ar_bad : (R.bad : R Out).ar = .bad := rfl
@[simp] theorem fz_val : (R.ok (.val d) e S).fz = .ok d e S := rfl
@[simp] theorem fz_lst : (R.ok (.new (.lst xs)) e S).fz = .ok (.lst xs) e S := rfl
@[simp] theorem fz_dic : (R.ok (.new (.dic kvs)) e S).fz = .ok (.dic kvs) e S := rfl
@[simp] theorem fz_bad : (R.bad : R Out).fz = .bad := rfl
@[simp] theorem bl_bl : (R.ok (.val (.bl b)) e S).bl = .ok b e S := rfl
@[simp] theorem bl_bad : (R.bad : R Out).bl = .bad := rfl
@[simp] theorem vw_non : vw env S (.d .non) = some .non := rfl
@[simp] theorem vw_bl : vw env S (.d (.bl b)) = some (.bl b) := rfl
@[simp] theorem vw_int : vw env S (.d (.int n)) = some (.int n) := rfl
@[simp] theorem vw_str : vw env S (.d (.str s)) = some (.str s) := rfl
@[simp] theorem vw_lst : vw env S (.d (.lst xs)) = some (.lst xs) := rfl
@[simp] theorem vw_tup : vw env S (.d (.tup xs)) = some (.tup xs) := rfl
@[simp] theorem vw_dic : vw env S (.d (.dic kvs)) = some (.dic kvs) := rfl
@[simp] theorem vw_scr {ns : List Int} : vw env S (.d (.scr ns)) = some (.scr ns) := rfl
@[simp] theorem vw_loc : vw env S (.d (.loc i)) = (S[i]?).bind Cell.vw := by
  show (match S[i]? with | some c => c.vw | none => none) = _
  cases S[i]? <;> rfl
@[simp] theorem cvw_lst : (Cell.lst xs).vw = some (.lst xs) := rfl
@[simp] theorem vws_nil : vws env S [] = some [] := rfl
@[simp] theorem vws_cons {a : Ar} {as : List Ar} : vws env S (a :: as) = (vw env S a).bind fun d => (vws env S as).map (d :: ·) := by
  show (match vw env S a, vws env S as with | some d, some ds => some (d :: ds) | _, _ => none) = _
  cases vw env S a <;> cases vws env S as <;> rfl
@[simp] theorem cellAt_loc : cellAt env S (.d (.loc i)) = S[i]? := rfl
@[simp] theorem cellPut_loc {c : Cell} : cellPut env S (.d (.loc i)) c = (env, S.set i c) := rfl
@[simp] theorem rc_ok : (RC.ok d S).r e = .ok (.val d) e S := rfl
@[simp] theorem nox_ok' {a : α} : (R.ok a e S).nox = .ok a e S := rfl
@[simp] theorem endR_ret : endR (.ok (.ret d) e S) = .ok d S := rfl
@[simp] theorem endR_nxt : endR (.ok .nxt e S) = .ok .non S := rfl
end
/-! one construct each (a comprehension has lemmas of its own) -/
section
variable {C : Calls} {g : Glos} {w : Nat} {env : Env} {S : Store} {a b c r : Ex} {as : List Ex}
@[simp] theorem ev_int {i : Int} : evO C g (.int i) env S = .ok (.val (.int i)) env S := rfl
@[simp] theorem ev_str {s : List Nat} : evO C g (.str s) env S = .ok (.val (.str s)) env S := rfl
@[simp] theorem ev_bl {b : Bool} : evO C g (.bl b) env S = .ok (.val (.bl b)) env S := rfl
@[simp] theorem ev_non : evO C g .non env S = .ok (.val .non) env S := rfl
@[simp] theorem ev_var {i : Nat} : evO C g (.var i) env S = match rd env i with | some (d, env') => .ok (.val d) env' S | none => .bad := rfl
@[simp] theorem ev_hv {i : Nat} : evO C g (.hv i) env S = match env[i]? with | some (.lst _) => .ok (.hdl i) env S | some (.dic _) => .ok (.hdl i) env S | some (.dat d) => .ok (.val d) env S | _ => .bad := rfl
@[simp] theorem ev_glo {x : String} : evO C g (.glo x) env S = ofO ((g x).map .val) env S := rfl
/-! what comes next, by name (so that simp does not look into it ahead of its time) -/
def kBin2 (o : BOp) (x y : Ar) (env : Env) (S : Store) : R Out := ofO ((vw env S x).bind fun u => (vw env S y).bind fun v => binF o u v) env S
def kBin (C : Calls) (g : Glos) (o : BOp) (b : Ex) (x : Ar) (env : Env) (S : Store) : R Out := (evO C g b env S).ar.bind (kBin2 o x)
def kUn (o : UOp) (x : Ar) (env : Env) (S : Store) : R Out := ofO ((vw env S x).bind (unF o)) env S
def kCmp2 (o : COp) (x y : Ar) (env : Env) (S : Store) : R Out := ofO ((vw env S x).bind fun u => (vw env S y).bind fun v => (cmpF o u v).map fun r => .val (.bl r)) env S
def kCmp (C : Calls) (g : Glos) (o : COp) (b : Ex) (x : Ar) (env : Env) (S : Store) : R Out := (evO C g b env S).ar.bind (kCmp2 o x)
def kD3 (C : Calls) (g : Glos) (p : COp) (c : Ex) (y : Ar) (r : Bool) (env : Env) (S : Store) : R Out := if r then (evO C g c env S).ar.bind (kCmp2 p y) else .ok (.val (.bl false)) env S
def kD2 (C : Calls) (g : Glos) (o p : COp) (c : Ex) (x y : Ar) (env : Env) (S : Store) : R Out := (ofO ((vw env S x).bind fun u => (vw env S y).bind fun v => cmpF o u v) env S).bind (kD3 C g p c y)
def kD1 (C : Calls) (g : Glos) (o p : COp) (b c : Ex) (x : Ar) (env : Env) (S : Store) : R Out := (evO C g b env S).ar.bind (kD2 C g o p c x)
def kAnd (C : Calls) (g : Glos) (b : Ex) (r : Bool) (env : Env) (S : Store) : R Out := if r then evO C g b env S else .ok (.val (.bl false)) env S
def kOr (C : Calls) (g : Glos) (b : Ex) (r : Bool) (env : Env) (S : Store) : R Out := if r then .ok (.val (.bl true)) env S else evO C g b env S
def kNot (r : Bool) (env : Env) (S : Store) : R Out := .ok (.val (.bl (!r))) env S
def kIte (C : Calls) (g : Glos) (a b : Ex) (r : Bool) (env : Env) (S : Store) : R Out := if r then evO C g a env S else evO C g b env S
def kLst (ds : List D) (env : Env) (S : Store) : R Out := .ok (.new (.lst ds)) env S
def kTup (ds : List D) (env : Env) (S : Store) : R Out := .ok (.val (.tup ds)) env S
def kDic (ds : List D) (env : Env) (S : Store) : R Out := match pairD ds with
    | some kvs => if keysOk kvs then .ok (.new (.dic kvs)) env S else .bad
    | none => .bad
def kIdx2 (x y : Ar) (env : Env) (S : Store) : R Out := ofO ((vw env S x).bind fun u => (vw env S y).bind fun v => (idxF u v).map .val) env S
def kIdx (C : Calls) (g : Glos) (b : Ex) (x : Ar) (env : Env) (S : Store) : R Out := (evO C g b env S).ar.bind (kIdx2 x)
def kSlc3 (x : Ar) (l h : Option Int) (env : Env) (S : Store) : R Out := ofO ((vw env S x).bind fun u => slcF u l h) env S
def kSlc2 (C : Calls) (g : Glos) (hi : Option Ex) (x : Ar) (l : Option Int) (env : Env) (S : Store) : R Out := (evP C g hi env S).bind (kSlc3 x l)
def kSlc (C : Calls) (g : Glos) (lo hi : Option Ex) (x : Ar) (env : Env) (S : Store) : R Out := (evP C g lo env S).bind (kSlc2 C g hi x)
def kBf (f : Bf) (xs : List Ar) (env : Env) (S : Store) : R Out := ofO ((vws env S xs).bind (bfF f)) env S
def kMth2 (m : Mt) (x : Ar) (xs : List Ar) (env : Env) (S : Store) : R Out := ofO ((vw env S x).bind fun u => (vws env S xs).bind (mtF m u)) env S
def kMth (C : Calls) (g : Glos) (m : Mt) (as : List Ex) (x : Ar) (env : Env) (S : Store) : R Out := if mtRecv m (vw env S x) then (evAs C g as env S).bind (kMth2 m x) else .bad
def kMut2 (m : Mu) (x : Ar) (ds : List D) (env : Env) (S : Store) : R Out := match (cellAt env S x).bind fun c => muF m c ds with
    | some (c, d) => .ok (.val d) (cellPut env S x c).1 (cellPut env S x c).2
    | none => .bad
def kMut (C : Calls) (g : Glos) (m : Mu) (as : List Ex) (x : Ar) (env : Env) (S : Store) : R Out := if isLst (cellAt env S x) then (evDs C g as env S).bind (kMut2 m x) else .bad
def kIsi (ts : List Ty) (x : Ar) (env : Env) (S : Store) : R Out := ofO ((vw env S x).bind fun u => (isAny u ts).map fun r => .val (.bl r)) env S
def kCall (C : Calls) (f : String) (ds : List D) (env : Env) (S : Store) : R Out := (C f ds S).r env
def kNew (o : Out) (env : Env) (S : Store) : R Out := match o with
    | .new (.lst xs) => .ok (.val (.loc S.length)) env (S ++ [.lst xs])
    | _ => .bad
def kP (d : D) (env : Env) (S : Store) : R (Option Int) := ofO ((intOf d).map some) env S
def kDs2 (d : D) (ds : List D) (env : Env) (S : Store) : R (List D) := .ok (d :: ds) env S
def kDs (C : Calls) (g : Glos) (as : List Ex) (d : D) (env : Env) (S : Store) : R (List D) := (evDs C g as env S).bind (kDs2 d)
def kAs2 (d : Ar) (ds : List Ar) (env : Env) (S : Store) : R (List Ar) := .ok (d :: ds) env S
def kAs (C : Calls) (g : Glos) (as : List Ex) (d : Ar) (env : Env) (S : Store) : R (List Ar) := (evAs C g as env S).bind (kAs2 d)
def sEx (_ : D) (env : Env) (S : Store) : R Fl := .ok .nxt env S
def sAsg (t : Tg) (d : D) (env : Env) (S : Store) : R Fl := match bindTg t d env with
    | some e => .ok .nxt e S
    | none => .bad
def sOwn (i : Nat) (o : Out) (env : Env) (S : Store) : R Fl := match o with
    | .new (.lst xs) => .ok .nxt (env.set i (.lst xs)) S
    | _ => .bad
def sPut3 (d : D) (x : Ar) (kd : D) (env : Env) (S : Store) : R Fl := match (cellAt env S x).bind fun c => putF c kd d with
    | some c => .ok .nxt (cellPut env S x c).1 (cellPut env S x c).2
    | none => .bad
def sPut2 (C : Calls) (g : Glos) (b : Ex) (d : D) (x : Ar) (env : Env) (S : Store) : R Fl := (evO C g b env S).fz.bind (sPut3 d x)
def sPut (C : Calls) (g : Glos) (a b : Ex) (d : D) (env : Env) (S : Store) : R Fl := (evO C g a env S).ar.bind (sPut2 C g b d)
def sRet (d : D) (env : Env) (S : Store) : R Fl := .ok (.ret d) env S
def sIfe (C : Calls) (g : Glos) (w : Nat) (ss tt : List Stm) (r : Bool) (env : Env) (S : Store) : R Fl := if r then exSs C g w ss env S else exSs C g w tt env S
variable {x y : Ar} {d : D} {ds : List D} {xs : List Ar} {t : Tg} {k : Itk} {ss tt : List Stm} {s : Stm}
@[simp] theorem kBin2_eq {o : BOp} : kBin2 o x y env S = ofO ((vw env S x).bind fun u => (vw env S y).bind fun v => binF o u v) env S := rfl
@[simp] theorem kBin_eq {o : BOp} : kBin C g o b x env S = (evO C g b env S).ar.bind (kBin2 o x) := rfl
@[simp] theorem kUn_eq {o : UOp} : kUn o x env S = ofO ((vw env S x).bind (unF o)) env S := rfl
@[simp] theorem kCmp2_eq {o : COp} : kCmp2 o x y env S = ofO ((vw env S x).bind fun u => (vw env S y).bind fun v => (cmpF o u v).map fun r => .val (.bl r)) env S := rfl
@[simp] theorem kCmp_eq {o : COp} : kCmp C g o b x env S = (evO C g b env S).ar.bind (kCmp2 o x) := rfl
@[simp] theorem kD3_eq {p : COp} {r : Bool} : kD3 C g p c y r env S = if r then (evO C g c env S).ar.bind (kCmp2 p y) else .ok (.val (.bl false)) env S := rfl
@[simp] theorem kD2_eq {o p : COp} : kD2 C g o p c x y env S = (ofO ((vw env S x).bind fun u => (vw env S y).bind fun v => cmpF o u v) env S).bind (kD3 C g p c y) := rfl
@[simp] theorem kD1_eq {o p : COp} : kD1 C g o p b c x env S = (evO C g b env S).ar.bind (kD2 C g o p c x) := rfl
@[simp] theorem kAnd_eq {r : Bool} : kAnd C g b r env S = if r then evO C g b env S else .ok (.val (.bl false)) env S := rfl
@[simp] theorem kOr_eq {r : Bool} : kOr C g b r env S = if r then .ok (.val (.bl true)) env S else evO C g b env S := rfl
@[simp] theorem kNot_eq {r : Bool} : kNot r env S = .ok (.val (.bl (!r))) env S := rfl
@[simp] theorem kIte_eq {r : Bool} : kIte C g a b r env S = if r then evO C g a env S else evO C g b env S := rfl
@[simp] theorem kLst_eq : kLst ds env S = .ok (.new (.lst ds)) env S := rfl
@[simp] theorem kTup_eq : kTup ds env S = .ok (.val (.tup ds)) env S := rfl
@[simp] theorem kDic_eq : kDic ds env S = match pairD ds with
    | some kvs => if keysOk kvs then .ok (.new (.dic kvs)) env S else .bad
    | none => .bad := rfl
@[simp] theorem kIdx2_eq : kIdx2 x y env S = ofO ((vw env S x).bind fun u => (vw env S y).bind fun v => (idxF u v).map .val) env S := rfl
@[simp] theorem kIdx_eq : kIdx C g b x env S = (evO C g b env S).ar.bind (kIdx2 x) := rfl
@[simp] theorem kSlc3_eq {l h : Option Int} : kSlc3 x l h env S = ofO ((vw env S x).bind fun u => slcF u l h) env S := rfl
@[simp] theorem kSlc2_eq {hi : Option Ex} {l : Option Int} : kSlc2 C g hi x l env S = (evP C g hi env S).bind (kSlc3 x l) := rfl
@[simp] theorem kSlc_eq {lo hi : Option Ex} : kSlc C g lo hi x env S = (evP C g lo env S).bind (kSlc2 C g hi x) := rfl
@[simp] theorem kBf_eq {f : Bf} : kBf f xs env S = ofO ((vws env S xs).bind (bfF f)) env S := rfl
@[simp] theorem kMth2_eq {m : Mt} : kMth2 m x xs env S = ofO ((vw env S x).bind fun u => (vws env S xs).bind (mtF m u)) env S := rfl
@[simp] theorem kMth_eq {m : Mt} : kMth C g m as x env S = if mtRecv m (vw env S x) then (evAs C g as env S).bind (kMth2 m x) else .bad := rfl
@[simp] theorem kMut2_eq {m : Mu} : kMut2 m x ds env S = match (cellAt env S x).bind fun c => muF m c ds with
    | some (c, d) => .ok (.val d) (cellPut env S x c).1 (cellPut env S x c).2
    | none => .bad := rfl
@[simp] theorem kMut_eq {m : Mu} : kMut C g m as x env S = if isLst (cellAt env S x) then (evDs C g as env S).bind (kMut2 m x) else .bad := rfl
@[simp] theorem kIsi_eq {ts : List Ty} : kIsi ts x env S = ofO ((vw env S x).bind fun u => (isAny u ts).map fun r => .val (.bl r)) env S := rfl
@[simp] theorem kCall_eq {f : String} : kCall C f ds env S = (C f ds S).r env := rfl
@[simp] theorem kNew_eq {zs : List D} : kNew (.new (.lst zs)) env S = .ok (.val (.loc S.length)) env (S ++ [.lst zs]) := rfl
@[simp] theorem kP_eq : kP d env S = ofO ((intOf d).map some) env S := rfl
@[simp] theorem kDs2_eq : kDs2 d ds env S = .ok (d :: ds) env S := rfl
@[simp] theorem kDs_eq : kDs C g as d env S = (evDs C g as env S).bind (kDs2 d) := rfl
@[simp] theorem kAs2_eq : kAs2 x xs env S = .ok (x :: xs) env S := rfl
@[simp] theorem kAs_eq : kAs C g as x env S = (evAs C g as env S).bind (kAs2 x) := rfl
@[simp] theorem sEx_eq : sEx d env S = .ok .nxt env S := rfl
@[simp] theorem sAsg_name {i : Nat} : sAsg (.name i) d env S = .ok .nxt (env.set i (.dat d)) S := rfl
@[simp] theorem sAsg_tup {is : List Nat} : sAsg (.tup is) d env S = match bindTg (.tup is) d env with
    | some e => .ok .nxt e S
    | none => .bad := rfl
@[simp] theorem sOwn_eq {i : Nat} {zs : List D} : sOwn i (.new (.lst zs)) env S = .ok .nxt (env.set i (.lst zs)) S := rfl
@[simp] theorem sPut3_eq {kd : D} : sPut3 d x kd env S = match (cellAt env S x).bind fun c => putF c kd d with
    | some c => .ok .nxt (cellPut env S x c).1 (cellPut env S x c).2
    | none => .bad := rfl
@[simp] theorem sPut2_eq : sPut2 C g b d x env S = (evO C g b env S).fz.bind (sPut3 d x) := rfl
@[simp] theorem sPut_eq : sPut C g a b d env S = (evO C g a env S).ar.bind (sPut2 C g b d) := rfl
@[simp] theorem sRet_eq : sRet d env S = .ok (.ret d) env S := rfl
@[simp] theorem sIfe_eq {r : Bool} : sIfe C g w ss tt r env S = if r then exSs C g w ss env S else exSs C g w tt env S := rfl
@[simp] theorem ev_bin {o : BOp} : evO C g (.bin o a b) env S = (evO C g a env S).ar.bind (kBin C g o b) := rfl
@[simp] theorem ev_un {o : UOp} : evO C g (.un o a) env S = (evO C g a env S).ar.bind (kUn o) := rfl
@[simp] theorem ev_cmp {o : COp} : evO C g (.cmp o a b) env S = (evO C g a env S).ar.bind (kCmp C g o b) := rfl
@[simp] theorem ev_cmp2 {o p : COp} : evO C g (.cmp2 o p a b c) env S = (evO C g a env S).ar.bind (kD1 C g o p b c) := rfl
@[simp] theorem ev_and : evO C g (.and a b) env S = (evO C g a env S).bl.bind (kAnd C g b) := rfl
@[simp] theorem ev_or : evO C g (.or a b) env S = (evO C g a env S).bl.bind (kOr C g b) := rfl
@[simp] theorem ev_not : evO C g (.not a) env S = (evO C g a env S).bl.bind kNot := rfl
@[simp] theorem ev_ite : evO C g (.ite c a b) env S = (evO C g c env S).bl.bind (kIte C g a b) := rfl
@[simp] theorem ev_lst : evO C g (.lst as) env S = (evDs C g as env S).bind kLst := rfl
@[simp] theorem ev_tup : evO C g (.tup as) env S = (evDs C g as env S).bind kTup := rfl
@[simp] theorem ev_dic : evO C g (.dic as) env S = (evDs C g as env S).nox.bind kDic := rfl
@[simp] theorem ev_idx : evO C g (.idx a b) env S = (evO C g a env S).ar.bind (kIdx C g b) := rfl
@[simp] theorem ev_slc {lo hi : Option Ex} : evO C g (.slc a lo hi) env S = (evO C g a env S).ar.bind (kSlc C g lo hi) := rfl
@[simp] theorem ev_bf {f : Bf} : evO C g (.bf f as) env S = (evAs C g as env S).bind (kBf f) := rfl
@[simp] theorem ev_mth {m : Mt} : evO C g (.mth m r as) env S = (evO C g r env S).ar.bind (kMth C g m as) := rfl
@[simp] theorem ev_mut {m : Mu} : evO C g (.mut m r as) env S = (evO C g r env S).ar.bind (kMut C g m as) := rfl
@[simp] theorem ev_isi {ts : List Ty} {o : Bool} : evO C g (.isi a ts o) env S = (evO C g a env S).ar.bind (kIsi ts) := rfl
@[simp] theorem ev_call {f : String} {ks : List String} : evO C g (.call f as ks) env S = (evDs C g as env S).bind (kCall C f) := rfl
@[simp] theorem ev_new : evO C g (.new a) env S = (evO C g a env S).bind kNew := by
  show (evO C g a env S).bind _ = _
  congr 1
@[simp] theorem ec_none : evC C g none env S = .ok true env S := rfl
@[simp] theorem ec_some : evC C g (some a) env S = (evO C g a env S).bl := rfl
@[simp] theorem ep_none : evP C g none env S = .ok none env S := rfl
@[simp] theorem ep_some : evP C g (some a) env S = (evO C g a env S).fz.bind kP := rfl
@[simp] theorem eds_nil : evDs C g [] env S = .ok [] env S := rfl
@[simp] theorem eds_cons : evDs C g (a :: as) env S = (evO C g a env S).fz.bind (kDs C g as) := rfl
@[simp] theorem eas_nil : evAs C g [] env S = .ok [] env S := rfl
@[simp] theorem eas_cons : evAs C g (a :: as) env S = (evO C g a env S).ar.bind (kAs C g as) := rfl
@[simp] theorem xs_ex : exS C g w (.ex a) env S = (evO C g a env S).fz.bind sEx := rfl
@[simp] theorem xs_asg : exS C g w (.asg t a) env S = (evO C g a env S).fz.bind (sAsg t) := by
  show (evO C g a env S).fz.bind _ = _
  congr 1
  funext d e S
  unfold sAsg
  cases bindTg t d e <;> rfl
@[simp] theorem xs_own {i : Nat} : exS C g w (.own i a) env S = (evO C g a env S).bind (sOwn i) := rfl
@[simp] theorem xs_put : exS C g w (.put a b c) env S = (evO C g c env S).fz.bind (sPut C g a b) := rfl
@[simp] theorem xs_ret0 : exS C g w (.ret none) env S = .ok (.ret .non) env S := rfl
@[simp] theorem xs_ret : exS C g w (.ret (some a)) env S = (evO C g a env S).fz.bind sRet := rfl
@[simp] theorem xs_ife : exS C g w (.ife a ss tt) env S = (evO C g a env S).bl.bind (sIfe C g w ss tt) := rfl
@[simp] theorem xs_brk : exS C g w .brk env S = .ok .brk env S := rfl
@[simp] theorem xs_cnt : exS C g w .cnt env S = .ok .cnt env S := rfl
@[simp] theorem xs_pass : exS C g w .pass env S = .ok .nxt env S := rfl
/-- the statements after one -/
def after (C : Calls) (g : Glos) (w : Nat) (ss : List Stm) (fl : Fl) (env : Env) (S : Store) : R Fl := match fl with
  | .nxt => exSs C g w ss env S
  | .brk => .ok .brk env S
  | .cnt => .ok .cnt env S
  | .ret d => .ok (.ret d) env S
@[simp] theorem xss_nil : exSs C g w [] env S = .ok .nxt env S := rfl
@[simp] theorem xss_cons : exSs C g w (s :: ss) env S = (exS C g w s env S).bind (after C g w ss) := rfl
@[simp] theorem after_nxt : after C g w ss .nxt env S = exSs C g w ss env S := rfl
@[simp] theorem after_brk : after C g w ss .brk env S = .ok .brk env S := rfl
@[simp] theorem after_cnt : after C g w ss .cnt env S = .ok .cnt env S := rfl
@[simp] theorem after_ret {d : D} : after C g w ss (.ret d) env S = .ok (.ret d) env S := rfl
@[simp] theorem bind_name {i : Nat} {d : D} : bindTg (.name i) d env = some (env.set i (.dat d)) := rfl
end
/-! the pure ones -/
section
variable {C : Calls} {g : Glos} {w : Nat}
theorem turns_pure {f : D → Env → Store → R (Option D)} {i : Nat} {p : D → Option D} {S : Store} : ∀ {xs : List D} {env : Env}, (∀ x ∈ xs, ∀ e : Env, (∃ d, e = env.set i d) → f x e S = .ok (p x) (env.set i (.dat x)) S) → ∃ e', turns f xs env S = .ok (xs.filterMap p) e' S ∧ (e' = env ∨ ∃ d, e' = env.set i d)
  | [], env, _ => ⟨env, rfl, .inl rfl⟩
  | x :: xs, env, h => by
    by_cases hi : i < env.length
    · have h1 : f x env S = .ok (p x) (env.set i (.dat x)) S := h x List.mem_cons_self env ⟨env[i], by simp⟩
      have h2 : ∀ y ∈ xs, ∀ e : Env, (∃ d, e = (env.set i (.dat x)).set i d) → f y e S = .ok (p y) ((env.set i (.dat x)).set i (.dat y)) S := fun y hy e ⟨d, he⟩ => by
        rw [List.set_set] at he ⊢
        exact h y (List.mem_cons_of_mem _ hy) e ⟨d, he⟩
      obtain ⟨e', q1, q2⟩ := turns_pure h2
      have q2 : e' = env ∨ ∃ d, e' = env.set i d := by
        rcases q2 with rfl | ⟨d, rfl⟩
        · exact .inr ⟨_, rfl⟩
        · exact .inr ⟨d, by rw [List.set_set]⟩
      refine ⟨e', ?_, q2⟩
      show (f x env S).bind _ = _
      rw [h1, R.bind_ok, q1, R.bind_ok, List.filterMap_cons]
      cases p x <;> rfl
    · have he : ∀ d : Sl, env.set i d = env := fun d => List.set_eq_of_length_le (by omega)
      have h1 : f x env S = .ok (p x) env S := by
        have := h x List.mem_cons_self env ⟨.no, (he _).symm⟩
        rwa [he] at this
      obtain ⟨e', q1, q2⟩ := turns_pure (xs := xs) (env := env) fun y hy e z => h y (List.mem_cons_of_mem _ hy) e z
      refine ⟨e', ?_, q2⟩
      show (f x env S).bind _ = _
      rw [h1, R.bind_ok, q1, R.bind_ok, List.filterMap_cons]
      cases p x <;> rfl
theorem back_one {env e' : Env} {i : Nat} (h : e' = env ∨ ∃ d, e' = env.set i d) (hi : i < env.length) : backE env e' [i] = env := by
  have key : env.set i (env.getD i .no) = env := by
    rw [List.getD_eq_getElem?_getD, List.getElem?_eq_getElem hi]; simp
  show e'.set i (env.getD i .no) = env
  rcases h with rfl | ⟨d, rfl⟩
  · exact key
  · rw [List.set_set]; exact key
/-- a comprehension over one name that leaves the store alone -/
theorem comp_pure {elt it : Ex} {k : Itk} {i : Nat} {cond : Option Ex} {env : Env} {S0 S : Store} {d : D} {ds : List D} {p : D → Option D}
    (h1 : evDs C g [it] env S0 = .ok [d] env S) (h2 : itF k [d] = some ds) (hi : i < env.length) (hp : plainSl env i = true)
    (h : ∀ x ∈ ds, (evC C g cond (env.set i (.dat x)) S).bind (fun r e S => if r then (evO C g elt e S).fz.bind fun y e S => .ok (some y) e S else .ok none e S) = .ok (p x) (env.set i (.dat x)) S) :
    evO C g (.comp elt (.name i) k [it] cond [i]) env S0 = .ok (.new (.lst (ds.filterMap p))) env S := by
  have h0 : evO C g (.comp elt (.name i) k [it] cond [i]) env S0 = ((evDs C g [it] env S0).bind fun xs env S => match itF k xs with
    | none => .bad
    | some ds => if [i].all (plainSl env) then (turns (compF C g elt (.name i) cond [i]) ds env S).nox.bind fun ys env' S => .ok (.new (.lst ys)) (backE env env' [i]) S else .bad) := rfl
  have hp' : [i].all (plainSl env) = true := by rw [List.all_cons, hp]; rfl
  obtain ⟨e', q1, q2⟩ := turns_pure (f := compF C g elt (.name i) cond [i]) (i := i) (p := p) (S := S) (xs := ds) (env := env) fun x hx e ⟨dd, he⟩ => by
    have : bindTg (.name i) x (wipeE e [i]) = some (env.set i (.dat x)) := by
      rw [he]
      show some ((((env.set i dd)).set i .no).set i (.dat x)) = _
      rw [List.set_set, List.set_set]
    unfold compF
    rw [this]
    exact h x hx
  rw [h0, h1, R.bind_ok, h2]
  show (if [i].all (plainSl env) then (turns (compF C g elt (.name i) cond [i]) ds env S).nox.bind fun ys env' S => R.ok (Out.new (.lst ys)) (backE env env' [i]) S else .bad) = _
  rw [if_pos hp']
  rw [q1]
  show R.ok _ (backE env e' [i]) S = _
  rw [back_one q2 hi]
theorem turns_state {f : D → Env → Store → R (Option D)} {i : Nat} {P : D → Prop} {J : Nat → Store → Prop} {N : Nat} : ∀ {xs : List D} {env : Env} {S : Store} {k : Nat}, k + xs.length ≤ N → J k S →
    (∀ x ∈ xs, ∀ e k S, k < N → (∃ d, e = env.set i d) → J k S → ∃ y S', f x e S = .ok (some y) (env.set i (.dat x)) S' ∧ P y ∧ J (k + 1) S') →
    ∃ ys e' S', turns f xs env S = .ok ys e' S' ∧ ys.length = xs.length ∧ (∀ y ∈ ys, P y) ∧ J (k + xs.length) S' ∧ (e' = env ∨ ∃ d, e' = env.set i d)
  | [], env, S, k, _, j, _ => ⟨[], env, S, rfl, rfl, fun _ h => (by cases h), j, .inl rfl⟩
  | x :: xs, env, S, k, hN, j, h => by
    rw [List.length_cons] at hN
    have he0 : ∃ d, env = env.set i d := by
      by_cases hi : i < env.length
      · exact ⟨env[i], by simp⟩
      · exact ⟨.no, (List.set_eq_of_length_le (by omega)).symm⟩
    obtain ⟨y, S1, h1, hy, j1⟩ := h x List.mem_cons_self env k S (by omega) he0 j
    obtain ⟨ys, e', S2, q1, q2, q3, q4, q5⟩ := turns_state (i := i) (N := N) (P := P) (J := J) (f := f) (xs := xs) (env := env.set i (.dat x)) (k := k + 1) (by omega) j1 fun z hz e k' S' hk ⟨d, he⟩ j' => by
      rw [List.set_set] at he ⊢
      exact h z (List.mem_cons_of_mem _ hz) e k' S' hk ⟨d, he⟩ j'
    refine ⟨y :: ys, e', S2, ?_, by rw [List.length_cons, List.length_cons, q2], fun z hz => ?_, by rw [List.length_cons, show k + (xs.length + 1) = k + 1 + xs.length from by omega]; exact q4, ?_⟩
    · show (f x env S).bind _ = _
      rw [h1, R.bind_ok, q1]; rfl
    · rcases List.mem_cons.mp hz with rfl | hz
      · exact hy
      · exact q3 z hz
    · rcases q5 with rfl | ⟨d, rfl⟩
      · exact .inr ⟨_, rfl⟩
      · exact .inr ⟨d, by rw [List.set_set]⟩
/-- a comprehension over one name, each element of which changes the store -/
theorem comp_state {elt it : Ex} {kk : Itk} {i : Nat} {env : Env} {S0 S : Store} {d : D} {ds : List D} {P : D → Prop} {J : Nat → Store → Prop} {N k : Nat}
    (h1 : evDs C g [it] env S0 = .ok [d] env S) (h2 : itF kk [d] = some ds) (hi : i < env.length) (hp : plainSl env i = true) (hN : k + ds.length ≤ N) (j : J k S)
    (h : ∀ x ∈ ds, ∀ k S, k < N → J k S → ∃ y S', (evO C g elt (env.set i (.dat x)) S).fz = .ok y (env.set i (.dat x)) S' ∧ P y ∧ J (k + 1) S') :
    ∃ ys S', evO C g (.comp elt (.name i) kk [it] none [i]) env S0 = .ok (.new (.lst ys)) env S' ∧ ys.length = ds.length ∧ (∀ y ∈ ys, P y) ∧ J (k + ds.length) S' := by
  have h0 : evO C g (.comp elt (.name i) kk [it] none [i]) env S0 = ((evDs C g [it] env S0).bind fun xs env S => match itF kk xs with
    | none => .bad
    | some ds => if [i].all (plainSl env) then (turns (compF C g elt (.name i) none [i]) ds env S).nox.bind fun ys env' S => .ok (.new (.lst ys)) (backE env env' [i]) S else .bad) := rfl
  have hp' : [i].all (plainSl env) = true := by rw [List.all_cons, hp]; rfl
  obtain ⟨ys, e', S', q1, q2, q3, q4, q5⟩ := turns_state (f := compF C g elt (.name i) none [i]) (i := i) (P := P) (J := J) (N := N) (xs := ds) (env := env) hN j fun x hx e k S hk ⟨dd, he⟩ jj => by
    have e1 : bindTg (.name i) x (wipeE e [i]) = some (env.set i (.dat x)) := by
      rw [he]
      show some ((((env.set i dd)).set i .no).set i (.dat x)) = _
      rw [List.set_set, List.set_set]
    obtain ⟨y, S', z1, z2, z3⟩ := h x hx k S hk jj
    refine ⟨y, S', ?_, z2, z3⟩
    unfold compF
    rw [e1]
    show ((R.ok true (env.set i (.dat x)) S).bind _) = _
    rw [R.bind_ok, if_pos rfl, z1]; rfl
  refine ⟨ys, S', ?_, q2, q3, q4⟩
  rw [h0, h1, R.bind_ok, h2]
  show (if [i].all (plainSl env) then (turns (compF C g elt (.name i) none [i]) ds env S).nox.bind fun ys env' S => R.ok (Out.new (.lst ys)) (backE env env' [i]) S else .bad) = _
  rw [if_pos hp', q1]
  show R.ok _ (backE env e' [i]) S' = _
  rw [back_one q5 hi]
end
end Pf
namespace Pf.K
open PySem PySem.Spec PyProof.Rows L2
def topS (i : Nat) : Stmt := PySem.Challenge.pw_namesheld_k01_tags_told_from_others.main.body.getD i (.Pass ⟨0, 0, 0, 0⟩)
def lev : Nat := 10
def turnsW : Nat := 70
set_option maxHeartbeats 4000000
def fd_law : FDef := ⟨1, 12, [.asg (.name 1) (.call "_law_start" [.var 0] []),
    .fr (.name 2) .val [.call "_law_ckeys" [] []] [.asg (.name 4) (.lst [.bin .add (.var 2) (.str [115]), .bin .add (.slc (.var 2) (some (.int (1))) none) (.str [120]), .bin .add (.str [120]) (.slc (.var 2) none (some (.int (6)))), .bin .add (.slc (.var 2) none (some (.un .neg (.int (1))))) (.str [122]), .bin .add (.var 2) (.str [49])]),
    .ife (.not (.call "_law_same" [.bin .add (.lst [.call "is_tag" [.var 2] []]) (.comp (.call "is_tag" [.var 6] []) (.name 6) .val [.var 4] none [6]), .bin .add (.lst [.bl false]) (.comp (.call "_law_cis_tag" [.var 6] []) (.name 6) .val [.var 4] none [6])] [])) [.ret (some (.bl false))] []],
    .fr (.name 3) .range1 [.int (20)] [.asg (.name 5) (.bin .add (.int (1)) (.call "_law_below" [.var 1, .int (10)] [])),
    .asg (.name 6) (.call "_law_pick" [.var 1, .bf .list [.call "_law_cletters" [] []]] []),
    .asg (.name 6) (.bin .add (.var 6) (.mth .join (.str []) [.comp (.call "_law_pick" [.var 1, .bf .list [.bin .add (.call "_law_cletters" [] []) (.str [48, 49, 50, 51, 52, 53, 54, 55, 56, 57])]] []) (.name 11) .range1 [.bin .sub (.var 5) (.int (1))] none [11]])),
    .ife (.not (.call "_law_same" [.call "is_tag" [.var 6] [], .call "_law_cis_tag" [.var 6] []] [])) [.ret (some (.bl false))] [],
    .asg (.name 7) (.call "_law_below" [.var 1, .bf .len [.var 6]] []),
    .asg (.name 8) (.comp (.bin .add (.bin .add (.slc (.var 6) none (some (.var 7))) (.var 9)) (.slc (.var 6) (some (.bin .add (.var 7) (.int (1)))) none)) (.name 9) .val [.call "_law_pick" [.var 1, .lst [.str [65], .str [90], .str [32], .str [95], .str [45], .str [44], .str [46], .str [10], .str [34], .str [38]]] []] none [9]),
    .asg (.name 8) (.bin .add (.var 8) (.lst [.bin .add (.call "_law_pick" [.var 1, .bf .list [.str [48, 49, 50, 51, 52, 53, 54, 55, 56, 57]]] []) (.slc (.var 6) (some (.int (1))) none), .bin .add (.var 6) (.str [10]), .bin .add (.str [32]) (.var 6), .str [], .slc (.bin .add (.var 6) (.str [97, 98, 99, 100, 101, 102, 103, 104, 105])) none (some (.int (9)))])),
    .asg (.name 8) (.bin .add (.var 8) (.lst [.lst [.var 6], .tup [.var 6], .dic [.var 6, .int (1)], .non, .int (7), .bl true, .bf .len [.var 6]])),
    .ife (.cmp .ne (.comp (.var 10) (.name 10) .val [.var 8] (some (.cmp .isnot (.call "is_tag" [.var 10] []) (.bl false))) [10]) (.lst [])) [.ret (some (.bl false))] []],
    .ret (some (.and (.cmp .is (.call "is_tag" [.str [97]] ["thing"]) (.bl true)) (.and (.cmp .is (.call "is_tag" [.str [122, 57, 57, 57, 57, 57, 57, 57]] []) (.bl true)) (.cmp .is (.call "is_tag" [.str [97, 98, 99, 100, 101, 102, 103, 104, 105]] []) (.bl false)))))]⟩
def di_law : DI := ⟨"law", topS 14, ["script", "stream", "key", "turn", "near", "size", "word", "at", "wrong", "sign", "thing", "look"], ["script"], false, fd_law⟩
def fd_law_start : FDef := ⟨1, 1, [.ret (some (.new (.lst [.new (.bf .list [.var 0]), .int (0), .int (0), .int (43)])))]⟩
def di_law_start : DI := ⟨"_law_start", topS 7, ["script"], ["script"], false, fd_law_start⟩
def fd_law_ckeys : FDef := ⟨0, 0, [.ret (some (.lst [.str [105, 110], .str [111, 117, 116], .str [112, 97, 114, 116], .str [111, 118, 101, 114], .str [115, 116, 97, 116, 101], .str [116, 101, 108, 108, 115], .str [102, 114, 111, 109], .str [111, 110], .str [110, 101, 119], .str [103, 111], .str [119, 114, 105, 116, 101, 115], .str [99, 108, 97, 105, 109], .str [115, 97, 109, 101], .str [107, 101, 101, 112, 115]]))]⟩
def di_law_ckeys : DI := ⟨"_law_ckeys", topS 11, [], [], false, fd_law_ckeys⟩
def fd_law_pick : FDef := ⟨2, 2, [.ret (some (.idx (.var 1) (.call "_law_below" [.var 0, .bf .len [.var 1]] [])))]⟩
def di_law_pick : DI := ⟨"_law_pick", topS 9, ["stream", "some"], ["stream", "some"], false, fd_law_pick⟩
def fd_law_below : FDef := ⟨2, 5, [.put (.var 0) (.int (2)) (.bin .add (.idx (.var 0) (.int (2))) (.int (1))),
    .whl (.and (.cmp .eq (.idx (.var 0) (.int (1))) (.int (0))) (.cmp .ne (.idx (.var 0) (.int (0))) (.lst []))) [.asg (.name 3) (.mut .popAt (.idx (.var 0) (.int (0))) [.int (0)]),
    .put (.var 0) (.int (3)) (.bin .mod (.bf .int [.bin .add (.bin .add (.bin .mul (.idx (.var 0) (.int (3))) (.int (69031))) (.var 3)) (.int (13))]) (.int (2147483647))),
    .put (.var 0) (.int (1)) (.ite (.cmp .ge (.var 3) (.bin .pow (.int (10)) (.int (18)))) (.var 3) (.int (0)))],
    .ife (.cmp .gt (.idx (.var 0) (.int (1))) (.int (0))) [.asg (.name 4) (.bin .mod (.bf .int [.idx (.var 0) (.int (1))]) (.var 1)),
    .put (.var 0) (.int (1)) (.bin .fdiv (.idx (.var 0) (.int (1))) (.var 1)),
    .ret (some (.var 4))] [],
    .asg (.name 2) (.bin .mod (.bf .int [.bin .pow (.bin .add (.bin .add (.idx (.var 0) (.int (3))) (.bin .mul (.int (9049)) (.idx (.var 0) (.int (2))))) (.int (130073))) (.int (5))]) (.int (2147483629))),
    .ret (some (.bin .mod (.bin .mod (.bf .int [.bin .pow (.bin .add (.bin .add (.bin .mul (.var 2) (.int (44089))) (.bin .mul (.int (60077)) (.idx (.var 0) (.int (2))))) (.int (47))) (.int (3))]) (.int (1000000007))) (.var 1)))]⟩
def di_law_below : DI := ⟨"_law_below", topS 8, ["stream", "many", "mixed", "cell", "digit"], ["stream", "many"], false, fd_law_below⟩
def fd_law_same : FDef := ⟨2, 4, [.ife (.isi (.var 1) [.list, .tuple] false) [.ife (.or (.cmp .ne (.isi (.var 0) [.list] true) (.isi (.var 1) [.list] true)) (.cmp .ne (.isi (.var 0) [.tuple] true) (.isi (.var 1) [.tuple] true))) [.ret (some (.bl false))] [],
    .ret (some (.and (.cmp .eq (.bf .len [.var 0]) (.bf .len [.var 1])) (.bf .all [.comp (.call "_law_same" [.var 2, .var 3] []) (.tup [2, 3]) .zip [.var 0, .var 1] none [2, 3]])))] [],
    .ife (.isi (.var 1) [.dict] true) [.nev] [],
    .ife (.isi (.var 1) [.int] true) [.ret (some (.and (.isi (.var 0) [.int] true) (.and (.cmp .eq (.isi (.var 0) [.bool] true) (.isi (.var 1) [.bool] true)) (.cmp .eq (.var 0) (.var 1)))))] [],
    .ife (.cmp .is (.var 1) (.non)) [.ret (some (.cmp .is (.var 0) (.non)))] [],
    .ife (.isi (.var 1) [.str] true) [.ret (some (.and (.isi (.var 0) [.str] true) (.cmp .eq (.var 0) (.var 1))))] [],
    .ret (some (.and (.not (.isi (.var 0) [.int, .str, .list, .tuple, .dict] false)) (.cmp .eq (.var 0) (.var 1))))]⟩
def di_law_same : DI := ⟨"_law_same", topS 10, ["found", "due", "x", "y"], ["found", "due"], false, fd_law_same⟩
def fd_is_tag : FDef := ⟨1, 1, [.ret (some (.and (.call "is_word" [.var 0, .int (8)] []) (.cmp .notin (.var 0) (.glo "KEYS"))))]⟩
def di_is_tag : DI := ⟨"is_tag", topS 5, ["thing"], ["thing"], true, fd_is_tag⟩
def fd_law_cletters : FDef := ⟨0, 0, [.ret (some (.str [97, 98, 99, 100, 101, 102, 103, 104, 105, 106, 107, 108, 109, 110, 111, 112, 113, 114, 115, 116, 117, 118, 119, 120, 121, 122]))]⟩
def di_law_cletters : DI := ⟨"_law_cletters", topS 12, [], [], false, fd_law_cletters⟩
def fd_law_cis_tag : FDef := ⟨1, 2, [.ife (.or (.not (.cmp2 .le .le (.int (1)) (.bf .len [.var 0]) (.int (8)))) (.or (.cmp .notin (.idx (.var 0) (.int (0))) (.call "_law_cletters" [] [])) (.cmp .isin (.var 0) (.call "_law_ckeys" [] [])))) [.ret (some (.bl false))] [],
    .ret (some (.cmp .eq (.comp (.var 1) (.name 1) .val [.var 0] (some (.cmp .notin (.var 1) (.bin .add (.call "_law_cletters" [] []) (.str [48, 49, 50, 51, 52, 53, 54, 55, 56, 57])))) [1]) (.lst [])))]⟩
def di_law_cis_tag : DI := ⟨"_law_cis_tag", topS 13, ["word", "sign"], ["word"], false, fd_law_cis_tag⟩
def fd_is_word : FDef := ⟨2, 3, [.ife (.or (.not (.isi (.var 0) [.str] true)) (.or (.not (.cmp2 .le .le (.int (1)) (.bf .len [.var 0]) (.var 1))) (.cmp .notin (.idx (.var 0) (.int (0))) (.glo "LETTERS")))) [.ret (some (.bl false))] [],
    .ret (some (.cmp .eq (.comp (.var 2) (.name 2) .val [.var 0] (some (.cmp .notin (.var 2) (.bin .add (.glo "LETTERS") (.glo "FIGURES")))) [2]) (.lst [])))]⟩
def di_is_word : DI := ⟨"is_word", topS 4, ["thing", "most", "sign"], ["thing", "most"], false, fd_is_word⟩
def defs : List DI := [di_law, di_law_start, di_law_ckeys, di_law_pick, di_law_below, di_law_same, di_is_tag, di_law_cletters, di_law_cis_tag, di_is_word]
def glos : Glos := fun x => match x with
  | "KEYS" => some (.tup [.str [105, 110], .str [111, 117, 116], .str [112, 97, 114, 116], .str [111, 118, 101, 114], .str [115, 116, 97, 116, 101], .str [116, 101, 108, 108, 115], .str [102, 114, 111, 109], .str [111, 110], .str [110, 101, 119], .str [103, 111], .str [119, 114, 105, 116, 101, 115], .str [99, 108, 97, 105, 109], .str [115, 97, 109, 101], .str [107, 101, 101, 112, 115]])
  | "LETTERS" => some (.str [97, 98, 99, 100, 101, 102, 103, 104, 105, 106, 107, 108, 109, 110, 111, 112, 113, 114, 115, 116, 117, 118, 119, 120, 121, 122])
  | "FIGURES" => some (.str [48, 49, 50, 51, 52, 53, 54, 55, 56, 57])
  | _ => none
end Pf.K
namespace Pf.K
abbrev Cn (n : Nat) : Calls := callF (gOf defs) glos turnsW n
theorem call_of {f : String} {fd : FDef} {ds : List D} {S : Store} {n : Nat} (h : gOf defs f = some fd) (hl : ds.length = fd.np) : Cn (n + 1) f ds S = endR (exSs (Cn n) glos turnsW fd.body (startE fd.ns ds) S) := by
  show (match gOf defs f with
      | none => RC.bad
      | some fd => if ds.length = fd.np then endR (exSs (Cn n) glos turnsW fd.body (startE fd.ns ds) S) else .bad) = _
  rw [h]; exact if_pos hl
theorem g_is_word : gOf defs "is_word" = some fd_is_word := rfl
theorem g_is_tag : gOf defs "is_tag" = some fd_is_tag := rfl
theorem g_cis_tag : gOf defs "_law_cis_tag" = some fd_law_cis_tag := rfl
theorem g_same : gOf defs "_law_same" = some fd_law_same := rfl
theorem g_start : gOf defs "_law_start" = some fd_law_start := rfl
theorem g_below : gOf defs "_law_below" = some fd_law_below := rfl
theorem g_pick : gOf defs "_law_pick" = some fd_law_pick := rfl
theorem g_law : gOf defs "law" = some fd_law := rfl
def letters : List Nat := [97, 98, 99, 100, 101, 102, 103, 104, 105, 106, 107, 108, 109, 110, 111, 112, 113, 114, 115, 116, 117, 118, 119, 120, 121, 122]
def figures : List Nat := [48, 49, 50, 51, 52, 53, 54, 55, 56, 57]
def keyL : List (List Nat) := [[105, 110], [111, 117, 116], [112, 97, 114, 116], [111, 118, 101, 114], [115, 116, 97, 116, 101], [116, 101, 108, 108, 115], [102, 114, 111, 109], [111, 110], [110, 101, 119], [103, 111], [119, 114, 105, 116, 101, 115], [99, 108, 97, 105, 109], [115, 97, 109, 101], [107, 101, 101, 112, 115]]
theorem glo_l : glos "LETTERS" = some (.str letters) := rfl
theorem glo_f : glos "FIGURES" = some (.str figures) := rfl
theorem glo_k : glos "KEYS" = some (.tup (keyL.map .str)) := rfl
theorem c_letters {n S} : Cn (n + 1) "_law_cletters" [] S = .ok (.str letters) S := rfl
theorem c_keys {n S} : Cn (n + 1) "_law_ckeys" [] S = .ok (.lst (keyL.map .str)) S := rfl
def signs : List Nat := letters ++ figures
def wordOk (s : List Nat) (m : Int) : Bool := match s with
  | [] => false
  | c :: t => decide ((t.length : Int) + 1 ≤ m) && decide (c ∈ letters) && (c :: t).all fun z => decide (z ∈ signs)
/-- the filter over a text's signs -/
theorem sign_comp {C : Calls} {env : Env} {S : Store} {i j : Nat} {s : List Nat} {e1 : Ex} (hs : env[i]? = some (.dat (.str s))) (hj : j < env.length) (hp : plainSl env j = true)
    (h1 : ∀ env S, evO C glos e1 env S = .ok (.val (.str signs)) env S) :
    evO C glos (.comp (.var j) (.name j) .val [.var i] (some (.cmp .notin (.var j) e1)) [j]) env S = .ok (.new (.lst ((s.filter fun z => !decide (z ∈ signs)).map fun z => .str [z]))) env S := by
  have hr : rd env i = some (.str s, env) := by unfold rd; rw [hs]
  rw [comp_pure (ds := s.map fun c => .str [c]) (d := .str s) (p := fun d => match d with | .str [z] => if z ∈ signs then none else some (.str [z]) | _ => none) ?_ ?_ hj hp ?_]
  · congr 3
    clear hs hr
    induction s with
    | nil => rfl
    | cons z s ih =>
      by_cases hz : z ∈ signs
      · simp [hz, ih]
      · simp [hz, ih]
  · simp [hr]
  · rfl
  · intro x hx
    obtain ⟨z, _, rfl⟩ := List.mem_map.mp hx
    have hr2 : rd (env.set j (.dat (.str [z]))) j = some (.str [z], env.set j (.dat (.str [z]))) := by unfold rd; rw [List.getElem?_set_self hj]
    by_cases hz : z ∈ signs
    · simp [hr2, h1, cmpF, isInF, hz]
    · simp [hr2, h1, cmpF, isInF, hz]
theorem none_bad (s : List Nat) : ((s.filter fun z => !decide (z ∈ signs)).map fun z => D.str [z]).isEmpty = s.all (fun z => decide (z ∈ signs)) := by
  rw [List.isEmpty_map]
  induction s with
  | nil => rfl
  | cons z s ih =>
    by_cases hz : z ∈ signs
    · simp [hz, ih]
    · simp [hz]
theorem none_bad2 (s : List Nat) : (s.filter fun z => !decide (z ∈ signs)).isEmpty = s.all (fun z => decide (z ∈ signs)) := by
  have := none_bad s; rwa [List.isEmpty_map] at this
theorem pls_str : ∀ s : List Nat, D.pls (s.map fun z => D.str [z]) = true
  | [] => rfl
  | z :: s => by show (D.pl (.str [z]) && D.pls _) = true; rw [pls_str s]; rfl
theorem pls_strs : ∀ s : List (List Nat), D.pls (s.map .str) = true
  | [] => rfl
  | z :: s => by show (D.pl (.str z) && D.pls _) = true; rw [pls_strs s]; rfl
theorem eqD_nil {xs : List D} (h : D.pls xs = true) : eqD (.lst xs) (.lst []) = some xs.isEmpty := by
  unfold eqD
  have e1 : (D.lst xs).pl = true := h
  have e2 : (D.lst []).pl = true := rfl
  have e3 : decide (min (D.lst xs).depth (D.lst []).depth ≤ 64) = true := by
    have : (D.lst []).depth = 1 := rfl
    rw [this]; exact decide_eq_true (by omega)
  rw [e1, e2, e3]
  show some (D.eqbs xs []) = _
  cases xs <;> rfl
theorem eq_nil {xs : List D} (h : D.pls xs = true) : cmpF .eq (.lst xs) (.lst []) = some xs.isEmpty := eqD_nil h
theorem ne_nil {xs : List D} (h : D.pls xs = true) : cmpF .ne (.lst xs) (.lst []) = some (!xs.isEmpty) := by
  show (eqD _ _).map _ = _
  rw [eqD_nil h]; rfl
theorem at0 {α : Type} {c : α} {t : List α} : L2.atI (c :: t) 0 = some c := L2.atI_nat (j := 0) rfl
theorem ok_signs : letters.length + figures.length ≤ 16777216 := by decide
theorem ev_signs1 {C : Calls} {env : Env} {S : Store} : evO C glos (.bin .add (.glo "LETTERS") (.glo "FIGURES")) env S = .ok (.val (.str signs)) env S := by simp [glo_l, glo_f, binF, ok_signs, signs]
theorem is_word_str {n S m s} : Cn (n + 1) "is_word" [.str s, .int m] S = .ok (.bl (wordOk s m)) S := by
  rw [call_of g_is_word rfl]
  cases s with
  | nil => simp [fd_is_word, startE, rd, isAny, isTy, bfF, bf1, cmpF, wordOk]
  | cons c t =>
    have hc := sign_comp (C := Cn n) (env := [.dat (.str (c :: t)), .dat (.int m), .no]) (S := S) (i := 0) (j := 2) (s := c :: t) (e1 := .bin .add (.glo "LETTERS") (.glo "FIGURES")) rfl (by simp) rfl (fun env S => ev_signs1)
    have h0 : (1 : Int) ≤ (t.length : Int) + 1 := by omega
    by_cases h1 : (t.length : Int) + 1 ≤ m
    · by_cases h2 : c ∈ letters
      · simp only [fd_is_word, startE]
        simp [rd, isAny, isTy, bfF, bf1, cmpF, wordOk, h0, h1, h2, glo_l, isInF, idxF, at0, -ev_bin]
        rw [hc]
        simp [-List.map_eq_nil_iff, eq_nil (pls_str _), none_bad]
        exact none_bad2 (c :: t)
      · simp [fd_is_word, startE, rd, isAny, isTy, bfF, bf1, cmpF, wordOk, h0, h1, h2, glo_l, isInF, idxF, at0]
    · simp [fd_is_word, startE, rd, isAny, isTy, bfF, bf1, cmpF, wordOk, h0, h1]
end Pf.K
namespace Pf.K
def okArg : D → Prop
  | .scr _ | .loc _ | .fn _ => False
  | _ => True
def isWordD (d : D) (m : Int) : Bool := match d with
  | .str s => wordOk s m
  | _ => false
theorem is_word_ok {n S m} {d : D} (h : okArg d) : Cn (n + 1) "is_word" [d, .int m] S = .ok (.bl (isWordD d m)) S := by
  cases d with
  | str s => exact is_word_str
  | non => rfl
  | bl b => rfl
  | int i => rfl
  | lst xs => rfl
  | tup xs => rfl
  | dic xs => rfl
  | scr _ => exact h.elim
  | loc _ => exact h.elim
  | fn _ => exact h.elim
def isTagD (d : D) : Bool := match d with
  | .str s => wordOk s 8 && !(keyL.contains s)
  | _ => false
theorem any_str (s : List Nat) : ∀ l : List (List Nat), ((l.map D.str).any fun z => z.eqb (.str s)) = l.contains s
  | [] => rfl
  | x :: l => by
    rw [List.map_cons, List.any_cons, any_str s l, List.contains_cons]
    show (x == s || _) = (s == x || _)
    have e : (x == s) = (s == x) := by
      by_cases h : x = s
      · subst h; rfl
      · rw [beq_false_of_ne h, beq_false_of_ne (Ne.symm h)]
    rw [e]
theorem in_tup (s : List Nat) : isInF (.str s) (.tup (keyL.map .str)) = some (keyL.contains s) := by
  show (if D.flat (.str s) && (keyL.map D.str).all D.flat then some ((keyL.map D.str).any fun z => z.eqb (.str s)) else none) = _
  rw [any_str]
  exact if_pos (show (keyL.map D.str).all D.flat = true from by decide)
theorem in_lst (s : List Nat) : isInF (.str s) (.lst (keyL.map .str)) = some (keyL.contains s) := by
  show (if (D.pl (.str s) && D.pls (keyL.map D.str) && decide (D.depth (.str s) ≤ 64)) = true then some ((keyL.map D.str).any fun z => z.eqb (.str s)) else none) = _
  rw [any_str, pls_strs]
  exact if_pos rfl
theorem in_sign (c : Nat) (z : List Nat) : isInF (.str [c]) (.str z) = some (decide (c ∈ z)) := rfl
theorem is_tag_str {n S s} : Cn (n + 2) "is_tag" [.str s] S = .ok (.bl (isTagD (.str s))) S := by
  rw [call_of g_is_tag rfl]
  by_cases h : wordOk s 8 = true
  · simp [fd_is_tag, startE, rd, is_word_str, glo_k, cmpF, in_tup, isTagD, h, -List.map_cons, -List.contains_cons]
  · simp [fd_is_tag, startE, rd, is_word_str, isTagD, h]
theorem is_tag_ok {n S} {d : D} (h : okArg d) : Cn (n + 2) "is_tag" [d] S = .ok (.bl (isTagD d)) S := by
  cases d with
  | str s => exact is_tag_str
  | non => rfl
  | bl b => rfl
  | int i => rfl
  | lst xs => rfl
  | tup xs => rfl
  | dic xs => rfl
  | scr _ => exact h.elim
  | loc _ => exact h.elim
  | fn _ => exact h.elim
theorem ev_signs2 {C : Calls} {env : Env} {S : Store} (h : C "_law_cletters" [] S = .ok (.str letters) S) : evO C glos (.bin .add (.call "_law_cletters" [] []) (.str [48, 49, 50, 51, 52, 53, 54, 55, 56, 57])) env S = .ok (.val (.str signs)) env S := by
  have e : signs = letters ++ [48, 49, 50, 51, 52, 53, 54, 55, 56, 57] := rfl
  have : letters.length + [48, 49, 50, 51, 52, 53, 54, 55, 56, 57].length ≤ 16777216 := by decide
  simp [h, binF, e]
  rfl
theorem cis_tag_ok {n S s} : Cn (n + 2) "_law_cis_tag" [.str s] S = .ok (.bl (isTagD (.str s))) S := by
  rw [call_of g_cis_tag rfl]
  cases s with
  | nil => rfl
  | cons c t =>
    have hc := sign_comp (C := Cn (n + 1)) (env := [.dat (.str (c :: t)), .no]) (S := S) (i := 0) (j := 1) (s := c :: t) (e1 := .bin .add (.call "_law_cletters" [] []) (.str [48, 49, 50, 51, 52, 53, 54, 55, 56, 57])) rfl (by simp) rfl (fun env S => ev_signs2 c_letters)
    have h0 : (1 : Int) ≤ (t.length : Int) + 1 := by omega
    by_cases h1 : (t.length : Int) + 1 ≤ 8
    · by_cases h2 : c ∈ letters
      · by_cases h3 : keyL.contains (c :: t) = true
        · show endR (exSs (Cn (n + 1)) glos turnsW fd_law_cis_tag.body [.dat (.str (c :: t)), .no] S) = _
          simp only [fd_law_cis_tag]
          simp [rd, bfF, bf1, cmpF, wordOk, h0, h1, h2, in_sign, idxF, at0, c_letters, c_keys, in_lst, h3, isTagD, -List.map_cons, -List.contains_cons, -ev_bin, -List.contains_eq_mem, -List.elem_eq_contains]
        · have h3 : keyL.contains (c :: t) = false := by simpa using h3
          show endR (exSs (Cn (n + 1)) glos turnsW fd_law_cis_tag.body [.dat (.str (c :: t)), .no] S) = _
          simp only [fd_law_cis_tag]
          simp [rd, bfF, bf1, cmpF, wordOk, h0, h1, h2, in_sign, idxF, at0, c_letters, c_keys, in_lst, h3, isTagD, -List.map_cons, -List.contains_cons, -ev_bin, -List.contains_eq_mem, -List.elem_eq_contains]
          rw [hc]
          simp [-List.map_eq_nil_iff, eq_nil (pls_str _)]
          exact none_bad2 (c :: t)
      · simp [fd_law_cis_tag, startE, rd, bfF, bf1, cmpF, wordOk, h0, h1, h2, in_sign, idxF, at0, c_letters, isTagD, -ev_bin]
    · simp [fd_law_cis_tag, startE, rd, bfF, bf1, cmpF, wordOk, h0, h1, isTagD]
end Pf.K
namespace Pf.K
def St (cs : List Int) (a c m : Int) : Store := [.lst (cs.map .int), .lst [.loc 0, .int a, .int c, .int m]]
def Inv (k : Nat) (S : Store) : Prop := ∃ (cs : List Int) (a c m : Int), S = St cs a c m ∧ cs.length ≤ 63 ∧ 0 ≤ a ∧ 0 ≤ c ∧ c ≤ k ∧ 0 ≤ m ∧ m < 2147483647
theorem pls_int : ∀ s : List Int, D.pls (s.map .int) = true
  | [] => rfl
  | z :: s => by show (D.pl (.int z) && D.pls _) = true; rw [pls_int s]; rfl
theorem at1 {α : Type} {a b : α} {t : List α} : L2.atI (a :: b :: t) 1 = some b := L2.atI_nat (j := 1) rfl
theorem at2 {α : Type} {a b c : α} {t : List α} : L2.atI (a :: b :: c :: t) 2 = some c := L2.atI_nat (j := 2) rfl
theorem at3 {α : Type} {a b c d : α} {t : List α} : L2.atI (a :: b :: c :: d :: t) 3 = some d := L2.atI_nat (j := 3) rfl
theorem ix1 : L2.ixN 4 1 = some 1 := rfl
theorem ix2 : L2.ixN 4 2 = some 2 := rfl
theorem ix3 : L2.ixN 4 3 = some 3 := rfl
theorem seq0 {n : Nat} : PySem.seqIndex? 0 (n + 1) = some 0 := by
  unfold PySem.seqIndex?; simp
abbrev bEnv (many : Int) (e2 e3 : Sl) : Env := [.dat (.loc 1), .dat (.int many), e2, e3, .no]
abbrev wCond : Ex := .and (.cmp .eq (.idx (.var 0) (.int (1))) (.int (0))) (.cmp .ne (.idx (.var 0) (.int (0))) (.lst []))
abbrev wBody : List Stm := [.asg (.name 3) (.mut .popAt (.idx (.var 0) (.int (0))) [.int (0)]),
    .put (.var 0) (.int (3)) (.bin .mod (.bf .int [.bin .add (.bin .add (.bin .mul (.idx (.var 0) (.int (3))) (.int (69031))) (.var 3)) (.int (13))]) (.int (2147483647))),
    .put (.var 0) (.int (1)) (.ite (.cmp .ge (.var 3) (.bin .pow (.int (10)) (.int (18)))) (.var 3) (.int (0)))]
section
variable {C : Calls} {cs : List Int} {a c m many x : Int} {e2 e3 : Sl}
theorem eqI {i j : Int} : eqD (.int i) (.int j) = some (i == j) := rfl
theorem cond_run : (evO C glos wCond (bEnv many e2 e3) (St cs a c m)).bl = .ok (a == 0 && !cs.isEmpty) (bEnv many e2 e3) (St cs a c m) := by
  have h := ne_nil (pls_int cs)
  by_cases ha : a = 0
  · subst ha
    simp only [cmpF] at h
    simp [wCond, bEnv, St, rd, idxF, at0, at1, cmpF, eqI, -List.map_eq_nil_iff]
    rw [show eqD (D.lst (List.map D.int cs)) (D.lst []) = _ from eqD_nil (pls_int cs)]
    simp
  · have : (a == 0) = false := beq_false_of_ne ha
    simp [wCond, bEnv, St, rd, idxF, at1, cmpF, eqI, this]
theorem body_run : exSs C glos turnsW wBody (bEnv many e2 e3) (St (x :: cs) a c m) = .ok .nxt (bEnv many e2 (.dat (.int x))) (St cs (if 10 ^ 18 ≤ x then x else 0) c ((m * 69031 + x + 13) % 2147483647)) := by
  by_cases hx : (1000000000000000000 : Int) ≤ x
  · simp [wBody, bEnv, St, rd, idxF, at0, at1, at3, isLst, muF, mu1, seq0, binF, bfF, bf1, putF, ix1, ix3, cmpF, hx]
  · simp [wBody, bEnv, St, rd, idxF, at0, at1, at3, isLst, muF, mu1, seq0, binF, bfF, bf1, putF, ix1, ix3, cmpF, hx]
theorem loop_run {e2 : Sl} : ∀ (fuel : Nat) (cs : List Int) {a m : Int} {e3 : Sl}, cs.length < fuel → 0 ≤ a → 0 ≤ m → m < 2147483647 →
    ∃ cs' a' m' e3', loopW (fun env S => (evO C glos wCond env S).bl) (fun env S => exSs C glos turnsW wBody env S) fuel (bEnv many e2 e3) (St cs a c m) = .ok .nxt (bEnv many e2 e3') (St cs' a' c m') ∧ cs'.length ≤ cs.length ∧ 0 ≤ a' ∧ 0 ≤ m' ∧ m' < 2147483647
  | 0, cs, _, _, _, h, _, _, _ => absurd h (Nat.not_lt_zero _)
  | n + 1, cs, a, m, e3, h, ha, hm, hm2 => by
    show ∃ cs' a' m' e3', ((evO C glos wCond (bEnv many e2 e3) (St cs a c m)).bl.bind fun b env S => if b then (exSs C glos turnsW wBody env S).bind fun fl env S => match fl with
      | .nxt | .cnt => loopW (fun env S => (evO C glos wCond env S).bl) (fun env S => exSs C glos turnsW wBody env S) n env S
      | .brk => .ok .nxt env S
      | .ret d => .ok (.ret d) env S else .ok .nxt env S) = _ ∧ _
    rw [cond_run, R.bind_ok]
    by_cases hb : (a == 0 && !cs.isEmpty) = true
    · cases cs with
      | nil => simp at hb
      | cons x cs =>
        rw [if_pos hb, body_run, R.bind_ok]
        have h1 : cs.length < n := by simpa using h
        obtain ⟨cs', a', m', e3', q1, q2, q3, q4, q5⟩ := loop_run n cs (a := if 10 ^ 18 ≤ x then x else 0) (m := (m * 69031 + x + 13) % 2147483647) (e3 := .dat (.int x)) h1 (by split <;> omega) (by omega) (by omega)
        exact ⟨cs', a', m', e3', q1, by simp; omega, q3, q4, q5⟩
    · rw [if_neg hb]
      exact ⟨cs, a, m, e3, rfl, Nat.le_refl _, ha, hm, hm2⟩
end
theorem below_ok {n k : Nat} {S : Store} {many : Int} (h : Inv k S) (hk : k ≤ 1000000) (h0 : 0 < many) (h1 : many < 1073741824) : ∃ r S', Cn (n + 1) "_law_below" [.loc 1, .int many] S = .ok (.int r) S' ∧ 0 ≤ r ∧ r < many ∧ Inv (k + 1) S' := by
  obtain ⟨cs, a, c, m, rfl, hl, ha, hc, hc2, hm, hm2⟩ := h
  rw [call_of g_below rfl]
  obtain ⟨cs', a', m', e3', q1, q2, q3, q4, q5⟩ := loop_run (C := Cn n) (many := many) (c := c + 1) (e2 := .no) 70 cs (a := a) (m := m) (e3 := .no) (by omega) ha hm hm2
  have w0 : exS (Cn n) glos turnsW (.whl wCond wBody) (bEnv many .no .no) (St cs a (c + 1) m) = .ok .nxt (bEnv many .no e3') (St cs' a' (c + 1) m') := q1
  have s0 : exS (Cn n) glos turnsW (.put (.var 0) (.int (2)) (.bin .add (.idx (.var 0) (.int (2))) (.int (1)))) (bEnv many .no .no) (St cs a c m) = .ok .nxt (bEnv many .no .no) (St cs a (c + 1) m) := by
    simp [bEnv, St, rd, idxF, at2, binF, putF, ix2]
  show ∃ r S', endR (exSs (Cn n) glos turnsW fd_law_below.body (bEnv many .no .no) (St cs a c m)) = _ ∧ _
  simp only [fd_law_below, xss_cons, s0, R.bind_ok, after_nxt]
  rw [show exS (Cn n) glos turnsW (.whl _ _) (bEnv many .no .no) (St cs a (c + 1) m) = _ from w0]
  simp only [R.bind_ok, after_nxt, xss_cons]
  by_cases hp : 0 < a'
  · refine ⟨a' % many, St cs' (a' / many) (c + 1) m', ?_, Int.emod_nonneg _ (by omega), Int.emod_lt_of_pos _ h0, cs', a' / many, c + 1, m', rfl, by omega, Int.ediv_nonneg q3 (by omega), by omega, by omega, q4, q5⟩
    simp [bEnv, St, rd, idxF, at1, cmpF, hp, bfF, bf1, binF, h0, h1, putF, ix1]
  · have p5 : (m' + 9049 * (c + 1) + 130073).natAbs < 18446744073709551616 := by omega
    have hmx : 0 ≤ (m' + 9049 * (c + 1) + 130073) ^ 5 % 2147483629 ∧ (m' + 9049 * (c + 1) + 130073) ^ 5 % 2147483629 < 2147483629 := ⟨Int.emod_nonneg _ (by decide), Int.emod_lt_of_pos _ (by decide)⟩
    have p3 : ((m' + 9049 * (c + 1) + 130073) ^ 5 % 2147483629 * 44089 + 60077 * (c + 1) + 47).natAbs < 18446744073709551616 := by
      generalize (m' + 9049 * (c + 1) + 130073) ^ 5 % 2147483629 = z at hmx ⊢
      omega
    refine ⟨((m' + 9049 * (c + 1) + 130073) ^ 5 % 2147483629 * 44089 + 60077 * (c + 1) + 47) ^ 3 % 1000000007 % many, St cs' a' (c + 1) m', ?_, Int.emod_nonneg _ (by omega), Int.emod_lt_of_pos _ h0, cs', a', c + 1, m', rfl, by omega, q3, by omega, by omega, q4, q5⟩
    simp [bEnv, St, rd, idxF, at1, at2, at3, cmpF, hp, bfF, bf1, binF, h0, h1, p5, p3]
theorem pick_ok {n k : Nat} {S : Store} {xs : List D} (h : Inv k S) (hk : k ≤ 1000000) (h0 : xs ≠ []) (h1 : xs.length < 1000000) : ∃ x S', Cn (n + 2) "_law_pick" [.loc 1, .lst xs] S = .ok x S' ∧ x ∈ xs ∧ Inv (k + 1) S' := by
  have hl : 0 < xs.length := List.length_pos_iff.mpr h0
  obtain ⟨r, S', q1, q2, q3, q4⟩ := below_ok (n := n) (many := xs.length) h hk (by omega) (by omega)
  obtain ⟨i, rfl⟩ := Int.eq_ofNat_of_zero_le q2
  have hi : i < xs.length := by omega
  refine ⟨xs[i], S', ?_, List.getElem_mem hi, q4⟩
  rw [call_of g_pick rfl]
  have e : L2.atI xs (i : Int) = some xs[i] := L2.atI_nat (List.getElem?_eq_getElem hi)
  simp [fd_law_pick, startE, rd, bfF, bf1, q1, idxF, e]
end Pf.K
namespace Pf.K
def sS : Stm := fd_law.body.getD 0 .pass
def sK : Stm := fd_law.body.getD 1 .pass
def sT : Stm := fd_law.body.getD 2 .pass
def sR : Stm := fd_law.body.getD 3 .pass
theorem body_eq : fd_law.body = [sS, sK, sT, sR] := rfl
abbrev lEnv (ns : List Int) (e2 e3 e4 e5 e6 e7 e8 : Sl) : Env := [.dat (.scr ns), .dat (.loc 1), e2, e3, e4, e5, e6, e7, e8, .no, .no, .no]
theorem sR_eq : sR = .ret (some (.and (.cmp .is (.call "is_tag" [.str [97]] ["thing"]) (.bl true)) (.and (.cmp .is (.call "is_tag" [.str [122, 57, 57, 57, 57, 57, 57, 57]] []) (.bl true)) (.cmp .is (.call "is_tag" [.str [97, 98, 99, 100, 101, 102, 103, 104, 105]] []) (.bl false))))) := rfl
theorem ret_run {n : Nat} {e : Env} {S : Store} : exS (Cn (n + 2)) glos turnsW sR e S = .ok (.ret (.bl true)) e S := by
  have h1 : isTagD (.str [97]) = true := by decide
  have h2 : isTagD (.str [122, 57, 57, 57, 57, 57, 57, 57]) = true := by decide
  have h3 : isTagD (.str [97, 98, 99, 100, 101, 102, 103, 104, 105]) = false := by decide
  rw [sR_eq]
  simp [is_tag_str, h1, h2, h3, cmpF, isF]
theorem eqB {a b : Bool} : eqD (.bl a) (.bl b) = some (a == b) := rfl
theorem same_bl {n S a b} : Cn (n + 1) "_law_same" [.bl a, .bl b] S = .ok (.bl (a == b)) S := by
  rw [call_of g_same rfl]
  simp [fd_law_same, startE, rd, isAny, isTy, cmpF, isF, eqB]
theorem isLstT {xs : List D} : isAny (.lst xs) [.list, .tuple] = some true := rfl
theorem same6 {n S x0 x1 x2 x3 x4 x5 y0 y1 y2 y3 y4 y5} : Cn (n + 2) "_law_same" [.lst [.bl x0, .bl x1, .bl x2, .bl x3, .bl x4, .bl x5], .lst [.bl y0, .bl y1, .bl y2, .bl y3, .bl y4, .bl y5]] S = .ok (.bl ((x0 == y0) && ((x1 == y1) && ((x2 == y2) && ((x3 == y3) && ((x4 == y4) && (x5 == y5))))))) S := by
  rw [call_of g_same rfl]
  have hc : ∀ (env : Env) (S : Store) (e0 e1 : D), env = [.dat (.lst [.bl x0, .bl x1, .bl x2, .bl x3, .bl x4, .bl x5]), .dat (.lst [.bl y0, .bl y1, .bl y2, .bl y3, .bl y4, .bl y5]), .no, .no] → evO (Cn (n + 1)) glos (.comp (.call "_law_same" [.var 2, .var 3] []) (.tup [2, 3]) .zip [.var 0, .var 1] none [2, 3]) env S = .ok (.new (.lst [.bl (x0 == y0), .bl (x1 == y1), .bl (x2 == y2), .bl (x3 == y3), .bl (x4 == y4), .bl (x5 == y5)])) env S := by
    intro env S e0 e1 he
    subst he
    have h0 : evO (Cn (n + 1)) glos (.comp (.call "_law_same" [.var 2, .var 3] []) (.tup [2, 3]) .zip [.var 0, .var 1] none [2, 3]) [.dat (.lst [.bl x0, .bl x1, .bl x2, .bl x3, .bl x4, .bl x5]), .dat (.lst [.bl y0, .bl y1, .bl y2, .bl y3, .bl y4, .bl y5]), .no, .no] S = ((evDs (Cn (n + 1)) glos [.var 0, .var 1] [.dat (.lst [.bl x0, .bl x1, .bl x2, .bl x3, .bl x4, .bl x5]), .dat (.lst [.bl y0, .bl y1, .bl y2, .bl y3, .bl y4, .bl y5]), .no, .no] S).bind fun xs env S => match itF .zip xs with
      | none => .bad
      | some ds => if [2, 3].all (plainSl env) then (turns (compF (Cn (n + 1)) glos (.call "_law_same" [.var 2, .var 3] []) (.tup [2, 3]) none [2, 3]) ds env S).nox.bind fun ys env' S => .ok (.new (.lst ys)) (backE env env' [2, 3]) S else .bad) := rfl
    rw [h0]
    simp [rd, itF, it2, plainSl, turns, compF, bindTg, setNames, wipeE, backE, same_bl]
  simp [fd_law_same, startE, rd, isLstT, isAny, isTy, cmpF, isF, eqB, bfF, bf1, eqI]
  rw [hc _ _ .non .non rfl]
  simp [bfF, bf1, listOf?, blOf]
theorem tag_comp {n : Nat} {env : Env} {S : Store} {i j : Nat} {xs : List D} (hs : env[i]? = some (.dat (.lst xs))) (hj : j < env.length) (hp : plainSl env j = true) (hok : ∀ x ∈ xs, okArg x) :
    evO (Cn (n + 2)) glos (.comp (.call "is_tag" [.var j] []) (.name j) .val [.var i] none [j]) env S = .ok (.new (.lst (xs.map fun x => .bl (isTagD x)))) env S := by
  have hr : rd env i = some (.lst xs, env) := by unfold rd; rw [hs]
  rw [comp_pure (ds := xs) (d := .lst xs) (p := fun d => some (.bl (isTagD d))) ?_ ?_ hj hp ?_]
  · rw [← List.filterMap_eq_map]; rfl
  · simp [hr]
  · rfl
  · intro x hx
    have hr2 : rd (env.set j (.dat x)) j = some (x, env.set j (.dat x)) := by unfold rd; rw [List.getElem?_set_self hj]
    simp [hr2, is_tag_ok (hok x hx)]
theorem cis_comp {n : Nat} {env : Env} {S : Store} {i j : Nat} {xs : List (List Nat)} (hs : env[i]? = some (.dat (.lst (xs.map .str)))) (hj : j < env.length) (hp : plainSl env j = true) :
    evO (Cn (n + 2)) glos (.comp (.call "_law_cis_tag" [.var j] []) (.name j) .val [.var i] none [j]) env S = .ok (.new (.lst (xs.map fun x => .bl (isTagD (.str x))))) env S := by
  have hr : rd env i = some (.lst (xs.map .str), env) := by unfold rd; rw [hs]
  rw [comp_pure (ds := xs.map .str) (d := .lst (xs.map .str)) (p := fun d => some (.bl (isTagD d))) ?_ ?_ hj hp ?_]
  · rw [List.filterMap_eq_map', List.map_map]; rfl
  · simp [hr]
  · rfl
  · intro x hx
    obtain ⟨z, _, rfl⟩ := List.mem_map.mp hx
    have hr2 : rd (env.set j (.dat (.str z))) j = some (.str z, env.set j (.dat (.str z))) := by unfold rd; rw [List.getElem?_set_self hj]
    simp [hr2, cis_tag_ok]
end Pf.K
namespace Pf.K
theorem loopF_inv {f : D → Env → Store → R Fl} {I : Nat → Env → Store → Prop} {N : Nat} : ∀ (ds : List D) (i : Nat) (env : Env) (S : Store), i + ds.length ≤ N → I i env S → (∀ i x env S, i < N → I i env S → x ∈ ds → ∃ env' S', f x env S = .ok .nxt env' S' ∧ I (i + 1) env' S') → ∃ env' S', loopF f ds env S = .ok .nxt env' S' ∧ I (i + ds.length) env' S'
  | [], i, env, S, _, h, _ => ⟨env, S, rfl, h⟩
  | x :: xs, i, env, S, hN, h, hf => by
    rw [List.length_cons] at hN
    obtain ⟨env1, S1, e1, h1⟩ := hf i x env S (by omega) h List.mem_cons_self
    obtain ⟨env2, S2, e2, h2⟩ := loopF_inv xs (i + 1) env1 S1 (by omega) h1 fun i y env S hl hI hy => hf i y env S hl hI (List.mem_cons_of_mem _ hy)
    refine ⟨env2, S2, ?_, by rw [List.length_cons, show i + (xs.length + 1) = i + 1 + xs.length from by omega]; exact h2⟩
    show (f x env S).bind _ = _
    rw [e1]; exact e2
theorem cut_len (xs : List Nat) (lo hi : Option Int) : (cut xs lo hi).length ≤ xs.length := by
  unfold cut
  rw [List.length_take, List.length_drop]; omega
def kb1 : Stm := match sK with
  | .fr _ _ _ b => b.getD 0 .pass
  | _ => .pass
def kb2 : Stm := match sK with
  | .fr _ _ _ b => b.getD 1 .pass
  | _ => .pass
theorem sK_eq : sK = .fr (.name 2) .val [.call "_law_ckeys" [] []] [kb1, kb2] := rfl
theorem kb1_eq : kb1 = .asg (.name 4) (.lst [.bin .add (.var 2) (.str [115]), .bin .add (.slc (.var 2) (some (.int (1))) none) (.str [120]), .bin .add (.str [120]) (.slc (.var 2) none (some (.int (6)))), .bin .add (.slc (.var 2) none (some (.un .neg (.int (1))))) (.str [122]), .bin .add (.var 2) (.str [49])]) := rfl
theorem kb2_eq : kb2 = .ife (.not (.call "_law_same" [.bin .add (.lst [.call "is_tag" [.var 2] []]) (.comp (.call "is_tag" [.var 6] []) (.name 6) .val [.var 4] none [6]), .bin .add (.lst [.bl false]) (.comp (.call "_law_cis_tag" [.var 6] []) (.name 6) .val [.var 4] none [6])] [])) [.ret (some (.bl false))] [] := rfl
theorem bin_ll {a b : List D} (h : a.length + b.length ≤ 16777216) : binF .add (.lst a) (.lst b) = some (.new (.lst (a ++ b))) := if_pos h
theorem kb1_run {ns : List Int} {C : Calls} {s : List Nat} {e4 : Sl} {S : Store} (hs : s.length ≤ 10) : ∃ w1 w2 w3 w4 w5, exS C glos turnsW kb1 (lEnv ns (.dat (.str s)) .no e4 .no .no .no .no) S = .ok .nxt (lEnv ns (.dat (.str s)) .no (.dat (.lst ([w1, w2, w3, w4, w5].map .str))) .no .no .no .no) S := by
  have h1 : s.length + 1 ≤ 16777216 := by omega
  have h2 : (cut s (some 1) none).length + 1 ≤ 16777216 := by have := cut_len s (some 1) none; omega
  have h3 : 1 + (cut s none (some 6)).length ≤ 16777216 := by have := cut_len s none (some 6); omega
  have h4 : (cut s none (some (-1))).length + 1 ≤ 16777216 := by have := cut_len s none (some (-1)); omega
  have h3' : (cut s none (some 6)).length + 1 ≤ 16777216 := by omega
  refine ⟨s ++ [115], cut s (some 1) none ++ [120], [120] ++ cut s none (some 6), cut s none (some (-1)) ++ [122], s ++ [49], ?_⟩
  rw [kb1_eq]
  simp [lEnv, rd, binF, slcF, unF, intOf, h1, h2, h3, h4, h3']
theorem kb2_run {ns : List Int} {n : Nat} {s w1 w2 w3 w4 w5 : List Nat} {S : Store} (hk : isTagD (.str s) = false) : exS (Cn (n + 2)) glos turnsW kb2 (lEnv ns (.dat (.str s)) .no (.dat (.lst ([w1, w2, w3, w4, w5].map .str))) .no .no .no .no) S = .ok .nxt (lEnv ns (.dat (.str s)) .no (.dat (.lst ([w1, w2, w3, w4, w5].map .str))) .no .no .no .no) S := by
  have hc1 := tag_comp (n := n) (env := lEnv ns (.dat (.str s)) .no (.dat (.lst ([w1, w2, w3, w4, w5].map .str))) .no .no .no .no) (S := S) (i := 4) (j := 6) (xs := [w1, w2, w3, w4, w5].map .str) rfl (by simp [lEnv]) rfl (fun x hx => by
    obtain ⟨z, _, rfl⟩ := List.mem_map.mp hx
    exact trivial)
  have hc2 := cis_comp (n := n) (env := lEnv ns (.dat (.str s)) .no (.dat (.lst ([w1, w2, w3, w4, w5].map .str))) .no .no .no .no) (S := S) (i := 4) (j := 6) (xs := [w1, w2, w3, w4, w5]) rfl (by simp [lEnv]) rfl
  have hv : rd (lEnv ns (.dat (.str s)) .no (.dat (.lst ([w1, w2, w3, w4, w5].map .str))) .no .no .no .no) 2 = some (.str s, lEnv ns (.dat (.str s)) .no (.dat (.lst ([w1, w2, w3, w4, w5].map .str))) .no .no .no .no) := rfl
  generalize lEnv ns (.dat (.str s)) .no (.dat (.lst ([w1, w2, w3, w4, w5].map .str))) .no .no .no .no = env at *
  rw [kb2_eq]
  simp [hv, hc1, hc2, is_tag_str, hk, bin_ll, same6]
theorem for_eq {C : Calls} {w : Nat} {t : Tg} {k : Itk} {it : Ex} {b : List Stm} {env : Env} {S : Store} {d : D} {ds : List D} (h1 : evDs C glos [it] env S = .ok [d] env S) (h2 : itF k [d] = some ds) : exS C glos w (.fr t k [it] b) env S = loopF (fun d env S => match bindTg t d env with | none => .bad | some env => exSs C glos w b env S) ds env S := by
  show (evDs C glos [it] env S).bind _ = _
  rw [h1, R.bind_ok, h2] <;> rfl
theorem key_run {ns : List Int} {n : Nat} {S : Store} : ∃ e2 e4, exS (Cn (n + 2)) glos turnsW sK (lEnv ns .no .no .no .no .no .no .no) S = .ok .nxt (lEnv ns e2 .no e4 .no .no .no .no) S := by
  rw [sK_eq]
  have h := loopF_inv (f := fun d env S => match bindTg (.name 2) d env with | none => .bad | some env => exSs (Cn (n + 2)) glos turnsW [kb1, kb2] env S) (N := 14) (I := fun _ env S' => S' = S ∧ ∃ e2 e4, env = lEnv ns e2 .no e4 .no .no .no .no) (keyL.map .str) 0 (lEnv ns .no .no .no .no .no .no .no) S (by decide) ⟨rfl, _, _, rfl⟩ (by
    rintro i x env S1 - ⟨rfl, e2, e4, rfl⟩ hx
    obtain ⟨s, hs, rfl⟩ := List.mem_map.mp hx
    have hl : s.length ≤ 10 := (by decide : ∀ z ∈ keyL, z.length ≤ 10) s hs
    have hk : isTagD (.str s) = false := (by decide : ∀ z ∈ keyL, isTagD (.str z) = false) s hs
    obtain ⟨w1, w2, w3, w4, w5, q⟩ := kb1_run (ns := ns) (C := Cn (n + 2)) (e4 := e4) (S := S1) hl
    refine ⟨_, S1, ?_, rfl, .dat (.str s), .dat (.lst ([w1, w2, w3, w4, w5].map .str)), rfl⟩
    show exSs (Cn (n + 2)) glos turnsW [kb1, kb2] (lEnv ns (.dat (.str s)) .no e4 .no .no .no .no) S1 = _
    rw [xss_cons, q, R.bind_ok, after_nxt, xss_cons, kb2_run hk]
    rfl)
  obtain ⟨env', S', q, rfl, e2, e4, rfl⟩ := h
  refine ⟨e2, e4, ?_⟩
  rw [for_eq (ds := keyL.map .str) (d := .lst (keyL.map .str)) (by simp [c_keys]) rfl]
  exact q
end Pf.K
namespace Pf.K
def tb (i : Nat) : Stm := match sT with
  | .fr _ _ _ b => b.getD i .pass
  | _ => .pass
theorem sT_eq : sT = .fr (.name 3) .range1 [.int (20)] [tb 0, tb 1, tb 2, tb 3, tb 4, tb 5, tb 6, tb 7, tb 8] := rfl
theorem tb0_eq : tb 0 = .asg (.name 5) (.bin .add (.int (1)) (.call "_law_below" [.var 1, .int (10)] [])) := rfl
theorem tb1_eq : tb 1 = .asg (.name 6) (.call "_law_pick" [.var 1, .bf .list [.call "_law_cletters" [] []]] []) := rfl
abbrev cP : Ex := .comp (.call "_law_pick" [.var 1, .bf .list [.bin .add (.call "_law_cletters" [] []) (.str [48, 49, 50, 51, 52, 53, 54, 55, 56, 57])]] []) (.name 11) .range1 [.bin .sub (.var 5) (.int (1))] none [11]
theorem tb2_eq : tb 2 = .asg (.name 6) (.bin .add (.var 6) (.mth .join (.str []) [cP])) := rfl
theorem tb3_eq : tb 3 = .ife (.not (.call "_law_same" [.call "is_tag" [.var 6] [], .call "_law_cis_tag" [.var 6] []] [])) [.ret (some (.bl false))] [] := rfl
theorem tb4_eq : tb 4 = .asg (.name 7) (.call "_law_below" [.var 1, .bf .len [.var 6]] []) := rfl
def wrongL : List D := [.str [65], .str [90], .str [32], .str [95], .str [45], .str [44], .str [46], .str [10], .str [34], .str [38]]
abbrev cW : Ex := .comp (.bin .add (.bin .add (.slc (.var 6) none (some (.var 7))) (.var 9)) (.slc (.var 6) (some (.bin .add (.var 7) (.int (1)))) none)) (.name 9) .val [.call "_law_pick" [.var 1, .lst [.str [65], .str [90], .str [32], .str [95], .str [45], .str [44], .str [46], .str [10], .str [34], .str [38]]] []] none [9]
theorem tb5_eq : tb 5 = .asg (.name 8) cW := rfl
theorem tb6_eq : tb 6 = .asg (.name 8) (.bin .add (.var 8) (.lst [.bin .add (.call "_law_pick" [.var 1, .bf .list [.str [48, 49, 50, 51, 52, 53, 54, 55, 56, 57]]] []) (.slc (.var 6) (some (.int (1))) none), .bin .add (.var 6) (.str [10]), .bin .add (.str [32]) (.var 6), .str [], .slc (.bin .add (.var 6) (.str [97, 98, 99, 100, 101, 102, 103, 104, 105])) none (some (.int (9)))])) := rfl
theorem tb7_eq : tb 7 = .asg (.name 8) (.bin .add (.var 8) (.lst [.lst [.var 6], .tup [.var 6], .dic [.var 6, .int (1)], .non, .int (7), .bl true, .bf .len [.var 6]])) := rfl
abbrev cT : Ex := .comp (.var 10) (.name 10) .val [.var 8] (some (.cmp .isnot (.call "is_tag" [.var 10] []) (.bl false))) [10]
theorem tb8_eq : tb 8 = .ife (.cmp .ne cT (.lst [])) [.ret (some (.bl false))] [] := rfl
section
variable {ns : List Int} {n k : Nat} {S : Store} {e2 e3 e4 e5 e6 e7 e8 : Sl}
theorem bin_signs : binF .add (.str letters) (.str [48, 49, 50, 51, 52, 53, 54, 55, 56, 57]) = some (.val (.str signs)) := rfl
theorem t0 (h : Inv k S) (hk : k ≤ 1000000) : ∃ (r : Nat) (S' : Store), exS (Cn (n + 2)) glos turnsW (tb 0) (lEnv ns e2 e3 e4 e5 e6 e7 e8) S = .ok .nxt (lEnv ns e2 e3 e4 (.dat (.int ((r : Int) + 1))) e6 e7 e8) S' ∧ r < 10 ∧ Inv (k + 1) S' := by
  obtain ⟨r, S', q1, q2, q3, q4⟩ := below_ok (n := n + 1) (many := 10) h hk (by decide) (by decide)
  obtain ⟨i, rfl⟩ := Int.eq_ofNat_of_zero_le q2
  refine ⟨i, S', ?_, by omega, q4⟩
  rw [tb0_eq]
  simp [lEnv, rd, q1, binF, Int.add_comm]
theorem t1 (h : Inv k S) (hk : k ≤ 1000000) : ∃ (c : Nat) (S' : Store), exS (Cn (n + 2)) glos turnsW (tb 1) (lEnv ns e2 e3 e4 e5 e6 e7 e8) S = .ok .nxt (lEnv ns e2 e3 e4 e5 (.dat (.str [c])) e7 e8) S' ∧ c ∈ letters ∧ Inv (k + 1) S' := by
  obtain ⟨x, S', q1, q2, q3⟩ := pick_ok (n := n) (xs := letters.map fun c => .str [c]) h hk (by decide) (by decide)
  obtain ⟨c, hc, rfl⟩ := List.mem_map.mp q2
  refine ⟨c, S', ?_, hc, q3⟩
  rw [tb1_eq]
  simp [lEnv, rd, c_letters, bfF, bf1, q1]
theorem strs_of : ∀ {ys : List D}, (∀ y ∈ ys, ∃ c ∈ signs, y = .str [c]) → ∃ w : List Nat, listOf? strOf ys = some (w.map fun c => [c]) ∧ w.length = ys.length ∧ ∀ c ∈ w, c ∈ signs
  | [], _ => ⟨[], rfl, rfl, fun _ h => (by cases h)⟩
  | y :: ys, h => by
    obtain ⟨c, hc, rfl⟩ := h y List.mem_cons_self
    obtain ⟨w, q1, q2, q3⟩ := strs_of fun z hz => h z (List.mem_cons_of_mem _ hz)
    refine ⟨c :: w, ?_, by rw [List.length_cons, List.length_cons, q2], fun z hz => ?_⟩
    · simp [listOf?, strOf, q1]
    · rcases List.mem_cons.mp hz with rfl | hz
      · exact hc
      · exact q3 z hz
theorem join_one : ∀ w : List Nat, TL.joinL [] (w.map fun c => [c]) = w
  | [] => rfl
  | [c] => rfl
  | c :: d :: w => by
    show [c] ++ ([] ++ TL.joinL [] ((d :: w).map fun c => [c])) = _
    rw [join_one (d :: w)]; rfl
theorem sum_one : ∀ w : List Nat, ((w.map fun c => [c]).map List.length).sum = w.length
  | [] => rfl
  | c :: w => by
    have := sum_one w
    simp at this ⊢
    omega
theorem cP_run {r c : Nat} (h : Inv k S) (hk : k + 100 ≤ 1000000) (hr : r < 10) : ∃ (w : List Nat) (S' : Store) (ys : List D), evO (Cn (n + 2)) glos cP (lEnv ns e2 e3 e4 (.dat (.int ((r : Int) + 1))) e6 e7 e8) S = .ok (.new (.lst ys)) (lEnv ns e2 e3 e4 (.dat (.int ((r : Int) + 1))) e6 e7 e8) S' ∧ listOf? strOf ys = some (w.map fun c => [c]) ∧ w.length = r ∧ (∀ z ∈ w, z ∈ signs) ∧ Inv (k + r) S' := by
  have hit : itF .range1 [D.int r] = some ((List.range r).map fun (k : Nat) => .int k) := by
    show (if -(2 ^ 62) ≤ (r : Int) ∧ (r : Int) ≤ 16777216 then some ((List.range (Int.toNat r)).map fun (k : Nat) => D.int k) else none) = _
    rw [if_pos (by omega)]; rfl
  obtain ⟨ys, S', q1, q2, q3, q4⟩ := comp_state (C := Cn (n + 2)) (g := glos) (elt := .call "_law_pick" [.var 1, .bf .list [.bin .add (.call "_law_cletters" [] []) (.str [48, 49, 50, 51, 52, 53, 54, 55, 56, 57])]] []) (it := .bin .sub (.var 5) (.int (1))) (kk := .range1) (i := 11) (env := lEnv ns e2 e3 e4 (.dat (.int ((r : Int) + 1))) e6 e7 e8) (S0 := S) (S := S) (d := .int r) (P := fun y => ∃ c ∈ signs, y = .str [c]) (J := Inv) (N := 1000000) (k := k) (by simp [lEnv, rd, binF]) hit (by simp [lEnv]) rfl (by simp; omega) h (fun x hx k S hk j => by
    obtain ⟨y, S', z1, z2, z3⟩ := pick_ok (n := n) (xs := signs.map fun c => .str [c]) j (by omega) (by decide) (by decide)
    obtain ⟨c, hc, rfl⟩ := List.mem_map.mp z2
    refine ⟨.str [c], S', ?_, ⟨c, hc, rfl⟩, z3⟩
    simp [lEnv, rd, bfF, bf1, c_letters, bin_signs, z1])
  obtain ⟨w, p1, p2, p3⟩ := strs_of q3
  refine ⟨w, S', ys, q1, p1, ?_, p3, ?_⟩
  · rw [p2, q2]; simp
  · have : ((List.range r).map fun (k : Nat) => D.int k).length = r := by simp
    rw [this] at q4; exact q4
theorem t2 {r c : Nat} (h : Inv k S) (hk : k + 100 ≤ 1000000) (hr : r < 10) : ∃ (w : List Nat) (S' : Store), exS (Cn (n + 2)) glos turnsW (tb 2) (lEnv ns e2 e3 e4 (.dat (.int ((r : Int) + 1))) (.dat (.str [c])) e7 e8) S = .ok .nxt (lEnv ns e2 e3 e4 (.dat (.int ((r : Int) + 1))) (.dat (.str (c :: w))) e7 e8) S' ∧ w.length < 10 ∧ (∀ z ∈ w, z ∈ signs) ∧ Inv (k + r) S' := by
  obtain ⟨w, S', ys, q1, q2, q3, q4, q5⟩ := cP_run (ns := ns) (n := n) (e2 := e2) (e3 := e3) (e4 := e4) (e6 := .dat (.str [c])) (e7 := e7) (e8 := e8) (c := c) h hk hr
  refine ⟨w, S', ?_, by omega, q4, q5⟩
  rw [tb2_eq]
  have hj : mt1 .join (.str []) (.lst ys) = some (.val (.str w)) := by
    show ((listOf? strOf ys).bind fun ss => if (ss.map List.length).sum + ss.length * 0 ≤ 16777216 then some (Out.val (.str (TL.joinL [] ss))) else none) = _
    rw [q2]
    show (if ((w.map fun c => [c]).map List.length).sum + (w.map fun c => [c]).length * 0 ≤ 16777216 then some (Out.val (.str (TL.joinL [] (w.map fun c => [c])))) else none) = _
    rw [sum_one, join_one, if_pos (by omega)]
  have hv : ∀ S, evO (Cn (n + 2)) glos (.var 6) (lEnv ns e2 e3 e4 (.dat (.int ((r : Int) + 1))) (.dat (.str [c])) e7 e8) S = .ok (.val (.str [c])) (lEnv ns e2 e3 e4 (.dat (.int ((r : Int) + 1))) (.dat (.str [c])) e7 e8) S := fun S => by simp [lEnv, rd]
  have hb : binF .add (.str [c]) (.str w) = some (.val (.str (c :: w))) := if_pos (show 1 + w.length ≤ 16777216 by omega)
  simp only [xs_asg, ev_bin, ev_mth, hv, ev_str, eas_cons, eas_nil, q1, R.bind_ok, ar_val, ar_lst, vw_str, mtRecv, if_true, vws_cons, vws_nil, vw_lst, Option.bind_some, Option.map_some, mtF, hj, ofO_some, hb, fz_val, bind_name, kBin_eq, kBin2_eq, kMth_eq, kMth2_eq, kAs_eq, kAs2_eq, sAsg_name]
  rfl
theorem t3 {w : List Nat} : exS (Cn (n + 2)) glos turnsW (tb 3) (lEnv ns e2 e3 e4 e5 (.dat (.str w)) e7 e8) S = .ok .nxt (lEnv ns e2 e3 e4 e5 (.dat (.str w)) e7 e8) S := by
  rw [tb3_eq]
  simp [lEnv, rd, is_tag_str, cis_tag_ok, same_bl]
theorem t4 {w : List Nat} (h : Inv k S) (hk : k ≤ 1000000) (hw : w ≠ []) (hl : w.length ≤ 10) : ∃ (a : Nat) (S' : Store), exS (Cn (n + 2)) glos turnsW (tb 4) (lEnv ns e2 e3 e4 e5 (.dat (.str w)) e7 e8) S = .ok .nxt (lEnv ns e2 e3 e4 e5 (.dat (.str w)) (.dat (.int a)) e8) S' ∧ a < w.length ∧ Inv (k + 1) S' := by
  have hp := List.length_pos_iff.mpr hw
  obtain ⟨r, S', q1, q2, q3, q4⟩ := below_ok (n := n + 1) (many := w.length) h hk (by omega) (by omega)
  obtain ⟨i, rfl⟩ := Int.eq_ofNat_of_zero_le q2
  refine ⟨i, S', ?_, by omega, q4⟩
  rw [tb4_eq]
  simp [lEnv, rd, bfF, bf1, q1]

/-! the wrong ones -/
def Wr (xs : List D) : Prop := ∀ x ∈ xs, okArg x ∧ isTagD x = false
theorem not_sign {s : List Nat} {c : Nat} (h : c ∈ s) (hc : c ∉ signs) : isTagD (.str s) = false := by
  show (wordOk s 8 && !(keyL.contains s)) = false
  rw [Bool.and_eq_false_iff]; left
  cases s with
  | nil => rfl
  | cons a t =>
    show (decide _ && decide _ && (a :: t).all fun z => decide (z ∈ signs)) = false
    rw [Bool.and_eq_false_iff]; right
    rw [List.all_eq_false]
    exact ⟨c, h, by simpa using hc⟩
theorem not_first {c : Nat} {t : List Nat} (hc : c ∉ letters) : isTagD (.str (c :: t)) = false := by
  show (wordOk (c :: t) 8 && _) = false
  rw [Bool.and_eq_false_iff]; left
  show (decide _ && decide (c ∈ letters) && _) = false
  rw [decide_eq_false hc]; simp
theorem too_long {s : List Nat} (h : 8 < s.length) : isTagD (.str s) = false := by
  show (wordOk s 8 && _) = false
  rw [Bool.and_eq_false_iff]; left
  cases s with
  | nil => rfl
  | cons a t =>
    show (decide ((t.length : Int) + 1 ≤ 8) && decide _ && _) = false
    rw [decide_eq_false (by simp at h; omega)]; rfl
theorem bin_ss {a b : List Nat} (h : a.length + b.length ≤ 16777216) : binF .add (.str a) (.str b) = some (.val (.str (a ++ b))) := if_pos h
theorem t5 {w : List Nat} {a : Nat} (h : Inv k S) (hk : k ≤ 1000000) (hl : w.length ≤ 10) : ∃ (xs : List D) (S' : Store), exS (Cn (n + 2)) glos turnsW (tb 5) (lEnv ns e2 e3 e4 e5 (.dat (.str w)) (.dat (.int a)) e8) S = .ok .nxt (lEnv ns e2 e3 e4 e5 (.dat (.str w)) (.dat (.int a)) (.dat (.lst xs))) S' ∧ xs.length = 1 ∧ Wr xs ∧ Inv (k + 1) S' := by
  obtain ⟨x, S', q1, q2, q3⟩ := pick_ok (n := n) (xs := wrongL) h hk (by decide) (by decide)
  have hx : ∃ c : Nat, c ∉ signs ∧ x = .str [c] := by
    simp only [wrongL, List.mem_cons, List.not_mem_nil, or_false] at q2
    rcases q2 with rfl | rfl | rfl | rfl | rfl | rfl | rfl | rfl | rfl | rfl <;> exact ⟨_, by decide, rfl⟩
  obtain ⟨c, hc, rfl⟩ := hx
  have l1 : (cut w none (some (a : Int))).length + 1 ≤ 16777216 := by have := cut_len w none (some (a : Int)); omega
  have l2 : (cut w none (some (a : Int)) ++ [c]).length + (cut w (some ((a : Int) + 1)) none).length ≤ 16777216 := by
    have := cut_len w none (some (a : Int)); have := cut_len w (some ((a : Int) + 1)) none; simp; omega
  have hcomp : evO (Cn (n + 2)) glos cW (lEnv ns e2 e3 e4 e5 (.dat (.str w)) (.dat (.int a)) e8) S = .ok (.new (.lst [.str (cut w none (some (a : Int)) ++ [c] ++ cut w (some ((a : Int) + 1)) none)])) (lEnv ns e2 e3 e4 e5 (.dat (.str w)) (.dat (.int a)) e8) S' := by
    rw [comp_pure (ds := [.str [c]]) (d := .str [c]) (S := S') (p := fun _ => some (.str (cut w none (some (a : Int)) ++ [c] ++ cut w (some ((a : Int) + 1)) none))) ?_ rfl (by simp [lEnv]) rfl ?_]
    · rfl
    · rw [wrongL] at q1
      simp [lEnv, rd, q1]
    · intro y hy
      have : y = .str [c] := by simpa using hy
      subst this
      simp [lEnv, rd, slcF, intOf, bin_ss (show (cut w none (some (a : Int))).length + [c].length ≤ 16777216 from l1), bin_ss l2, eqI, show binF .add (.int (a : Int)) (.int 1) = some (.val (.int ((a : Int) + 1))) from rfl]
  refine ⟨[.str (cut w none (some (a : Int)) ++ [c] ++ cut w (some ((a : Int) + 1)) none)], S', ?_, rfl, ?_, q3⟩
  · rw [tb5_eq]
    simp only [xs_asg, hcomp, fz_lst, R.bind_ok, bind_name, ofO_some]
    rfl
  · intro y hy
    have : y = .str (cut w none (some (a : Int)) ++ [c] ++ cut w (some ((a : Int) + 1)) none) := by simpa using hy
    subst this
    exact ⟨trivial, not_sign (c := c) (by simp) hc⟩
end
end Pf.K
namespace Pf.K
section
variable {ns : List Int} {n k : Nat} {S : Store} {e2 e3 e4 e5 e6 e7 e8 : Sl}
theorem fig_not : ∀ c ∈ figures, c ∉ letters := by decide
theorem cut9 {s : List Nat} (h : 9 ≤ s.length) : cut s none (some 9) = s.take 9 := by
  have e : HT.sIx s.length s.length (some ((9 : Nat) : Int)) = min 9 s.length := HT.sIx_nat s.length s.length 9
  have e0 : HT.sIx s.length 0 none = 0 := HT.sIx_none ..
  show (s.drop (HT.sIx s.length 0 none)).take (HT.sIx s.length s.length (some ((9 : Nat) : Int)) - HT.sIx s.length 0 none) = _
  rw [e, e0, show min 9 s.length = 9 by omega]; rfl
theorem t6 {w : List Nat} {xs : List D} (h : Inv k S) (hk : k ≤ 1000000) (hw : w ≠ []) (hl : w.length ≤ 10) (hx : Wr xs) (hx1 : xs.length = 1) : ∃ (ys : List D) (S' : Store), exS (Cn (n + 2)) glos turnsW (tb 6) (lEnv ns e2 e3 e4 e5 (.dat (.str w)) e7 (.dat (.lst xs))) S = .ok .nxt (lEnv ns e2 e3 e4 e5 (.dat (.str w)) e7 (.dat (.lst ys))) S' ∧ ys.length = 6 ∧ Wr ys ∧ Inv (k + 1) S' := by
  obtain ⟨x, S', q1, q2, q3⟩ := pick_ok (n := n) (xs := figures.map fun c => .str [c]) h hk (by decide) (by decide)
  obtain ⟨c, hc, rfl⟩ := List.mem_map.mp q2
  have hp := List.length_pos_iff.mpr hw
  have l1 : [c].length + (cut w (some (1 : Int)) none).length ≤ 16777216 := by have := cut_len w (some (1 : Int)) none; simp; omega
  have l2 : w.length + [10].length ≤ 16777216 := by simp; omega
  have l3 : [32].length + w.length ≤ 16777216 := by simp; omega
  have l4 : w.length + [97, 98, 99, 100, 101, 102, 103, 104, 105].length ≤ 16777216 := by simp; omega
  have lc : (cut (w ++ [97, 98, 99, 100, 101, 102, 103, 104, 105]) none (some 9)) = (w ++ [97, 98, 99, 100, 101, 102, 103, 104, 105]).take 9 := cut9 (by simp)
  have hb5 : ∀ a b c d e : D, binF .add (.lst xs) (.lst [a, b, c, d, e]) = some (.new (.lst (xs ++ [a, b, c, d, e]))) := fun a b c d e => bin_ll (by simp [hx1])
  refine ⟨xs ++ [.str ([c] ++ cut w (some 1) none), .str (w ++ [10]), .str ([32] ++ w), .str [], .str ((w ++ [97, 98, 99, 100, 101, 102, 103, 104, 105]).take 9)], S', ?_, by simp [hx1], ?_, q3⟩
  · rw [tb6_eq]
    have q1 : Cn (n + 2) "_law_pick" [.loc 1, .lst ([48, 49, 50, 51, 52, 53, 54, 55, 56, 57].map fun c => .str [c])] S = .ok (.str [c]) S' := q1
    simp only [List.map_cons, List.map_nil] at q1
    simp [lEnv, rd, bfF, bf1, q1, slcF, intOf, bin_ss l1, bin_ss l2, bin_ss l3, bin_ss l4, lc, hb5]
  · intro y hy
    rcases List.mem_append.mp hy with hy | hy
    · exact hx y hy
    · simp only [List.mem_cons, List.not_mem_nil, or_false] at hy
      rcases hy with rfl | rfl | rfl | rfl | rfl
      · exact ⟨trivial, not_first (fig_not c hc)⟩
      · exact ⟨trivial, not_sign (c := 10) (by simp) (by decide)⟩
      · exact ⟨trivial, not_first (by decide)⟩
      · exact ⟨trivial, rfl⟩
      · exact ⟨trivial, too_long (by simp)⟩
theorem t7 {w : List Nat} {xs : List D} (hl : w.length ≤ 10) (hx : Wr xs) (hx1 : xs.length = 6) : ∃ (ys : List D), exS (Cn (n + 2)) glos turnsW (tb 7) (lEnv ns e2 e3 e4 e5 (.dat (.str w)) e7 (.dat (.lst xs))) S = .ok .nxt (lEnv ns e2 e3 e4 e5 (.dat (.str w)) e7 (.dat (.lst ys))) S ∧ Wr ys := by
  refine ⟨xs ++ [.lst [.str w], .tup [.str w], .dic [(.str w, .int 1)], .non, .int 7, .bl true, .int w.length], ?_, ?_⟩
  · rw [tb7_eq]
    have hb7 : ∀ a b c d e f g : D, binF .add (.lst xs) (.lst [a, b, c, d, e, f, g]) = some (.new (.lst (xs ++ [a, b, c, d, e, f, g]))) := fun a b c d e f g => bin_ll (by simp [hx1])
    simp [lEnv, rd, bfF, bf1, pairD, keysOk, keyD, hb7]
  · intro y hy
    rcases List.mem_append.mp hy with hy | hy
    · exact hx y hy
    · simp only [List.mem_cons, List.not_mem_nil, or_false] at hy
      rcases hy with rfl | rfl | rfl | rfl | rfl | rfl | rfl <;> exact ⟨trivial, rfl⟩
theorem t8 {xs : List D} (hx : Wr xs) : exS (Cn (n + 2)) glos turnsW (tb 8) (lEnv ns e2 e3 e4 e5 e6 e7 (.dat (.lst xs))) S = .ok .nxt (lEnv ns e2 e3 e4 e5 e6 e7 (.dat (.lst xs))) S := by
  have hc : evO (Cn (n + 2)) glos cT (lEnv ns e2 e3 e4 e5 e6 e7 (.dat (.lst xs))) S = .ok (.new (.lst [])) (lEnv ns e2 e3 e4 e5 e6 e7 (.dat (.lst xs))) S := by
    rw [comp_pure (ds := xs) (d := .lst xs) (S := S) (p := fun _ => none) ?_ rfl (by simp [lEnv]) rfl ?_]
    · congr 3
      rw [List.filterMap_eq_nil_iff]; exact fun _ _ => rfl
    · simp [lEnv, rd]
    · intro y hy
      obtain ⟨h1, h2⟩ := hx y hy
      simp [lEnv, rd, is_tag_ok h1, h2, cmpF, isF]
  rw [tb8_eq]
  have hn : cmpF .ne (.lst []) (.lst []) = some false := rfl
  simp only [xs_ife, ev_cmp, hc, ev_lst, eds_nil, R.bind_ok, ar_lst, vw_lst, Option.bind_some, hn, Option.map_some, ofO_some, bl_bl, kCmp_eq, kCmp2_eq, kLst_eq, sIfe_eq]
  rfl
theorem turn_run (h : Inv k S) (hk : k + 200 ≤ 1000000) : ∃ (e4' e5' e6' e7' e8' : Sl) (S' : Store), exSs (Cn (n + 2)) glos turnsW [tb 0, tb 1, tb 2, tb 3, tb 4, tb 5, tb 6, tb 7, tb 8] (lEnv ns e2 e3 e4 e5 e6 e7 e8) S = .ok .nxt (lEnv ns e2 e3 e4 e5' e6' e7' e8') S' ∧ Inv (k + 20) S' := by
  obtain ⟨r, S1, q1, hr, i1⟩ := t0 (ns := ns) (n := n) (e2 := e2) (e3 := e3) (e4 := e4) (e5 := e5) (e6 := e6) (e7 := e7) (e8 := e8) h (by omega)
  obtain ⟨c, S2, q2, hc, i2⟩ := t1 (ns := ns) (n := n) (e2 := e2) (e3 := e3) (e4 := e4) (e5 := .dat (.int ((r : Int) + 1))) (e6 := e6) (e7 := e7) (e8 := e8) i1 (by omega)
  obtain ⟨w, S3, q3, hl, hw, i3⟩ := t2 (ns := ns) (n := n) (e2 := e2) (e3 := e3) (e4 := e4) (e7 := e7) (e8 := e8) (c := c) i2 (by omega) hr
  have q4 := t3 (ns := ns) (n := n) (e2 := e2) (e3 := e3) (e4 := e4) (e5 := .dat (.int ((r : Int) + 1))) (e7 := e7) (e8 := e8) (w := c :: w) (S := S3)
  obtain ⟨a, S5, q5, ha, i5⟩ := t4 (ns := ns) (n := n) (e2 := e2) (e3 := e3) (e4 := e4) (e5 := .dat (.int ((r : Int) + 1))) (e7 := e7) (e8 := e8) (w := c :: w) i3 (by omega) (by simp) (by simp; omega)
  obtain ⟨xs, S6, q6, hx, wx, i6⟩ := t5 (ns := ns) (n := n) (e2 := e2) (e3 := e3) (e4 := e4) (e5 := .dat (.int ((r : Int) + 1))) (e8 := e8) (w := c :: w) (a := a) i5 (by omega) (by simp; omega)
  obtain ⟨ys, S7, q7, hy, wy, i7⟩ := t6 (ns := ns) (n := n) (e2 := e2) (e3 := e3) (e4 := e4) (e5 := .dat (.int ((r : Int) + 1))) (e7 := .dat (.int a)) (w := c :: w) i6 (by omega) (by simp) (by simp; omega) wx hx
  obtain ⟨zs, q8, wz⟩ := t7 (ns := ns) (n := n) (e2 := e2) (e3 := e3) (e4 := e4) (e5 := .dat (.int ((r : Int) + 1))) (e7 := .dat (.int a)) (w := c :: w) (S := S7) (by simp; omega) wy hy
  have q9 := t8 (ns := ns) (n := n) (e2 := e2) (e3 := e3) (e4 := e4) (e5 := .dat (.int ((r : Int) + 1))) (e6 := .dat (.str (c :: w))) (e7 := .dat (.int a)) (S := S7) wz
  refine ⟨e4, .dat (.int ((r : Int) + 1)), .dat (.str (c :: w)), .dat (.int a), .dat (.lst zs), S7, ?_, ?_⟩
  rotate_left
  · obtain ⟨cs, a', c', m', e, p1, p2, p3, p4, p5, p6⟩ := i7
    exact ⟨cs, a', c', m', e, p1, p2, p3, by omega, p5, p6⟩
  · simp only [xss_cons, q1, q2, q3, q4, q5, q6, q7, q8, q9, R.bind_ok, after_nxt, xss_nil]
end
theorem turns_run {ns : List Int} {n : Nat} {S : Store} {e2 e4 : Sl} (h : Inv 0 S) : ∃ (e3' e4' e5' e6' e7' e8' : Sl) (S' : Store), exS (Cn (n + 2)) glos turnsW sT (lEnv ns e2 .no e4 .no .no .no .no) S = .ok .nxt (lEnv ns e2 e3' e4' e5' e6' e7' e8') S' := by
  have hl := loopF_inv (f := fun d env S => match bindTg (.name 3) d env with | none => .bad | some env => exSs (Cn (n + 2)) glos turnsW [tb 0, tb 1, tb 2, tb 3, tb 4, tb 5, tb 6, tb 7, tb 8] env S) (N := 20) (I := fun i env S => Inv (20 * i) S ∧ ∃ e3 e4 e5 e6 e7 e8, env = lEnv ns e2 e3 e4 e5 e6 e7 e8) ((List.range 20).map fun (k : Nat) => .int k) 0 (lEnv ns e2 .no e4 .no .no .no .no) S (by simp) ⟨h, _, _, _, _, _, _, rfl⟩ (by
    rintro i x env S1 hi ⟨h1, e3, e4, e5, e6, e7, e8, rfl⟩ hx
    obtain ⟨e4', e5', e6', e7', e8', S', q, h2⟩ := turn_run (ns := ns) (n := n) (e2 := e2) (e3 := .dat x) (e4 := e4) (e5 := e5) (e6 := e6) (e7 := e7) (e8 := e8) h1 (by omega)
    exact ⟨_, S', q, (show Inv (20 * (i + 1)) S' by rw [Nat.mul_add]; exact h2), _, _, _, _, _, _, rfl⟩)
  obtain ⟨env', S', q, _, e3, e4, e5, e6, e7, e8, rfl⟩ := hl
  refine ⟨e3, e4, e5, e6, e7, e8, S', ?_⟩
  rw [sT_eq, for_eq (ds := (List.range 20).map fun (k : Nat) => .int k) (d := .int 20) (by simp) rfl]
  exact q
theorem start_run {n : Nat} {ns : List Int} : Cn (n + 1) "_law_start" [.scr ns] [] = .ok (.loc 1) (St ns 0 0 43) := by
  rw [call_of g_start rfl]
  simp [fd_law_start, startE, rd, bfF, bf1, St]
theorem law_ok (ns : List Int) (h : ns.length ≤ 63) : ∃ S, callF (gOf defs) glos turnsW lev "law" [.scr ns] [] = .ok (.bl true) S := by
  show ∃ S, Cn (9 + 1) "law" [.scr ns] [] = .ok (.bl true) S
  rw [call_of g_law rfl]
  show ∃ S, endR (exSs (Cn 9) glos turnsW fd_law.body (startE 12 [.scr ns]) []) = .ok (.bl true) S
  have i0 : Inv 0 (St ns 0 0 43) := ⟨ns, 0, 0, 43, rfl, h, by decide, by decide, by decide, by decide, by decide⟩
  have q0 : exS (Cn 9) glos turnsW sS (startE 12 [.scr ns]) [] = .ok .nxt (lEnv ns .no .no .no .no .no .no .no) (St ns 0 0 43) := by
    show exS (Cn 9) glos turnsW (.asg (.name 1) (.call "_law_start" [.var 0] [])) (startE 12 [.scr ns]) [] = _
    simp [startE, rd, start_run, lEnv]
  obtain ⟨e2, e4, q1⟩ := key_run (ns := ns) (n := 7) (S := St ns 0 0 43)
  obtain ⟨e3', e4', e5', e6', e7', e8', S', q2⟩ := turns_run (ns := ns) (n := 7) (e2 := e2) (e4 := e4) i0
  refine ⟨S', ?_⟩
  rw [body_eq, xss_cons, q0, R.bind_ok, after_nxt, xss_cons, q1, R.bind_ok, after_nxt, xss_cons, q2, R.bind_ok, after_nxt, xss_cons, ret_run (n := 7), R.bind_ok, after_ret]
  rfl
end Pf.K
namespace Pf.K
open PySem PySem.Spec PyProof.Rows L2
theorem all_in {K : PySem.W.Frag} {h : Heap} {mg : Str → Option Value} (X : K.In h) (G : h.Ns mainGlobals mg)
    {f0 : Addr} {od0 an0 : Option Addr} {sl0 : Array (Option Value)} {oc0 kV0 dc0 pm0 cd0 ct0 : Value}
    {f1 : Addr} {od1 an1 : Option Addr} {sl1 : Array (Option Value)} {oc1 kV1 dc1 pm1 cd1 ct1 : Value}
    {f2 : Addr} {od2 an2 : Option Addr} {sl2 : Array (Option Value)} {oc2 kV2 dc2 pm2 cd2 ct2 : Value}
    {f3 : Addr} {od3 an3 : Option Addr} {sl3 : Array (Option Value)} {oc3 kV3 dc3 pm3 cd3 ct3 : Value}
    {f4 : Addr} {od4 an4 : Option Addr} {sl4 : Array (Option Value)} {oc4 kV4 dc4 pm4 cd4 ct4 : Value}
    {f5 : Addr} {od5 an5 : Option Addr} {sl5 : Array (Option Value)} {oc5 kV5 dc5 pm5 cd5 ct5 : Value}
    {f6 : Addr} {od6 an6 : Option Addr} {sl6 : Array (Option Value)} {oc6 kV6 dc6 pm6 cd6 ct6 : Value}
    {f7 : Addr} {od7 an7 : Option Addr} {sl7 : Array (Option Value)} {oc7 kV7 dc7 pm7 cd7 ct7 : Value}
    {f8 : Addr} {od8 an8 : Option Addr} {sl8 : Array (Option Value)} {oc8 kV8 dc8 pm8 cd8 ct8 : Value}
    {f9 : Addr} {od9 an9 : Option Addr} {sl9 : Array (Option Value)} {oc9 kV9 dc9 pm9 cd9 ct9 : Value}
    {t0 : Addr} {og0 : Option Addr} {it0 : Array Value} {nn0 : Nat} {sg0 : Array (Option Value)}
    {u1 : Value}
    {u2 : Value}
    (a0 : PySem.W.nsIn K mainGlobals "law" = some (some (.ref f0))) (l0 : K.lookup f0 = some ⟨oc0, od0, .func (PySem.W.fnOf "law" "law" (defArgs (topS 14)) (defBody (topS 14)) (defScope (topS 14)) .none kV0 dc0 pm0 an0 cd0 ct0), sl0⟩) (c0 : PySem.W.codeIn K cd0 "law" = true) (k0 : PySem.W.keepIn K (.ref f0) = true)
    (a1 : PySem.W.nsIn K mainGlobals "_law_start" = some (some (.ref f1))) (l1 : K.lookup f1 = some ⟨oc1, od1, .func (PySem.W.fnOf "_law_start" "_law_start" (defArgs (topS 7)) (defBody (topS 7)) (defScope (topS 7)) .none kV1 dc1 pm1 an1 cd1 ct1), sl1⟩) (c1 : PySem.W.codeIn K cd1 "_law_start" = true) (k1 : PySem.W.keepIn K (.ref f1) = true)
    (a2 : PySem.W.nsIn K mainGlobals "_law_ckeys" = some (some (.ref f2))) (l2 : K.lookup f2 = some ⟨oc2, od2, .func (PySem.W.fnOf "_law_ckeys" "_law_ckeys" (defArgs (topS 11)) (defBody (topS 11)) (defScope (topS 11)) .none kV2 dc2 pm2 an2 cd2 ct2), sl2⟩) (c2 : PySem.W.codeIn K cd2 "_law_ckeys" = true) (k2 : PySem.W.keepIn K (.ref f2) = true)
    (a3 : PySem.W.nsIn K mainGlobals "_law_pick" = some (some (.ref f3))) (l3 : K.lookup f3 = some ⟨oc3, od3, .func (PySem.W.fnOf "_law_pick" "_law_pick" (defArgs (topS 9)) (defBody (topS 9)) (defScope (topS 9)) .none kV3 dc3 pm3 an3 cd3 ct3), sl3⟩) (c3 : PySem.W.codeIn K cd3 "_law_pick" = true) (k3 : PySem.W.keepIn K (.ref f3) = true)
    (a4 : PySem.W.nsIn K mainGlobals "_law_below" = some (some (.ref f4))) (l4 : K.lookup f4 = some ⟨oc4, od4, .func (PySem.W.fnOf "_law_below" "_law_below" (defArgs (topS 8)) (defBody (topS 8)) (defScope (topS 8)) .none kV4 dc4 pm4 an4 cd4 ct4), sl4⟩) (c4 : PySem.W.codeIn K cd4 "_law_below" = true) (k4 : PySem.W.keepIn K (.ref f4) = true)
    (a5 : PySem.W.nsIn K mainGlobals "_law_same" = some (some (.ref f5))) (l5 : K.lookup f5 = some ⟨oc5, od5, .func (PySem.W.fnOf "_law_same" "_law_same" (defArgs (topS 10)) (defBody (topS 10)) (defScope (topS 10)) .none kV5 dc5 pm5 an5 cd5 ct5), sl5⟩) (c5 : PySem.W.codeIn K cd5 "_law_same" = true) (k5 : PySem.W.keepIn K (.ref f5) = true)
    (a6 : PySem.W.nsIn K mainGlobals "is_tag" = some (some (.ref f6))) (l6 : K.lookup f6 = some ⟨oc6, od6, .func (PySem.W.fnOf "is_tag" "is_tag" (defArgs (topS 5)) (defBody (topS 5)) (defScope (topS 5)) .none kV6 dc6 pm6 an6 cd6 ct6), sl6⟩) (c6 : PySem.W.codeIn K cd6 "is_tag" = true) (k6 : PySem.W.keepIn K (.ref f6) = true)
    (a7 : PySem.W.nsIn K mainGlobals "_law_cletters" = some (some (.ref f7))) (l7 : K.lookup f7 = some ⟨oc7, od7, .func (PySem.W.fnOf "_law_cletters" "_law_cletters" (defArgs (topS 12)) (defBody (topS 12)) (defScope (topS 12)) .none kV7 dc7 pm7 an7 cd7 ct7), sl7⟩) (c7 : PySem.W.codeIn K cd7 "_law_cletters" = true) (k7 : PySem.W.keepIn K (.ref f7) = true)
    (a8 : PySem.W.nsIn K mainGlobals "_law_cis_tag" = some (some (.ref f8))) (l8 : K.lookup f8 = some ⟨oc8, od8, .func (PySem.W.fnOf "_law_cis_tag" "_law_cis_tag" (defArgs (topS 13)) (defBody (topS 13)) (defScope (topS 13)) .none kV8 dc8 pm8 an8 cd8 ct8), sl8⟩) (c8 : PySem.W.codeIn K cd8 "_law_cis_tag" = true) (k8 : PySem.W.keepIn K (.ref f8) = true)
    (a9 : PySem.W.nsIn K mainGlobals "is_word" = some (some (.ref f9))) (l9 : K.lookup f9 = some ⟨oc9, od9, .func (PySem.W.fnOf "is_word" "is_word" (defArgs (topS 4)) (defBody (topS 4)) (defScope (topS 4)) .none kV9 dc9 pm9 an9 cd9 ct9), sl9⟩) (c9 : PySem.W.codeIn K cd9 "is_word" = true) (k9 : PySem.W.keepIn K (.ref f9) = true)
    (g0 : PySem.W.nsIn K mainGlobals "KEYS" = some (some (.ref t0))) (gl0 : K.lookup t0 = some ⟨.type "tuple", og0, .seq it0 nn0, sg0⟩) (gv0 : flatRels [.str [105, 110], .str [111, 117, 116], .str [112, 97, 114, 116], .str [111, 118, 101, 114], .str [115, 116, 97, 116, 101], .str [116, 101, 108, 108, 115], .str [102, 114, 111, 109], .str [111, 110], .str [110, 101, 119], .str [103, 111], .str [119, 114, 105, 116, 101, 115], .str [99, 108, 97, 105, 109], .str [115, 97, 109, 101], .str [107, 101, 101, 112, 115]] it0.toList = true) (gs0 : it0.size ≤ 16777216)
    (g1 : PySem.W.nsIn K mainGlobals "LETTERS" = some (some u1)) (gv1 : flatRel (.str [97, 98, 99, 100, 101, 102, 103, 104, 105, 106, 107, 108, 109, 110, 111, 112, 113, 114, 115, 116, 117, 118, 119, 120, 121, 122]) u1 = true)
    (g2 : PySem.W.nsIn K mainGlobals "FIGURES" = some (some u2)) (gv2 : flatRel (.str [48, 49, 50, 51, 52, 53, 54, 55, 56, 57]) u2 = true)
    (z0 : PySem.W.nsIn K mainGlobals "len" = some none) (z1 : PySem.W.nsIn K mainGlobals "list" = some none) (z2 : PySem.W.nsIn K mainGlobals "tuple" = some none) (z3 : PySem.W.nsIn K mainGlobals "int" = some none) (z4 : PySem.W.nsIn K mainGlobals "str" = some none) (z5 : PySem.W.nsIn K mainGlobals "all" = some none) (z6 : PySem.W.nsIn K mainGlobals "any" = some none) (z7 : PySem.W.nsIn K mainGlobals "sum" = some none) (z8 : PySem.W.nsIn K mainGlobals "isinstance" = some none) (z9 : PySem.W.nsIn K mainGlobals "bool" = some none) (z10 : PySem.W.nsIn K mainGlobals "dict" = some none) (z11 : PySem.W.nsIn K mainGlobals "range" = some none) (z12 : PySem.W.nsIn K mainGlobals "enumerate" = some none) (z13 : PySem.W.nsIn K mainGlobals "zip" = some none) (z14 : PySem.W.nsIn K mainGlobals "sorted" = some none) (z15 : PySem.W.nsIn K mainGlobals "min" = some none) (z16 : PySem.W.nsIn K mainGlobals "max" = some none) (z17 : PySem.W.nsIn K mainGlobals "ord" = some none) (z18 : PySem.W.nsIn K mainGlobals "type" = some none) (z19 : PySem.W.nsIn K mainGlobals "repr" = some none) :
    (∀ i ∈ defs, DefIn K mg i) ∧ (∀ x d, glos x = some d → GloIn K mg x d) ∧ (∀ b ∈ blts, mg (Str.ofString b) = none) ∧ ∃ fd, L2.Fun K "law" "law" (topS 14) f0 fd ∧ mg "law" = some (.ref f0) ∧ ∀ (s : Shared) (u : Value), BindsTo s fd ⟨[u], []⟩ [("script", u)] := by
  refine ⟨?_, ?_, ?_, _, fun_mk (st := topS 14) l0 c0 k0, PySem.W.mg_of X G a0, fun s u => .of_eq rfl⟩
  · intro i hi
    simp only [defs, List.mem_cons, List.not_mem_nil, or_false] at hi
    rcases hi with rfl | rfl | rfl | rfl | rfl | rfl | rfl | rfl | rfl | rfl
    · exact defIn_of (i := di_law) (fun_mk (st := topS 14) l0 c0 k0) (PySem.W.mg_of X G a0) ((fun_mk (st := topS 14) l0 c0 k0).binds (ps := ["script"]) fun _ _ _ _ _ _ us hl => match us, hl with | [_], _ => rfl) (fun z => nomatch z)
    · exact defIn_of (i := di_law_start) (fun_mk (st := topS 7) l1 c1 k1) (PySem.W.mg_of X G a1) ((fun_mk (st := topS 7) l1 c1 k1).binds (ps := ["script"]) fun _ _ _ _ _ _ us hl => match us, hl with | [_], _ => rfl) (fun z => nomatch z)
    · exact defIn_of (i := di_law_ckeys) (fun_mk (st := topS 11) l2 c2 k2) (PySem.W.mg_of X G a2) ((fun_mk (st := topS 11) l2 c2 k2).binds (ps := []) fun _ _ _ _ _ _ us hl => match us, hl with | [], _ => rfl) (fun z => nomatch z)
    · exact defIn_of (i := di_law_pick) (fun_mk (st := topS 9) l3 c3 k3) (PySem.W.mg_of X G a3) ((fun_mk (st := topS 9) l3 c3 k3).binds (ps := ["stream", "some"]) fun _ _ _ _ _ _ us hl => match us, hl with | [_, _], _ => rfl) (fun z => nomatch z)
    · exact defIn_of (i := di_law_below) (fun_mk (st := topS 8) l4 c4 k4) (PySem.W.mg_of X G a4) ((fun_mk (st := topS 8) l4 c4 k4).binds (ps := ["stream", "many"]) fun _ _ _ _ _ _ us hl => match us, hl with | [_, _], _ => rfl) (fun z => nomatch z)
    · exact defIn_of (i := di_law_same) (fun_mk (st := topS 10) l5 c5 k5) (PySem.W.mg_of X G a5) ((fun_mk (st := topS 10) l5 c5 k5).binds (ps := ["found", "due"]) fun _ _ _ _ _ _ us hl => match us, hl with | [_, _], _ => rfl) (fun z => nomatch z)
    · exact defIn_of (i := di_is_tag) (fun_mk (st := topS 5) l6 c6 k6) (PySem.W.mg_of X G a6) ((fun_mk (st := topS 5) l6 c6 k6).binds (ps := ["thing"]) fun _ _ _ _ _ _ us hl => match us, hl with | [_], _ => rfl) (fun _ s ws _ hl => match ws, hl with | [_], _ => .of_eq rfl)
    · exact defIn_of (i := di_law_cletters) (fun_mk (st := topS 12) l7 c7 k7) (PySem.W.mg_of X G a7) ((fun_mk (st := topS 12) l7 c7 k7).binds (ps := []) fun _ _ _ _ _ _ us hl => match us, hl with | [], _ => rfl) (fun z => nomatch z)
    · exact defIn_of (i := di_law_cis_tag) (fun_mk (st := topS 13) l8 c8 k8) (PySem.W.mg_of X G a8) ((fun_mk (st := topS 13) l8 c8 k8).binds (ps := ["word"]) fun _ _ _ _ _ _ us hl => match us, hl with | [_], _ => rfl) (fun z => nomatch z)
    · exact defIn_of (i := di_is_word) (fun_mk (st := topS 4) l9 c9 k9) (PySem.W.mg_of X G a9) ((fun_mk (st := topS 4) l9 c9 k9).binds (ps := ["thing", "most"]) fun _ _ _ _ _ _ us hl => match us, hl with | [_, _], _ => rfl) (fun z => nomatch z)
  · intro x d e
    unfold glos at e
    split at e
    · cases e; exact glo_tup (PySem.W.mg_of X G g0) gl0 gv0 gs0
    · cases e; exact glo_flat (PySem.W.mg_of X G g1) gv1
    · cases e; exact glo_flat (PySem.W.mg_of X G g2) gv2
    · cases e
  · intro b hb
    simp only [blts, List.mem_cons, List.not_mem_nil, or_false] at hb
    rcases hb with rfl | rfl | rfl | rfl | rfl | rfl | rfl | rfl | rfl | rfl | rfl | rfl | rfl | rfl | rfl | rfl | rfl | rfl | rfl | rfl
    · exact PySem.W.mg_none_of X G z0
    · exact PySem.W.mg_none_of X G z1
    · exact PySem.W.mg_none_of X G z2
    · exact PySem.W.mg_none_of X G z3
    · exact PySem.W.mg_none_of X G z4
    · exact PySem.W.mg_none_of X G z5
    · exact PySem.W.mg_none_of X G z6
    · exact PySem.W.mg_none_of X G z7
    · exact PySem.W.mg_none_of X G z8
    · exact PySem.W.mg_none_of X G z9
    · exact PySem.W.mg_none_of X G z10
    · exact PySem.W.mg_none_of X G z11
    · exact PySem.W.mg_none_of X G z12
    · exact PySem.W.mg_none_of X G z13
    · exact PySem.W.mg_none_of X G z14
    · exact PySem.W.mg_none_of X G z15
    · exact PySem.W.mg_none_of X G z16
    · exact PySem.W.mg_none_of X G z17
    · exact PySem.W.mg_none_of X G z18
    · exact PySem.W.mg_none_of X G z19
theorem ok_law : di_law.ok defs = true := by decide +kernel
theorem ok_law_start : di_law_start.ok defs = true := by decide +kernel
theorem ok_law_ckeys : di_law_ckeys.ok defs = true := by decide +kernel
theorem ok_law_pick : di_law_pick.ok defs = true := by decide +kernel
theorem ok_law_below : di_law_below.ok defs = true := by decide +kernel
theorem ok_law_same : di_law_same.ok defs = true := by decide +kernel
theorem ok_is_tag : di_is_tag.ok defs = true := by decide +kernel
theorem ok_law_cletters : di_law_cletters.ok defs = true := by decide +kernel
theorem ok_law_cis_tag : di_law_cis_tag.ok defs = true := by decide +kernel
theorem ok_is_word : di_is_word.ok defs = true := by decide +kernel
theorem ok_all : ∀ i ∈ defs, i.ok defs = true := by
  intro i hi
  simp only [defs, List.mem_cons, List.not_mem_nil, or_false] at hi
  rcases hi with rfl | rfl | rfl | rfl | rfl | rfl | rfl | rfl | rfl | rfl
  · exact ok_law
  · exact ok_law_start
  · exact ok_law_ckeys
  · exact ok_law_pick
  · exact ok_law_below
  · exact ok_law_same
  · exact ok_is_tag
  · exact ok_law_cletters
  · exact ok_law_cis_tag
  · exact ok_is_word
theorem find_all : ∀ i ∈ defs, defs.find? (·.f == i.f) = some i := by
  intro i hi
  simp only [defs, List.mem_cons, List.not_mem_nil, or_false] at hi
  rcases hi with rfl | rfl | rfl | rfl | rfl | rfl | rfl | rfl | rfl | rfl
  · rfl
  · rfl
  · rfl
  · rfl
  · rfl
  · rfl
  · rfl
  · rfl
  · rfl
  · rfl
theorem law_fin {P : Program} {w : World} {K : PySem.W.Frag} {h : Heap} {mg : Str → Option Value} {fa : Addr} (X : K.In h) (G : h.Ns mainGlobals mg) (hmg : mg "law" = some (.ref fa))
    {f0 : Addr} {od0 an0 : Option Addr} {sl0 : Array (Option Value)} {oc0 kV0 dc0 pm0 cd0 ct0 : Value}
    {f1 : Addr} {od1 an1 : Option Addr} {sl1 : Array (Option Value)} {oc1 kV1 dc1 pm1 cd1 ct1 : Value}
    {f2 : Addr} {od2 an2 : Option Addr} {sl2 : Array (Option Value)} {oc2 kV2 dc2 pm2 cd2 ct2 : Value}
    {f3 : Addr} {od3 an3 : Option Addr} {sl3 : Array (Option Value)} {oc3 kV3 dc3 pm3 cd3 ct3 : Value}
    {f4 : Addr} {od4 an4 : Option Addr} {sl4 : Array (Option Value)} {oc4 kV4 dc4 pm4 cd4 ct4 : Value}
    {f5 : Addr} {od5 an5 : Option Addr} {sl5 : Array (Option Value)} {oc5 kV5 dc5 pm5 cd5 ct5 : Value}
    {f6 : Addr} {od6 an6 : Option Addr} {sl6 : Array (Option Value)} {oc6 kV6 dc6 pm6 cd6 ct6 : Value}
    {f7 : Addr} {od7 an7 : Option Addr} {sl7 : Array (Option Value)} {oc7 kV7 dc7 pm7 cd7 ct7 : Value}
    {f8 : Addr} {od8 an8 : Option Addr} {sl8 : Array (Option Value)} {oc8 kV8 dc8 pm8 cd8 ct8 : Value}
    {f9 : Addr} {od9 an9 : Option Addr} {sl9 : Array (Option Value)} {oc9 kV9 dc9 pm9 cd9 ct9 : Value}
    {t0 : Addr} {og0 : Option Addr} {it0 : Array Value} {nn0 : Nat} {sg0 : Array (Option Value)}
    {u1 : Value}
    {u2 : Value}
    (a0 : PySem.W.nsIn K mainGlobals "law" = some (some (.ref f0))) (l0 : K.lookup f0 = some ⟨oc0, od0, .func (PySem.W.fnOf "law" "law" (defArgs (topS 14)) (defBody (topS 14)) (defScope (topS 14)) .none kV0 dc0 pm0 an0 cd0 ct0), sl0⟩) (c0 : PySem.W.codeIn K cd0 "law" = true) (k0 : PySem.W.keepIn K (.ref f0) = true)
    (a1 : PySem.W.nsIn K mainGlobals "_law_start" = some (some (.ref f1))) (l1 : K.lookup f1 = some ⟨oc1, od1, .func (PySem.W.fnOf "_law_start" "_law_start" (defArgs (topS 7)) (defBody (topS 7)) (defScope (topS 7)) .none kV1 dc1 pm1 an1 cd1 ct1), sl1⟩) (c1 : PySem.W.codeIn K cd1 "_law_start" = true) (k1 : PySem.W.keepIn K (.ref f1) = true)
    (a2 : PySem.W.nsIn K mainGlobals "_law_ckeys" = some (some (.ref f2))) (l2 : K.lookup f2 = some ⟨oc2, od2, .func (PySem.W.fnOf "_law_ckeys" "_law_ckeys" (defArgs (topS 11)) (defBody (topS 11)) (defScope (topS 11)) .none kV2 dc2 pm2 an2 cd2 ct2), sl2⟩) (c2 : PySem.W.codeIn K cd2 "_law_ckeys" = true) (k2 : PySem.W.keepIn K (.ref f2) = true)
    (a3 : PySem.W.nsIn K mainGlobals "_law_pick" = some (some (.ref f3))) (l3 : K.lookup f3 = some ⟨oc3, od3, .func (PySem.W.fnOf "_law_pick" "_law_pick" (defArgs (topS 9)) (defBody (topS 9)) (defScope (topS 9)) .none kV3 dc3 pm3 an3 cd3 ct3), sl3⟩) (c3 : PySem.W.codeIn K cd3 "_law_pick" = true) (k3 : PySem.W.keepIn K (.ref f3) = true)
    (a4 : PySem.W.nsIn K mainGlobals "_law_below" = some (some (.ref f4))) (l4 : K.lookup f4 = some ⟨oc4, od4, .func (PySem.W.fnOf "_law_below" "_law_below" (defArgs (topS 8)) (defBody (topS 8)) (defScope (topS 8)) .none kV4 dc4 pm4 an4 cd4 ct4), sl4⟩) (c4 : PySem.W.codeIn K cd4 "_law_below" = true) (k4 : PySem.W.keepIn K (.ref f4) = true)
    (a5 : PySem.W.nsIn K mainGlobals "_law_same" = some (some (.ref f5))) (l5 : K.lookup f5 = some ⟨oc5, od5, .func (PySem.W.fnOf "_law_same" "_law_same" (defArgs (topS 10)) (defBody (topS 10)) (defScope (topS 10)) .none kV5 dc5 pm5 an5 cd5 ct5), sl5⟩) (c5 : PySem.W.codeIn K cd5 "_law_same" = true) (k5 : PySem.W.keepIn K (.ref f5) = true)
    (a6 : PySem.W.nsIn K mainGlobals "is_tag" = some (some (.ref f6))) (l6 : K.lookup f6 = some ⟨oc6, od6, .func (PySem.W.fnOf "is_tag" "is_tag" (defArgs (topS 5)) (defBody (topS 5)) (defScope (topS 5)) .none kV6 dc6 pm6 an6 cd6 ct6), sl6⟩) (c6 : PySem.W.codeIn K cd6 "is_tag" = true) (k6 : PySem.W.keepIn K (.ref f6) = true)
    (a7 : PySem.W.nsIn K mainGlobals "_law_cletters" = some (some (.ref f7))) (l7 : K.lookup f7 = some ⟨oc7, od7, .func (PySem.W.fnOf "_law_cletters" "_law_cletters" (defArgs (topS 12)) (defBody (topS 12)) (defScope (topS 12)) .none kV7 dc7 pm7 an7 cd7 ct7), sl7⟩) (c7 : PySem.W.codeIn K cd7 "_law_cletters" = true) (k7 : PySem.W.keepIn K (.ref f7) = true)
    (a8 : PySem.W.nsIn K mainGlobals "_law_cis_tag" = some (some (.ref f8))) (l8 : K.lookup f8 = some ⟨oc8, od8, .func (PySem.W.fnOf "_law_cis_tag" "_law_cis_tag" (defArgs (topS 13)) (defBody (topS 13)) (defScope (topS 13)) .none kV8 dc8 pm8 an8 cd8 ct8), sl8⟩) (c8 : PySem.W.codeIn K cd8 "_law_cis_tag" = true) (k8 : PySem.W.keepIn K (.ref f8) = true)
    (a9 : PySem.W.nsIn K mainGlobals "is_word" = some (some (.ref f9))) (l9 : K.lookup f9 = some ⟨oc9, od9, .func (PySem.W.fnOf "is_word" "is_word" (defArgs (topS 4)) (defBody (topS 4)) (defScope (topS 4)) .none kV9 dc9 pm9 an9 cd9 ct9), sl9⟩) (c9 : PySem.W.codeIn K cd9 "is_word" = true) (k9 : PySem.W.keepIn K (.ref f9) = true)
    (g0 : PySem.W.nsIn K mainGlobals "KEYS" = some (some (.ref t0))) (gl0 : K.lookup t0 = some ⟨.type "tuple", og0, .seq it0 nn0, sg0⟩) (gv0 : flatRels [.str [105, 110], .str [111, 117, 116], .str [112, 97, 114, 116], .str [111, 118, 101, 114], .str [115, 116, 97, 116, 101], .str [116, 101, 108, 108, 115], .str [102, 114, 111, 109], .str [111, 110], .str [110, 101, 119], .str [103, 111], .str [119, 114, 105, 116, 101, 115], .str [99, 108, 97, 105, 109], .str [115, 97, 109, 101], .str [107, 101, 101, 112, 115]] it0.toList = true) (gs0 : it0.size ≤ 16777216)
    (g1 : PySem.W.nsIn K mainGlobals "LETTERS" = some (some u1)) (gv1 : flatRel (.str [97, 98, 99, 100, 101, 102, 103, 104, 105, 106, 107, 108, 109, 110, 111, 112, 113, 114, 115, 116, 117, 118, 119, 120, 121, 122]) u1 = true)
    (g2 : PySem.W.nsIn K mainGlobals "FIGURES" = some (some u2)) (gv2 : flatRel (.str [48, 49, 50, 51, 52, 53, 54, 55, 56, 57]) u2 = true)
    (z0 : PySem.W.nsIn K mainGlobals "len" = some none) (z1 : PySem.W.nsIn K mainGlobals "list" = some none) (z2 : PySem.W.nsIn K mainGlobals "tuple" = some none) (z3 : PySem.W.nsIn K mainGlobals "int" = some none) (z4 : PySem.W.nsIn K mainGlobals "str" = some none) (z5 : PySem.W.nsIn K mainGlobals "all" = some none) (z6 : PySem.W.nsIn K mainGlobals "any" = some none) (z7 : PySem.W.nsIn K mainGlobals "sum" = some none) (z8 : PySem.W.nsIn K mainGlobals "isinstance" = some none) (z9 : PySem.W.nsIn K mainGlobals "bool" = some none) (z10 : PySem.W.nsIn K mainGlobals "dict" = some none) (z11 : PySem.W.nsIn K mainGlobals "range" = some none) (z12 : PySem.W.nsIn K mainGlobals "enumerate" = some none) (z13 : PySem.W.nsIn K mainGlobals "zip" = some none) (z14 : PySem.W.nsIn K mainGlobals "sorted" = some none) (z15 : PySem.W.nsIn K mainGlobals "min" = some none) (z16 : PySem.W.nsIn K mainGlobals "max" = some none) (z17 : PySem.W.nsIn K mainGlobals "ord" = some none) (z18 : PySem.W.nsIn K mainGlobals "type" = some none) (z19 : PySem.W.nsIn K mainGlobals "repr" = some none) :
    ∃ fd : FuncData, (∀ (s : Shared) (u : Value), BindsTo s fd ⟨[u], []⟩ [("script", u)]) ∧ ∀ base : Heap, K.In base → base.Ns mainGlobals mg → FnOk P w K mg base (L2.CX P w) lev fa fd ["script"] (spF K EX0 1 (callF (gOf defs) glos turnsW lev "law")) := by
  obtain ⟨i1, i2, i3, fd, i4, i5, i6⟩ := all_in X G a0 l0 c0 k0 a1 l1 c1 k1 a2 l2 c2 k2 a3 l3 c3 k3 a4 l4 c4 k4 a5 l5 c5 k5 a6 l6 c6 k6 a7 l7 c7 k7 a8 l8 c8 k8 a9 l9 c9 k9 g0 gl0 gv0 gs0 g1 gv1 g2 gv2 z0 z1 z2 z3 z4 z5 z6 z7 z8 z9 z10 z11 z12 z13 z14 z15 z16 z17 z18 z19
  have e : Value.ref fa = .ref f0 := Option.some.inj (hmg.symm.trans i5)
  cases e
  exact ⟨fd, i6, fun base _ _ => law_F (i := di_law) (by simp [defs]) rfl i4 i5 (defs_ok i1 ok_all find_all i2 i3 lev)⟩
end Pf.K
open PySem PySem.W PyProof.Rows
set_option maxHeartbeats 0 in
theorem PySem.Challenge.cw_namesheld_k01_tags_told_from_others_holds : PySem.Challenge.rw_namesheld_k01_tags_told_from_others.Holds := by
  w_on; o_law; k_head; (case hw => w_witness2)
  k_fill
  refine L2.walk_of (l := PySem.Challenge.rw_namesheld_k01_tags_told_from_others) (n := 63) (k := Pf.K.lev) (x := "script") (CX := fun w => L2.CX PySem.Challenge.rw_namesheld_k01_tags_told_from_others.prog w) (sp := fun w => Pf.spF _ Pf.EX0 1 (Pf.callF (Pf.gOf Pf.K.defs) Pf.K.glos Pf.K.turnsW Pf.K.lev "law")) rfl (by decide) rfl ⟨rfl, by decide, by decide⟩ (fun w h Y => PySem.W.kIn_of Y) ?F (fun _ _ a ns hl _ hS => Pf.law_sp hS hl (Pf.K.law_ok ns hl)) (fun _ _ _ _ _ h => Pf.no_exc h)
  case F =>
    intro w mg fa h KX G hmg
    refine' Pf.K.law_fin KX G hmg ?pf_a0 ?pf_l0 ?pf_c0 ?pf_k0 ?pf_a1 ?pf_l1 ?pf_c1 ?pf_k1 ?pf_a2 ?pf_l2 ?pf_c2 ?pf_k2 ?pf_a3 ?pf_l3 ?pf_c3 ?pf_k3 ?pf_a4 ?pf_l4 ?pf_c4 ?pf_k4 ?pf_a5 ?pf_l5 ?pf_c5 ?pf_k5 ?pf_a6 ?pf_l6 ?pf_c6 ?pf_k6 ?pf_a7 ?pf_l7 ?pf_c7 ?pf_k7 ?pf_a8 ?pf_l8 ?pf_c8 ?pf_k8 ?pf_a9 ?pf_l9 ?pf_c9 ?pf_k9 ?pf_g0 ?pf_gl0 ?pf_gv0 ?pf_gs0 ?pf_g1 ?pf_gv1 ?pf_g2 ?pf_gv2 ?pf_z0 ?pf_z1 ?pf_z2 ?pf_z3 ?pf_z4 ?pf_z5 ?pf_z6 ?pf_z7 ?pf_z8 ?pf_z9 ?pf_z10 ?pf_z11 ?pf_z12 ?pf_z13 ?pf_z14 ?pf_z15 ?pf_z16 ?pf_z17 ?pf_z18 ?pf_z19
    (case pf_a0 => k_is)
    (case pf_l0 => k_is)
    (case pf_c0 => k_is)
    (case pf_k0 => k_is)
    (case pf_a1 => k_is)
    (case pf_l1 => k_is)
    (case pf_c1 => k_is)
    (case pf_k1 => k_is)
    (case pf_a2 => k_is)
    (case pf_l2 => k_is)
    (case pf_c2 => k_is)
    (case pf_k2 => k_is)
    (case pf_a3 => k_is)
    (case pf_l3 => k_is)
    (case pf_c3 => k_is)
    (case pf_k3 => k_is)
    (case pf_a4 => k_is)
    (case pf_l4 => k_is)
    (case pf_c4 => k_is)
    (case pf_k4 => k_is)
    (case pf_a5 => k_is)
    (case pf_l5 => k_is)
    (case pf_c5 => k_is)
    (case pf_k5 => k_is)
    (case pf_a6 => k_is)
    (case pf_l6 => k_is)
    (case pf_c6 => k_is)
    (case pf_k6 => k_is)
    (case pf_a7 => k_is)
    (case pf_l7 => k_is)
    (case pf_c7 => k_is)
    (case pf_k7 => k_is)
    (case pf_a8 => k_is)
    (case pf_l8 => k_is)
    (case pf_c8 => k_is)
    (case pf_k8 => k_is)
    (case pf_a9 => k_is)
    (case pf_l9 => k_is)
    (case pf_c9 => k_is)
    (case pf_k9 => k_is)
    (case pf_g0 => k_is)
    (case pf_gl0 => k_is)
    (case pf_gv0 => decide +kernel)
    (case pf_gs0 => decide)
    (case pf_g1 => k_is)
    (case pf_gv1 => decide +kernel)
    (case pf_g2 => k_is)
    (case pf_gv2 => decide +kernel)
    (case pf_z0 => k_is)
    (case pf_z1 => k_is)
    (case pf_z2 => k_is)
    (case pf_z3 => k_is)
    (case pf_z4 => k_is)
    (case pf_z5 => k_is)
    (case pf_z6 => k_is)
    (case pf_z7 => k_is)
    (case pf_z8 => k_is)
    (case pf_z9 => k_is)
    (case pf_z10 => k_is)
    (case pf_z11 => k_is)
    (case pf_z12 => k_is)
    (case pf_z13 => k_is)
    (case pf_z14 => k_is)
    (case pf_z15 => k_is)
    (case pf_z16 => k_is)
    (case pf_z17 => k_is)
    (case pf_z18 => k_is)
    (case pf_z19 => k_is)
