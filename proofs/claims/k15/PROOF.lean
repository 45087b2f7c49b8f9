import PyProof.Rows.All
import Wide.All
import OpenK.AllK
import Wide.FinOn
import HandS.ForMost
import HandS.Lambda
import HandS.Deep
import HandS.IsInst
import HandS.TupAny
import HandS.Style
import HandS.CallSlots
import HandS.WordsExc
import HandS.Replace
import HandS.RaiseMore
import PyProof.StrLawsIn
import PyProof.ListStr
import HandS.Zip
import HandS.HotCalls
import HandS.ExcCtx
import HandS.ExcIs
import KE.KExcIs
import KE.KNest
import HandS.NoneIn
import HandS.Dict
import HandS.ExcInit
import HandS.RaiseFrom
import HandS.Codes
import HandS.Ends
import HandS.EndOwn
import KE.KNestM
import PySem.Challenge.RW_namesheld_k15_names_and_numbers
set_option Elab.async false
set_option linter.all false
set_option maxRecDepth 100000
/-! Pf, part A: data, an interpreter over data for a small language. Plain Lean. -/
namespace Pf
open PySem (Str sizeLine)

/-- data: what a program's value is, the heap left out; loc: a mutable thing in the store -/
inductive D where
  | non | bl (b : Bool) | int (i : Int) | str (s : List Nat)
  | lst (xs : List D) | tup (xs : List D) | dic (kvs : List (D × D))
  | scr (ns : List Int)
  | loc (n : Nat)
  | fn (f : String)
  | exo (c : String) (fs : List (String × D))
  deriving Inhabited

/-- contents of a mutable thing -/
inductive Cell where
  | lst (xs : List D) | dic (kvs : List (D × D)) | dead
abbrev Store := List Cell
/-- what a local name holds: nothing, data, a list of its own, a dict of its own -/
inductive Sl where
  | no | dat (d : D) | lst (xs : List D) | dic (kvs : List (D × D))
  /-- the function that a def was handed (a lambda of its caller) -/
  | thk
abbrev Env := List Sl
structure Exn where
  cls : String
  fs : List (String × D)
inductive R (α : Type) where
  | ok (a : α) (e : Env) (S : Store)
  | exc (x : Exn) (e : Env) (S : Store)
  | bad
def R.bind {α β : Type} : R α → (α → Env → Store → R β) → R β
  | .ok a e S, f => f a e S
  | .exc x e S, _ => .exc x e S
  | .bad, _ => .bad
@[simp] theorem R.bind_ok {α β : Type} (a : α) (e S) (f : α → Env → Store → R β) : (R.ok a e S).bind f = f a e S := rfl
@[simp] theorem R.bind_exc {α β : Type} (x e S) (f : α → Env → Store → R β) : (R.exc x e S : R α).bind f = .exc x e S := rfl
@[simp] theorem R.bind_bad {α β : Type} (f : α → Env → Store → R β) : (R.bad : R α).bind f = .bad := rfl

/-- nothing is raised out of it -/
def R.nox {α : Type} : R α → R α
  | .ok a e S => .ok a e S
  | _ => .bad
@[simp] theorem R.nox_ok {α : Type} (a : α) (e S) : (R.ok a e S).nox = .ok a e S := rfl
/-- what an expression hands on: data; a new list or dict that nothing else names; the own thing of a slot -/
inductive Out where
  | val (d : D) | new (c : Cell) | hdl (i : Nat)
def Out.fz : Out → Option D
  | .val d => some d
  | .new (.lst xs) => some (.lst xs)
  | .new (.dic kvs) => some (.dic kvs)
  | .new .dead => none
  | .hdl _ => none
/-- an argument of a primitive -/
inductive Ar where
  | d (x : D) | h (i : Nat)
def Out.ar : Out → Option Ar
  | .val d => some (.d d)
  | .new (.lst xs) => some (.d (.lst xs))
  | .new (.dic kvs) => some (.d (.dic kvs))
  | .new .dead => none
  | .hdl i => some (.h i)
def Cell.vw : Cell → Option D
  | .lst xs => some (.lst xs)
  | .dic kvs => some (.dic kvs)
  | .dead => none
/-- what an argument looks like now -/
def vw (env : Env) (S : Store) : Ar → Option D
  | .d (.loc n) => match S[n]? with
    | some c => c.vw
    | none => none
  | .d x => some x
  | .h i => match env[i]? with
    | some (.lst xs) => some (.lst xs)
    | some (.dic kvs) => some (.dic kvs)
    | _ => none

/-! ### equality -/
mutual
def D.eqb : D → D → Bool
  | .non, .non => true
  | .bl a, .bl b => a == b
  | .bl a, .int j => (if a then 1 else 0) == j
  | .int i, .bl b => i == (if b then 1 else 0)
  | .int i, .int j => i == j
  | .str x, .str y => x == y
  | .lst xs, .lst ys => D.eqbs xs ys
  | .tup xs, .tup ys => D.eqbs xs ys
  | _, _ => false
def D.eqbs : List D → List D → Bool
  | [], [] => true
  | x :: xs, y :: ys => D.eqb x y && D.eqbs xs ys
  | _, _ => false
end
mutual
/-- data that can be compared (no dicts, no objects) -/
def D.pl : D → Bool
  | .non | .bl _ | .int _ | .str _ => true
  | .lst xs | .tup xs => D.pls xs
  | _ => false
def D.pls : List D → Bool
  | [] => true
  | x :: xs => D.pl x && D.pls xs
end
mutual
def D.depth : D → Nat
  | .lst xs | .tup xs => D.depths xs + 1
  | _ => 0
def D.depths : List D → Nat
  | [] => 0
  | x :: xs => max (D.depth x) (D.depths xs)
end
/-- == of data -/
def eqD (a b : D) : Option Bool := if a.pl && b.pl && decide (min a.depth b.depth ≤ 64) then some (a.eqb b) else none
/-- a flat one: none, a bool, an int, a text -/
def D.flat : D → Bool
  | .non | .bl _ | .int _ | .str _ => true
  | _ => false
/-- may be a key -/
def D.key : D → Bool
  | .int _ | .str _ => true
  | .tup xs => xs.all fun x => match x with
    | .int _ | .str _ => true
    | _ => false
  | _ => false

/-! ### the language -/
inductive BOp where
  | add | sub | mul | fdiv | mod | pow
inductive COp where
  | eq | ne | lt | le | gt | ge | isin | notin | is | isnot
inductive UOp where
  | neg
/-- a built-in type in isinstance -/
inductive Ty where
  | int | bool | str | list | tuple | dict
inductive Bf where
  | len | list | tuple | int | str | all | any | sum
inductive Mt where
  | join | index
inductive Mu where
  | append | pop0 | popAt | extend
inductive Tg where
  | name (i : Nat) | tup (is : List Nat) | tupT (is : List Nat)
inductive Itk where
  | val | vlist | range1 | range2 | enum | zip
mutual
inductive Ex where
  | int (i : Int) | str (s : List Nat) | bl (b : Bool) | non
  | var (i : Nat) | hv (i : Nat)
  | glo (x : String)
  | bin (o : BOp) (a b : Ex) | un (o : UOp) (a : Ex) | cmp (o : COp) (a b : Ex) | cmp2 (o p : COp) (a b c : Ex)
  | and (a b : Ex) | or (a b : Ex) | not (a : Ex) | ite (c a b : Ex)
  | lst (es : List Ex) | tup (es : List Ex) | dic (kvs : List Ex)
  | idx (a b : Ex) | slc (a : Ex) (lo hi : Option Ex)
  | bf (f : Bf) (as : List Ex) | mth (m : Mt) (r : Ex) (as : List Ex) | mut (m : Mu) (r : Ex) (as : List Ex)
  | isi (a : Ex) (ts : List Ty) (one : Bool)
  | comp (elt : Ex) (tg : Tg) (k : Itk) (its : List Ex) (cond : Option Ex) (own : List Nat)
  | call (f : String) (as : List Ex) (kws : List String)
  | new (e : Ex)
  | isx (a : Ex) (c : String) | fld (a : Ex) (f : String)
  /-- the handed function called; a def called with the handed function behind the arguments; with a new lambda behind them; a def called where an exception is handled -/
  | thk (i : Nat) | callP (f : String) (as : List Ex) (i : Nat) | callT (f : String) (as : List Ex) (body : Ex) | callH (f : String) (as : List Ex)
end
mutual
inductive Stm where
  | ex (e : Ex) | asg (t : Tg) (e : Ex) | own (i : Nat) (e : Ex)
  | put (o k v : Ex)
  | ret (e : Option Ex)
  | ife (c : Ex) (a b : List Stm)
  | whl (c : Ex) (a : List Stm)
  | fr (t : Tg) (k : Itk) (its : List Ex) (a : List Stm)
  | brk | cnt | pass | nev
  /-- raise C(..); the fields that the class's __init__ stores -/
  | rai (c : String) (fs : List String) (as : List Ex)
  /-- try, except C as v: suite .. -/
  | tri (a : List Stm) (hs : List Hd)
inductive Hd where
  | mk (c : String) (v : Option Nat) (suite : List Stm)
end
structure FDef where
  np : Nat
  ns : Nat
  body : List Stm

/-! ### primitives -/
def cut {α : Type} (xs : List α) (lo hi : Option Int) : List α :=
  (xs.drop (HT.sIx xs.length 0 lo)).take (HT.sIx xs.length xs.length hi - HT.sIx xs.length 0 lo)
def intOf : D → Option Int
  | .int i => some i
  | _ => none
def strOf : D → Option (List Nat)
  | .str s => some s
  | _ => none
def blOf : D → Option Bool
  | .bl b => some b
  | _ => none
def listOf? {α : Type} (f : D → Option α) : List D → Option (List α)
  | [] => some []
  | x :: xs => match f x, listOf? f xs with
    | some y, some ys => some (y :: ys)
    | _, _ => none
def binF : BOp → D → D → Option Out
  | .add, .int i, .int j => some (.val (.int (i + j)))
  | .add, .str a, .str b => if a.length + b.length ≤ 16777216 then some (.val (.str (a ++ b))) else none
  | .add, .lst a, .lst b => if a.length + b.length ≤ 16777216 then some (.new (.lst (a ++ b))) else none
  | .add, .tup a, .tup b => if a.length + b.length ≤ 16777216 then some (.val (.tup (a ++ b))) else none
  | .sub, .int i, .int j => some (.val (.int (i - j)))
  | .mul, .str a, .int k => if -(2 ^ 63) ≤ k ∧ k < 2 ^ 63 ∧ a.length * k.toNat ≤ 16777216 then some (.val (.str (List.replicate k.toNat a).flatten)) else none
  | .mul, .lst a, .int k => if -(2 ^ 63) ≤ k ∧ k < 2 ^ 63 ∧ a.length * k.toNat ≤ 16777216 then some (.new (.lst (List.replicate k.toNat a).flatten)) else none
  | .mul, .int i, .int j => if (-(2 ^ 64) < i ∧ i < 2 ^ 64) ∨ (-(2 ^ 64) < j ∧ j < 2 ^ 64) then some (.val (.int (i * j))) else none
  | .fdiv, .int i, .int j => if 0 < j ∧ j < 1073741824 then some (.val (.int (i / j))) else none
  | .mod, .int i, .int j => if 0 < j then some (.val (.int (i % j))) else none
  | .pow, .int i, .int j => if 0 ≤ j ∧ j ≤ 1000000 ∧ i.natAbs < 2 ^ 64 then some (.val (.int (i ^ j.toNat))) else none
  | _, _, _ => none
/-- the only sign of a text of one -/
def isInF (d : D) : D → Option Bool
  | .str z => match d with
    | .str [c] => some (decide (c ∈ z))
    | _ => none
  | .lst xs => if d.pl && D.pls xs && decide (d.depth ≤ 64) then some (xs.any fun z => z.eqb d) else none
  | .tup xs => if d.flat && xs.all D.flat then some (xs.any fun z => z.eqb d) else none
  | _ => none
def isF : D → D → Option Bool
  | a, .non => match a with
    | .non => some true
    | _ => some false
  | .bl a, .bl b => some (a == b)
  | _, _ => none
def cmpF : COp → D → D → Option Bool
  | .eq, a, b => eqD a b
  | .ne, a, b => (eqD a b).map (!·)
  | .lt, .int i, .int j => some (decide (i < j))
  | .le, .int i, .int j => some (decide (i ≤ j))
  | .gt, .int i, .int j => some (decide (j < i))
  | .ge, .int i, .int j => some (decide (j ≤ i))
  | .isin, a, b => isInF a b
  | .notin, a, b => (isInF a b).map (!·)
  | .is, a, b => isF a b
  | .isnot, a, b => (isF a b).map (!·)
  | _, _, _ => none
def unF : UOp → D → Option Out
  | .neg, .int i => some (.val (.int (-i)))
  | _, _ => none
def idxF : D → D → Option D
  | .lst xs, .int i => L2.atI xs i
  | .tup xs, .int i => L2.atI xs i
  | .str s, .int i => (L2.atI s i).map fun c => .str [c]
  | _, _ => none
def slcF : D → Option Int → Option Int → Option Out
  | .lst xs, lo, hi => some (.new (.lst (cut xs lo hi)))
  | .str s, lo, hi => some (.val (.str (cut s lo hi)))
  | .tup xs, lo, hi => some (.val (.tup (cut xs lo hi)))
  | _, _, _ => none
def tyOf : D → Option Ty
  | .bl _ => some .bool
  | .int _ => some .int
  | .str _ => some .str
  | .lst _ => some .list
  | .tup _ => some .tuple
  | .dic _ => some .dict
  | _ => none
def isTy : D → Ty → Option Bool
  | .non, _ => some false
  | .bl _, t => some (match t with | .bool | .int => true | _ => false)
  | .int _, t => some (match t with | .int => true | _ => false)
  | .str _, t => some (match t with | .str => true | _ => false)
  | .lst _, t => some (match t with | .list => true | _ => false)
  | .tup _, t => some (match t with | .tuple => true | _ => false)
  | .dic _, t => some (match t with | .dict => true | _ => false)
  | _, _ => none
def isAny (d : D) : List Ty → Option Bool
  | [] => some false
  | t :: ts => match isTy d t with
    | some true => some true
    | some false => isAny d ts
    | none => none
abbrev joinS := TL.joinL
def bf1 : Bf → D → Option Out
  | .len, .lst xs => some (.val (.int xs.length))
  | .len, .tup xs => some (.val (.int xs.length))
  | .len, .str s => some (.val (.int s.length))
  | .list, .scr ns => some (.new (.lst (ns.map .int)))
  | .list, .lst xs => some (.new (.lst xs))
  | .list, .tup xs => some (.new (.lst xs))
  | .list, .str s => some (.new (.lst (s.map fun c => .str [c])))
  | .tuple, .lst xs => some (.val (.tup xs))
  | .tuple, .tup xs => some (.val (.tup xs))
  | .int, .int i => some (.val (.int i))
  | .int, .bl b => some (.val (.int (if b then 1 else 0)))
  | .int, .str s => if s ≠ [] ∧ s.length ≤ 640 ∧ s.all (fun c => decide (48 ≤ c) && decide (c ≤ 57)) = true then some (.val (.int ((PySem.NumText.digitsVal s : Nat) : Int))) else none
  | .str, .int i => if 0 ≤ i ∧ i < 2 ^ 1000 then some (.val (.str (TL.numL i.toNat))) else none
  | .str, .str s => some (.val (.str s))
  | .all, .lst xs => (listOf? blOf xs).map fun bs => .val (.bl (bs.all id))
  | .any, .lst xs => (listOf? blOf xs).map fun bs => .val (.bl (bs.any id))
  | .sum, .lst xs => (listOf? intOf xs).map fun is => .val (.int is.sum)
  | _, _ => none
def bfF (f : Bf) : List D → Option Out
  | [d] => bf1 f d
  | _ => none
def mt1 : Mt → D → D → Option Out
  | .join, .str sep, .lst xs => (listOf? strOf xs).bind fun ss =>
    if (ss.map List.length).sum + ss.length * sep.length ≤ 16777216 then some (.val (.str (joinS sep ss))) else none
  | .index, .str a, .str [c] => if c ∈ a then some (.val (.int (a.idxOf c : Nat))) else none
  | _, _, _ => none
def mtF (m : Mt) (r : D) : List D → Option Out
  | [d] => mt1 m r d
  | _ => none
/-- a change of a list by one argument: what it holds then, what is handed back -/
def mu1 : Mu → List D → D → Option (Cell × D)
  | .append, xs, d => if xs.length < 16777216 then some (.lst (xs ++ [d]), .non) else none
  | .popAt, xs, .int i => if -(2 ^ 63) ≤ i ∧ i < 2 ^ 63 then (PySem.seqIndex? i xs.length).bind fun k => (xs[k]?).map fun y => (.lst (xs.eraseIdx k), y) else none
  | .extend, xs, .lst ys => if xs.length + ys.length ≤ 16777216 then some (.lst (xs ++ ys), .non) else none
  | _, _, _ => none
def mu0 : Mu → List D → Option (Cell × D)
  | .pop0, xs => (xs[xs.length - 1]?).map fun y => (.lst xs.dropLast, y)
  | _, _ => none
def muF (m : Mu) : Cell → List D → Option (Cell × D)
  | .lst xs, [] => mu0 m xs
  | .lst xs, [d] => mu1 m xs d
  | _, _ => none
/-- d[k] = v -/
def putF : Cell → D → D → Option Cell
  | .lst xs, .int i, v => (L2.ixN xs.length i).map fun k => .lst (xs.set k v)
  | _, _, _ => none
/-- what is walked -/
def it1 (k : Itk) (d : D) : Option (List D) := match k with
  | .val => match d with
    | .lst xs => some xs
    | .tup xs => some xs
    | .str s => some (s.map fun c => .str [c])
    | _ => none
  | .vlist => match d with
    | .lst xs => some xs
    | _ => none
  | .range1 => match d with
    | .int n => if -(2 ^ 62) ≤ n ∧ n ≤ 16777216 then some ((List.range n.toNat).map fun (k : Nat) => .int k) else none
    | _ => none
  | .enum => match d with
    | .lst xs => some (xs.zipIdx.map fun p => .tup [.int p.2, p.1])
    | _ => none
  | _ => none
def it2 (k : Itk) (d e : D) : Option (List D) := match k with
  | .range2 => match d, e with
    | .int a, .int b => if -(2 ^ 62) ≤ a ∧ a < 2 ^ 62 ∧ -(2 ^ 62) ≤ b ∧ b < 2 ^ 62 ∧ b - a ≤ 16777216 then some ((List.range (b - a).toNat).map fun (k : Nat) => .int (a + k)) else none
    | _, _ => none
  | .zip => match d, e with
    | .lst xs, .lst ys => some ((xs.zip ys).map fun p => .tup [p.1, p.2])
    | .tup xs, .tup ys => some ((xs.zip ys).map fun p => .tup [p.1, p.2])
    | _, _ => none
  | _ => none
def itF (k : Itk) : List D → Option (List D)
  | [d] => it1 k d
  | [d, e] => it2 k d e
  | _ => none

/-! ### slots -/
def rd (env : Env) (i : Nat) : Option (D × Env) := match env[i]? with
  | some (.dat d) => some (d, env)
  | some (.lst xs) => some (.lst xs, env.set i (.dat (.lst xs)))
  | some (.dic kvs) => some (.dic kvs, env.set i (.dat (.dic kvs)))
  | _ => none
def setNames : List Nat → List D → Env → Option Env
  | [], [], env => some env
  | i :: is, d :: ds, env => setNames is ds (env.set i (.dat d))
  | _, _, _ => none
/-- a target's names take a value -/
def bindTg (t : Tg) (d : D) (env : Env) : Option Env := match t, d with
  | .name i, d => some (env.set i (.dat d))
  | .tup is, .tup ds => setNames is ds env
  | .tupT is, .tup ds => setNames is ds env
  | .tup is, .lst ds => setNames is ds env
  | _, _ => none
def wipeE (env : Env) : List Nat → Env
  | [] => env
  | v :: vs => (wipeE env vs).set v .no
/-- the slots vs as they were -/
def backE (old env : Env) : List Nat → Env
  | [] => env
  | v :: vs => (backE old env vs).set v (old.getD v .no)
/-- a slot with nothing of its own -/
def plainSl (env : Env) (i : Nat) : Bool := match env[i]? with
  | some (.lst _) => false
  | some (.dic _) => false
  | _ => true
def cellAt (env : Env) (S : Store) : Ar → Option Cell
  | .d (.loc n) => S[n]?
  | .d _ => none
  | .h i => match env[i]? with
    | some (.lst xs) => some (.lst xs)
    | some (.dic kvs) => some (.dic kvs)
    | _ => none
def Cell.sl : Cell → Sl
  | .lst xs => .lst xs
  | .dic kvs => .dic kvs
  | .dead => .no
def cellPut (env : Env) (S : Store) (a : Ar) (c : Cell) : Env × Store := match a with
  | .d (.loc n) => (env, S.set n c)
  | .d _ => (env, S)
  | .h i => (env.set i c.sl, S)

/-- may be the receiver of the method -/
def mtRecv : Mt → Option D → Bool
  | .join, some (.str _) => true
  | .index, some (.str _) => true
  | _, _ => false
def isLst : Option Cell → Bool
  | some (.lst _) => true
  | _ => false

/-! ### running -/
/-- how calls are answered -/
inductive RC where
  | ok (d : D) (S : Store) | exc (x : Exn) (S : Store) | bad
structure Calls where
  /-- a def; one that is handed what we were handed; one that is handed a new function; what we were handed; a def where an exception is handled -/
  fn : String → List D → Store → RC
  ps : String → List D → Store → RC
  lam : String → List D → (Store → RC) → Store → RC
  th : Store → RC
  hot : String → List D → Store → RC
/-- which class an exception's class is (below) -/
abbrev Sub := String → String → Bool
def RC.r (env : Env) : RC → R Out
  | .ok d S => .ok (.val d) env S
  | .exc x S => .exc x env S
  | .bad => .bad
def ofO {α : Type} (o : Option α) (env : Env) (S : Store) : R α := match o with
  | some a => .ok a env S
  | none => .bad
@[simp] theorem ofO_some {α : Type} (a : α) (env S) : ofO (some a) env S = .ok a env S := rfl
@[simp] theorem ofO_none {α : Type} (env S) : ofO (none : Option α) env S = .bad := rfl
def vws (env : Env) (S : Store) : List Ar → Option (List D)
  | [] => some []
  | a :: as => match vw env S a, vws env S as with
    | some d, some ds => some (d :: ds)
    | _, _ => none
def ards : List Ar → Option (List D)
  | [] => some []
  | .d x :: as => (ards as).map (x :: ·)
  | .h _ :: _ => none
/-- a comprehension's turns: f gives an element or passes -/
def turns (f : D → Env → Store → R (Option D)) : List D → Env → Store → R (List D)
  | [], env, S => .ok [] env S
  | x :: xs, env, S => (f x env S).bind fun o env S => (turns f xs env S).bind fun ys env S => .ok (match o with | some y => y :: ys | none => ys) env S
/-- globals' values -/
abbrev Glos := String → Option D

def R.fz (r : R Out) : R D := r.bind fun o env S => ofO o.fz env S
def R.ar (r : R Out) : R Ar := r.bind fun o env S => ofO o.ar env S
def R.bl (r : R Out) : R Bool := r.bind fun o env S => match o with
  | .val (.bl b) => .ok b env S
  | _ => .bad
/-- k, v, k, v .. by pairs -/
def pairD : List D → Option (List (D × D))
  | [] => some []
  | k :: v :: r => (pairD r).map ((k, v) :: ·)
  | _ => none
def keyD : D → Bool
  | .int _ | .str _ => true
  | _ => false
/-- the handled exception asked -/
def exIs : D → String → Option Out
  | .exo k _, c => some (.val (.bl (k == c)))
  | _, _ => none
def exFld : D → String → Option Out
  | .exo _ fs, f => (fs.lookup f).map .val
  | _, _ => none
mutual
/-- no handled exception in it -/
def D.noX : D → Bool
  | .exo _ _ => false
  | .lst xs | .tup xs => D.noXs xs
  | .dic kvs => D.noXk kvs
  | _ => true
def D.noXs : List D → Bool
  | [] => true
  | x :: xs => D.noX x && D.noXs xs
def D.noXk : List (D × D) → Bool
  | [] => true
  | (a, b) :: xs => D.noX a && D.noX b && D.noXk xs
end
def Cell.noX : Cell → Bool
  | .lst xs => D.noXs xs
  | .dic kvs => D.noXk kvs
  | .dead => true
def exoArg : List D → Bool
  | [.exo _ _] => true
  | _ => false
/-- a run's answer to a caller -/
def R.rc : R D → RC
  | .ok d _ S => .ok d S
  | .exc x _ S => .exc x S
  | .bad => .bad
/-- a lambda's names: what is data -/
def Sl.thin : Sl → Sl
  | .dat d => .dat d
  | _ => .no
def isThk (env : Env) (i : Nat) : Bool := match env[i]? with
  | some .thk => true
  | _ => false
/-- ints and texts, each once -/
def keysOk : List (D × D) → Bool
  | [] => true
  | (k, _) :: r => keyD k && r.all (fun p => !(k.eqb p.1)) && keysOk r
section
variable (C : Calls) (g : Glos)
mutual
def evO : Ex → Env → Store → R Out
  | .int i, env, S => .ok (.val (.int i)) env S
  | .str s, env, S => .ok (.val (.str s)) env S
  | .bl b, env, S => .ok (.val (.bl b)) env S
  | .non, env, S => .ok (.val .non) env S
  | .var i, env, S => match rd env i with
    | some (d, env') => .ok (.val d) env' S
    | none => .bad
  | .hv i, env, S => match env[i]? with
    | some (.lst _) => .ok (.hdl i) env S
    | some (.dic _) => .ok (.hdl i) env S
    | some (.dat d) => .ok (.val d) env S
    | _ => .bad
  | .glo x, env, S => ofO ((g x).map .val) env S
  | .bin o a b, env, S => (evO a env S).ar.bind fun x env S => (evO b env S).ar.bind fun y env S => ofO ((vw env S x).bind fun u => (vw env S y).bind fun v => binF o u v) env S
  | .un o a, env, S => (evO a env S).ar.bind fun x env S => ofO ((vw env S x).bind (unF o)) env S
  | .cmp o a b, env, S => (evO a env S).ar.bind fun x env S => (evO b env S).ar.bind fun y env S => ofO ((vw env S x).bind fun u => (vw env S y).bind fun v => (cmpF o u v).map fun r => .val (.bl r)) env S
  | .cmp2 o p a b c, env, S => (evO a env S).ar.bind fun x env S => (evO b env S).ar.bind fun y env S => (ofO ((vw env S x).bind fun u => (vw env S y).bind fun v => cmpF o u v) env S).bind fun r env S =>
    if r then (evO c env S).ar.bind fun z env S => ofO ((vw env S y).bind fun u => (vw env S z).bind fun v => (cmpF p u v).map fun r => .val (.bl r)) env S else .ok (.val (.bl false)) env S
  | .and a b, env, S => (evO a env S).bl.bind fun r env S => if r then evO b env S else .ok (.val (.bl false)) env S
  | .or a b, env, S => (evO a env S).bl.bind fun r env S => if r then .ok (.val (.bl true)) env S else evO b env S
  | .not a, env, S => (evO a env S).bl.bind fun r env S => .ok (.val (.bl (!r))) env S
  | .ite c a b, env, S => (evO c env S).bl.bind fun r env S => if r then evO a env S else evO b env S
  | .lst es, env, S => (evDs es env S).bind fun ds env S => .ok (.new (.lst ds)) env S
  | .tup es, env, S => (evDs es env S).bind fun ds env S => .ok (.val (.tup ds)) env S
  | .dic es, env, S => (evDs es env S).nox.bind fun ds env S => match pairD ds with
    | some kvs => if keysOk kvs then .ok (.new (.dic kvs)) env S else .bad
    | none => .bad
  | .idx a b, env, S => (evO a env S).ar.bind fun x env S => (evO b env S).ar.bind fun y env S => ofO ((vw env S x).bind fun u => (vw env S y).bind fun v => (idxF u v).map .val) env S
  | .slc a lo hi, env, S => (evO a env S).ar.bind fun x env S => (evP lo env S).bind fun l env S => (evP hi env S).bind fun h env S => ofO ((vw env S x).bind fun u => slcF u l h) env S
  | .bf f as, env, S => (evAs as env S).bind fun xs env S => ofO ((vws env S xs).bind (bfF f)) env S
  | .mth m r as, env, S => (evO r env S).ar.bind fun x env S => if mtRecv m (vw env S x) then (evAs as env S).bind fun xs env S => ofO ((vw env S x).bind fun u => (vws env S xs).bind (mtF m u)) env S else .bad
  | .mut m r as, env, S => (evO r env S).ar.bind fun x env S => if isLst (cellAt env S x) then (evDs as env S).bind fun ds env S => match (cellAt env S x).bind fun c => muF m c ds with
    | some (c, d) => .ok (.val d) (cellPut env S x c).1 (cellPut env S x c).2
    | none => .bad else .bad
  | .isi a ts _, env, S => (evO a env S).ar.bind fun x env S => ofO ((vw env S x).bind fun u => (isAny u ts).map fun r => .val (.bl r)) env S
  | .comp elt tg k its cond own, env, S => (evDs its env S).bind fun xs env S => match itF k xs with
    | none => .bad
    | some ds => if own.all (plainSl env) then (turns (fun d env S => match bindTg tg d (wipeE env own) with
        | none => .bad
        | some env => (evC cond env S).bind fun r env S => if r then (evO elt env S).fz.bind fun y env S => .ok (some y) env S else .ok none env S) ds env S).nox.bind fun ys env' S => .ok (.new (.lst ys)) (backE env env' own) S else .bad
  | .call f as kws, env, S => (evDs as env S).bind fun ds env S => (C.fn f ds S).r env
  | .new e, env, S => (evO e env S).bind fun o env S => match o with
    | .new (.lst xs) => .ok (.val (.loc S.length)) env (S ++ [.lst xs])
    | _ => .bad
  | .isx a c, env, S => (evO a env S).ar.bind fun x env S => ofO ((vw env S x).bind fun u => exIs u c) env S
  | .fld a f, env, S => (evO a env S).ar.bind fun x env S => ofO ((vw env S x).bind fun u => exFld u f) env S
  | .thk i, env, S => if isThk env i then (C.th S).r env else .bad
  | .callP f as i, env, S => (evDs as env S).bind fun ds env S => if isThk env i then (C.ps f ds S).r env else .bad
  | .callT f as b, env, S => (evDs as env S).bind fun ds env S => (C.lam f ds (fun S => (evO b (env.map Sl.thin) S).fz.rc) S).r env
  | .callH f as, env, S => (evDs as env S).bind fun ds env S => if exoArg ds && S.all Cell.noX then (C.hot f ds S).r env else .bad
termination_by structural e => e
def evC : Option Ex → Env → Store → R Bool
  | none, env, S => .ok true env S
  | some c, env, S => (evO c env S).bl
termination_by structural e => e
def evP : Option Ex → Env → Store → R (Option Int)
  | none, env, S => .ok none env S
  | some e, env, S => (evO e env S).fz.bind fun d env S => ofO ((intOf d).map some) env S
termination_by structural e => e
def evDs : List Ex → Env → Store → R (List D)
  | [], env, S => .ok [] env S
  | e :: es, env, S => (evO e env S).fz.bind fun d env S => (evDs es env S).bind fun ds env S => .ok (d :: ds) env S
termination_by structural e => e
def evAs : List Ex → Env → Store → R (List Ar)
  | [], env, S => .ok [] env S
  | e :: es, env, S => (evO e env S).ar.bind fun d env S => (evAs es env S).bind fun ds env S => .ok (d :: ds) env S
termination_by structural e => e
end
abbrev evD (e : Ex) (env : Env) (S : Store) : R D := (evO C g e env S).fz
abbrev evA (e : Ex) (env : Env) (S : Store) : R Ar := (evO C g e env S).ar
abbrev evB (e : Ex) (env : Env) (S : Store) : R Bool := (evO C g e env S).bl

/-- how a statement ends -/
inductive Fl where
  | nxt | ret (d : D) | brk | cnt
def Sl.noX : Sl → Bool
  | .dat d => d.noX
  | .lst xs => D.noXs xs
  | .dic kvs => D.noXk kvs
  | _ => true
def Fl.noX : Fl → Bool
  | .ret d => d.noX
  | _ => true
/-- an except suite's start: the exception has the name; its end: the name is gone -/
def asEnv (v : Option Nat) (x : Exn) (env : Env) : Env := match v with
  | some i => env.set i (.dat (.exo x.cls x.fs))
  | none => env
def offEnv (v : Option Nat) (env : Env) : Env := match v with
  | some i => env.set i .no
  | none => env
def lowF (v : Option Nat) : R Fl → R Fl
  | .ok fl env S => if fl.noX && (offEnv v env).all Sl.noX && S.all Cell.noX then .ok fl (offEnv v env) S else .bad
  | _ => .bad
/-- a loop's turns over what it walks -/
def loopF (f : D → Env → Store → R Fl) : List D → Env → Store → R Fl
  | [], env, S => .ok .nxt env S
  | x :: xs, env, S => (f x env S).bind fun fl env S => match fl with
    | .nxt | .cnt => loopF f xs env S
    | .brk => .ok .nxt env S
    | .ret d => .ok (.ret d) env S
/-- a while's turns, at most so many -/
def loopW (c : Env → Store → R Bool) (f : Env → Store → R Fl) : Nat → Env → Store → R Fl
  | 0, _, _ => .bad
  | n + 1, env, S => (c env S).bind fun b env S => if b then (f env S).bind fun fl env S => match fl with
    | .nxt | .cnt => loopW c f n env S
    | .brk => .ok .nxt env S
    | .ret d => .ok (.ret d) env S else .ok .nxt env S
variable (w : Nat)
variable (sub : Sub)
mutual
def exS : Stm → Env → Store → R Fl
  | .ex e, env, S => (evO C g e env S).fz.bind fun _ env S => .ok .nxt env S
  | .asg t e, env, S => (evO C g e env S).fz.bind fun d env S => (ofO (bindTg t d env) env S).bind fun env' _ S => .ok .nxt env' S
  | .own i e, env, S => (evO C g e env S).bind fun o env S => match o with
    | .new (.lst xs) => .ok .nxt (env.set i (.lst xs)) S
    | _ => .bad
  | .put o k v, env, S => (evO C g v env S).fz.bind fun d env S => (evO C g o env S).ar.bind fun x env S => (evO C g k env S).fz.bind fun kd env S => match (cellAt env S x).bind fun c => putF c kd d with
    | some c => .ok .nxt (cellPut env S x c).1 (cellPut env S x c).2
    | none => .bad
  | .ret none, env, S => .ok (.ret .non) env S
  | .ret (some e), env, S => (evO C g e env S).fz.bind fun d env S => .ok (.ret d) env S
  | .ife c a b, env, S => (evO C g c env S).bl.bind fun r env S => if r then exSs a env S else exSs b env S
  | .whl c a, env, S => loopW (fun env S => (evO C g c env S).bl) (fun env S => exSs a env S) w env S
  | .fr t k its a, env, S => (evDs C g its env S).bind fun xs env S => match itF k xs with
    | none => .bad
    | some ds => loopF (fun d env S => match bindTg t d env with
      | none => .bad
      | some env => exSs a env S) ds env S
  | .brk, env, S => .ok .brk env S
  | .cnt, env, S => .ok .cnt env S
  | .pass, env, S => .ok .nxt env S
  | .nev, _, _ => .bad
  | .rai c fs as, env, S => (evDs C g as env S).nox.bind fun ds env S => if ds.length = fs.length then .exc ⟨c, (fs.zip ds).reverse⟩ env S else .bad
  | .tri a hs, env, S => match exSs a env S with
    | .exc x env S => exHs hs x env S
    | r => r
termination_by structural e => e
def exHs : List Hd → Exn → Env → Store → R Fl
  | [], x, env, S => .exc x env S
  | h :: hs, x, env, S => match exH h x env S with
    | some r => r
    | none => exHs hs x env S
termination_by structural e => e
def exH : Hd → Exn → Env → Store → Option (R Fl)
  | .mk c v a, x, env, S => if sub x.cls c then some (lowF v (exSs a (asEnv v x env) S)) else none
termination_by structural e => e
def exSs : List Stm → Env → Store → R Fl
  | [], env, S => .ok .nxt env S
  | s :: ss, env, S => (exS s env S).bind fun fl env S => match fl with
    | .nxt => exSs ss env S
    | .brk => .ok .brk env S
    | .cnt => .ok .cnt env S
    | .ret d => .ok (.ret d) env S
termination_by structural e => e
end
end
/-- a program: its defs by name -/
abbrev Prog := String → Option FDef
def startE (ns : Nat) (ds : List D) : Env := ds.map .dat ++ List.replicate (ns - ds.length) .no
/-- .. with a function handed behind the arguments -/
def startT (ns : Nat) (ds : List D) : Env := ds.map .dat ++ (.thk :: List.replicate (ns - ds.length - 1) .no)
def endR : R Fl → RC
  | .ok (.ret d) _ S => .ok d S
  | .ok .nxt _ S => .ok .non S
  | .exc x _ S => .exc x S
  | _ => .bad
/-- the answer of a hot def: nothing of the handled exception in it -/
def lowR : RC → RC
  | .ok d S => if D.noX d && S.all Cell.noX then .ok d S else .bad
  | _ => .bad
def badC : Calls := ⟨fun _ _ _ => .bad, fun _ _ _ => .bad, fun _ _ _ _ => .bad, fun _ => .bad, fun _ _ _ => .bad⟩
section
variable (Γ : Prog) (g : Glos) (w : Nat) (sub : Sub)
/-- a def where an exception is handled: it calls none -/
def callX (f : String) (ds : List D) (S : Store) : RC := match Γ f with
  | none => .bad
  | some fd => match ds with
    | [.exo k fs] => lowR (endR (exSs badC g w sub fd.body (startE fd.ns [.exo k fs]) S))
    | _ => .bad
/-- a def that is handed a function: so many of them one in another; Cn: what answers its other calls -/
def callT (Cn : String → List D → Store → RC) : Nat → String → List D → (Store → RC) → Store → RC
  | 0, _, _, _, _ => .bad
  | j + 1, f, ds, T, S => match Γ f with
    | none => .bad
    | some fd => if ds.length + 1 = fd.np then endR (exSs ⟨Cn, fun f ds S => callT Cn j f ds T S, fun _ _ _ _ => .bad, T, callX Γ g w sub⟩ g w sub fd.body (startT fd.ns ds) S) else .bad
/-- how calls are answered at a level -/
def lvl (Cn : String → List D → Store → RC) : Calls := ⟨Cn, fun _ _ _ => .bad, callT Γ g w sub Cn 2, fun _ => .bad, callX Γ g w sub⟩
def lvlT (Cn : String → List D → Store → RC) (j : Nat) (T : Store → RC) : Calls := ⟨Cn, fun f ds S => callT Γ g w sub Cn j f ds T S, fun _ _ _ _ => .bad, T, callX Γ g w sub⟩
def callF : Nat → String → List D → Store → RC
  | 0, _, _, _ => .bad
  | n + 1, f, ds, S => match Γ f with
    | none => .bad
    | some fd => if ds.length = fd.np then endR (exSs (lvl Γ g w sub (callF n)) g w sub fd.body (startE fd.ns ds) S) else .bad
theorem callT_succ (Cn : String → List D → Store → RC) (j : Nat) (f : String) (ds : List D) (T : Store → RC) (S : Store) : callT Γ g w sub Cn (j + 1) f ds T S = match Γ f with
    | none => .bad
    | some fd => if ds.length + 1 = fd.np then endR (exSs (lvlT Γ g w sub Cn j T) g w sub fd.body (startT fd.ns ds) S) else .bad := rfl
end
end Pf
/-! Pf, part B: how data lies in the abstract heap; the state of a run. -/
namespace Pf
open PySem PySem.Spec PyProof.Rows L2

def txt (s : List Nat) : Str := ⟨s.toArray⟩
@[simp] theorem txt_len (s : List Nat) : (txt s).length = s.length := by simp [txt, PySem.Str.length]
@[simp] theorem txt_list (s : List Nat) : (txt s).cps.toList = s := by simp [txt]
def okS (s : List Nat) : Bool := decide (s.length ≤ 16777216) && s.all fun c => decide (c < 0x110000)
theorem okS_len {s : List Nat} (h : okS s = true) : s.length ≤ 16777216 := by
  unfold okS at h; simp only [Bool.and_eq_true, decide_eq_true_eq] at h; exact h.1
theorem okS_all {s : List Nat} (h : okS s = true) : ∀ c ∈ s, c < 0x110000 := by
  unfold okS at h; simp only [Bool.and_eq_true, decide_eq_true_eq, List.all_eq_true] at h; exact h.2
theorem okS_mk {s : List Nat} (h1 : s.length ≤ 16777216) (h2 : ∀ c ∈ s, c < 0x110000) : okS s = true := by
  unfold okS; simp only [Bool.and_eq_true, decide_eq_true_eq, List.all_eq_true]; exact ⟨h1, h2⟩
theorem okS_sub {s t : List Nat} (h : okS s = true) (hl : t.length ≤ s.length) (hm : ∀ c ∈ t, c ∈ s) : okS t = true :=
  okS_mk (Nat.le_trans hl (okS_len h)) fun c hc => okS_all h c (hm c hc)
theorem okS_app {s t : List Nat} (h : okS s = true) (h' : okS t = true) (hl : s.length + t.length ≤ 16777216) : okS (s ++ t) = true :=
  okS_mk (by simpa using hl) fun c hc => (List.mem_append.mp hc).elim (okS_all h c) (okS_all h' c)
theorem okS_one {s : List Nat} {c : Nat} (h : okS s = true) (hc : c ∈ s) : okS [c] = true :=
  okS_mk (by simp) fun d hd => by
    have : d = c := by simpa using hd
    subst this; exact okS_all h _ hc

def Le (F F' : Hp) : Prop := ∀ a o, F a = some o → F' a = some o
theorem Le.refl {F : Hp} : Le F F := fun _ _ h => h
theorem Le.trans {F F' F'' : Hp} (h : Le F F') (h' : Le F' F'') : Le F F'' := fun a o e => h' a o (h a o e)
theorem Le.upd {F : Hp} {a : Addr} {o : HO} (h : F a = none) : Le F (upd F a o) := fun b u e => by
  rw [upd_ne (ne_of_none e h)]; exact e
theorem Le.rd {F F' : Hp} (h : Le F F') {a : Addr} {u : HO} (r : Rd F a u) : Rd F' a u := by
  rcases r with r | ⟨o, r⟩
  · exact .inl (h _ _ r)
  · exact .inr ⟨o, h _ _ r⟩
theorem Le.sqL {F F' : Hp} (h : Le F F') {K : PySem.W.Frag} {a : Addr} {xs : List V} (r : SqL K F a xs) : SqL K F' a xs := by
  rcases r with r | r
  · exact .inl (h.rd r)
  · exact .inr r
theorem Le.sqT {F F' : Hp} (h : Le F F') {K : PySem.W.Frag} {a : Addr} {xs : List V} (r : SqT K F a xs) : SqT K F' a xs := by
  rcases r with r | r
  · exact .inl (h.rd r)
  · exact .inr r

/-- an exception that is handled: where it lies, its class's name, its own dict -/
structure XO where
  a : Addr
  cls : String
  d : Option Addr
/-- where a def that was handed a function runs: the function's address, what stood at the call; everywhere: the tables of code objects -/
structure FL where
  th : Option Addr
  F : Hp
  ρ : List Addr
  G : Hp
  tb : List (Addr × Str)
def FL.z (tb : List (Addr × Str)) : FL := ⟨none, fun _ => none, [], fun _ => none, tb⟩
/-- may change: no table, no code object -/
def Chg : HO → Prop
  | .tbl _ => False
  | .ext _ => False
  | _ => True
/-- no table -/
def NT (o : HO) : Prop := ∀ ps, o ≠ .tbl ps
structure Flo (fl : FL) (F : Hp) (ρ : List Addr) (G H : Hp) : Prop where
  hF : Le fl.F F
  hρ : fl.ρ <+: ρ
  hG : Le fl.G G
  tb : LamX.Tabs fl.tb H
  gc : ∀ a o, G a = some o → Chg o
  fc : ∀ a o, F a = some o → NT o
/-- the written part; the exception that is handled, if any -/
structure KX where
  K : PySem.W.Frag
  xo : Option XO
  fl : FL
instance : Coe KX PySem.W.Frag := ⟨KX.K⟩
mutual
inductive Rep (K : KX) (F : Hp) (ρ : List Addr) : V → D → Prop
  | non : Rep K F ρ .non .non
  | bl (b : Bool) : Rep K F ρ (.bl b) (.bl b)
  | int (i : Int) : Rep K F ρ (.int i) (.int i)
  | str {s : List Nat} (h : okS s = true) : Rep K F ρ (.str (txt s)) (.str s)
  | lst {a : Addr} {xs : List V} {ds : List D} (h : F a = some (.lst xs)) (hl : xs.length ≤ 16777216) (r : Reps K F ρ xs ds) : Rep K F ρ (.ref a) (.lst ds)
  | tup {a : Addr} {xs : List V} {ds : List D} (h : SqT K F a xs) (hl : xs.length ≤ 16777216) (r : Reps K F ρ xs ds) : Rep K F ρ (.ref a) (.tup ds)
  | scr {a : Addr} {ns : List Int} (h : SqL K F a (ns.map V.int)) (hl : ns.length ≤ 16777216) : Rep K F ρ (.ref a) (.scr ns)
  | loc {a : Addr} {n : Nat} (h : ρ[n]? = some a) : Rep K F ρ (.ref a) (.loc n)
  | dic {a : Addr} {kvs : List (Key × V)} {ds : List (D × D)} (h : F a = some (.dK kvs)) (hl : kvs.length ≤ 16777216) (r : RepKs K F ρ kvs ds) : Rep K F ρ (.ref a) (.dic ds)
  | exo0 {x : XO} (h : K.xo = some x) (hd : x.d = none) : Rep K F ρ (.ref x.a) (.exo x.cls [])
  | exo {x : XO} {dd : Addr} {vs : List (Str × V)} {fs : List (String × D)} (h : K.xo = some x) (hd : x.d = some dd) (hF : F dd = some (.xd vs)) (r : RepFs K F ρ vs fs) : Rep K F ρ (.ref x.a) (.exo x.cls fs)
inductive Reps (K : KX) (F : Hp) (ρ : List Addr) : List V → List D → Prop
  | nil : Reps K F ρ [] []
  | cons {x : V} {xs : List V} {d : D} {ds : List D} (h : Rep K F ρ x d) (t : Reps K F ρ xs ds) : Reps K F ρ (x :: xs) (d :: ds)
inductive RepKs (K : KX) (F : Hp) (ρ : List Addr) : List (Key × V) → List (D × D) → Prop
  | nil : RepKs K F ρ [] []
  | cons {k : Key} {v : V} {r : List (Key × V)} {d e : D} {ds : List (D × D)} (hk : Rep K F ρ (kV k) d) (h : Rep K F ρ v e) (t : RepKs K F ρ r ds) : RepKs K F ρ ((k, v) :: r) ((d, e) :: ds)
inductive RepFs (K : KX) (F : Hp) (ρ : List Addr) : List (Str × V) → List (String × D) → Prop
  | nil : RepFs K F ρ [] []
  | cons {f : String} {v : V} {r : List (Str × V)} {e : D} {ds : List (String × D)} (h : Rep K F ρ v e) (t : RepFs K F ρ r ds) : RepFs K F ρ ((Str.ofString f, v) :: r) ((f, e) :: ds)
end
variable {K : KX} {F F' G H H' : Hp} {ρ ρ' : List Addr} {σ : L2.St} {env env' : Env} {S S' : Store} {v u x y : V} {d e : D} {xs ys : List V} {ds es : List D}

mutual
theorem Rep.mono (hF : Le F F') (hρ : ρ <+: ρ') : ∀ {v : V} {d : D}, Rep K F ρ v d → Rep K F' ρ' v d
  | _, _, .non => .non
  | _, _, .bl b => .bl b
  | _, _, .int i => .int i
  | _, _, .str h => .str h
  | _, _, .lst h hl r => .lst (hF _ _ h) hl (Reps.mono hF hρ r)
  | _, _, .tup h hl r => .tup (hF.sqT h) hl (Reps.mono hF hρ r)
  | _, _, .scr h hl => .scr (hF.sqL h) hl
  | _, _, .loc h => .loc (by
      obtain ⟨t, rfl⟩ := hρ
      rw [List.getElem?_append_left (List.getElem?_eq_some_iff.mp h).1]; exact h)
  | _, _, .dic h hl r => .dic (hF _ _ h) hl (RepKs.mono hF hρ r)
  | _, _, .exo0 h hd => .exo0 h hd
  | _, _, .exo h hd e r => .exo h hd (hF _ _ e) (RepFs.mono hF hρ r)
theorem Reps.mono (hF : Le F F') (hρ : ρ <+: ρ') : ∀ {xs : List V} {ds : List D}, Reps K F ρ xs ds → Reps K F' ρ' xs ds
  | _, _, .nil => .nil
  | _, _, .cons h t => .cons (Rep.mono hF hρ h) (Reps.mono hF hρ t)
theorem RepKs.mono (hF : Le F F') (hρ : ρ <+: ρ') : ∀ {xs : List (Key × V)} {ds : List (D × D)}, RepKs K F ρ xs ds → RepKs K F' ρ' xs ds
  | _, _, .nil => .nil
  | _, _, .cons hk h t => .cons (Rep.mono hF hρ hk) (Rep.mono hF hρ h) (RepKs.mono hF hρ t)
theorem RepFs.mono (hF : Le F F') (hρ : ρ <+: ρ') : ∀ {xs : List (Str × V)} {ds : List (String × D)}, RepFs K F ρ xs ds → RepFs K F' ρ' xs ds
  | _, _, .nil => .nil
  | _, _, .cons h t => .cons (Rep.mono hF hρ h) (RepFs.mono hF hρ t)
end
theorem Reps.length : ∀ {xs : List V} {ds : List D}, Reps K F ρ xs ds → xs.length = ds.length
  | _, _, .nil => rfl
  | _, _, .cons _ t => by rw [List.length_cons, List.length_cons, Reps.length t]
theorem Reps.append : ∀ {xs ys : List V} {ds es : List D}, Reps K F ρ xs ds → Reps K F ρ ys es → Reps K F ρ (xs ++ ys) (ds ++ es)
  | _, _, _, _, .nil, h => h
  | _, _, _, _, .cons h t, h' => .cons h (Reps.append t h')
theorem Reps.get : ∀ {xs : List V} {ds : List D} {i : Nat} {d : D}, Reps K F ρ xs ds → ds[i]? = some d → ∃ x, xs[i]? = some x ∧ Rep K F ρ x d
  | _, _, _, _, .nil, h => by simp at h
  | _, _, 0, _, .cons h _, e => by
    have := Option.some.inj (by simpa using e); subst this; exact ⟨_, rfl, h⟩
  | _, _, i + 1, _, .cons _ t, e => by
    obtain ⟨x, h1, h2⟩ := Reps.get (i := i) t (by simpa using e)
    exact ⟨x, by simpa using h1, h2⟩
theorem Reps.getV : ∀ {xs : List V} {ds : List D} {i : Nat} {x : V}, Reps K F ρ xs ds → xs[i]? = some x → ∃ d, ds[i]? = some d ∧ Rep K F ρ x d
  | _, _, _, _, .nil, h => by simp at h
  | _, _, 0, _, .cons h _, e => by
    have := Option.some.inj (by simpa using e); subst this; exact ⟨_, rfl, h⟩
  | _, _, i + 1, _, .cons _ t, e => by
    obtain ⟨x, h1, h2⟩ := Reps.getV (i := i) t (by simpa using e)
    exact ⟨x, by simpa using h1, h2⟩
theorem Reps.set : ∀ {xs : List V} {ds : List D} {i : Nat} {x : V} {d : D}, Reps K F ρ xs ds → Rep K F ρ x d → Reps K F ρ (xs.set i x) (ds.set i d)
  | _, _, _, _, _, .nil, _ => .nil
  | _, _, 0, _, _, .cons _ t, h => .cons h t
  | _, _, i + 1, _, _, .cons h' t, h => .cons h' (Reps.set t h)
theorem Reps.take : ∀ (n : Nat) {xs : List V} {ds : List D}, Reps K F ρ xs ds → Reps K F ρ (xs.take n) (ds.take n)
  | 0, _, _, _ => .nil
  | _ + 1, _, _, .nil => .nil
  | n + 1, _, _, .cons h t => .cons h (Reps.take n t)
theorem Reps.drop : ∀ (n : Nat) {xs : List V} {ds : List D}, Reps K F ρ xs ds → Reps K F ρ (xs.drop n) (ds.drop n)
  | 0, _, _, h => h
  | _ + 1, _, _, .nil => .nil
  | n + 1, _, _, .cons _ t => Reps.drop n t
theorem Reps.eraseIdx : ∀ (n : Nat) {xs : List V} {ds : List D}, Reps K F ρ xs ds → Reps K F ρ (xs.eraseIdx n) (ds.eraseIdx n)
  | _, _, _, .nil => .nil
  | 0, _, _, .cons _ t => t
  | n + 1, _, _, .cons h t => .cons h (Reps.eraseIdx n t)
theorem Reps.dropLast {xs : List V} {ds : List D} (h : Reps K F ρ xs ds) : Reps K F ρ xs.dropLast ds.dropLast := by
  rw [List.dropLast_eq_take, List.dropLast_eq_take, h.length]; exact h.take _
theorem Reps.one (h : Rep K F ρ x d) : Reps K F ρ [x] [d] := .cons h .nil
theorem Reps.ints : ∀ ns : List Int, Reps K F ρ (ns.map V.int) (ns.map D.int)
  | [] => .nil
  | n :: ns => .cons (.int n) (Reps.ints ns)
theorem Reps.strs {s : List Nat} (h : okS s = true) : ∀ t : List Nat, (∀ c ∈ t, c ∈ s) → Reps K F ρ (t.map fun c => V.str (txt [c])) (t.map fun c => D.str [c])
  | [], _ => .nil
  | c :: t, hm => .cons (.str (okS_one h (hm c List.mem_cons_self))) (Reps.strs h t fun d hd => hm d (List.mem_cons_of_mem _ hd))

/-! ### the state -/
/-- what an own slot's address is -/
def OwnAt (env : Env) (σ : L2.St) (i : Nat) (a : Addr) : Prop := (∃ ds, env[i]? = some (.lst ds)) ∧ σ[i]? = some (some (.ref a))
def SlOk (K : KX) (F : Hp) (ρ : List Addr) (G H : Hp) (v : Option (Option V)) : Sl → Prop
  | .no => True
  | .thk => ∃ f, K.fl.th = some f ∧ v = some (some (.ref f))
  | .dat d => ∃ x, v = some (some x) ∧ Rep K F ρ x d
  | .lst ds => ∃ a xs, v = some (some (.ref a)) ∧ H a = some (.lst xs) ∧ xs.length ≤ 16777216 ∧ Reps K F ρ xs ds ∧ F a = none ∧ G a = none ∧ a ∉ ρ
  | .dic _ => False
def ClOk (K : KX) (F : Hp) (ρ : List Addr) (G H : Hp) (a : Addr) : Cell → Prop
  | .lst ds => ∃ xs, H a = some (.lst xs) ∧ xs.length ≤ 16777216 ∧ Reps K F ρ xs ds ∧ F a = none ∧ G a = none
  | .dic _ => False
  | .dead => True
structure Sim (K : KX) (F : Hp) (ρ : List Addr) (G : Hp) (env : Env) (S : Store) (σ : L2.St) (H : Hp) : Prop where
  fh : Le F H
  gh : Le G H
  fg : ∀ a o, G a = some o → F a = none
  rg : ∀ a ∈ ρ, G a = none
  rlen : ρ.length = S.length
  rnd : ρ.Nodup
  live : ∀ a ∈ ρ, ∃ o, H a = some o ∧ NT o
  cells : ∀ (n : Nat) (a : Addr) (c : Cell), ρ[n]? = some a → S[n]? = some c → ClOk K F ρ G H a c
  slots : ∀ (i : Nat) (sl : Sl), env[i]? = some sl → SlOk K F ρ G H σ[i]? sl
  own : ∀ i j a, OwnAt env σ i a → OwnAt env σ j a → i = j
  elen : env.length = σ.length
  flo : Flo K.fl F ρ G H

theorem ClOk.mono {a : Addr} {c : Cell} (h : ClOk K F ρ G H a c) (hF : Le F F') (hρ : ρ <+: ρ') (hH : ∀ xs, H a = some (.lst xs) → F a = none → G a = none → H' a = some (.lst xs) ∧ F' a = none) : ClOk K F' ρ' G H' a c := by
  cases c with
  | lst ds =>
    obtain ⟨xs, h1, h2, h3, h4, h5⟩ := h
    obtain ⟨q1, q2⟩ := hH xs h1 h4 h5
    exact ⟨xs, q1, h2, h3.mono hF hρ, q2, h5⟩
  | dic _ => exact h
  | dead => trivial
theorem SlOk.mono {w : Option (Option V)} {sl : Sl} (h : SlOk K F ρ G H w sl) (hF : Le F F') (hρ : ρ <+: ρ') (hH : ∀ ds a xs, sl = .lst ds → w = some (some (.ref a)) → H a = some (.lst xs) → F a = none → G a = none → a ∉ ρ → H' a = some (.lst xs) ∧ F' a = none ∧ a ∉ ρ') : SlOk K F' ρ' G H' w sl := by
  cases sl with
  | no => trivial
  | thk => exact h
  | dat d => obtain ⟨x, e, r⟩ := h; exact ⟨x, e, r.mono hF hρ⟩
  | lst ds =>
    obtain ⟨a, xs, e, h1, h2, h3, h4, h5, h6⟩ := h
    obtain ⟨q1, q2, q3⟩ := hH ds a xs rfl e h1 h4 h5 h6
    exact ⟨a, xs, e, q1, h2, h3.mono hF hρ, q2, h5, q3⟩
  | dic _ => exact h

theorem nodup_at {α : Type} {l : List α} (h : l.Nodup) {i j : Nat} {x : α} (a : l[i]? = some x) (b : l[j]? = some x) : i = j := by
  obtain ⟨h1, e1⟩ := List.getElem?_eq_some_iff.mp a
  obtain ⟨h2, e2⟩ := List.getElem?_eq_some_iff.mp b
  exact (List.getElem_inj h).mp (e1.trans e2.symm)
theorem prefix_refl {α : Type} {l : List α} : l <+: l := ⟨[], by simp⟩
theorem prefix_trans {α : Type} {l m n : List α} (h : l <+: m) (h' : m <+: n) : l <+: n := by
  obtain ⟨t, rfl⟩ := h
  obtain ⟨u, rfl⟩ := h'
  exact ⟨t ++ u, by simp⟩
theorem Tabs.of {T : List (Addr × Str)} (t : LamX.Tabs T H) (k : ∀ b o, H b = some o → ¬ Chg o → H' b = some o) : LamX.Tabs T H' := fun p hp => by
  obtain ⟨ps, h1, h2, h3⟩ := t p hp
  refine ⟨ps, k _ _ h1 id, h2, fun pos cv hc => ?_⟩
  obtain ⟨c, e1, e2⟩ := h3 pos cv hc
  exact ⟨c, e1, k _ _ e2 id⟩
theorem Flo.mono {fl : FL} (f : Flo fl F ρ G H) (hF : Le F F') (hρ : ρ <+: ρ') (k : ∀ b o, H b = some o → ¬ Chg o → H' b = some o) (hn : ∀ a o, F' a = some o → NT o) : Flo fl F' ρ' G H' := ⟨f.hF.trans hF, prefix_trans f.hρ hρ, f.hG, Tabs.of f.tb k, f.gc, hn⟩
theorem nt_upd {p : Addr} {o : HO} (h : ∀ a o, F a = some o → NT o) (hn : NT o) : ∀ a u, upd F p o a = some u → NT u := fun a u e => by
  by_cases z : a = p
  · subst z; rw [upd_same] at e; cases e; exact hn
  · rw [upd_ne z] at e; exact h a u e
theorem Flo.laid {fl : FL} {p : Addr} {o : HO} (f : Flo fl F ρ G H) (hp : H p = none) : Flo fl F ρ G (upd H p o) := f.mono Le.refl prefix_refl (fun b u e _ => by rw [upd_ne (ne_of_none e hp)]; exact e) f.fc
theorem Flo.wr {fl : FL} {p : Addr} {u o : HO} (f : Flo fl F ρ G H) (hp : H p = some u) (hu : Chg u) : Flo fl F ρ G (upd H p o) := f.mono Le.refl prefix_refl (fun b v e n => by
  rw [upd_ne (fun z => by rw [z, hp] at e; cases e; exact n hu)]; exact e) f.fc
theorem Flo.z {tb : List (Addr × Str)} (t : LamX.Tabs tb H) (gc : ∀ a o, G a = some o → Chg o) (fc : ∀ a o, F a = some o → NT o) : Flo (FL.z tb) F ρ G H := ⟨fun _ _ e => (by cases e), ⟨ρ, rfl⟩, fun _ _ e => (by cases e), t, gc, fc⟩
theorem Sim.notRho (s : Sim K F ρ G env S σ H) {p : Addr} (hp : H p = none) : p ∉ ρ := fun h => by
  obtain ⟨o, e, _⟩ := s.live p h
  rw [hp] at e; cases e
theorem Sim.notOwn (s : Sim K F ρ G env S σ H) {p : Addr} (hp : H p = none) (i : Nat) : ¬ OwnAt env σ i p := fun ⟨⟨ds, e⟩, ev⟩ => by
  obtain ⟨a, xs, e1, h1, _⟩ := s.slots i _ e
  rw [ev] at e1; cases e1
  rw [hp] at h1; cases h1
theorem Sim.fnone (s : Sim K F ρ G env S σ H) {p : Addr} (hp : H p = none) : F p = none := by
  cases q : F p with
  | none => rfl
  | some o => have := s.fh p o q; rw [hp] at this; cases this
theorem Sim.gnone (s : Sim K F ρ G env S σ H) {p : Addr} (hp : H p = none) : G p = none := by
  cases q : G p with
  | none => rfl
  | some o => have := s.gh p o q; rw [hp] at this; cases this

/-- a new object laid, named by nothing yet -/
theorem Sim.laid (s : Sim K F ρ G env S σ H) {p : Addr} {o : HO} (hp : H p = none) : Sim K F ρ G env S σ (upd H p o) := by
  have keep : ∀ a u, H a = some u → upd H p o a = some u := fun a u e => by rw [upd_ne (ne_of_none e hp)]; exact e
  exact ⟨fun a u e => keep a u (s.fh a u e), fun a u e => keep a u (s.gh a u e), s.fg, s.rg, s.rlen, s.rnd, fun a h => let ⟨u, e, n⟩ := s.live a h; ⟨u, keep a u e, n⟩,
    fun n a c h1 h2 => (s.cells n a c h1 h2).mono Le.refl prefix_refl fun xs e h1 _ => ⟨keep a _ e, h1⟩,
    fun i sl e => (s.slots i sl e).mono Le.refl prefix_refl fun _ a xs _ _ e h1 _ h3 => ⟨keep a _ e, h1, h3⟩, s.own, s.elen, s.flo.laid hp⟩
/-- an object that nothing names is frozen -/
theorem Sim.freeze (s : Sim K F ρ G env S σ H) {p : Addr} {o : HO} (hp : H p = some o) (hF : F p = none) (hG : G p = none) (hr : p ∉ ρ) (ho : ∀ i, ¬ OwnAt env σ i p) (hn : NT o := by intro _ z; cases z) : Sim K (upd F p o) ρ G env S σ H := by
  have le : Le F (upd F p o) := Le.upd hF
  refine ⟨fun a u e => ?_, s.gh, fun a u e => by rw [upd_ne (ne_of_none e hG)]; exact s.fg a u e, s.rg, s.rlen, s.rnd, s.live, fun n a c h1 h2 => ?_, fun i sl e => ?_, s.own, s.elen, s.flo.mono le prefix_refl (fun _ _ e _ => e) (nt_upd s.flo.fc hn)⟩
  · by_cases h : a = p
    · subst h; rw [upd_same] at e; cases e; exact hp
    · rw [upd_ne h] at e; exact s.fh a u e
  · refine (s.cells n a c h1 h2).mono le prefix_refl fun xs e q _ => ⟨e, ?_⟩
    rw [upd_ne (show a ≠ p from fun z => hr (z ▸ List.mem_of_getElem? h1))]; exact q
  · refine (s.slots i sl e).mono le prefix_refl fun ds a xs hsl ev e1 h1 _ h3 => ⟨e1, ?_, h3⟩
    rw [upd_ne fun z => ho i ⟨⟨ds, by rw [e, hsl]⟩, by rw [ev, z]⟩]; exact h1
/-- a new object laid and frozen -/
theorem Sim.put (s : Sim K F ρ G env S σ H) {p : Addr} {o : HO} (hp : H p = none) (hn : NT o := by intro _ z; cases z) : Sim K (upd F p o) ρ G env S σ (upd H p o) :=
  (s.laid hp).freeze upd_same (s.fnone hp) (s.gnone hp) (s.notRho hp) (s.notOwn hp) hn
/-- slots forgotten or set to data -/
theorem Sim.slot (s : Sim K F ρ G env S σ H) {i : Nat} {w : Option V} {sl : Sl} (hsl : sl = .no ∨ ∃ d x, sl = .dat d ∧ w = some x ∧ Rep K F ρ x d) : Sim K F ρ G (env.set i sl) S (σ.set i w) H := by
  refine ⟨s.fh, s.gh, s.fg, s.rg, s.rlen, s.rnd, s.live, s.cells, fun j sl' e => ?_, fun j k a => ?_, by rw [List.length_set, List.length_set]; exact s.elen, s.flo⟩
  · by_cases h : i = j
    · subst h
      have hi : i < env.length := by
        have := (List.getElem?_eq_some_iff.mp e).1
        rwa [List.length_set] at this
      rw [List.getElem?_set_self hi] at e
      cases e
      rw [List.getElem?_set_self (by rw [← s.elen]; exact hi)]
      rcases hsl with rfl | ⟨d, x, rfl, rfl, r⟩
      · trivial
      · exact ⟨x, rfl, r⟩
    · rw [List.getElem?_set_ne h] at e
      rw [List.getElem?_set_ne h]
      exact s.slots j sl' e
  · rintro ⟨⟨ds, h1⟩, h2⟩ ⟨⟨es, h3⟩, h4⟩
    have ne : ∀ (m : Nat) (xs : List D), (env.set i sl)[m]? = some (.lst xs) → i ≠ m := fun m xs e z => by
      subst z
      have hi : i < env.length := by
        have := (List.getElem?_eq_some_iff.mp e).1
        rwa [List.length_set] at this
      rw [List.getElem?_set_self hi] at e
      rcases hsl with rfl | ⟨d, x, rfl, _⟩ <;> cases e
    have n1 := ne j ds h1
    have n2 := ne k es h3
    rw [List.getElem?_set_ne n1] at h1 h2
    rw [List.getElem?_set_ne n2] at h3 h4
    exact s.own j k a ⟨⟨ds, h1⟩, h2⟩ ⟨⟨es, h3⟩, h4⟩
/-- the slot's own list is frozen -/
theorem Sim.rdown (s : Sim K F ρ G env S σ H) {i : Nat} {ds : List D} (e : env[i]? = some (.lst ds)) :
    ∃ a xs F', σ[i]? = some (some (.ref a)) ∧ Le F F' ∧ F' a = some (.lst xs) ∧ xs.length ≤ 16777216 ∧ Reps K F' ρ xs ds ∧ Sim K F' ρ G (env.set i (.dat (.lst ds))) S σ H := by
  obtain ⟨a, xs, ev, h1, h2, h3, h4, h5, h6⟩ := s.slots i _ e
  have le : Le F (upd F a (.lst xs)) := Le.upd h4
  have hi : i < env.length := (List.getElem?_eq_some_iff.mp e).1
  refine ⟨a, xs, upd F a (.lst xs), ev, le, upd_same, h2, h3.mono le prefix_refl, ?_⟩
  refine ⟨fun b u q => ?_, s.gh, fun b u q => by rw [upd_ne (ne_of_none q h5)]; exact s.fg b u q, s.rg, s.rlen, s.rnd, s.live, fun n b c q1 q2 => ?_, fun j sl q => ?_, fun j k b => ?_, by rw [List.length_set]; exact s.elen, s.flo.mono le prefix_refl (fun _ _ e _ => e) (nt_upd s.flo.fc fun _ z => by cases z)⟩
  · by_cases h : b = a
    · subst h; rw [upd_same] at q; cases q; exact h1
    · rw [upd_ne h] at q; exact s.fh b u q
  · refine (s.cells n b c q1 q2).mono le prefix_refl fun ys q3 q4 _ => ⟨q3, ?_⟩
    rw [upd_ne (show b ≠ a from fun z => h6 (z ▸ List.mem_of_getElem? q1))]; exact q4
  · by_cases h : i = j
    · subst h
      rw [List.getElem?_set_self hi] at q; cases q
      exact ⟨_, ev, .lst upd_same h2 (h3.mono le prefix_refl)⟩
    · rw [List.getElem?_set_ne h] at q
      refine (s.slots j sl q).mono le prefix_refl fun es b ys hsl ev' q1 q2 _ q3 => ⟨q1, ?_, q3⟩
      rw [upd_ne fun z => h (s.own i j a ⟨⟨ds, e⟩, ev⟩ ⟨⟨es, by rw [q, hsl]⟩, by rw [ev', z]⟩)]; exact q2
  · rintro ⟨⟨us, q1⟩, q2⟩ ⟨⟨ws, q3⟩, q4⟩
    have ne : ∀ (m : Nat) (zs : List D), (env.set i (.dat (.lst ds)))[m]? = some (.lst zs) → i ≠ m := fun m zs q z => by
      subst z
      rw [List.getElem?_set_self hi] at q; cases q
    have n1 := ne j us q1
    have n2 := ne k ws q3
    rw [List.getElem?_set_ne n1] at q1
    rw [List.getElem?_set_ne n2] at q3
    exact s.own j k b ⟨⟨us, q1⟩, q2⟩ ⟨⟨ws, q3⟩, q4⟩
/-- a slot takes a new list as its own -/
theorem Sim.ownSet (s : Sim K F ρ G env S σ H) {i : Nat} {p : Addr} {xs : List V} {ds : List D} (hp : H p = some (.lst xs)) (hl : xs.length ≤ 16777216) (r : Reps K F ρ xs ds) (hF : F p = none) (hG : G p = none) (hr : p ∉ ρ) (ho : ∀ i, ¬ OwnAt env σ i p) :
    Sim K F ρ G (env.set i (.lst ds)) S (σ.set i (some (.ref p))) H := by
  refine ⟨s.fh, s.gh, s.fg, s.rg, s.rlen, s.rnd, s.live, s.cells, fun j sl' e => ?_, fun j k a => ?_, by rw [List.length_set, List.length_set]; exact s.elen, s.flo⟩
  · by_cases h : i = j
    · subst h
      have hi : i < env.length := by
        have := (List.getElem?_eq_some_iff.mp e).1
        rwa [List.length_set] at this
      rw [List.getElem?_set_self hi] at e
      cases e
      rw [List.getElem?_set_self (by rw [← s.elen]; exact hi)]
      exact ⟨p, xs, rfl, hp, hl, r, hF, hG, hr⟩
    · rw [List.getElem?_set_ne h] at e
      rw [List.getElem?_set_ne h]
      exact s.slots j sl' e
  · rintro ⟨⟨us, h1⟩, h2⟩ ⟨⟨es, h3⟩, h4⟩
    have at_ : ∀ (m : Nat) (zs : List D), (env.set i (.lst ds))[m]? = some (.lst zs) → (σ.set i (some (.ref p)))[m]? = some (some (.ref a)) → (i = m ∧ a = p) ∨ (i ≠ m ∧ OwnAt env σ m a) := fun m zs e ev => by
      by_cases z : i = m
      · subst z
        have hi : i < env.length := by
          have := (List.getElem?_eq_some_iff.mp e).1
          rwa [List.length_set] at this
        rw [List.getElem?_set_self (by rw [← s.elen]; exact hi)] at ev
        cases ev
        exact .inl ⟨rfl, rfl⟩
      · rw [List.getElem?_set_ne z] at e ev
        exact .inr ⟨z, ⟨zs, e⟩, ev⟩
    rcases at_ j us h1 h2 with ⟨e1, e2⟩ | ⟨n1, o1⟩
    · rcases at_ k es h3 h4 with ⟨e3, _⟩ | ⟨_, o2⟩
      · exact e1.symm.trans e3
      · exact absurd (e2 ▸ o2) (ho k)
    · rcases at_ k es h3 h4 with ⟨_, e4⟩ | ⟨_, o2⟩
      · exact absurd (e4 ▸ o1) (ho j)
      · exact s.own j k a o1 o2
/-- the slot's own list has changed -/
theorem Sim.ownWr (s : Sim K F ρ G env S σ H) {i : Nat} {ds es : List D} {a : Addr} {ys : List V} (e : env[i]? = some (.lst ds)) (ev : σ[i]? = some (some (.ref a))) (hl : ys.length ≤ 16777216) (r : Reps K F ρ ys es) :
    Sim K F ρ G (env.set i (.lst es)) S σ (upd H a (.lst ys)) := by
  obtain ⟨a', xs, ev', h1, h2, h3, h4, h5, h6⟩ := s.slots i _ e
  rw [ev] at ev'; cases ev'
  have hi : i < env.length := (List.getElem?_eq_some_iff.mp e).1
  have keep : ∀ b u, b ≠ a → H b = some u → upd H a (.lst ys) b = some u := fun b u n q => by rw [upd_ne n]; exact q
  refine ⟨fun b u q => keep b u (ne_of_none q h4) (s.fh b u q), fun b u q => keep b u (ne_of_none q h5) (s.gh b u q), s.fg, s.rg, s.rlen, s.rnd, fun b hb => ?_, fun n b c q1 q2 => ?_, fun j sl q => ?_, fun j k b => ?_, by rw [List.length_set]; exact s.elen, s.flo.wr h1 trivial⟩
  · obtain ⟨u, q, nt⟩ := s.live b hb
    exact ⟨u, keep b u (fun z => h6 (z ▸ hb)) q, nt⟩
  · exact (s.cells n b c q1 q2).mono Le.refl prefix_refl fun zs q3 q4 _ => ⟨keep b _ (fun z => h6 (z ▸ List.mem_of_getElem? q1)) q3, q4⟩
  · by_cases h : i = j
    · subst h
      rw [List.getElem?_set_self hi] at q; cases q
      exact ⟨a, ys, ev, upd_same, hl, r, h4, h5, h6⟩
    · rw [List.getElem?_set_ne h] at q
      exact (s.slots j sl q).mono Le.refl prefix_refl fun us b zs hsl evb q1 q2 _ q3 => ⟨keep b _ (fun z => h (s.own i j a ⟨⟨ds, e⟩, ev⟩ ⟨⟨us, by rw [q, hsl]⟩, by rw [evb, z]⟩)) q1, q2, q3⟩
  · rintro ⟨⟨us, q1⟩, q2⟩ ⟨⟨ws, q3⟩, q4⟩
    have back : ∀ (m : Nat) (zs : List D), (env.set i (.lst es))[m]? = some (.lst zs) → ∃ zs, env[m]? = some (.lst zs) := fun m zs q => by
      by_cases h : i = m
      · subst h; exact ⟨ds, e⟩
      · rw [List.getElem?_set_ne h] at q; exact ⟨zs, q⟩
    exact s.own j k b ⟨back j us q1, q2⟩ ⟨back k ws q3, q4⟩
/-- a cell of the store has changed -/
theorem Sim.cellWr (s : Sim K F ρ G env S σ H) {n : Nat} {ds es : List D} {a : Addr} {ys : List V} (e : S[n]? = some (.lst ds)) (ea : ρ[n]? = some a) (hl : ys.length ≤ 16777216) (r : Reps K F ρ ys es) :
    Sim K F ρ G env (S.set n (.lst es)) σ (upd H a (.lst ys)) := by
  obtain ⟨xs, h1, h2, h3, h4, h5⟩ := s.cells n a _ ea e
  have hn : n < S.length := (List.getElem?_eq_some_iff.mp e).1
  have hm : a ∈ ρ := List.mem_of_getElem? ea
  have keep : ∀ b u, b ≠ a → H b = some u → upd H a (.lst ys) b = some u := fun b u n q => by rw [upd_ne n]; exact q
  refine ⟨fun b u q => keep b u (ne_of_none q h4) (s.fh b u q), fun b u q => keep b u (ne_of_none q h5) (s.gh b u q), s.fg, s.rg, by rw [List.length_set]; exact s.rlen, s.rnd, fun b hb => ?_, fun m b c q1 q2 => ?_, fun j sl q => ?_, s.own, s.elen, s.flo.wr h1 trivial⟩
  · by_cases z : b = a
    · subst z; exact ⟨_, upd_same, fun _ z => by cases z⟩
    · obtain ⟨u, q, nt⟩ := s.live b hb
      exact ⟨u, keep b u z q, nt⟩
  · by_cases h : n = m
    · subst h
      rw [ea] at q1; cases q1
      rw [List.getElem?_set_self hn] at q2; cases q2
      exact ⟨ys, upd_same, hl, r, h4, h5⟩
    · rw [List.getElem?_set_ne h] at q2
      refine (s.cells m b c q1 q2).mono Le.refl prefix_refl fun zs q3 q4 _ => ⟨keep b _ (fun z => h ?_) q3, q4⟩
      rw [z] at q1
      exact nodup_at s.rnd ea q1
  · exact (s.slots j sl q).mono Le.refl prefix_refl fun us b zs hsl evb q1 q2 _ q3 => ⟨keep b _ (fun z => q3 (z ▸ hm)) q1, q2, q3⟩
/-- a new cell of the store -/
theorem Sim.cellNew (s : Sim K F ρ G env S σ H) {p : Addr} {xs : List V} {ds : List D} (hp : H p = some (.lst xs)) (hl : xs.length ≤ 16777216) (r : Reps K F ρ xs ds) (hF : F p = none) (hG : G p = none) (hr : p ∉ ρ) (ho : ∀ i, ¬ OwnAt env σ i p) :
    Sim K F (ρ ++ [p]) G env (S ++ [.lst ds]) σ H := by
  have pre : ρ <+: ρ ++ [p] := ⟨[p], rfl⟩
  refine ⟨s.fh, s.gh, s.fg, fun a h => ?_, by simp [s.rlen], ?_, fun a h => ?_, fun n a c q1 q2 => ?_, fun i sl e => ?_, s.own, s.elen, s.flo.mono Le.refl pre (fun _ _ e _ => e) s.flo.fc⟩
  · rcases List.mem_append.mp h with h | h
    · exact s.rg a h
    · have : a = p := by simpa using h
      subst this; exact hG
  · rw [List.nodup_append]
    exact ⟨s.rnd, by simp, fun a h b hb => by
      have : b = p := by simpa using hb
      subst this; exact fun z => hr (z ▸ h)⟩
  · rcases List.mem_append.mp h with h | h
    · exact s.live a h
    · have : a = p := by simpa using h
      subst this; exact ⟨_, hp, fun _ z => by cases z⟩
  · by_cases h : n < ρ.length
    · rw [List.getElem?_append_left h] at q1
      rw [List.getElem?_append_left (by rw [← s.rlen]; exact h)] at q2
      exact (s.cells n a c q1 q2).mono Le.refl pre fun zs e1 e2 _ => ⟨e1, e2⟩
    · have hn : n = ρ.length := by
        have := (List.getElem?_eq_some_iff.mp q1).1
        simp at this; omega
      subst hn
      rw [List.getElem?_concat_length] at q1
      rw [s.rlen, List.getElem?_concat_length] at q2
      cases q1; cases q2
      exact ⟨xs, hp, hl, r.mono Le.refl pre, hF, hG⟩
  · refine (s.slots i sl e).mono Le.refl pre fun us a zs hsl ev e1 e2 _ e3 => ⟨e1, e2, fun h => ?_⟩
    rcases List.mem_append.mp h with h | h
    · exact e3 h
    · have : a = p := by simpa using h
      exact ho i ⟨⟨us, by rw [e, hsl]⟩, by rw [ev, this]⟩

/-! ### a call's frame -/
/-- what a callee has to leave as it is -/
noncomputable def Own (G : Hp) (env : Env) (σ : L2.St) (H : Hp) : Hp := fun a => open Classical in if ∃ i, OwnAt env σ i a then H a else G a
theorem Own.at {i : Nat} {a : Addr} (h : OwnAt env σ i a) : Own G env σ H a = H a := by unfold Own; rw [if_pos ⟨i, h⟩]
theorem Own.not {a : Addr} (h : ¬ ∃ i, OwnAt env σ i a) : Own G env σ H a = G a := by unfold Own; rw [if_neg h]
theorem Sim.ownF (s : Sim K F ρ G env S σ H) {i : Nat} {a : Addr} (h : OwnAt env σ i a) : (∃ xs, H a = some (.lst xs)) ∧ F a = none ∧ G a = none ∧ a ∉ ρ := by
  obtain ⟨⟨ds, e⟩, ev⟩ := h
  obtain ⟨b, xs, ev', h1, h2, h3, h4, h5, h6⟩ := s.slots i _ e
  rw [ev] at ev'; cases ev'
  exact ⟨⟨xs, h1⟩, h4, h5, h6⟩
theorem Sim.toCall (s : Sim K F ρ G env S σ H) : Sim K F ρ (Own G env σ H) [] S [] H := by
  refine ⟨s.fh, fun a o e => ?_, fun a o e => ?_, fun a h => ?_, s.rlen, s.rnd, s.live, fun n a c h1 h2 => ?_, fun i sl e => by simp at e, fun i j a h => by obtain ⟨⟨_, e⟩, _⟩ := h; simp at e, rfl, ⟨s.flo.hF, s.flo.hρ, fun a o e => ?_, s.flo.tb, fun a o e => ?_, s.flo.fc⟩⟩
  · by_cases q : ∃ i, OwnAt env σ i a
    · obtain ⟨i, q⟩ := q; rw [Own.at q] at e; exact e
    · rw [Own.not q] at e; exact s.gh a o e
  · by_cases q : ∃ i, OwnAt env σ i a
    · obtain ⟨i, q⟩ := q; exact (s.ownF q).2.1
    · rw [Own.not q] at e; exact s.fg a o e
  · rw [Own.not fun ⟨i, q⟩ => (s.ownF q).2.2.2 h]; exact s.rg a h
  · have q := s.cells n a c h1 h2
    cases c with
    | dead => trivial
    | dic _ => exact q
    | lst ds =>
      obtain ⟨xs, q1, q2, q3, q4, q5⟩ := q
      exact ⟨xs, q1, q2, q3, q4, by rw [Own.not fun ⟨i, z⟩ => (s.ownF z).2.2.2 (List.mem_of_getElem? h1)]; exact q5⟩
  · have q := s.flo.hG a o e
    rw [Own.not fun ⟨i, z⟩ => by rw [(s.ownF z).2.2.1] at q; cases q]; exact q
  · by_cases q : ∃ i, OwnAt env σ i a
    · obtain ⟨i, q⟩ := q
      rw [Own.at q] at e
      obtain ⟨⟨xs, z⟩, _⟩ := s.ownF q
      rw [z] at e; cases e; trivial
    · rw [Own.not q] at e; exact s.flo.gc a o e
theorem Sim.fromCall (s : Sim K F ρ G env S σ H) (hF : Le F F') (hρ : ρ <+: ρ') (s' : Sim K F' ρ' (Own G env σ H) [] S' [] H') : Sim K F' ρ' G env S' σ H' := by
  have gg : ∀ a o, G a = some o → Own G env σ H a = some o := fun a o e => by
    rw [Own.not fun ⟨i, q⟩ => by rw [(s.ownF q).2.2.1] at e; cases e]; exact e
  refine ⟨s'.fh, fun a o e => s'.gh a o (gg a o e), fun a o e => s'.fg a o (gg a o e), fun a h => ?_, s'.rlen, s'.rnd, s'.live, fun n a c h1 h2 => ?_, fun i sl e => ?_, s.own, s.elen, ⟨s'.flo.hF, s'.flo.hρ, s.flo.hG, s'.flo.tb, s.flo.gc, s'.flo.fc⟩⟩
  · have q := s'.rg a h
    cases z : G a with
    | none => rfl
    | some o => rw [gg a o z] at q; cases q
  · have q := s'.cells n a c h1 h2
    cases c with
    | dead => trivial
    | dic _ => exact q
    | lst ds =>
      obtain ⟨xs, q1, q2, q3, q4, q5⟩ := q
      refine ⟨xs, q1, q2, q3, q4, ?_⟩
      cases z : G a with
      | none => rfl
      | some o => rw [gg a o z] at q5; cases q5
  · have q := s.slots i sl e
    cases sl with
    | no => trivial
    | dic _ => exact q
    | thk => exact q
    | dat d => obtain ⟨x, e1, r⟩ := q; exact ⟨x, e1, r.mono hF hρ⟩
    | lst ds =>
      obtain ⟨a, xs, ev, h1, h2, h3, h4, h5, h6⟩ := q
      have o : OwnAt env σ i a := ⟨⟨ds, e⟩, ev⟩
      have e2 : Own G env σ H a = some (.lst xs) := by rw [Own.at o]; exact h1
      refine ⟨a, xs, ev, s'.gh a _ e2, h2, h3.mono hF hρ, s'.fg a _ e2, h5, fun hm => ?_⟩
      have z := s'.rg a hm
      rw [e2] at z; cases z
end Pf
/-! Pf, part C: what is asked of a run (At), readings (tR), the primitives by values. -/
namespace Pf
open PySem PySem.Spec PyProof.Rows L2

/-- how an exception of a run lies: its class, its own dict -/
structure EXT where
  ex : Hp → List Addr → Hp → Value → Option Addr → Exn → Prop
  xo : Option XO
  fl : FL
/-- a while's most turns; which class is below which -/
structure WS where
  w : Nat
  sub : Sub
abbrev kx (X : Cx) (EX : EXT) : KX := ⟨X.K, EX.xo, EX.fl⟩
section
variable {α β γ δ : Type} {K : KX} {W : WX} {EX : EXT} {F F' G H H' : Hp} {ρ ρ' : List Addr} {σ : L2.St} {env env' : Env} {S S' : Store} {v u x y : V} {d e : D} {xs ys : List V} {ds es : List D}
abbrev Post (β α : Type) := Hp → List Addr → Env → Hp → β → α → Prop
def At (K : KX) (W : WX) (EX : EXT) (G : Hp) (σ : L2.St) (P : Post β α) (Q : β → Hp → Prop) (F : Hp) (ρ : List Addr) : R α → Prop
  | .ok a env S => ∀ F' ρ' H b, Le F F' → ρ <+: ρ' → Sim K F' ρ' G env S σ H → P F' ρ' env H b a → Q b H
  | .exc x env S => ∀ F' ρ' H cls d, Le F F' → ρ <+: ρ' → Sim K F' ρ' G env S σ H → EX.ex F' ρ' H cls d x → W cls d σ H
  | .bad => False
theorem At.mono {P : Post β α} {Q : β → Hp → Prop} {r : R α} (h : At K W EX G σ P Q F ρ r) (hF : Le F F') (hρ : ρ <+: ρ') : At K W EX G σ P Q F' ρ' r := by
  cases r with
  | ok a env S => exact fun F2 ρ2 H b h1 h2 => h F2 ρ2 H b (hF.trans h1) (prefix_trans hρ h2)
  | exc x env S => exact fun F2 ρ2 H c d h1 h2 => h F2 ρ2 H c d (hF.trans h1) (prefix_trans hρ h2)
  | bad => exact h
theorem At.imp {P : Post β α} {Q Q' : β → Hp → Prop} {r : R α} (h : At K W EX G σ P Q F ρ r) (hq : ∀ b H, Q b H → Q' b H) : At K W EX G σ P Q' F ρ r := by
  cases r with
  | ok a env S => exact fun F2 ρ2 H b h1 h2 h3 h4 => hq b H (h F2 ρ2 H b h1 h2 h3 h4)
  | exc x env S => exact h
  | bad => exact h
/-- first a run, then another from where it ends -/
theorem At.bind {P1 : Post γ δ} {P2 : Post β α} {Q : β → Hp → Prop} {r : R δ} {f : δ → Env → Store → R α} (h : At K W EX G σ P2 Q F ρ (r.bind f)) :
    At K W EX G σ P1 (fun b H => ∃ a F1 ρ1 env1 S1, Le F F1 ∧ ρ <+: ρ1 ∧ Sim K F1 ρ1 G env1 S1 σ H ∧ P1 F1 ρ1 env1 H b a ∧ At K W EX G σ P2 Q F1 ρ1 (f a env1 S1)) F ρ r := by
  cases r with
  | ok a env S => exact fun F1 ρ1 H b h1 h2 h3 h4 => ⟨a, F1, ρ1, env, S, h1, h2, h3, h4, At.mono h h1 h2⟩
  | exc x env S => exact h
  | bad => exact h
theorem At.ofO {P2 : Post β α} {Q : β → Hp → Prop} {o : Option α} (h : At K W EX G σ P2 Q F ρ (ofO o env S)) : ∃ a, o = some a ∧ At K W EX G σ P2 Q F ρ (.ok a env S) := by
  cases o with
  | none => exact h.elim
  | some a => exact ⟨a, rfl, h⟩

/-- the reading of a run -/
def tR (K : KX) (W : WX) (EX : EXT) (P : Hp → L2.St → Post β α) (r : Env → Store → R α) : L2.St → Hp → (β → Hp → Prop) → Prop := fun σ H Q =>
  ∃ F ρ G env S, Sim K F ρ G env S σ H ∧ At K W EX G σ (P G σ) Q F ρ (r env S)

/-! ### what runs hand on -/
def PD (K : KX) : Hp → L2.St → Post V D := fun _ _ F ρ _ _ v d => Rep K F ρ v d
def POut (K : KX) : Hp → L2.St → Post V Out := fun G σ F ρ env H v o => match o with
  | .val d => Rep K F ρ v d
  | .new (.lst ds) => ∃ p xs, v = .ref p ∧ H p = some (.lst xs) ∧ xs.length ≤ 16777216 ∧ Reps K F ρ xs ds ∧ F p = none ∧ G p = none ∧ p ∉ ρ ∧ ∀ i, ¬ OwnAt env σ i p
  | .new (.dic ds) => ∃ p kvs, v = .ref p ∧ H p = some (.dK kvs) ∧ kvs.length ≤ 16777216 ∧ RepKs K F ρ kvs ds ∧ F p = none ∧ G p = none ∧ p ∉ ρ ∧ ∀ i, ¬ OwnAt env σ i p
  | .new .dead => False
  | .hdl i => σ[i]? = some (some v)
def ArRep (K : KX) (F : Hp) (ρ : List Addr) (σ : L2.St) (v : V) : Ar → Prop
  | .d x => Rep K F ρ v x
  | .h i => σ[i]? = some (some v)
def PAr (K : KX) : Hp → L2.St → Post V Ar := fun _ σ F ρ _ _ v a => ArRep K F ρ σ v a
def PB : Hp → L2.St → Post Bool Bool := fun _ _ _ _ _ _ b a => b = a
inductive ArReps (K : KX) (F : Hp) (ρ : List Addr) (σ : L2.St) : List V → List Ar → Prop
  | nil : ArReps K F ρ σ [] []
  | cons {x : V} {xs : List V} {a : Ar} {as : List Ar} (h : ArRep K F ρ σ x a) (t : ArReps K F ρ σ xs as) : ArReps K F ρ σ (x :: xs) (a :: as)
def PArs (K : KX) : Hp → L2.St → Post (List V) (List Ar) := fun _ σ F ρ _ _ vs as => ArReps K F ρ σ vs as
def PDs (K : KX) : Hp → L2.St → Post (List V) (List D) := fun _ _ F ρ _ _ vs ds => Reps K F ρ vs ds
theorem ArRep.mono {a : Ar} (h : ArRep K F ρ σ v a) (hF : Le F F') (hρ : ρ <+: ρ') : ArRep K F' ρ' σ v a := by
  cases a with
  | d x => exact Rep.mono hF hρ h
  | h i => exact h
theorem ArReps.mono : ∀ {vs : List V} {as : List Ar}, ArReps K F ρ σ vs as → Le F F' → ρ <+: ρ' → ArReps K F' ρ' σ vs as
  | _, _, .nil, _, _ => .nil
  | _, _, .cons h t, h1, h2 => .cons (ArRep.mono h h1 h2) (ArReps.mono t h1 h2)

/-- frozen -/
theorem At.fz {Q : V → Hp → Prop} {r : R Out} (h : At K W EX G σ (PD K G σ) Q F ρ r.fz) : At K W EX G σ (POut K G σ) Q F ρ r := by
  cases r with
  | exc x env S => exact h
  | bad => exact h
  | ok o env S =>
    intro F1 ρ1 H1 v h1 h2 s p
    cases o with
    | val d => exact h F1 ρ1 H1 v h1 h2 s p
    | hdl i => exact (show False from h).elim
    | new c =>
      cases c with
      | dic ds =>
        obtain ⟨q, xs, rfl, e, hl, r, hF, hG, hr, ho⟩ := p
        have le : Le F1 (upd F1 q (.dK xs)) := Le.upd hF
        exact h (upd F1 q (.dK xs)) ρ1 H1 (.ref q) (h1.trans le) h2 (s.freeze e hF hG hr ho) (.dic upd_same hl (r.mono le prefix_refl))
      | dead => exact (show False from p).elim
      | lst ds =>
        obtain ⟨q, xs, rfl, e, hl, r, hF, hG, hr, ho⟩ := p
        have le : Le F1 (upd F1 q (.lst xs)) := Le.upd hF
        exact h (upd F1 q (.lst xs)) ρ1 H1 (.ref q) (h1.trans le) h2 (s.freeze e hF hG hr ho) (.lst upd_same hl (r.mono le prefix_refl))
theorem At.ar {Q : V → Hp → Prop} {r : R Out} (h : At K W EX G σ (PAr K G σ) Q F ρ r.ar) : At K W EX G σ (POut K G σ) Q F ρ r := by
  cases r with
  | exc x env S => exact h
  | bad => exact h
  | ok o env S =>
    intro F1 ρ1 H1 v h1 h2 s p
    cases o with
    | val d => exact h F1 ρ1 H1 v h1 h2 s p
    | hdl i => exact h F1 ρ1 H1 v h1 h2 s p
    | new c =>
      cases c with
      | dic ds =>
        obtain ⟨q, xs, rfl, e, hl, r, hF, hG, hr, ho⟩ := p
        have le : Le F1 (upd F1 q (.dK xs)) := Le.upd hF
        exact h (upd F1 q (.dK xs)) ρ1 H1 (.ref q) (h1.trans le) h2 (s.freeze e hF hG hr ho) (show Rep K _ _ _ (.dic ds) from .dic upd_same hl (r.mono le prefix_refl))
      | dead => exact (show False from p).elim
      | lst ds =>
        obtain ⟨q, xs, rfl, e, hl, r, hF, hG, hr, ho⟩ := p
        have le : Le F1 (upd F1 q (.lst xs)) := Le.upd hF
        exact h (upd F1 q (.lst xs)) ρ1 H1 (.ref q) (h1.trans le) h2 (s.freeze e hF hG hr ho) (show Rep K _ _ _ (.lst ds) from .lst upd_same hl (r.mono le prefix_refl))
theorem At.bl {Q : Bool → Hp → Prop} {r : R Out} (h : At K W EX G σ (PB G σ) Q F ρ r.bl) : At K W EX G σ (POut K G σ) (fun v H => ∃ k, v = .bl k ∧ Q k H) F ρ r := by
  cases r with
  | exc x env S => exact h
  | bad => exact h
  | ok o env S =>
    intro F1 ρ1 H1 v h1 h2 s p
    cases o with
    | hdl i => exact (show False from h).elim
    | new c => exact (show False from h).elim
    | val d =>
      cases d with
      | bl b =>
        have p : Rep K F1 ρ1 v (.bl b) := p
        cases p
        exact ⟨b, rfl, h F1 ρ1 H1 b h1 h2 s rfl⟩
      | _ => exact (show False from h).elim

/-! ### what an argument looks like -/
/-- v looks like d now -/
inductive VRep (K : KX) (F : Hp) (ρ : List Addr) (H : Hp) : V → D → Prop
  | r {v : V} {d : D} (h : Rep K F ρ v d) (hl : ∀ xs, d ≠ .lst xs) : VRep K F ρ H v d
  | l {a : Addr} {xs : List V} {ds : List D} (h : H a = some (.lst xs)) (hl : xs.length ≤ 16777216) (r : Reps K F ρ xs ds) : VRep K F ρ H (.ref a) (.lst ds)
theorem VRep.of (s : Le F H) (h : Rep K F ρ v d) : VRep K F ρ H v d := by
  cases h with
  | lst h hl r => exact .l (s _ _ h) hl r
  | non => exact .r .non fun _ => nofun
  | bl b => exact .r (.bl b) fun _ => nofun
  | int b => exact .r (.int b) fun _ => nofun
  | str b => exact .r (.str b) fun _ => nofun
  | tup a b c => exact .r (.tup a b c) fun _ => nofun
  | scr a b => exact .r (.scr a b) fun _ => nofun
  | loc a => exact .r (.loc a) fun _ => nofun
  | dic a b c => exact .r (.dic a b c) fun _ => nofun
  | exo0 a b => exact .r (.exo0 a b) fun _ => nofun
  | exo a b c e => exact .r (.exo a b c e) fun _ => nofun
theorem VRep.mono (h : VRep K F ρ H v d) (hF : Le F F') (hρ : ρ <+: ρ') (hH : Le H H') : VRep K F' ρ' H' v d := by
  cases h with
  | r h hl => exact .r (h.mono hF hρ) hl
  | l h hl r => exact .l (hH _ _ h) hl (r.mono hF hρ)
theorem ArRep.view {a : Ar} (s : Sim K F ρ G env S σ H) (h : ArRep K F ρ σ v a) (e : vw env S a = some d) : VRep K F ρ H v d := by
  cases a with
  | h i =>
    have h : σ[i]? = some (some v) := h
    have e : (match env[i]? with | some (.lst xs) => some (D.lst xs) | some (.dic kvs) => some (.dic kvs) | _ => none) = some d := e
    cases q : env[i]? with
    | none => rw [q] at e; cases e
    | some sl =>
      rw [q] at e
      cases sl with
      | no => cases e
      | thk => cases e
      | dat _ => cases e
      | dic _ => exact (s.slots i _ q).elim
      | lst ds =>
        cases e
        obtain ⟨b, xs, ev, h1, h2, h3, _⟩ := s.slots i _ q
        rw [h] at ev; cases ev
        exact .l h1 h2 h3
  | d z =>
    have h : Rep K F ρ v z := h
    cases z with
    | loc n =>
      have e : (match S[n]? with | some c => c.vw | none => none) = some d := e
      cases h with
      | loc ea =>
        cases q : S[n]? with
        | none => rw [q] at e; cases e
        | some c =>
          rw [q] at e
          have z := s.cells n _ c ea q
          cases c with
          | dead => cases e
          | dic _ => exact z.elim
          | lst ds =>
            cases e
            obtain ⟨xs, h1, h2, h3, _⟩ := z
            exact .l h1 h2 h3
    | _ => cases e; exact .of s.fh h
theorem VRep.int {i : Int} (h : VRep K F ρ H v (.int i)) : v = .int i := by cases h with | r h _ => cases h; rfl
theorem VRep.bl {i : Bool} (h : VRep K F ρ H v (.bl i)) : v = .bl i := by cases h with | r h _ => cases h; rfl
theorem VRep.non (h : VRep K F ρ H v .non) : v = .non := by cases h with | r h _ => cases h; rfl
theorem VRep.str {s : List Nat} (h : VRep K F ρ H v (.str s)) : v = .str (txt s) ∧ okS s = true := by cases h with | r h _ => cases h; exact ⟨rfl, by assumption⟩
theorem VRep.lst (h : VRep K F ρ H v (.lst ds)) : ∃ a xs, v = .ref a ∧ H a = some (.lst xs) ∧ xs.length ≤ 16777216 ∧ Reps K F ρ xs ds := by
  cases h with
  | r h hl => exact absurd rfl (hl ds)
  | l h hl r => exact ⟨_, _, rfl, h, hl, r⟩
theorem VRep.tup (h : VRep K F ρ H v (.tup ds)) : ∃ a xs, v = .ref a ∧ SqT K F a xs ∧ xs.length ≤ 16777216 ∧ Reps K F ρ xs ds := by
  cases h with
  | r h _ => cases h; exact ⟨_, _, rfl, by assumption, by assumption, by assumption⟩
theorem VRep.scr {ns : List Int} (h : VRep K F ρ H v (.scr ns)) : ∃ a, v = .ref a ∧ SqL K F a (ns.map V.int) ∧ ns.length ≤ 16777216 := by
  cases h with
  | r h _ => cases h; exact ⟨_, rfl, by assumption, by assumption⟩
/-- the answer of a primitive -/
theorem At.now {P : Post β α} {Q : β → Hp → Prop} {a : α} {b : β} (h : At K W EX G σ P Q F ρ (.ok a env S)) (s : Sim K F ρ G env S σ H) (p : P F ρ env H b a) : Q b H :=
  h F ρ H b Le.refl prefix_refl s p
/-- .. a new tuple -/
theorem At.tup {Q : V → Hp → Prop} (h : At K W EX G σ (POut K G σ) Q F ρ (.ok (.val (.tup ds)) env S)) (s : Sim K F ρ G env S σ H) (r : Reps K F ρ xs ds) (hl : xs.length ≤ 16777216) {p : Addr} (hp : H p = none) : Q (.ref p) (upd H p (.tup xs)) := by
  have le : Le F (upd F p (.tup xs)) := Le.upd (s.fnone hp)
  exact h _ ρ _ _ le prefix_refl (s.put hp) (show Rep K _ _ _ (.tup ds) from .tup (SqT.of upd_same) hl (r.mono le prefix_refl))
/-- .. a new list -/
theorem At.lst {Q : V → Hp → Prop} (h : At K W EX G σ (POut K G σ) Q F ρ (.ok (.new (.lst ds)) env S)) (s : Sim K F ρ G env S σ H) (r : Reps K F ρ xs ds) (hl : xs.length ≤ 16777216) {p : Addr} (hp : H p = none) : Q (.ref p) (upd H p (.lst xs)) :=
  h F ρ _ _ Le.refl prefix_refl (s.laid hp) ⟨p, xs, rfl, upd_same, hl, r, s.fnone hp, s.gnone hp, s.notRho hp, s.notOwn hp⟩
/-- .. a new dict -/
theorem At.dic {Q : V → Hp → Prop} {kvs : List (Key × V)} {ks : List (D × D)} (h : At K W EX G σ (POut K G σ) Q F ρ (.ok (.new (.dic ks)) env S)) (s : Sim K F ρ G env S σ H) (r : RepKs K F ρ kvs ks) (hl : kvs.length ≤ 16777216) {p : Addr} (hp : H p = some (.dK kvs)) (hF : F p = none) (hG : G p = none) (hr : p ∉ ρ) (ho : ∀ i, ¬ OwnAt env σ i p) : Q (.ref p) H :=
  h F ρ _ _ Le.refl prefix_refl s ⟨p, kvs, rfl, hp, hl, r, hF, hG, hr, ho⟩
theorem size24 : (sizeLine : Nat) = 16777216 := by rw [sizeLine_eq]
end
end Pf
/-! Pf, part D: the primitives by values. -/
namespace Pf
open PySem PySem.Spec PyProof.Rows L2

theorem OpR.imp {X : Cx} {f : Value → Value → Sem Value} {r r' : R2} (h : OpR X f r') (hi : ∀ x y H Q, r x y H Q → r' x y H Q) : OpR X f r := fun pins s σ H x y v u Q I rx ry q => h pins s σ H x y v u Q I rx ry (hi x y H Q q)
theorem IxR.imp {X : Cx} {r r' : R2} (h : IxR X r') (hi : ∀ x y H Q, r x y H Q → r' x y H Q) : IxR X r := fun a b pins s σ H x y v u Q I rx ry q => h a b pins s σ H x y v u Q I rx ry (hi x y H Q q)
theorem CallR.imp {X : Cx} {f : Value} {r r' : List V → Hp → VK → Prop} (h : CallR X f r') (hi : ∀ xs H Q, r xs H Q → r' xs H Q) : CallR X f r := fun pins s σ H xs us Q I rs q => h pins s σ H xs us Q I rs (hi xs H Q q)
theorem MtR.imp {X : Cx} {id : String} {r r' : V → List V → Hp → VK → Prop} (h : MtR X id r') (hi : ∀ x xs H Q, r x xs H Q → r' x xs H Q) : MtR X id r := fun pins s σ H x xs v us Q I rx rs q => h pins s σ H x xs v us Q I rx rs (hi x xs H Q q)
theorem UnR.imp {X : Cx} {f : Value → Sem Value} {r r' : V → Hp → VK → Prop} (h : UnR X f r') (hi : ∀ x H Q, r x H Q → r' x H Q) : UnR X f r := fun pins s σ H x v Q I rx q => h pins s σ H x v Q I rx (hi x H Q q)

section
variable (K : KX) (W : WX) (EX : EXT)
/-- an answer o of a primitive at what its arguments look like -/
def ansV (o : Option Out) (F : Hp) (ρ : List Addr) (G : Hp) (env : Env) (S : Store) (σ : L2.St) (Q : VK) : Prop := ∃ out, o = some out ∧ At K W EX G σ (POut K G σ) Q F ρ (.ok out env S)
def rV2 (f : D → D → Option Out) : R2 := fun x y H Q => ∃ F ρ G env S σ dx dy, Sim K F ρ G env S σ H ∧ VRep K F ρ H x dx ∧ VRep K F ρ H y dy ∧ ansV K W EX (f dx dy) F ρ G env S σ Q
def rV1 (f : D → Option Out) : V → Hp → VK → Prop := fun x H Q => ∃ F ρ G env S σ dx, Sim K F ρ G env S σ H ∧ VRep K F ρ H x dx ∧ ansV K W EX (f dx) F ρ G env S σ Q
inductive VReps (F : Hp) (ρ : List Addr) (H : Hp) : List V → List D → Prop
  | nil : VReps F ρ H [] []
  | cons {x : V} {xs : List V} {d : D} {ds : List D} (h : VRep K F ρ H x d) (t : VReps F ρ H xs ds) : VReps F ρ H (x :: xs) (d :: ds)
def rVs (f : List D → Option Out) : List V → Hp → VK → Prop := fun xs H Q => ∃ F ρ G env S σ ds, Sim K F ρ G env S σ H ∧ VReps K F ρ H xs ds ∧ ansV K W EX (f ds) F ρ G env S σ Q
def rVm (f : D → List D → Option Out) : V → List V → Hp → VK → Prop := fun x xs H Q => ∃ F ρ G env S σ d ds, Sim K F ρ G env S σ H ∧ VRep K F ρ H x d ∧ VReps K F ρ H xs ds ∧ ansV K W EX (f d ds) F ρ G env S σ Q
end
section
variable {X : Cx} {W : WX} {EX : EXT} {F G H : Hp} {ρ : List Addr} {σ : L2.St} {env : Env} {S : Store} {Q : VK}
theorem ansV.int {i : Int} (h : ansV (kx X EX) W EX (some (.val (.int i))) F ρ G env S σ Q) (s : Sim (kx X EX) F ρ G env S σ H) : Q (.int i) H := by
  obtain ⟨o, e, a⟩ := h; cases e; exact a.now s (show Rep (kx X EX) F ρ _ _ from .int i)
theorem ansV.bl {i : Bool} (h : ansV (kx X EX) W EX (some (.val (.bl i))) F ρ G env S σ Q) (s : Sim (kx X EX) F ρ G env S σ H) : Q (.bl i) H := by
  obtain ⟨o, e, a⟩ := h; cases e; exact a.now s (show Rep (kx X EX) F ρ _ _ from .bl i)
theorem ansV.str {i : List Nat} (h : ansV (kx X EX) W EX (some (.val (.str i))) F ρ G env S σ Q) (s : Sim (kx X EX) F ρ G env S σ H) (ok : okS i = true) : Q (.str (txt i)) H := by
  obtain ⟨o, e, a⟩ := h; cases e; exact a.now s (show Rep (kx X EX) F ρ _ _ from .str ok)
theorem ansV.dat {d : D} {v : V} (h : ansV (kx X EX) W EX (some (.val d)) F ρ G env S σ Q) (s : Sim (kx X EX) F ρ G env S σ H) (r : Rep (kx X EX) F ρ v d) : Q v H := by
  obtain ⟨o, e, a⟩ := h; cases e; exact a.now s r
theorem ansV.tup {ds : List D} {xs : List V} (h : ansV (kx X EX) W EX (some (.val (.tup ds))) F ρ G env S σ Q) (s : Sim (kx X EX) F ρ G env S σ H) (r : Reps (kx X EX) F ρ xs ds) (hl : xs.length ≤ 16777216) {p : Addr} (hp : H p = none) : Q (.ref p) (upd H p (.tup xs)) := by
  obtain ⟨o, e, a⟩ := h; cases e; exact a.tup s r hl hp
theorem ansV.lst {ds : List D} {xs : List V} (h : ansV (kx X EX) W EX (some (.new (.lst ds))) F ρ G env S σ Q) (s : Sim (kx X EX) F ρ G env S σ H) (r : Reps (kx X EX) F ρ xs ds) (hl : xs.length ≤ 16777216) {p : Addr} (hp : H p = none) : Q (.ref p) (upd H p (.lst xs)) := by
  obtain ⟨o, e, a⟩ := h; cases e; exact a.lst s r hl hp
theorem ansV.if {c : Prop} [Decidable c] {o : Option Out} (h : ansV (kx X EX) W EX (if c then o else none) F ρ G env S σ Q) : c ∧ ansV (kx X EX) W EX o F ρ G env S σ Q := by
  by_cases hc : c
  · rw [if_pos hc] at h; exact ⟨hc, h⟩
  · rw [if_neg hc] at h; obtain ⟨_, e, _⟩ := h; cases e
theorem ansV.no (h : ansV (kx X EX) W EX none F ρ G env S σ Q) : False := by obtain ⟨_, e, _⟩ := h; cases e
theorem txt_app (a b : List Nat) : txt a ++ txt b = txt (a ++ b) := by
  have : ∀ x y : Str, x ++ y = ⟨x.cps ++ y.cps⟩ := fun _ _ => rfl
  rw [this]; simp [txt]

theorem Reps.rep {K : KX} {F : Hp} {ρ : List Addr} {xs : List V} {ds : List D} (h : Reps K F ρ xs ds) : ∀ n : Nat, Reps K F ρ (List.replicate n xs).flatten (List.replicate n ds).flatten
  | 0 => .nil
  | n + 1 => by rw [List.replicate_succ, List.flatten_cons, List.replicate_succ, List.flatten_cons]; exact h.append (Reps.rep h n)
theorem fold_app (z : List Nat) : ∀ (n : Nat) (acc : List Nat), ((List.replicate n z.toArray).foldl (· ++ ·) acc.toArray) = (acc ++ (List.replicate n z).flatten).toArray
  | 0, acc => by simp
  | n + 1, acc => by
    rw [List.replicate_succ, List.foldl_cons, List.replicate_succ, List.flatten_cons, ← List.append_assoc, ← fold_app z n (acc ++ z)]
    congr 1
    simp
/-- a text times an int -/
def rRepS : R2 := fun x y H Q => ∃ (z : List Nat) (k : Int), x = .str (txt z) ∧ y = .int k ∧ -(2 ^ 63) ≤ k ∧ k < 2 ^ 63 ∧ z.length * k.toNat ≤ 16777216 ∧ Q (.str (txt (List.replicate k.toNat z).flatten)) H
theorem op_repS {X : Cx} : OpR X (binaryOp .Mult) rRepS := by
  intro pins s σ H x y v u Q I rx ry h
  obtain ⟨z, k, rfl, rfl, h1, h2, hz, q⟩ := h
  obtain ⟨t, rfl⟩ := (show ∃ t, v = Value.str (txt z) t from rx)
  obtain ⟨t2, rfl⟩ := (show ∃ t, u = Value.int k t from ry)
  have hlong : PySem.Builtin.Str.tooLong ((txt z).length * k.toNat) = false := by
    rw [txt_len]
    unfold PySem.Builtin.Str.tooLong
    simp only [decide_eq_false_iff_not, Nat.not_lt]
    rw [size24]; exact hz
  refine PySem.P.mul_str (by
    have e1 : decide (k < -(2 ^ 63 : Int)) = false := decide_eq_false (Int.not_lt.mpr h1)
    have e2 : decide (k ≥ (2 : Int) ^ 63) = false := decide_eq_false (Int.not_le.mpr h2)
    rw [e1, e2]; rfl) (fun g1 g2 => ?_) (fun _ _ => hlong) ?_
  · rw [txt_len]
    clear q hlong I rx ry
    intro g3
    have hk : 2 ≤ k := by
      have g3 : (k == 1) = false := by exact (Bool.or_eq_false_iff.mp g2).1
      have g4 : k ≠ 1 := fun z => by rw [z] at g3; cases g3
      omega
    have : (z.length : Int) ≤ 16777216 := by
      have : z.length * 1 ≤ z.length * k.toNat := Nat.mul_le_mul_left _ (by omega)
      omega
    have g4 : ((2 : Int) ^ 63 - 1) / k < z.length := g3
    have hz2 : (z.length : Int) * k ≤ 16777216 := by
      have : ((z.length * k.toNat : Nat) : Int) ≤ 16777216 := Int.ofNat_le.mpr hz
      rw [Int.natCast_mul, Int.toNat_of_nonneg (by omega)] at this
      exact this
    have g5 : ((2 : Int) ^ 63 - 1) < z.length * k := by
      have := Int.lt_mul_of_ediv_lt (by omega : 0 < k) g4
      exact this
    omega
  · by_cases g1 : k < 1
    · rw [if_pos g1]
      have e : k.toNat = 0 := by omega
      rw [e] at q
      exact ⟨by decide, ⟨.str (txt []), H, I.tok _, ⟨_, rfl⟩, q⟩⟩
    · rw [if_neg g1]
      by_cases g2 : (k == 1 || (txt z).length == 0) = true
      · rw [if_pos g2]
        have e : (List.replicate k.toNat z).flatten = z := by
          rw [Bool.or_eq_true, beq_iff_eq, beq_iff_eq, txt_len] at g2
          rcases g2 with rfl | g2
          · simp
          · rw [List.length_eq_zero_iff.mp g2]; simp
        rw [e] at q
        exact ⟨.str (txt z), H, I, ⟨t, rfl⟩, q⟩
      · rw [if_neg g2]
        have e : (⟨(List.replicate k.toNat (txt z).cps).foldl (· ++ ·) #[]⟩ : Str) = txt (List.replicate k.toNat z).flatten := by
          have := fold_app z k.toNat []
          rw [List.nil_append] at this
          show (⟨(List.replicate k.toNat z.toArray).foldl (· ++ ·) #[]⟩ : Str) = ⟨_⟩
          rw [this]
        rw [e]
        refine ⟨?_, ⟨.str _, H, I.tok _, ⟨_, rfl⟩, q⟩⟩
        rw [txt_len, List.length_flatten, List.map_replicate, List.sum_replicate_nat, Nat.mul_comm, size24]; exact hz

/-! ### operators -/
def bopOf : BOp → Operator
  | .add => .Add | .sub => .Sub | .mul => .Mult | .fdiv => .FloorDiv | .mod => .Mod | .pow => .Pow
theorem or_bin (o : BOp) : OpR X (binaryOp (bopOf o)) (rV2 (kx X EX) W EX (binF o)) := by
  cases o with
  | add =>
    refine OpR.imp (OpR.or op_add (OpR.or op_add_str (OpR.or op_cat op_catA))) fun x y H Q h => ?_
    obtain ⟨F, ρ, G, env, S, σ, dx, dy, s, rx, ry, a⟩ := h
    cases dx with
    | int i =>
      cases dy with
      | int j => exact .inl ⟨i, j, rx.int, ry.int, a.int s⟩
      | _ => exact a.no.elim
    | str i =>
      cases dy with
      | str j =>
        obtain ⟨e1, o1⟩ := rx.str
        obtain ⟨e2, o2⟩ := ry.str
        obtain ⟨c, a⟩ := ansV.if a
        refine .inr (.inl ⟨txt i, txt j, e1, e2, by rw [size24]; simpa using c, ?_⟩)
        rw [txt_app]
        exact a.str s (okS_app o1 o2 c)
      | _ => exact a.no.elim
    | lst i =>
      cases dy with
      | lst j =>
        obtain ⟨p, xs, rfl, h1, h2, h3⟩ := rx.lst
        obtain ⟨q, ys, rfl, h4, h5, h6⟩ := ry.lst
        obtain ⟨c, a⟩ := ansV.if a
        have hl : xs.length + ys.length ≤ 16777216 := by rw [h3.length, h6.length]; exact c
        exact .inr (.inr (.inl ⟨p, q, xs, ys, rfl, rfl, h1, h4, by rw [size24]; exact hl, fun b hb => a.lst s (h3.append h6) (by simpa using hl) hb⟩))
      | _ => exact a.no.elim
    | tup i =>
      cases dy with
      | tup j =>
        obtain ⟨p, xs, rfl, h1, h2, h3⟩ := rx.tup
        obtain ⟨q, ys, rfl, h4, h5, h6⟩ := ry.tup
        obtain ⟨c, a⟩ := ansV.if a
        have hl : xs.length + ys.length ≤ 16777216 := by rw [h3.length, h6.length]; exact c
        refine .inr (.inr (.inr ⟨p, q, xs, ys, rfl, rfl, s.fh.sqT h1, s.fh.sqT h4, by rw [size24]; exact hl, fun z => ?_, fun _ z => ?_, fun _ _ b hb => a.tup s (h3.append h6) (by simpa using hl) hb⟩))
        · subst z
          cases h3
          exact a.dat s (.tup h4 h5 h6)
        · subst z
          cases h6
          exact a.dat s (.tup h1 h2 (by simpa using h3))
      | _ => exact a.no.elim
    | _ => cases dy <;> exact a.no.elim
  | sub =>
    refine OpR.imp op_sub fun x y H Q h => ?_
    obtain ⟨F, ρ, G, env, S, σ, dx, dy, s, rx, ry, a⟩ := h
    cases dx with
    | int i =>
      cases dy with
      | int j => exact ⟨i, j, rx.int, ry.int, a.int s⟩
      | _ => exact a.no.elim
    | _ => cases dy <;> exact a.no.elim
  | mul =>
    refine OpR.imp (OpR.or op_mul (OpR.or op_repS op_rep)) fun x y H Q h => ?_
    obtain ⟨F, ρ, G, env, S, σ, dx, dy, s, rx, ry, a⟩ := h
    cases dx with
    | int i =>
      cases dy with
      | int j => obtain ⟨c, a⟩ := ansV.if a; exact .inl ⟨i, j, rx.int, ry.int, c, a.int s⟩
      | _ => exact a.no.elim
    | str z =>
      cases dy with
      | int k =>
        obtain ⟨⟨c1, c2, c3⟩, a⟩ := ansV.if a
        obtain ⟨e1, o1⟩ := rx.str
        refine .inr (.inl ⟨z, k, e1, ry.int, c1, c2, c3, a.str s (okS_mk ?_ fun c hc => ?_)⟩)
        · rw [List.length_flatten, List.map_replicate, List.sum_replicate_nat, Nat.mul_comm]; exact c3
        · obtain ⟨l, h1, h2⟩ := List.mem_flatten.mp hc
          rw [List.eq_of_mem_replicate h1] at h2
          exact okS_all o1 c h2
      | _ => exact a.no.elim
    | lst zs =>
      cases dy with
      | int k =>
        obtain ⟨⟨c1, c2, c3⟩, a⟩ := ansV.if a
        obtain ⟨p, xs, rfl, h1, h2, h3⟩ := rx.lst
        have hl : xs.length * k.toNat ≤ 16777216 := by rw [h3.length]; exact c3
        refine .inr (.inr ⟨p, k, xs, rfl, ry.int, h1, c1, c2, by rw [size24]; exact hl, fun q hq => a.lst s (h3.rep k.toNat) ?_ hq⟩)
        rw [List.length_flatten, List.map_replicate, List.sum_replicate_nat, Nat.mul_comm]; exact hl
      | _ => exact a.no.elim
    | _ => cases dy <;> exact a.no.elim
  | fdiv =>
    refine OpR.imp op_fdiv fun x y H Q h => ?_
    obtain ⟨F, ρ, G, env, S, σ, dx, dy, s, rx, ry, a⟩ := h
    cases dx with
    | int i =>
      cases dy with
      | int j => obtain ⟨c, a⟩ := ansV.if a; exact ⟨i, j, rx.int, ry.int, c, a.int s⟩
      | _ => exact a.no.elim
    | _ => cases dy <;> exact a.no.elim
  | mod =>
    refine OpR.imp op_mod fun x y H Q h => ?_
    obtain ⟨F, ρ, G, env, S, σ, dx, dy, s, rx, ry, a⟩ := h
    cases dx with
    | int i =>
      cases dy with
      | int j => obtain ⟨c, a⟩ := ansV.if a; exact ⟨i, j, rx.int, ry.int, c, a.int s⟩
      | _ => exact a.no.elim
    | _ => cases dy <;> exact a.no.elim
  | pow =>
    refine OpR.imp op_pow fun x y H Q h => ?_
    obtain ⟨F, ρ, G, env, S, σ, dx, dy, s, rx, ry, a⟩ := h
    cases dx with
    | int i =>
      cases dy with
      | int j => obtain ⟨c, a⟩ := ansV.if a; exact ⟨i, j, rx.int, ry.int, c, a.int s⟩
      | _ => exact a.no.elim
    | _ => cases dy <;> exact a.no.elim
theorem or_un (o : UOp) : UnR X (unaryOp .USub) (rV1 (kx X EX) W EX (unF o)) := by
  cases o
  refine UnR.imp un_neg fun x H Q h => ?_
  obtain ⟨F, ρ, G, env, S, σ, dx, s, rx, a⟩ := h
  cases dx with
  | int i => exact ⟨i, rx.int, a.int s⟩
  | _ => exact a.no.elim

/-! ### comparisons -/
mutual
def D.py : D → PyData
  | .non => .none
  | .bl b => .bool b
  | .int i => .int i
  | .str s => .str (txt s)
  | .lst xs => .list (D.pys xs)
  | .tup xs => .tuple (D.pys xs)
  | _ => .none
def D.pys : List D → List PyData
  | [] => []
  | x :: xs => D.py x :: D.pys xs
end
mutual
theorem py_eqv : ∀ (a b : D), a.pl = true → b.pl = true → PyData.eqv a.py b.py = a.eqb b
  | .non, b, _, hb => by cases b <;> first | rfl | (simp [D.pl] at hb)
  | .bl x, b, _, hb => by cases b <;> first | rfl | (simp [D.pl] at hb)
  | .int x, b, _, hb => by cases b <;> first | rfl | (simp [D.pl] at hb)
  | .str x, b, _, hb => by
    cases b with
    | str y =>
      show (txt x == txt y) = (x == y)
      rw [Bool.eq_iff_iff]; simp [txt]
    | _ => first | rfl | (simp [D.pl] at hb)
  | .lst xs, b, ha, hb => by
    cases b with
    | lst ys => exact pys_eqv xs ys ha hb
    | _ => first | rfl | (simp [D.pl] at hb)
  | .tup xs, b, ha, hb => by
    cases b with
    | tup ys => exact pys_eqv xs ys ha hb
    | _ => first | rfl | (simp [D.pl] at hb)
  | .dic _, _, ha, _ => by simp [D.pl] at ha
  | .scr _, _, ha, _ => by simp [D.pl] at ha
  | .loc _, _, ha, _ => by simp [D.pl] at ha
  | .fn _, _, ha, _ => by simp [D.pl] at ha
theorem pys_eqv : ∀ (xs ys : List D), D.pls xs = true → D.pls ys = true → PyData.eqvAll (D.pys xs) (D.pys ys) = D.eqbs xs ys
  | [], [], _, _ => rfl
  | [], _ :: _, _, _ => rfl
  | _ :: _, [], _, _ => rfl
  | x :: xs, y :: ys, ha, hb => by
    have ha : (x.pl && D.pls xs) = true := ha
    have hb : (y.pl && D.pls ys) = true := hb
    rw [Bool.and_eq_true] at ha hb
    show (PyData.eqv x.py y.py && PyData.eqvAll (D.pys xs) (D.pys ys)) = (x.eqb y && D.eqbs xs ys)
    rw [py_eqv x y ha.1 hb.1, pys_eqv xs ys ha.2 hb.2]
end
mutual
theorem py_depth : ∀ a : D, a.pl = true → a.py.depth = a.depth
  | .non, _ => rfl
  | .bl _, _ => rfl
  | .int _, _ => rfl
  | .str _, _ => rfl
  | .lst xs, h => by show PyData.depthAll (D.pys xs) + 1 = D.depths xs + 1; rw [pys_depth xs h]
  | .tup xs, h => by show PyData.depthAll (D.pys xs) + 1 = D.depths xs + 1; rw [pys_depth xs h]
  | .dic _, ha => by simp [D.pl] at ha
  | .scr _, ha => by simp [D.pl] at ha
  | .loc _, ha => by simp [D.pl] at ha
  | .fn _, ha => by simp [D.pl] at ha
theorem pys_depth : ∀ xs : List D, D.pls xs = true → PyData.depthAll (D.pys xs) = D.depths xs
  | [], _ => rfl
  | x :: xs, ha => by
    have ha : (x.pl && D.pls xs) = true := ha
    rw [Bool.and_eq_true] at ha
    show max x.py.depth (PyData.depthAll (D.pys xs)) = max x.depth (D.depths xs)
    rw [py_depth x ha.1, pys_depth xs ha.2]
end
mutual
theorem rep_py {v : V} : ∀ d : D, Rep (kx X EX) F ρ v d → d.pl = true → Le F H → Dp X.K H v d.py ∧ d.py.canLay0 = true
  | .non, h, _, _ => by cases h; exact ⟨.non, rfl⟩
  | .bl b, h, _, _ => by cases h; exact ⟨.bl b, rfl⟩
  | .int b, h, _, _ => by cases h; exact ⟨.int b, rfl⟩
  | .str b, h, _, _ => by
    cases h with
    | str h =>
      refine ⟨.str _, ?_⟩
      show PyData.strOk (txt b) = true
      unfold PyData.strOk
      simp only [txt, List.all_toArray, List.all_eq_true, decide_eq_true_eq]
      exact okS_all h
  | .lst xs, h, hp, le => by
    cases h with
    | lst h hl r =>
      obtain ⟨h1, h2⟩ := reps_py xs r hp le
      exact ⟨.lst (SqL.of (le _ _ h)) h1, h2⟩
  | .tup xs, h, hp, le => by
    cases h with
    | tup h hl r =>
      obtain ⟨h1, h2⟩ := reps_py xs r hp le
      exact ⟨.tup (le.sqT h) h1, h2⟩
  | .dic _, _, ha, _ => by simp [D.pl] at ha
  | .scr _, _, ha, _ => by simp [D.pl] at ha
  | .loc _, _, ha, _ => by simp [D.pl] at ha
  | .fn _, _, ha, _ => by simp [D.pl] at ha
theorem reps_py {vs : List V} : ∀ ds : List D, Reps (kx X EX) F ρ vs ds → D.pls ds = true → Le F H → DpAll X.K H vs (D.pys ds) ∧ PyData.canLayAll0 (D.pys ds) = true
  | [], h, _, _ => by cases h; exact ⟨.nil, rfl⟩
  | d :: ds, h, ha, le => by
    have ha : (d.pl && D.pls ds) = true := ha
    rw [Bool.and_eq_true] at ha
    cases h with
    | cons h t =>
      obtain ⟨h1, h2⟩ := rep_py d h ha.1 le
      obtain ⟨h3, h4⟩ := reps_py ds t ha.2 le
      exact ⟨.cons h1 h3, by show (d.py.canLay0 && PyData.canLayAll0 (D.pys ds)) = true; rw [h2, h4]; rfl⟩
end
theorem VRep.py {v : V} {d : D} (h : VRep (kx X EX) F ρ H v d) (hp : d.pl = true) (le : Le F H) : Dp X.K H v d.py ∧ d.py.canLay0 = true := by
  cases h with
  | r h _ => exact rep_py d h hp le
  | l h hl r =>
    obtain ⟨h1, h2⟩ := reps_py _ r hp le
    exact ⟨.lst (SqL.of h) h1, h2⟩
def rEqM (K : PySem.W.Frag) (neg : Bool) : R2 := fun x y H Q => ∃ d e, Dp K H x d ∧ Dp K H y e ∧ d.canLay0 = true ∧ e.canLay0 = true ∧ min d.depth e.depth ≤ 64 ∧ Q (.bl (if neg then !PyData.eqv d e else PyData.eqv d e)) H
theorem op_eqM (hu : X.A.units + 64 < cLine) : OpR X (compareOp .Eq) (rEqM X.K false) := by
  intro pins s σ H x y v u Q I rx ry h
  obtain ⟨d, e, hd, he, sd, se, hm, q⟩ := h
  obtain ⟨as, r1⟩ := Dp.reads I d x v hd rx
  obtain ⟨bs, r2⟩ := Dp.reads I e y u he ry
  exact SeqAt.compareEq_reads r1 r2 sd se (by omega) ⟨.bl _, H, I, rfl, q⟩
theorem op_neM (hu : X.A.units + 64 < cLine) : OpR X (compareOp .NotEq) (rEqM X.K true) := by
  intro pins s σ H x y v u Q I rx ry h
  obtain ⟨d, e, hd, he, sd, se, hm, q⟩ := h
  obtain ⟨as, r1⟩ := Dp.reads I d x v hd rx
  obtain ⟨bs, r2⟩ := Dp.reads I e y u he ry
  exact SeqAt.compareNe_reads r1 r2 sd se (by omega) ⟨.bl _, H, I, rfl, q⟩
theorem eqD_inv {a b : D} {r : Bool} (h : eqD a b = some r) : a.pl = true ∧ b.pl = true ∧ min a.depth b.depth ≤ 64 ∧ r = a.eqb b := by
  unfold eqD at h
  split at h
  · rename_i c
    simp only [Bool.and_eq_true, decide_eq_true_eq] at c
    exact ⟨c.1.1, c.1.2, c.2, (Option.some.inj h).symm⟩
  · cases h

def rInM (K : PySem.W.Frag) (neg : Bool) : R2 := fun x y H Q => ∃ d ds, Dp K H x d ∧ Dp K H y (.list ds) ∧ d.canLay0 = true ∧ PyData.canLayAll0 ds = true ∧ d.depth ≤ 64 ∧ Q (.bl (if neg then !ds.any fun z => PyData.eqv z d else ds.any fun z => PyData.eqv z d)) H
theorem shaped_of {d : PyData} (h : d.canLay0 = true) (hd : d.depth ≤ 64) : SeqAt.shaped d = true := by
  unfold SeqAt.shaped; rw [h, decide_eq_true hd]; rfl
theorem op_inM (hu : X.A.units + 65 < cLine) : OpR X (compareOp .In) (rInM X.K false) := by
  intro pins s σ H x y v u Q I rx ry h
  obtain ⟨d, ds, hd, he, sd, se, hm, q⟩ := h
  obtain ⟨as, r1⟩ := Dp.reads I d x v hd rx
  obtain ⟨bs, r2⟩ := Dp.reads I (.list ds) y u he ry
  exact SeqAt.in_list_reads r2 r1 se sd (room_in_shaped (shaped_of sd hm) hu) ⟨.bl _, H, I, rfl, q⟩
theorem op_notInM (hu : X.A.units + 65 < cLine) : OpR X (compareOp .NotIn) (rInM X.K true) := by
  intro pins s σ H x y v u Q I rx ry h
  obtain ⟨d, ds, hd, he, sd, se, hm, q⟩ := h
  obtain ⟨as, r1⟩ := Dp.reads I d x v hd rx
  obtain ⟨bs, r2⟩ := Dp.reads I (.list ds) y u he ry
  exact SeqAt.notIn_list_reads r2 r1 se sd (room_in_shaped (shaped_of sd hm) hu) ⟨.bl _, H, I, rfl, q⟩
theorem pys_any (d : D) (hd : d.pl = true) : ∀ xs : List D, D.pls xs = true → ((D.pys xs).any fun z => PyData.eqv z d.py) = xs.any fun z => z.eqb d
  | [], _ => rfl
  | x :: xs, h => by
    have h : (x.pl && D.pls xs) = true := h
    rw [Bool.and_eq_true] at h
    show (PyData.eqv x.py d.py || (D.pys xs).any fun z => PyData.eqv z d.py) = (x.eqb d || xs.any fun z => z.eqb d)
    rw [py_eqv x d h.1 hd, pys_any d hd xs h.2]
theorem rep_flat {v : V} {d : D} (h : Rep (kx X EX) F ρ v d) (hf : d.flat = true) : flatV v = true := by
  cases h <;> first | rfl | (simp [D.flat] at hf)
theorem rep_eqV {v u : V} {d e : D} (h : Rep (kx X EX) F ρ v d) (h' : Rep (kx X EX) F ρ u e) (hf : d.flat = true) (hf' : e.flat = true) : eqV v u = d.eqb e := by
  cases h <;> first | (simp [D.flat] at hf; done) | skip
  all_goals (cases h' <;> first | rfl | (simp [D.flat] at hf'; done) | skip)
  rename_i a _ b _
  show (txt a == txt b) = (a == b)
  rw [Bool.eq_iff_iff]; simp [txt]
theorem reps_flat : ∀ {vs : List V} {ds : List D}, Reps (kx X EX) F ρ vs ds → ds.all D.flat = true → vs.all flatV = true
  | _, _, .nil, _ => rfl
  | _, _, .cons h t, hf => by
    rw [List.all_cons, Bool.and_eq_true] at hf
    rw [List.all_cons, rep_flat h hf.1, reps_flat t hf.2]; rfl
theorem reps_inV {v : V} {d : D} (h : Rep (kx X EX) F ρ v d) (hd : d.flat = true) : ∀ {vs : List V} {ds : List D}, Reps (kx X EX) F ρ vs ds → ds.all D.flat = true → inV v vs = ds.any fun z => z.eqb d
  | _, _, .nil, _ => rfl
  | _, _, .cons h' t, hf => by
    rw [List.all_cons, Bool.and_eq_true] at hf
    show (eqV _ v || _) = (_ || _)
    rw [rep_eqV h' h hf.1 hd]
    exact congrArg _ (reps_inV h hd t hf.2)
theorem VRep.rep_of {v : V} {d : D} (h : VRep (kx X EX) F ρ H v d) (hf : d.flat = true) : Rep (kx X EX) F ρ v d := by
  cases h with
  | r h _ => exact h
  | l _ _ _ => simp [D.flat] at hf
theorem isIn_inv {x y : V} {dx dy : D} {r : Bool} (s : Sim (kx X EX) F ρ G env S σ H) (rx : VRep (kx X EX) F ρ H x dx) (ry : VRep (kx X EX) F ρ H y dy) (e : isInF dx dy = some r) :
    (∃ c z, x = .str ⟨#[c]⟩ ∧ y = .str z ∧ r = decide (c ∈ z.cps.toList)) ∨
    (∃ d ds, Dp X.K H x d ∧ Dp X.K H y (.list ds) ∧ d.canLay0 = true ∧ PyData.canLayAll0 ds = true ∧ d.depth ≤ 64 ∧ r = ds.any fun z => PyData.eqv z d) ∨
    (∃ p xs, y = .ref p ∧ (SqL X.K H p xs ∨ SqT X.K H p xs) ∧ flatV x = true ∧ xs.all flatV = true ∧ r = inV x xs) := by
  cases dy with
  | str z =>
    cases dx with
    | str w =>
      match w, e with
      | [c], e =>
        obtain ⟨rfl, _⟩ := rx.str
        obtain ⟨rfl, _⟩ := ry.str
        exact .inl ⟨c, txt z, rfl, rfl, by rw [txt_list]; exact (Option.some.inj e).symm⟩
      | [], e => cases e
      | _ :: _ :: _, e => cases e
    | _ => cases e
  | lst xs =>
    have e : (if (dx.pl && D.pls xs && decide (dx.depth ≤ 64)) = true then some (xs.any fun z => z.eqb dx) else none) = some r := e
    split at e
    · rename_i c
      simp only [Bool.and_eq_true, decide_eq_true_eq] at c
      obtain ⟨h1, h2⟩ := rx.py c.1.1 s.fh
      obtain ⟨h3, h4⟩ := ry.py (show D.pl (.lst xs) = true from c.1.2) s.fh
      refine .inr (.inl ⟨dx.py, D.pys xs, h1, h3, h2, h4, by rw [py_depth _ c.1.1]; exact c.2, ?_⟩)
      rw [pys_any dx c.1.1 xs c.1.2]; exact (Option.some.inj e).symm
    · cases e
  | tup xs =>
    have e : (if (dx.flat && xs.all D.flat) = true then some (xs.any fun z => z.eqb dx) else none) = some r := e
    split at e
    · rename_i c
      rw [Bool.and_eq_true] at c
      obtain ⟨p, vs, rfl, h1, h2, h3⟩ := ry.tup
      have q := rx.rep_of c.1
      refine .inr (.inr ⟨p, vs, rfl, .inr (s.fh.sqT h1), rep_flat q c.1, reps_flat h3 c.2, ?_⟩)
      rw [reps_inV q c.1 h3 c.2]; exact (Option.some.inj e).symm
    · cases e
  | _ => cases e
theorem is_inv {x y : V} {dx dy : D} {r : Bool} (rx : VRep (kx X EX) F ρ H x dx) (ry : VRep (kx X EX) F ρ H y dy) (e : isF dx dy = some r) : (y = .non ∧ r = decide (x = .non)) ∨ ∃ a b, x = .bl a ∧ y = .bl b ∧ r = decide (a = b) := by
  cases dy with
  | non =>
    refine .inl ⟨ry.non, ?_⟩
    cases rx with
    | l h hl q => cases e; rfl
    | r h _ => cases h <;> (cases e; rfl)
  | bl b =>
    cases dx with
    | bl a => exact .inr ⟨a, b, rx.bl, ry.bl, by cases e; cases a <;> cases b <;> rfl⟩
    | _ => cases e
  | _ => cases dx <;> cases e
def copOf : COp → CmpOp
  | .eq => .Eq | .ne => .NotEq | .lt => .Lt | .le => .LtE | .gt => .Gt | .ge => .GtE | .isin => .In | .notin => .NotIn | .is => .Is | .isnot => .IsNot
theorem map_some {α β : Type} {f : α → β} {o : Option α} {b : β} (h : o.map f = some b) : ∃ a, o = some a ∧ f a = b := by
  cases o with
  | none => cases h
  | some a => exact ⟨a, rfl, Option.some.inj h⟩
/-- the answer of a comparison, by its truth -/
def rC2 (K : KX) (f : D → D → Option Bool) : R2 := fun x y H Q => ∃ F ρ G env S σ dx dy r, Sim K F ρ G env S σ H ∧ VRep K F ρ H x dx ∧ VRep K F ρ H y dy ∧ f dx dy = some r ∧ Q (.bl r) H
theorem or_cmp (o : COp) (hu : X.A.units + 65 < cLine) : OpR X (compareOp (copOf o)) (rC2 (kx X EX) (cmpF o)) := by
  cases o with
  | eq =>
    refine OpR.imp (op_eqM (by omega)) fun x y H Q h => ?_
    obtain ⟨F, ρ, G, env, S, σ, dx, dy, r, s, rx, ry, e, q⟩ := h
    obtain ⟨h1, h2, h3, rfl⟩ := eqD_inv e
    obtain ⟨h4, h5⟩ := rx.py h1 s.fh
    obtain ⟨h6, h7⟩ := ry.py h2 s.fh
    refine ⟨_, _, h4, h6, h5, h7, by rw [py_depth _ h1, py_depth _ h2]; exact h3, ?_⟩
    rw [py_eqv _ _ h1 h2]; exact q
  | ne =>
    refine OpR.imp (op_neM (by omega)) fun x y H Q h => ?_
    obtain ⟨F, ρ, G, env, S, σ, dx, dy, r, s, rx, ry, e, q⟩ := h
    obtain ⟨r', e2, rfl⟩ := map_some e
    obtain ⟨h1, h2, h3, rfl⟩ := eqD_inv e2
    obtain ⟨h4, h5⟩ := rx.py h1 s.fh
    obtain ⟨h6, h7⟩ := ry.py h2 s.fh
    refine ⟨_, _, h4, h6, h5, h7, by rw [py_depth _ h1, py_depth _ h2]; exact h3, ?_⟩
    rw [py_eqv _ _ h1 h2]; exact q
  | lt =>
    refine OpR.imp op_lt fun x y H Q h => ?_
    obtain ⟨F, ρ, G, env, S, σ, dx, dy, r, s, rx, ry, e, q⟩ := h
    cases dx with
    | int i =>
      cases dy with
      | int j => cases e; exact ⟨i, j, rx.int, ry.int, q⟩
      | _ => cases e
    | _ => cases dy <;> cases e
  | le =>
    refine OpR.imp op_le fun x y H Q h => ?_
    obtain ⟨F, ρ, G, env, S, σ, dx, dy, r, s, rx, ry, e, q⟩ := h
    cases dx with
    | int i =>
      cases dy with
      | int j => cases e; exact ⟨i, j, rx.int, ry.int, q⟩
      | _ => cases e
    | _ => cases dy <;> cases e
  | gt =>
    refine OpR.imp op_gt fun x y H Q h => ?_
    obtain ⟨F, ρ, G, env, S, σ, dx, dy, r, s, rx, ry, e, q⟩ := h
    cases dx with
    | int i =>
      cases dy with
      | int j => cases e; exact ⟨i, j, rx.int, ry.int, q⟩
      | _ => cases e
    | _ => cases dy <;> cases e
  | ge =>
    refine OpR.imp op_ge fun x y H Q h => ?_
    obtain ⟨F, ρ, G, env, S, σ, dx, dy, r, s, rx, ry, e, q⟩ := h
    cases dx with
    | int i =>
      cases dy with
      | int j => cases e; exact ⟨i, j, rx.int, ry.int, q⟩
      | _ => cases e
    | _ => cases dy <;> cases e
  | isin =>
    refine OpR.imp (OpR.or op_in_sign (OpR.or (op_inM hu) op_in_seq)) fun x y H Q h => ?_
    obtain ⟨F, ρ, G, env, S, σ, dx, dy, r, s, rx, ry, e, q⟩ := h
    rcases isIn_inv s rx ry e with ⟨c, z, rfl, rfl, rfl⟩ | ⟨d, ds, h1, h2, h3, h4, h5, rfl⟩ | ⟨p, xs, rfl, h1, h2, h3, rfl⟩
    · exact .inl ⟨c, z, rfl, rfl, q⟩
    · exact .inr (.inl ⟨d, ds, h1, h2, h3, h4, h5, q⟩)
    · exact .inr (.inr ⟨p, xs, rfl, h1, h2, h3, q⟩)
  | notin =>
    refine OpR.imp (OpR.or op_notIn_sign (OpR.or (op_notInM hu) op_notIn_seq)) fun x y H Q h => ?_
    obtain ⟨F, ρ, G, env, S, σ, dx, dy, r, s, rx, ry, e, q⟩ := h
    obtain ⟨r', e2, rfl⟩ := map_some e
    rcases isIn_inv s rx ry e2 with ⟨c, z, rfl, rfl, rfl⟩ | ⟨d, ds, h1, h2, h3, h4, h5, rfl⟩ | ⟨p, xs, rfl, h1, h2, h3, rfl⟩
    · exact .inl ⟨c, z, rfl, rfl, q⟩
    · exact .inr (.inl ⟨d, ds, h1, h2, h3, h4, h5, q⟩)
    · exact .inr (.inr ⟨p, xs, rfl, h1, h2, h3, q⟩)
  | is =>
    refine OpR.imp (OpR.or op_isN op_isBl) fun x y H Q h => ?_
    obtain ⟨F, ρ, G, env, S, σ, dx, dy, r, s, rx, ry, e, q⟩ := h
    rcases is_inv rx ry e with ⟨rfl, rfl⟩ | ⟨a, b, rfl, rfl, rfl⟩
    · exact .inl ⟨rfl, q⟩
    · exact .inr ⟨a, b, rfl, rfl, q⟩
  | isnot =>
    refine OpR.imp (OpR.or op_notN op_notBl) fun x y H Q h => ?_
    obtain ⟨F, ρ, G, env, S, σ, dx, dy, r, s, rx, ry, e, q⟩ := h
    obtain ⟨r', e2, rfl⟩ := map_some e
    rcases is_inv rx ry e2 with ⟨rfl, rfl⟩ | ⟨a, b, rfl, rfl, rfl⟩
    · exact .inl ⟨rfl, q⟩
    · exact .inr ⟨a, b, rfl, rfl, q⟩

/-! ### places and slices -/
theorem Reps.atI {vs : List V} {ds : List D} {i : Int} {d : D} (h : Reps (kx X EX) F ρ vs ds) (e : L2.atI ds i = some d) : ∃ v, L2.atI vs i = some v ∧ Rep (kx X EX) F ρ v d := by
  unfold L2.atI at e ⊢
  rw [h.length]
  cases q : L2.ixN ds.length i with
  | none => rw [q] at e; cases e
  | some k => rw [q] at e; exact h.get e
theorem ix_ok : IxR X (rV2 (kx X EX) W EX fun u v => (idxF u v).map .val) := by
  refine IxR.imp (IxR.or ix_list (IxR.or ix_tup ix_str)) fun x y H Q h => ?_
  obtain ⟨F, ρ, G, env, S, σ, dx, dy, s, rx, ry, o, e, q⟩ := h
  obtain ⟨d, e2, rfl⟩ := map_some e
  cases dy with
  | int i =>
    cases dx with
    | lst ds =>
      obtain ⟨p, xs, rfl, h1, h2, h3⟩ := rx.lst
      obtain ⟨v, hv, r⟩ := h3.atI (i := i) e2
      exact .inl ⟨p, xs, i, v, rfl, ry.int, SqL.of h1, hv, q.now s r⟩
    | tup ds =>
      obtain ⟨p, xs, rfl, h1, h2, h3⟩ := rx.tup
      obtain ⟨v, hv, r⟩ := h3.atI (i := i) e2
      exact .inr (.inl ⟨p, xs, i, v, rfl, ry.int, s.fh.sqT h1, hv, q.now s r⟩)
    | str z =>
      obtain ⟨rfl, ok⟩ := rx.str
      obtain ⟨c, e3, rfl⟩ := map_some e2
      refine .inr (.inr ⟨txt z, i, c, rfl, ry.int, by rw [size24, txt_len]; exact okS_len ok, by rw [txt_list]; exact e3, ?_⟩)
      refine q.now s (show Rep (kx X EX) F ρ _ _ from .str (okS_one ok ?_))
      unfold L2.atI at e3
      cases q : L2.ixN z.length i with
      | none => rw [q] at e3; cases e3
      | some k => rw [q] at e3; exact List.mem_of_getElem? e3
    | _ => cases e2
  | _ => cases dx <;> cases e2
def rVs3 (K : KX) (W : WX) (EX : EXT) : V → Option Int → Option Int → Hp → VK → Prop := fun x lo hi H Q => ∃ F ρ G env S σ dx, Sim K F ρ G env S σ H ∧ VRep K F ρ H x dx ∧ ansV K W EX (slcF dx lo hi) F ρ G env S σ Q
theorem SlR.imp {r r' : V → Option Int → Option Int → Hp → VK → Prop} (h : SlR X r') (hi : ∀ x l u H Q, r x l u H Q → r' x l u H Q) : SlR X r := fun pins s σ H x v vl vu lo hi' sl Q I rx hs pl pu q => h pins s σ H x v vl vu lo hi' sl Q I rx hs pl pu (hi x lo hi' H Q q)
theorem Reps.cut {vs : List V} {ds : List D} (h : Reps (kx X EX) F ρ vs ds) (lo hi : Option Int) : Reps (kx X EX) F ρ (cutV vs lo hi) (cut ds lo hi) := by
  unfold cutV Pf.cut
  rw [h.length]
  exact (h.drop _).take _
theorem cut_all {α : Type} (xs : List α) {lo hi : Option Int} (h1 : HT.sIx xs.length 0 lo = 0) (h2 : HT.sIx xs.length xs.length hi = xs.length) : cut xs lo hi = xs := by
  unfold Pf.cut; rw [h1, h2]; simp
theorem cut_len {α : Type} (xs : List α) (lo hi : Option Int) : (cut xs lo hi).length ≤ xs.length := by
  unfold Pf.cut; rw [List.length_take, List.length_drop]; omega
theorem cut_mem {α : Type} {xs : List α} {lo hi : Option Int} {x : α} (h : x ∈ cut xs lo hi) : x ∈ xs := by
  unfold Pf.cut at h; exact List.mem_of_mem_drop (List.mem_of_mem_take h)
theorem sl_ok : SlR X (rVs3 (kx X EX) W EX) := by
  refine SlR.imp (SlR.or sl_list (SlR.or sl_tupA sl_str)) fun x lo hi H Q h => ?_
  obtain ⟨F, ρ, G, env, S, σ, dx, s, rx, a⟩ := h
  cases dx with
  | lst ds =>
    obtain ⟨p, xs, rfl, h1, h2, h3⟩ := rx.lst
    exact .inl ⟨p, xs, rfl, SqL.of h1, fun q hq => a.lst s (h3.cut lo hi) (Nat.le_trans (cutV_length _ _ _) h2) hq⟩
  | tup ds =>
    obtain ⟨p, xs, rfl, h1, h2, h3⟩ := rx.tup
    refine .inr (.inl ⟨p, xs, rfl, s.fh.sqT h1, fun ⟨q1, q2⟩ => ?_, fun _ q hq => a.tup s (h3.cut lo hi) (Nat.le_trans (cutV_length _ _ _) h2) hq⟩)
    rw [h3.length] at q1 q2
    have a : ansV (kx X EX) W EX (some (.val (.tup (cut ds lo hi)))) F ρ G env S σ Q := a
    rw [cut_all ds q1 q2] at a
    exact a.dat s (.tup h1 h2 h3)
  | str z =>
    obtain ⟨rfl, ok⟩ := rx.str
    refine .inr (.inr ⟨txt z, rfl, by rw [size24, txt_len]; exact okS_len ok, ?_⟩)
    have e : cutS (txt z) lo hi = txt (cut z lo hi) := by
      unfold cutS Pf.cut
      rw [txt_len, txt_list]; rfl
    rw [e]
    exact a.str s (okS_sub ok (cut_len z lo hi) fun c hc => cut_mem hc)
  | _ => exact a.no.elim
end
end Pf
/-! Pf, part E: built-in functions, methods, changes, isinstance, by values. -/
namespace Pf
open PySem PySem.Spec PyProof.Rows L2
section
variable {X : Cx} {W : WX} {EX : EXT} {F G H : Hp} {ρ : List Addr} {σ : L2.St} {env : Env} {S : Store} {Q : VK}
variable {K : KX}
theorem VReps.one {xs : List V} {d : D} (h : VReps K F ρ H xs [d]) : ∃ x, xs = [x] ∧ VRep K F ρ H x d := by
  cases h with
  | cons h t => cases t; exact ⟨_, rfl, h⟩
theorem VReps.two {xs : List V} {d e : D} (h : VReps K F ρ H xs [d, e]) : ∃ x y, xs = [x, y] ∧ VRep K F ρ H x d ∧ VRep K F ρ H y e := by
  cases h with
  | cons h t => obtain ⟨y, rfl, h'⟩ := t.one; exact ⟨_, _, rfl, h, h'⟩
theorem vals_signs {z : Str} {acc : List Value} (h : ItemsOf (SignAt z) acc.toArray z.cps.size) : Vals (z.cps.toList.map fun c => V.str ⟨#[c]⟩) acc := by
  obtain ⟨h1, h2⟩ := h
  have key : ∀ (cs : List Nat) (acc : List Value), acc.length = cs.length → (∀ (j : Nat) v, acc[j]? = some v → ∃ c u, cs[j]? = some c ∧ v = Value.str ⟨#[c]⟩ u) → Vals (cs.map fun c => V.str ⟨#[c]⟩) acc := by
    intro cs
    induction cs with
    | nil => intro acc hl _; cases acc with
      | nil => exact .nil
      | cons _ _ => cases hl
    | cons c cs ih =>
      intro acc hl hj
      cases acc with
      | nil => cases hl
      | cons v acc =>
        obtain ⟨c', u, e1, e2⟩ := hj 0 v rfl
        cases e1
        exact .cons ⟨u, e2⟩ (ih acc (by simpa using hl) fun j v h => by simpa using hj (j + 1) v (by simpa using h))
  refine key _ _ (by simpa using h1) fun j v h => ?_
  obtain ⟨c, u, e1, e2⟩ := h2 j v (by simpa using h)
  exact ⟨c, u, by simpa using e1, e2⟩
theorem call_list_strR (hc : X.calm = true) : CallR X (.type "list") (fun xs H Q => ∃ z, xs = [.str z] ∧ z.length ≤ sizeLine ∧ ∀ l, H l = none → Q (.ref l) (upd H l (.lst (z.cps.toList.map fun c => V.str ⟨#[c]⟩)))) := by
  intro pins s σ H xs us Q I r h
  obtain ⟨z, rfl, hz, q⟩ := h
  obtain ⟨u, rfl, t, rfl⟩ := vals1 r
  refine PySem.call_list_str (I.ok.hd hc) z t (fun h' tk acc c' kp e hi => ?_) hz
  have hi : ItemsOf (SignAt z) acc.toList.toArray z.cps.size := by simpa using hi
  have hv := vals_signs hi
  refine ⟨.ref s.heap.objs.size, _, I.laid (t' := tk) kp (Nat.le_refl _) (show ObjOk X.prog X.w _ h' _ (.lst (z.cps.toList.map fun c => V.str ⟨#[c]⟩)) from ⟨by rw [List.length_map]; simpa [PySem.Str.length] using hz, acc.toList, c', hv, by simpa using e⟩), rfl, q _ (I.hok.fresh (Nat.le_refl _))⟩

inductive Bk where
  | bf (n : String) | ty (n : String)
def bfOf : Bf → Bk
  | .len => .bf "len" | .list => .ty "list" | .tuple => .ty "tuple" | .int => .ty "int" | .str => .ty "str" | .all => .bf "all" | .any => .bf "any" | .sum => .bf "sum"
def Bk.val : Bk → Value
  | .bf n => .builtin n
  | .ty n => .type n
def Bk.name : Bk → String
  | .bf n => n
  | .ty n => n
theorem listOf_len {α : Type} {f : D → Option α} : ∀ {ds : List D} {ys : List α}, listOf? f ds = some ys → ys.length = ds.length
  | [], _, h => by cases h; rfl
  | d :: ds, ys, h => by
    unfold listOf? at h
    split at h
    · rename_i y ys' e1 e2
      cases h
      rw [List.length_cons, List.length_cons, listOf_len e2]
    · cases h
theorem reps_bls : ∀ {vs : List V} {ds : List D} {bs : List Bool}, Reps K F ρ vs ds → listOf? blOf ds = some bs → vs = bs.map V.bl
  | _, _, _, .nil, h => by cases h; rfl
  | _, _, bs, .cons (d := d) (ds := ds) h t, e => by
    unfold listOf? at e
    split at e
    · rename_i y ys' e1 e2
      cases e
      cases d with
      | bl b => cases e1; cases h; rw [reps_bls t e2]; rfl
      | _ => cases e1
    · cases e
theorem reps_ints : ∀ {vs : List V} {ds : List D} {bs : List Int}, Reps K F ρ vs ds → listOf? intOf ds = some bs → vs = bs.map V.int
  | _, _, _, .nil, h => by cases h; rfl
  | _, _, bs, .cons (d := d) (ds := ds) h t, e => by
    unfold listOf? at e
    split at e
    · rename_i y ys' e1 e2
      cases e
      cases d with
      | int b => cases e1; cases h; rw [reps_ints t e2]; rfl
      | _ => cases e1
    · cases e
theorem reps_strs : ∀ {vs : List V} {ds : List D} {bs : List (List Nat)}, Reps K F ρ vs ds → listOf? strOf ds = some bs → vs = (bs.map txt).map V.str ∧ ∀ b ∈ bs, okS b = true
  | _, _, _, .nil, h => by cases h; exact ⟨rfl, fun _ h => nomatch h⟩
  | _, _, bs, .cons (d := d) (ds := ds) h t, e => by
    unfold listOf? at e
    split at e
    · rename_i y ys' e1 e2
      cases e
      cases d with
      | str b =>
        cases e1
        cases h with
        | str h =>
          obtain ⟨q1, q2⟩ := reps_strs t e2
          refine ⟨by rw [q1]; rfl, fun b' hb => ?_⟩
          rcases List.mem_cons.mp hb with rfl | hb
          · exact h
          · exact q2 b' hb
      | _ => cases e1
    · cases e
theorem bind_some {α β : Type} {f : α → Option β} {o : Option α} {b : β} (h : o.bind f = some b) : ∃ a, o = some a ∧ f a = some b := by
  cases o with
  | none => cases h
  | some a => exact ⟨a, rfl, h⟩
theorem int_txt {z : List Nat} (h : z.all (fun c => decide (48 ≤ c) && decide (c ≤ 57)) = true) (hne : z ≠ []) (hl : z.length ≤ 4300) : PySem.intText? (txt z) = some ((PySem.NumText.digitsVal z : Nat) : Int) := by
  have := PySem.intText_digits (x := txt z) (fun c hc => by
    have q := List.all_eq_true.mp h c (by simpa using hc)
    simp only [Bool.and_eq_true, decide_eq_true_eq] at q
    exact q) (by simpa using hne) (by rw [txt_len]; exact hl)
  rw [txt_list] at this
  exact this
theorem cr_bf (f : Bf) (hc : f ≠ .len → X.calm = true) : CallR X (bfOf f).val (rVs (kx X EX) W EX (bfF f)) := by
  cases f with
  | len =>
    refine CallR.imp (CallR.or call_len_seq call_len_str) fun xs H Q h => ?_
    obtain ⟨F, ρ, G, env, S, σ, ds, s, r, a⟩ := h
    match ds, r, a with
    | [], _, a => exact a.no.elim
    | _ :: _ :: _, _, a => exact a.no.elim
    | [d], r, a =>
      obtain ⟨x, rfl, r1⟩ := r.one
      cases d with
      | lst zs =>
        obtain ⟨p, ys, rfl, h1, h2, h3⟩ := r1.lst
        exact .inl ⟨p, ys, rfl, .inl (SqL.of h1), by rw [h3.length]; exact a.int s⟩
      | tup zs =>
        obtain ⟨p, ys, rfl, h1, h2, h3⟩ := r1.tup
        exact .inl ⟨p, ys, rfl, .inr (s.fh.sqT h1), by rw [h3.length]; exact a.int s⟩
      | str z =>
        obtain ⟨rfl, ok⟩ := r1.str
        exact .inr ⟨txt z, rfl, by rw [size24, txt_len]; exact okS_len ok, by rw [txt_len]; exact a.int s⟩
      | _ => exact a.no.elim
  | list =>
    refine CallR.imp (CallR.or call_list_of (call_list_strR (hc nofun))) fun xs H Q h => ?_
    obtain ⟨F, ρ, G, env, S, σ, ds, s, r, a⟩ := h
    match ds, r, a with
    | [], _, a => exact a.no.elim
    | _ :: _ :: _, _, a => exact a.no.elim
    | [d], r, a =>
      obtain ⟨x, rfl, r1⟩ := r.one
      cases d with
      | scr ns =>
        obtain ⟨p, rfl, h1, h2⟩ := r1.scr
        exact .inl ⟨p, _, rfl, .inl (s.fh.sqL h1), fun l hl => a.lst s (Reps.ints ns) (by simpa using h2) hl⟩
      | lst zs =>
        obtain ⟨p, ys, rfl, h1, h2, h3⟩ := r1.lst
        exact .inl ⟨p, ys, rfl, .inl (SqL.of h1), fun l hl => a.lst s h3 h2 hl⟩
      | tup zs =>
        obtain ⟨p, ys, rfl, h1, h2, h3⟩ := r1.tup
        exact .inl ⟨p, ys, rfl, .inr (s.fh.sqT h1), fun l hl => a.lst s h3 h2 hl⟩
      | str z =>
        obtain ⟨rfl, ok⟩ := r1.str
        refine .inr ⟨txt z, rfl, by rw [size24, txt_len]; exact okS_len ok, fun l hl => ?_⟩
        rw [txt_list]
        exact a.lst s (Reps.strs ok z fun _ h => h) (by simpa using okS_len ok) hl
      | _ => exact a.no.elim
  | tuple =>
    refine CallR.imp call_tuple_of fun xs H Q h => ?_
    obtain ⟨F, ρ, G, env, S, σ, ds, s, r, a⟩ := h
    match ds, r, a with
    | [], _, a => exact a.no.elim
    | _ :: _ :: _, _, a => exact a.no.elim
    | [d], r, a =>
      obtain ⟨x, rfl, r1⟩ := r.one
      cases d with
      | lst zs =>
        obtain ⟨p, ys, rfl, h1, h2, h3⟩ := r1.lst
        exact ⟨p, ys, rfl, .inl ⟨SqL.of h1, fun l hl => a.tup s h3 h2 hl⟩⟩
      | tup zs =>
        obtain ⟨p, ys, rfl, h1, h2, h3⟩ := r1.tup
        exact ⟨p, ys, rfl, .inr ⟨s.fh.sqT h1, a.dat s (.tup h1 h2 h3)⟩⟩
      | _ => exact a.no.elim
  | int =>
    refine CallR.imp (CallR.or call_int1 call_int_str) fun xs H Q h => ?_
    obtain ⟨F, ρ, G, env, S, σ, ds, s, r, a⟩ := h
    match ds, r, a with
    | [], _, a => exact a.no.elim
    | _ :: _ :: _, _, a => exact a.no.elim
    | [d], r, a =>
      obtain ⟨x, rfl, r1⟩ := r.one
      cases d with
      | int i => exact .inl (.inl ⟨i, by rw [r1.int], a.int s⟩)
      | bl b => exact .inl (.inr ⟨b, by rw [r1.bl], a.int s⟩)
      | str z =>
        obtain ⟨⟨c1, c2, c3⟩, a⟩ := ansV.if a
        obtain ⟨rfl, ok⟩ := r1.str
        exact .inr ⟨txt z, _, rfl, int_txt c3 c1 (by omega), by rw [txt_len]; exact c2, a.int s⟩
      | _ => exact a.no.elim
  | str =>
    refine CallR.imp (CallR.or call_str_int SkE.call_str_str) fun xs H Q h => ?_
    obtain ⟨F, ρ, G, env, S, σ, ds, s, r, a⟩ := h
    match ds, r, a with
    | [], _, a => exact a.no.elim
    | _ :: _ :: _, _, a => exact a.no.elim
    | [d], r, a =>
      obtain ⟨x, rfl, r1⟩ := r.one
      cases d with
      | int i =>
        obtain ⟨⟨c1, c2⟩, a⟩ := ansV.if a
        have hi : i = ((i.toNat : Nat) : Int) := (Int.toNat_of_nonneg c1).symm
        have hn : i.toNat < 2 ^ 1000 := by
          have h2 : ((i.toNat : Nat) : Int) < ((2 ^ 1000 : Nat) : Int) := by rw [← hi]; exact c2
          exact Int.ofNat_lt.mp h2
        refine .inl ⟨i, by rw [r1.int], ?_, ?_⟩
        · have h3 : i.natAbs = i.toNat := by omega
          rw [h3]
          by_cases h0 : i.toNat = 0
          · rw [h0]; decide
          · exact Nat.lt_of_lt_of_le ((Nat.log2_lt h0).mpr hn) (by decide)
        · have e : (toString i : String) = toString ((i.toNat : Nat) : Int) := by rw [← hi]
          have e2 : (Str.ofString (toString i)) = txt (TL.numL i.toNat) := by
            rw [e]
            have := TL.tl_num i.toNat
            unfold TL.tl at this
            unfold txt
            rw [← this]
          have q := a.str s (okS_mk ?_ fun c hc => ?_)
          · rw [← e2] at q; exact q
          · have := TL.numL_len (n := i.toNat) (k := 302) (by decide) (Nat.lt_trans hn (by decide +kernel))
            omega
          · have := TL.numL_digits i.toNat c hc
            omega
      | str z =>
        obtain ⟨rfl, ok⟩ := r1.str
        exact .inr ⟨txt z, rfl, a.str s ok⟩
      | _ => exact a.no.elim
  | all =>
    refine CallR.imp (cr_all (hc nofun)) fun xs H Q h => ?_
    obtain ⟨F, ρ, G, env, S, σ, ds, s, r, a⟩ := h
    match ds, r, a with
    | [], _, a => exact a.no.elim
    | _ :: _ :: _, _, a => exact a.no.elim
    | [d], r, a =>
      obtain ⟨x, rfl, r1⟩ := r.one
      cases d with
      | lst zs =>
        obtain ⟨p, ys, rfl, h1, h2, h3⟩ := r1.lst
        obtain ⟨o, e, q⟩ := a
        obtain ⟨bs, e2, rfl⟩ := map_some e
        exact ⟨p, bs, rfl, by rw [← reps_bls h3 e2]; exact SqL.of h1, q.now s (show Rep (kx X EX) F ρ _ _ from .bl _)⟩
      | _ => exact a.no.elim
  | any =>
    refine CallR.imp (cr_any (hc nofun)) fun xs H Q h => ?_
    obtain ⟨F, ρ, G, env, S, σ, ds, s, r, a⟩ := h
    match ds, r, a with
    | [], _, a => exact a.no.elim
    | _ :: _ :: _, _, a => exact a.no.elim
    | [d], r, a =>
      obtain ⟨x, rfl, r1⟩ := r.one
      cases d with
      | lst zs =>
        obtain ⟨p, ys, rfl, h1, h2, h3⟩ := r1.lst
        obtain ⟨o, e, q⟩ := a
        obtain ⟨bs, e2, rfl⟩ := map_some e
        exact ⟨p, bs, rfl, by rw [← reps_bls h3 e2]; exact SqL.of h1, q.now s (show Rep (kx X EX) F ρ _ _ from .bl _)⟩
      | _ => exact a.no.elim
  | sum =>
    refine CallR.imp (cr_sum (hc nofun)) fun xs H Q h => ?_
    obtain ⟨F, ρ, G, env, S, σ, ds, s, r, a⟩ := h
    match ds, r, a with
    | [], _, a => exact a.no.elim
    | _ :: _ :: _, _, a => exact a.no.elim
    | [d], r, a =>
      obtain ⟨x, rfl, r1⟩ := r.one
      cases d with
      | lst zs =>
        obtain ⟨p, ys, rfl, h1, h2, h3⟩ := r1.lst
        obtain ⟨o, e, q⟩ := a
        obtain ⟨bs, e2, rfl⟩ := map_some e
        exact ⟨p, bs, rfl, by rw [← reps_ints h3 e2]; exact SqL.of h1, q.now s (show Rep (kx X EX) F ρ _ _ from .int _)⟩
      | _ => exact a.no.elim

/-! ### methods -/
theorem joinL_len (sep : List Nat) : ∀ ss : List (List Nat), (TL.joinL sep ss).length ≤ (ss.map List.length).sum + ss.length * sep.length
  | [] => by simp [TL.joinL]
  | [p] => by simp [TL.joinL]
  | p :: q :: r => by
    have ih := joinL_len sep (q :: r)
    show (p ++ (sep ++ TL.joinL sep (q :: r))).length ≤ _
    simp only [List.length_append, List.map_cons, List.sum_cons, List.length_cons, Nat.succ_mul] at *
    omega
theorem joinL_ok {sep : List Nat} (hs : okS sep = true) : ∀ ss : List (List Nat), (∀ b ∈ ss, okS b = true) → ∀ c ∈ TL.joinL sep ss, c < 0x110000
  | [], _, c, h => by simp [TL.joinL] at h
  | [p], hb, c, h => okS_all (hb p (by simp)) c h
  | p :: q :: r, hb, c, h => by
    have h : c ∈ p ++ (sep ++ TL.joinL sep (q :: r)) := h
    rcases List.mem_append.mp h with h | h
    · exact okS_all (hb p (by simp)) c h
    · rcases List.mem_append.mp h with h | h
      · exact okS_all hs c h
      · exact joinL_ok hs (q :: r) (fun b hb' => hb b (List.mem_cons_of_mem _ hb')) c h
def mtOf : Mt → String × String × String
  | .join => ("str", "join", "str.join") | .index => ("str", "index", "str.index")
theorem txt_tl (s : List Nat) : TL.tl (txt s) = s := by simp [TL.tl, txt]
theorem txt_join (sep : List Nat) (ss : List (List Nat)) : Txt.join (txt sep) (ss.map txt) = txt (TL.joinL sep ss) := by
  have h := TL.tl_join (txt sep) (ss.map txt)
  rw [txt_tl, List.map_map, show (TL.tl ∘ txt) = id from funext txt_tl, List.map_id] at h
  have e : ∀ z : Str, z = txt (TL.tl z) := fun z => by simp [TL.tl, txt]
  rw [TL.join_eq, e (Str.join (txt sep) (ss.map txt)), h]
/-! where a sign stands first -/
theorem occ_stays (s sub : Str) (hi : Nat) : ∀ (l : List Nat) (k free : Nat), (forIn l ((#[k] : Array Nat), free) (PySem.StrLaws.occBody s sub hi 1)).run.fst = #[k]
  | [], k, free => rfl
  | a :: l, k, free => by
    rw [List.forIn_cons]
    unfold PySem.StrLaws.occBody
    rw [if_neg (by simp)]
    exact occ_stays s sub hi l k free
theorem occ_head (s sub : Str) (hi : Nat) : ∀ (l : List Nat) (free : Nat), (∀ i ∈ l, free ≤ i) →
    (forIn l ((#[] : Array Nat), free) (PySem.StrLaws.occBody s sub hi 1)).run.fst.toList = (l.find? fun i => decide (i + sub.length ≤ hi) && PySem.Builtin.Str.subAt s sub i).toList
  | [], free, _ => rfl
  | a :: l, free, hf => by
    have ha : free ≤ a := hf a List.mem_cons_self
    rw [List.forIn_cons, List.find?_cons]
    unfold PySem.StrLaws.occBody
    cases hc : (decide (a + sub.length ≤ hi) && PySem.Builtin.Str.subAt s sub a) with
    | true =>
      obtain ⟨c1, c2⟩ := Bool.and_eq_true_iff.mp hc
      rw [if_pos ⟨⟨⟨by simp, ha⟩, of_decide_eq_true c1⟩, c2⟩]
      have := occ_stays s sub hi l a (a + sub.length)
      unfold PySem.StrLaws.occBody at this
      exact congrArg Array.toList this
    | false =>
      rw [if_neg (fun h => by
        have : (decide (a + sub.length ≤ hi) && PySem.Builtin.Str.subAt s sub a) = true := by rw [decide_eq_true h.1.2, h.2]; rfl
        rw [hc] at this; cases this)]
      exact occ_head s sub hi l free fun i h => hf i (List.mem_cons_of_mem _ h)
theorem find_congr {α : Type} {p q : α → Bool} : ∀ {l : List α}, (∀ a ∈ l, p a = q a) → l.find? p = l.find? q
  | [], _ => rfl
  | a :: l, h => by
    rw [List.find?_cons, List.find?_cons, h a List.mem_cons_self, find_congr fun b hb => h b (List.mem_cons_of_mem _ hb)]
theorem idx_find {c : Nat} : ∀ (z : List Nat) (k : Nat), c ∈ z → (List.range' k (z.length + 1)).find? (fun i => decide (z[i - k]? = some c)) = some (k + z.idxOf c)
  | [], _, h => by cases h
  | a :: z, k, h => by
    rw [List.length_cons, List.range'_succ, List.find?_cons]
    by_cases e : a = c
    · subst e; simp
    · have hm : c ∈ z := (List.mem_cons.mp h).resolve_left (fun z => e z.symm)
      have ih := idx_find z (k + 1) hm
      have h0 : decide ((a :: z)[k - k]? = some c) = false := by rw [Nat.sub_self]; simpa using e
      rw [h0]
      have : (List.range' (k + 1) (z.length + 1)).find? (fun i => decide ((a :: z)[i - k]? = some c)) = (List.range' (k + 1) (z.length + 1)).find? (fun i => decide (z[i - (k + 1)]? = some c)) := by
        apply find_congr
        intro i hi
        have := (List.mem_range'_1.mp hi).1
        rw [show i - k = (i - (k + 1)) + 1 by omega, List.getElem?_cons_succ]
      rw [this, ih, List.idxOf_cons]
      have e2 : (a == c) = false := by simpa using e
      rw [e2]
      show some _ = some _
      congr 1
      simp; omega
theorem occ_idx {z : List Nat} {c : Nat} (h : c ∈ z) : PySem.Builtin.Str.occurrences (txt z) (txt [c]) 0 (txt z).length 1 = [z.idxOf c] := by
  rw [PySem.StrLaws.occ_eq, occ_head _ _ _ _ _ (fun _ _ => Nat.zero_le _)]
  have e : ((List.range' 0 ((txt z).length + 1 - 0)).find? fun i => decide (i + (txt [c]).length ≤ (txt z).length) && PySem.Builtin.Str.subAt (txt z) (txt [c]) i) = some (z.idxOf c) := by
    have q := idx_find z 0 h
    rw [Nat.zero_add] at q
    rw [← q, txt_len, Nat.sub_zero]
    apply find_congr
    intro i _
    have k := PySem.StrLaws.subAt_one (txt z) c i
    rw [show (⟨#[c]⟩ : Str) = txt [c] from rfl, txt_list, txt_len] at k
    rw [Nat.sub_zero]
    by_cases w : z[i]? = some c
    · obtain ⟨k1, k2⟩ := k.mpr w
      rw [decide_eq_true k1, k2, decide_eq_true w]; rfl
    · rw [decide_eq_false w]
      refine Bool.eq_false_iff.mpr fun hb => ?_
      obtain ⟨c1, c2⟩ := Bool.and_eq_true_iff.mp hb
      exact absurd (k.mp ⟨of_decide_eq_true c1, c2⟩) w
  rw [e]; rfl
theorem mt_ok (m : Mt) : MtR X (mtOf m).2.2 (rVm (kx X EX) W EX (mtF m)) := by
  cases m with
  | join =>
    refine MtR.imp mt_join fun x xs H Q h => ?_
    obtain ⟨F, ρ, G, env, S, σ, d, ds, s, rx, r, a⟩ := h
    match ds, r, a with
    | [], _, a => exact a.no.elim
    | _ :: _ :: _, _, a => exact a.no.elim
    | [e0], r, a =>
      obtain ⟨y, rfl, r1⟩ := r.one
      cases d with
      | str sep =>
        cases e0 with
        | lst zs =>
          obtain ⟨rfl, oks⟩ := rx.str
          obtain ⟨p, ys, rfl, h1, h2, h3⟩ := r1.lst
          obtain ⟨o, e, q⟩ := a
          obtain ⟨ss, e4, e2⟩ := bind_some e
          obtain ⟨e3, ok⟩ := reps_strs h3 e4
          split at e2
          · rename_i c
            cases e2
            refine ⟨txt sep, p, ss.map txt, rfl, rfl, .inl (by rw [← e3]; exact SqL.of h1), ?_, ?_⟩
            · rw [List.map_map, List.length_map, txt_len]
              have : (PySem.Str.length ∘ txt) = List.length := funext fun z => txt_len z
              rw [this]; exact c
            · rw [txt_join]
              exact q.now s (show Rep (kx X EX) F ρ _ _ from .str (okS_mk (Nat.le_trans (joinL_len sep ss) c) (joinL_ok oks ss ok)))
          · cases e2
        | _ => exact a.no.elim
      | _ => exact a.no.elim
  | index =>
    refine MtR.imp mt_sindex fun x xs H Q h => ?_
    obtain ⟨F, ρ, G, env, S, σ, d, ds, s, rx, r, a⟩ := h
    match ds, r, a with
    | [], _, a => exact a.no.elim
    | _ :: _ :: _, _, a => exact a.no.elim
    | [e0], r, a =>
      obtain ⟨y, rfl, r1⟩ := r.one
      cases d with
      | str z =>
        cases e0 with
        | str t =>
          match t, r1, a with
          | [], _, a => exact a.no.elim
          | _ :: _ :: _, _, a => exact a.no.elim
          | [c], r1, a =>
            obtain ⟨hc, a⟩ := ansV.if a
            obtain ⟨rfl, _⟩ := rx.str
            obtain ⟨rfl, _⟩ := r1.str
            exact ⟨txt z, txt [c], _, [], rfl, rfl, occ_idx hc, a.int s⟩
        | _ => exact a.no.elim
      | _ => exact a.no.elim

/-! ### changes -/
theorem cell_at {x : V} {a : Ar} {ds : List D} (s : Sim K F ρ G env S σ H) (r : ArRep K F ρ σ x a) (e : cellAt env S a = some (.lst ds)) :
    ∃ p xs, x = .ref p ∧ H p = some (.lst xs) ∧ xs.length ≤ 16777216 ∧ Reps K F ρ xs ds ∧ ∀ ys es, ys.length ≤ 16777216 → Reps K F ρ ys es → Sim K F ρ G (cellPut env S a (.lst es)).1 (cellPut env S a (.lst es)).2 σ (upd H p (.lst ys)) := by
  cases a with
  | h i =>
    have r : σ[i]? = some (some x) := r
    have e : (match env[i]? with | some (.lst xs) => some (Cell.lst xs) | some (.dic kvs) => some (.dic kvs) | _ => none) = some (.lst ds) := e
    cases q : env[i]? with
    | none => rw [q] at e; cases e
    | some sl =>
      rw [q] at e
      cases sl with
      | lst es =>
        cases e
        obtain ⟨p, xs, ev, h1, h2, h3, _⟩ := s.slots i _ q
        rw [r] at ev; cases ev
        exact ⟨p, xs, rfl, h1, h2, h3, fun ys es hl rr => s.ownWr q r hl rr⟩
      | no => cases e
      | thk => cases e
      | dat _ => cases e
      | dic _ => cases e
  | d z =>
    cases z with
    | loc n =>
      have e : S[n]? = some (.lst ds) := e
      cases (show Rep K F ρ x (.loc n) from r) with
      | loc ea =>
        obtain ⟨xs, h1, h2, h3, _⟩ := s.cells n _ _ ea e
        exact ⟨_, xs, rfl, h1, h2, h3, fun ys es hl rr => s.cellWr e ea hl rr⟩
    | _ => cases e
def muOf : Mu → String × String × String
  | .append => ("list", "append", "list.append") | .pop0 => ("list", "pop", "list.pop") | .popAt => ("list", "pop", "list.pop") | .extend => ("list", "extend", "list.extend")
def rMu (K : KX) (W : WX) (EX : EXT) (m : Mu) : V → List V → Hp → VK → Prop := fun x xs H Q => ∃ F ρ G env S σ a ds c c' d, Sim K F ρ G env S σ H ∧ ArRep K F ρ σ x a ∧ Reps K F ρ xs ds ∧ cellAt env S a = some c ∧ muF m c ds = some (c', d) ∧
  At K W EX G σ (POut K G σ) Q F ρ (.ok (.val d) (cellPut env S a c').1 (cellPut env S a c').2)
theorem mu_ok (m : Mu) : MtR X (muOf m).2.2 (rMu (kx X EX) W EX m) := by
  cases m with
  | append =>
    refine MtR.imp mt_append fun x xs H Q h => ?_
    obtain ⟨F, ρ, G, env, S, σ, a, ds, c, c', d, s, ra, r, e, em, q⟩ := h
    cases c with
    | lst zs =>
      match ds, r, em with
      | [], _, em => cases em
      | _ :: _ :: _, _, em => cases em
      | [y], r, em =>
        cases r with
        | cons ry rt =>
          cases rt
          obtain ⟨p, ys, rfl, h1, h2, h3, wr⟩ := cell_at s ra e
          have em : (if zs.length < 16777216 then some (Cell.lst (zs ++ [y]), D.non) else none) = some (c', d) := em
          split at em
          · rename_i hz
            cases em
            have hl := h3.length
            have s2 := wr (ys ++ [_]) (zs ++ [y]) (by simp; omega) (h3.append (.one ry))
            exact ⟨p, ys, _, rfl, rfl, h1, by rw [size24, hl]; exact hz, q.now s2 (show Rep (kx X EX) F ρ _ _ from .non)⟩
          · cases em
    | dic _ => cases em
    | dead => cases em
  | pop0 =>
    refine MtR.imp mt_pop fun x xs H Q h => ?_
    obtain ⟨F, ρ, G, env, S, σ, a, ds, c, c', d, s, ra, r, e, em, q⟩ := h
    cases c with
    | lst zs =>
      match ds, r, em with
      | [_], _, em => cases em
      | _ :: _ :: _, _, em => cases em
      | [], r, em =>
        cases r
        obtain ⟨p, ys, rfl, h1, h2, h3, wr⟩ := cell_at s ra e
        obtain ⟨y, ey, e2⟩ := map_some em
        cases e2
        have hl := h3.length
        obtain ⟨v, hv, rv⟩ := h3.get ey
        have s2 := wr ys.dropLast zs.dropLast (by simp; omega) h3.dropLast
        exact ⟨p, ys, v, rfl, rfl, h1, by rw [hl]; exact hv, q.now s2 rv⟩
    | dic _ => cases em
    | dead => cases em
  | popAt =>
    refine MtR.imp mt_popAt fun x xs H Q h => ?_
    obtain ⟨F, ρ, G, env, S, σ, a, ds, c, c', d, s, ra, r, e, em, q⟩ := h
    cases c with
    | lst zs =>
      match ds, r, em with
      | [], _, em => cases em
      | _ :: _ :: _, _, em => cases em
      | [y], r, em =>
        cases y with
        | int i =>
          cases r with
          | cons ry rt =>
            cases rt
            cases ry
            obtain ⟨p, ys, rfl, h1, h2, h3, wr⟩ := cell_at s ra e
            have em : (if -(2 ^ 63) ≤ i ∧ i < 2 ^ 63 then (PySem.seqIndex? i zs.length).bind fun k => (zs[k]?).map fun y => (Cell.lst (zs.eraseIdx k), y) else none) = some (c', d) := em
            split at em
            · rename_i hz
              obtain ⟨k, ek, em⟩ := bind_some em
              obtain ⟨y, ey, e2⟩ := map_some em
              cases e2
              have hl := h3.length
              obtain ⟨v, hv, rv⟩ := h3.get ey
              have s2 := wr (ys.eraseIdx k) (zs.eraseIdx k) (Nat.le_trans (List.length_eraseIdx_le ..) h2) (h3.eraseIdx k)
              exact ⟨p, ys, i, k, v, rfl, rfl, h1, hz.1, hz.2, by rw [hl]; exact ek, hv, q.now s2 rv⟩
            · cases em
        | _ => cases em
    | dic _ => cases em
    | dead => cases em
  | extend =>
    refine MtR.imp mt_extend fun x xs H Q h => ?_
    obtain ⟨F, ρ, G, env, S, σ, a, ds, c, c', d, s, ra, r, e, em, q⟩ := h
    cases c with
    | lst zs =>
      match ds, r, em with
      | [], _, em => cases em
      | _ :: _ :: _, _, em => cases em
      | [y], r, em =>
        cases y with
        | lst us =>
          cases r with
          | cons ry rt =>
            cases rt
            cases ry with
            | lst g1 g2 g3 =>
              obtain ⟨p, ys, rfl, h1, h2, h3, wr⟩ := cell_at s ra e
              have em : (if zs.length + us.length ≤ 16777216 then some (Cell.lst (zs ++ us), D.non) else none) = some (c', d) := em
              split at em
              · rename_i hz
                cases em
                have hl := h3.length
                have hl2 := g3.length
                have s2 := wr (ys ++ _) (zs ++ us) (by simp; omega) (h3.append g3)
                exact ⟨p, _, ys, _, rfl, rfl, h1, s.fh _ _ g1, by rw [size24]; omega, q.now s2 (show Rep (kx X EX) F ρ _ _ from .non)⟩
              · cases em
        | _ => cases em
    | dic _ => cases em
    | dead => cases em

/-! ### isinstance -/
def tyN : Ty → String
  | .int => "int" | .bool => "bool" | .str => "str" | .list => "list" | .tuple => "tuple" | .dict => "dict"
def dTy : D → Option String
  | .non => some "NoneType" | .bl _ => some "bool" | .int _ => some "int" | .str _ => some "str" | .lst _ => some "list" | .tup _ => some "tuple" | .dic _ => some "dict" | _ => none
theorem kit_all : ∀ t : Ty, kitB "NoneType" (tyN t) = isTy .non t ∧ kitB "bool" (tyN t) = isTy (.bl true) t ∧ kitB "int" (tyN t) = isTy (.int 0) t ∧ kitB "str" (tyN t) = isTy (.str []) t ∧ kitB "list" (tyN t) = isTy (.lst []) t ∧ kitB "tuple" (tyN t) = isTy (.tup []) t ∧ kitB "dict" (tyN t) = isTy (.dic []) t := by
  intro t; cases t <;> decide +kernel
theorem isTy_kit {d : D} {t : Ty} {n : String} {b : Bool} (hn : dTy d = some n) (h : isTy d t = some b) : kitB n (tyN t) = some b := by
  obtain ⟨k1, k2, k3, k4, k5, k6, k7⟩ := kit_all t
  cases d with
  | non => cases hn; rw [k1]; exact h
  | bl _ => cases hn; rw [k2]; exact h
  | int _ => cases hn; rw [k3]; exact h
  | str _ => cases hn; rw [k4]; exact h
  | lst _ => cases hn; rw [k5]; exact h
  | tup _ => cases hn; rw [k6]; exact h
  | dic _ => cases hn; rw [k7]; exact h
  | _ => cases hn
theorem VRep.ty {v : V} {d : D} {n : String} (h : VRep K F ρ H v d) (le : Le F H) (hn : dTy d = some n) : TyX K H v (.type n) := by
  cases h with
  | l h hl r => cases hn; exact .base (.lst h)
  | r h hl =>
    cases h with
    | non => cases hn; exact .base .non
    | bl b => cases hn; exact .base (.bl b)
    | int b => cases hn; exact .base (.int b)
    | str b => cases hn; exact .base (.str _)
    | lst _ _ _ => exact absurd rfl (hl _)
    | tup h _ _ =>
      cases hn
      rcases le.sqT h with (h | ⟨o, h⟩) | ⟨o, its, n, h1, h2, _⟩
      · exact .base (.tup h)
      · exact .fTuple h
      · exact .kTuple h1 h2
    | scr _ _ => cases hn
    | loc _ => cases hn
    | dic h _ _ => cases hn; exact .base (.dK (le _ _ h))
    | exo0 _ _ => cases hn
    | exo _ _ _ _ => cases hn
theorem isAny_kit {d : D} {n : String} (hn : dTy d = some n) : ∀ {ts : List Ty} {b : Bool}, isAny d ts = some b → PySem.W.kitAny K (.type n) (ts.map fun t => .type (tyN t)) = some b
  | [], b, h => by cases h; rfl
  | t :: ts, b, h => by
    unfold isAny at h
    split at h
    · rename_i e
      cases h
      exact kitAny_cons (kit_ty (isTy_kit hn e)) (fun z => nomatch z) fun _ => rfl
    · rename_i e
      exact kitAny_cons (kit_ty (isTy_kit hn e)) (fun _ => isAny_kit hn h) fun z => nomatch z
    · cases h
theorem isAny_dTy {d : D} {ts : List Ty} {b : Bool} (h : isAny d ts = some b) (hne : ts ≠ []) : ∃ n, dTy d = some n := by
  cases ts with
  | nil => exact absurd rfl hne
  | cons t ts =>
    cases d with
    | non => exact ⟨_, rfl⟩
    | bl _ => exact ⟨_, rfl⟩
    | int _ => exact ⟨_, rfl⟩
    | str _ => exact ⟨_, rfl⟩
    | lst _ => exact ⟨_, rfl⟩
    | tup _ => exact ⟨_, rfl⟩
    | dic kvs => exact ⟨_, rfl⟩
    | scr _ => cases h
    | loc _ => cases h
    | fn _ => cases h
    | exo _ _ => cases h
end
end Pf
/-! Pf, part F: which Python an expression of the small language stands for (mE). -/
namespace Pf
open PySem PySem.Spec PyProof.Rows L2

/-! ### the side conditions of the rules -/
def isStar : Expr → Bool
  | .Starred .. => true
  | _ => false
def isCompr : Expr → Bool
  | .ListComp .. | .SetComp .. | .DictComp .. => true
  | _ => false
def isCall0 : Expr → Bool
  | .Call (.Name ..) [] [] _ => true
  | _ => false
def isSlice : Expr → Bool
  | .Slice .. => true
  | _ => false
def isSet : Expr → Bool
  | .Set .. => true
  | _ => false
def isTest : Expr → Bool
  | .UnaryOp .Not _ _ | .BoolOp .. | .IfExp .. | .Compare .. => true
  | _ => false
theorem star_cons {e : Expr} {es : List Expr} {env : PySem.Env} (h : isStar e = false) : starEach (e :: es) env = (false, eval e env) :: starEach es env := by
  cases e <;> first | rfl | (cases h)
theorem swaps_none {e : Expr} {t : Option Expr} {n : Nat} {env : PySem.Env} (h : isCompr e = false) : swapsWith e t n env = pure false := by
  cases e <;> first | rfl | (cases h)
theorem attr_base {o : Expr} {f : Str} {env : PySem.Env} (h : isCall0 o = false) : attributeBase o f env (eval o env) = eval o env := by
  cases o with
  | Call fn as ks pos =>
    cases fn with
    | Name id p =>
      cases as with
      | nil => cases ks with
        | nil => cases h
        | cons _ _ => rfl
      | cons _ _ => rfl
    | _ => rfl
  | _ => rfl
theorem plain_ix {b : Expr} (h : isSlice b = false) : PlainIx b := by
  intro o i
  cases b <;> first | rfl | (cases h)
theorem fold_set {e : Expr} {env : PySem.Env} (h : isSet e = false) : ∀ x, foldedSetIterable e env x = pure x := by
  intro x
  cases e <;> first | rfl | (cases h)
theorem true_plain {e : Expr} {env : PySem.Env} (h : isTest e = false) : ∀ whole, isTrue e env whole = (do let v ← whole; standAt e.pos; holding [v] (truthy v)) := by
  intro wh
  cases e with
  | UnaryOp op a p => cases op <;> first | rfl | (cases h)
  | _ => first | rfl | (cases h)
theorem behind_in {e : Expr} {op : CmpOp} (h : isSet e = false) : behindInMarks op e = false := by
  cases e <;> first | rfl | (cases h)
def noStars (es : List Expr) : Bool := es.all fun e => !isStar e
theorem back_cons {pos : Pos} {env : PySem.Env} {e : Expr} {es : List Expr} (h : isStar e = false) : backTo pos (starEach (e :: es) env) = (false, eval e env) :: backTo pos (starEach es env) := by
  rw [star_cons h]; rfl
theorem back_any {pos : Pos} {env : PySem.Env} : ∀ {es : List Expr}, noStars es = true → (backTo pos (starEach es env)).any (·.1) = false
  | [], _ => rfl
  | e :: es, h => by
    unfold noStars at h
    rw [List.all_cons, Bool.and_eq_true] at h
    rw [back_cons (by simpa using h.1), List.any_cons, back_any h.2]; rfl
theorem back_all {pos : Pos} {env : PySem.Env} : ∀ {es : List Expr}, noStars es = true → (backTo pos (starEach es env)).all (fun x => !x.1) = true
  | [], _ => rfl
  | e :: es, h => by
    unfold noStars at h
    rw [List.all_cons, Bool.and_eq_true] at h
    rw [back_cons (by simpa using h.1), List.all_cons, back_all h.2]; rfl

/-! ### the match -/
/-- where code stands: the names by slot, the scope, the names whose cells are the block's own -/
structure MC where
  N : List Str
  sc : Scope
  fnP : Str → Bool
  kw : String → Option (List Str)
  ar : String → Option Nat
  /-- an exception may be handled here -/
  hot : Bool
  /-- leaf error classes, their fields; the handled exception may be asked -/
  xc : List String
  xf : List String
  ex : Bool
  /-- the slot of what we were handed; a lambda may stand here; defs that are handed a function; defs that are called where an exception is handled; classes that are raised, their fields -/
  th : Option Nat
  lm : Bool
  arT : String → Option Nat
  hots : List String
  rs : String → Option (List String)
  /-- the classes that may be raised; whose clauses stand; try may stand here -/
  xr : List String
  xh : List String
  tr : Bool
def visB (sc : Scope) (x : Str) : Bool := match sc.names.lookup x with
  | some .local => true
  | some .cell => true
  | some .free => true
  | _ => false
def locB (sc : Scope) (x : Str) : Bool := match sc.names.lookup x with
  | some .local => true
  | some .cell => true
  | _ => false
def glB (sc : Scope) (x : Str) : Bool := decide (sc.names.lookup x = some .globalImplicit)
def okN (x : Str) : Bool := !(x == ("__debug__" : Str)) && !(x == ("__classdict__" : Str))
def stoB (m : MC) (x : Str) : Bool := locB m.sc x && (m.fnP x || decide (m.sc.names.lookup x = some .local))
def mName (m : MC) (i : Nat) : Expr → Bool
  | .Name x _ => decide (m.N[i]? = some x) && visB m.sc x && okN x
  | _ => false
def mSto (m : MC) (i : Nat) : Expr → Bool
  | .Name x _ => decide (m.N[i]? = some x) && stoB m x
  | _ => false
def mStos (m : MC) : List Nat → List Expr → Bool
  | [], [] => true
  | i :: is, x :: xs => mSto m i x && mStos m is xs
  | _, _ => false
def mTg (m : MC) : Tg → Expr → Bool
  | .name i, x => mSto m i x
  | .tup is, .Tuple es _ _ => !m.hot && mStos m is es
  | .tupT is, .Tuple es _ _ => mStos m is es
  | _, _ => false
def mTy (m : MC) (t : Ty) : Expr → Bool
  | .Name x _ => decide (x = Str.ofString (tyN t)) && glB m.sc x
  | _ => false
def mTys (m : MC) : List Ty → List Expr → Bool
  | [], [] => true
  | t :: ts, x :: xs => mTy m t x && mTys m ts xs
  | _, _ => false
def inner (m : MC) (scope : Scope) : MC := { m with sc := relS scope m.sc, fnP := fun x => scope.names.lookup x == some .cell, ex := false, th := none, lm := false, hots := [], tr := false }
/-- a lambda's body -/
def lamMC (m : MC) (scope : Scope) : MC := { m with sc := scope, fnP := fun _ => false, hot := false, ex := false, th := none, lm := false, hots := [], tr := false }
def argsNil (p : Arguments) : Bool := p.posonlyargs.isEmpty && p.args.isEmpty && p.vararg.isNone && p.kwonlyargs.isEmpty && p.kw_defaults.isEmpty && p.kwarg.isNone && p.defaults.isEmpty
def unsnoc : List Expr → Option (List Expr × Expr)
  | [] => none
  | [x] => some ([], x)
  | x :: y :: r => (unsnoc (y :: r)).map fun p => (x :: p.1, p.2)
theorem unsnoc_eq : ∀ {xs ys : List Expr} {l : Expr}, unsnoc xs = some (ys, l) → xs = ys ++ [l]
  | [], _, _, h => by cases h
  | [x], _, _, h => by cases h; rfl
  | x :: y :: r, ys, l, h => by
    have h : (unsnoc (y :: r)).map (fun p => (x :: p.1, p.2)) = some (ys, l) := h
    cases q : unsnoc (y :: r) with
    | none => rw [q] at h; cases h
    | some p =>
      rw [q] at h
      obtain ⟨p1, p2⟩ := p
      cases h
      rw [unsnoc_eq q]; rfl
def ownOf (m : MC) (own : List Nat) : List (Str × Nat) := own.map fun i => (m.N.getD i ⟨#[]⟩, i)
def isLen : Bf → Bool
  | .len => true
  | _ => false
def isVl : Itk → Bool
  | .vlist => true
  | _ => false
def tgSlots : Tg → List Nat
  | .name i => [i]
  | .tup is => is
  | .tupT is => is
mutual
def mE (m : MC) : Ex → Expr → Bool
  | .int i => fun x => match x with
    | .Constant (.int j) _ _ => i == j
    | _ => false
  | .str s => fun x => match x with
    | .Constant (.str z) _ _ => decide (z = txt s) && okS s
    | _ => false
  | .bl b => fun x => match x with
    | .Constant (.bool c) _ _ => b == c
    | _ => false
  | .non => fun x => match x with
    | .Constant .none _ _ => true
    | _ => false
  | .var i => mName m i
  | .hv i => mName m i
  | .glo g => fun x => match x with
    | .Name z _ => decide (z = Str.ofString g) && glB m.sc z && okN z
    | _ => false
  | .bin o a b => fun x => match x with
    | .BinOp l op r _ => decide (op = bopOf o) && mE m a l && mE m b r
    | _ => false
  | .un _ a => fun x => match x with
    | .UnaryOp .USub l _ => mE m a l
    | _ => false
  | .cmp o a b => fun x => match x with
    | .Compare l [op] [r] _ => decide (op = copOf o) && mE m a l && mE m b r && !isSet r
    | _ => false
  | .cmp2 o p a b c => fun x => match x with
    | .Compare l [op, op'] [r, t] _ => decide (op = copOf o) && decide (op' = copOf p) && mE m a l && mE m b r && mE m c t && !isSet r && !isSet t
    | _ => false
  | .and a b => fun x => match x with
    | .BoolOp .And (y :: z :: rest) p => mE m a y && (match rest with
      | [] => mE m b z
      | u :: us => mE m b (.BoolOp .And (z :: u :: us) p))
    | _ => false
  | .or a b => fun x => match x with
    | .BoolOp .Or (y :: z :: rest) p => mE m a y && (match rest with
      | [] => mE m b z
      | u :: us => mE m b (.BoolOp .Or (z :: u :: us) p))
    | _ => false
  | .not a => fun x => match x with
    | .UnaryOp .Not l _ => mE m a l
    | _ => false
  | .ite c a b => fun x => match x with
    | .IfExp t l r _ => mE m c t && mE m a l && mE m b r
    | _ => false
  | .lst es => fun x => match x with
    | .List xs _ => mEs m es xs && decide (es.length < 1000)
    | _ => false
  | .tup es => fun x => match x with
    | .Tuple xs _ _ => mEs m es xs && decide (es.length < 1000)
    | _ => false
  | .dic es => fun x => match x with
    | .Dict ks vs _ => mKV m es ks vs && decide (ks.length ≤ 15)
    | _ => false
  | .idx a b => fun x => match x with
    | .Subscript l r _ => mE m a l && mE m b r && !isSlice r
    | _ => false
  | .slc a lo hi => fun x => match x with
    | .Subscript l (.Slice u v none _) _ => mE m a l && mO m lo u && mO m hi v
    | _ => false
  | .bf f as => fun x => match x with
    | .Call (.Name z _) (e :: es) [] _ => decide (z = Str.ofString (bfOf f).name) && glB m.sc z && mEs m as (e :: es) && (!m.hot || isLen f)
    | _ => false
  | .mth t r as => fun x => match x with
    | .Call (.Attribute o n apos) (e :: es) [] cpos => decide (n = Str.ofString (mtOf t).2.1) && mE m r o && mEs m as (e :: es) && !isCall0 o && (apos.endLine == cpos.line) && decide ((e :: es).length < 29)
    | _ => false
  | .mut t r as => fun x => match x with
    | .Call (.Attribute o n apos) es [] cpos => decide (n = Str.ofString (muOf t).2.1) && mE m r o && mEs m as es && !isCall0 o && (apos.endLine == cpos.line) && decide (es.length < 29)
    | _ => false
  | .isi a ts one => fun x => match x with
    | .Call (.Name z _) [l, r] [] _ => decide (z = Str.ofString "isinstance") && glB m.sc z && mE m a l && !isStar l && (match one, ts, r with
      | true, [t], r => mTy m t r
      | false, ts, .Tuple rs _ _ => mTys m ts rs && decide (ts ≠ []) && decide (rs.length < 100)
      | _, _, _ => false)
    | _ => false
  | .comp elt tg k its cond own => fun x => match x with
    | .ListComp e [⟨t, it, ifs, 0⟩] scope _ => blkC m.N m.sc scope (ownOf m own) && decide (own = tgSlots tg) && own.all (fun i => decide (i < m.N.length)) && mTg (inner m scope) tg t && mIt m k its it t && mC (inner m scope) cond ifs && mE (inner m scope) elt e && (!m.hot || isVl k)
    | _ => false
  | .call f as kws => fun x => match x with
    | .Call (.Name z _) es ks _ => decide (z = Str.ofString f) && !m.hot && glB m.sc z && okN z && decide (m.ar f = some as.length) && (match kws, ks with
      | [], [] => mEs m as es
      | _ :: _, ks => (match es with
        | [] => mKs m as ks && decide (m.kw f = some (ks.filterMap (·.arg))) && ks.all (·.arg.isSome)
        | _ => false)
      | _, _ => false)
    | _ => false
  | .new e => mE m e
  | .isx a c => fun x => match x with
    | .Call (.Name z _) [l, .Name y _] [] _ => decide (z = Str.ofString "isinstance") && glB m.sc z && mE m a l && !isStar l && decide (y = Str.ofString c) && glB m.sc y && okN y && m.ex && decide (c ∈ m.xc)
    | _ => false
  | .fld a f => fun x => match x with
    | .Attribute o nm _ => mE m a o && decide (nm = Str.ofString f) && !isCall0 o && m.ex && decide (f ∈ m.xf)
    | _ => false
  | .thk i => fun x => match x with
    | .Call (.Name z p) [] [] _ => decide (m.th = some i) && mName m i (.Name z p) && !m.hot
    | _ => false
  | .callP f as i => fun x => match x with
    | .Call (.Name z _) es [] _ => decide (z = Str.ofString f) && !m.hot && glB m.sc z && okN z && decide (m.th = some i) && decide (m.arT f = some (as.length + 1)) && (match unsnoc es with
      | some (ys, l) => mEs m as ys && mName m i l && !isStar l
      | none => false)
    | _ => false
  | .callT f as b => fun x => match x with
    | .Call (.Name z _) es [] _ => decide (z = Str.ofString f) && !m.hot && m.lm && glB m.sc z && okN z && decide (m.arT f = some (as.length + 1)) && (match unsnoc es with
      | some (ys, .Lambda params body scope _) => mEs m as ys && argsNil params && LamX.lamSB m.sc scope && mE (lamMC m scope) b body
      | _ => false)
    | _ => false
  | .callH f as => fun x => match x with
    | .Call (.Name z _) (e :: es) [] _ => decide (z = Str.ofString f) && m.hot && m.ex && glB m.sc z && okN z && decide (f ∈ m.hots) && mEs m as (e :: es)
    | _ => false
def mO (m : MC) : Option Ex → Option Expr → Bool
  | none => fun x => match x with
    | none => true
    | _ => false
  | some e => fun x => match x with
    | some y => mE m e y
    | none => false
def mC (m : MC) : Option Ex → List Expr → Bool
  | none => fun x => match x with
    | [] => true
    | _ => false
  | some e => fun x => match x with
    | [y] => mE m e y
    | _ => false
def mEs (m : MC) : List Ex → List Expr → Bool
  | [] => fun x => match x with
    | [] => true
    | _ => false
  | e :: es => fun x => match x with
    | y :: ys => mE m e y && !isStar y && mEs m es ys
    | [] => false
def mKV (m : MC) : List Ex → List (Option Expr) → List Expr → Bool
  | [] => fun x y => match x, y with
    | [], [] => true
    | _, _ => false
  | k :: es => fun x y => match x, y with
    | some a :: ks, b :: vs => mE m k a && mV m es ks (b :: vs)
    | _, _ => false
def mV (m : MC) : List Ex → List (Option Expr) → List Expr → Bool
  | [] => fun _ _ => false
  | v :: es => fun ks y => match y with
    | b :: vs => mE m v b && mKV m es ks vs
    | _ => false
def mKs (m : MC) : List Ex → List Keyword → Bool
  | [] => fun x => match x with
    | [] => true
    | _ => false
  | e :: es => fun x => match x with
    | ⟨_, y, _⟩ :: ys => mE m e y && mKs m es ys
    | [] => false
def mIt (m : MC) : Itk → List Ex → Expr → Expr → Bool
  | k, [e] => fun x t => match k with
    | .val => mE m e x && !isSet x
    | .vlist => mE m e x && !isSet x
    | .range1 => (match x with
      | .Call (.Name z _) [y] [] _ => decide (z = Str.ofString "range") && glB m.sc z && mE m e y && !isStar y
      | _ => false)
    | .enum => (match x, t with
      | .Call (.Name z _) [y] [] _, .Tuple _ _ _ => decide (z = Str.ofString "enumerate") && glB m.sc z && mE m e y && !isStar y
      | _, _ => false)
    | _ => false
  | k, [e, f] => fun x t => match k with
    | .range2 => (match x with
      | .Call (.Name z _) [y, u] [] _ => decide (z = Str.ofString "range") && glB m.sc z && mE m e y && !isStar y && mE m f u && !isStar u
      | _ => false)
    | .zip => (match x, t with
      | .Call (.Name z _) [y, u] [] _, .Tuple _ _ _ => decide (z = Str.ofString "zip") && glB m.sc z && mE m e y && !isStar y && mE m f u && !isStar u
      | _, _ => false)
    | _ => false
  | _, _ => fun _ _ => false
end
end Pf
/-! Pf, part X1: where an exception is handled: the end of a list's or tuple's walk, comprehensions. -/
namespace Pf
open PySem PySem.Spec PyProof.Rows L2 HotX
section
variable {prog : Program} {w : World} {A : Around} {E : Value → Shared → Prop} {s : Shared}
theorem hot_keep {x1 : Addr} {h h' : Heap} (c : HotAt A x1 h) (k : ∀ b o, h.get? b = some o → h'.get? b = some o) : HotAt A x1 h' := by
  obtain ⟨c1, o, vs, c2, c3, c4⟩ := c
  exact ⟨c1, o, vs, k _ _ c2, c3, c4⟩
/-- a list's walk ends -/
theorem list_end_hot {x1 it l : Addr} {i : Nat} {items : Array Value} {Q : Option Value → Shared → Prop} (hot : HotAt A x1 s.heap) (hi : s.heap.IsListIter it l i) (hl : s.heap.IsList l items) (hx : items[i]? = none) (hn : x1 ≠ it)
    (hQ : ∀ h', Heap.ExtBut it s.heap h' → Q none { s with heap := h' }) : wpAny (model prog w) A (pyNext (.ref it)) Q E s := by
  obtain ⟨o, ho, hc, hd⟩ := id hi
  obtain ⟨ol, hol, _, nl, hdl⟩ := hl
  obtain ⟨hh, o1, vs1, h1, d1, c1⟩ := hot
  unfold pyNext
  refine wpAny_bind (wpAny_attempt (wpAny_callSpecial?_slot (name := Str.ofString "__next__") hi.typeIs slot_listiter_next (wpAny_call_entry slot_listiter_next hi.typeIs entry_listiter_next ?_ (args_listiter_next _))))
  show wpAny _ _ (field (.ref it) 0 >>= _) _ _ s
  refine wpAny_bind (wpAny_field ho hd (x := .ref l) rfl ?_)
  show wpAny _ _ (if (Value.ref l == Value.none) = true then _ else _) _ _ s
  rw [if_neg (show ¬ ((Value.ref l == Value.none) = true) from Bool.false_ne_true)]
  show wpAny _ _ (field (.ref it) 1 >>= _) _ _ s
  refine wpAny_bind (wpAny_field ho hd (x := .int i 0) rfl ?_)
  show wpAny _ _ (seqItems? (.ref l) >>= _) _ _ s
  refine wpAny_bind (wpAny_seqItems hol hdl ?_)
  simp only [Int.toNat_natCast, hx]
  refine wpAny_bind (wpAny_rule (wpAny_bind (wpAny_setField ho hd (by simp) ?_)))
  show wpAny _ _ (newExc (.type "StopIteration") [] >>= _) _ _ _
  refine wpAny_bind ?_
  simp only [newExc, newTuple]
  refine wpAny_bind (wpAny_newObj_type ?_ (by size_fits))
  refine wpAny_bind (m := firstArgMember _ _) (wpAny_of_eq (a := Value.none) (by first | rfl | (simp only [firstArgMember]; rfl)) ?_)
  refine wpAny_newObj_type ?_ (by size_fits)
  have kx : ∀ {u v : Obj} {g : Obj → Obj}, (((s.heap.update it g).push u).push v).get? x1 = some o1 := fun {u v g} => Heap.get?_push_of_some _ (Heap.get?_push_of_some _ ((Heap.get?_update_other _ _ hn.symm).trans h1))
  refine raiseNew_hot ⟨hh, o1, vs1, kx, d1, c1⟩ (Nat.ne_of_lt (Nat.lt_of_lt_of_le (Heap.lt_size ((Heap.get?_update_other _ _ hn.symm).trans h1)) (Nat.le_of_lt (by rw [Heap.size_push]; exact Nat.lt_succ_self _)))) (Heap.get?_push_size _ rfl) rfl (by simp; omega) ?_
  refine wpAny_bind (wpAny_isInstance (T := "StopIteration") (b := true) ⟨_, Heap.get?_update_self _ (Heap.get?_push_size _ rfl) rfl, rfl⟩ isSubtype_stop ?_)
  refine wpAny_pure (hQ _ fun b ob hb eb => ?_)
  have kb : ∀ {u v : Obj} {g : Obj → Obj}, (((s.heap.update it g).push u).push v).get? b = some ob := fun {u v g} => Heap.get?_push_of_some _ (Heap.get?_push_of_some _ ((Heap.get?_update_other _ _ hb.symm).trans eb))
  refine (Heap.get?_update_other _ _ (Nat.ne_of_gt ?_)).trans kb
  exact Nat.lt_of_lt_of_le (Heap.lt_size ((Heap.get?_update_other _ _ hb.symm).trans eb)) (Nat.le_of_lt (by rw [Heap.size_push]; exact Nat.lt_succ_self _))
/-- a tuple's walk ends -/
theorem tup_end_hot {x1 it l : Addr} {i : Nat} {items : Array Value} {Q : Option Value → Shared → Prop} (hot : HotAt A x1 s.heap) (hi : s.heap.IsTupleIter it l i) (hl : s.heap.IsTuple l items) (hx : items[i]? = none) (hn : x1 ≠ it)
    (hQ : ∀ h', Heap.ExtBut it s.heap h' → Q none { s with heap := h' }) : wpAny (model prog w) A (pyNext (.ref it)) Q E s := by
  obtain ⟨o, ho, hc, hd⟩ := id hi
  obtain ⟨ol, hol, _, nl, hdl⟩ := hl
  obtain ⟨hh, o1, vs1, h1, d1, c1⟩ := hot
  unfold pyNext
  refine wpAny_bind (wpAny_attempt (wpAny_callSpecial?_slot (name := Str.ofString "__next__") hi.typeIs F.slot_tuple_iterator_next (wpAny_call_entry F.slot_tuple_iterator_next hi.typeIs F.entry_tuple_iterator_next ?_ (F.args_tuple_iterator_next_1 _))))
  show wpAny _ _ (field (.ref it) 0 >>= _) _ _ s
  refine wpAny_bind (wpAny_field ho hd (x := .ref l) rfl ?_)
  show wpAny _ _ (if (Value.ref l == Value.none) = true then _ else _) _ _ s
  rw [if_neg (show ¬ ((Value.ref l == Value.none) = true) from Bool.false_ne_true)]
  show wpAny _ _ (field (.ref it) 1 >>= _) _ _ s
  refine wpAny_bind (wpAny_field ho hd (x := .int i 0) rfl ?_)
  show wpAny _ _ (seqItems? (.ref l) >>= _) _ _ s
  refine wpAny_bind (wpAny_seqItems hol hdl ?_)
  simp only [Int.toNat_natCast, hx]
  refine wpAny_bind (wpAny_rule (wpAny_bind (wpAny_setField ho hd (by simp) ?_)))
  show wpAny _ _ (newExc (.type "StopIteration") [] >>= _) _ _ _
  refine wpAny_bind ?_
  simp only [newExc, newTuple]
  refine wpAny_bind (wpAny_newObj_type ?_ (by size_fits))
  refine wpAny_bind (m := firstArgMember _ _) (wpAny_of_eq (a := Value.none) (by first | rfl | (simp only [firstArgMember]; rfl)) ?_)
  refine wpAny_newObj_type ?_ (by size_fits)
  have kx : ∀ {u v : Obj} {g : Obj → Obj}, (((s.heap.update it g).push u).push v).get? x1 = some o1 := fun {u v g} => Heap.get?_push_of_some _ (Heap.get?_push_of_some _ ((Heap.get?_update_other _ _ hn.symm).trans h1))
  refine raiseNew_hot ⟨hh, o1, vs1, kx, d1, c1⟩ (Nat.ne_of_lt (Nat.lt_of_lt_of_le (Heap.lt_size ((Heap.get?_update_other _ _ hn.symm).trans h1)) (Nat.le_of_lt (by rw [Heap.size_push]; exact Nat.lt_succ_self _)))) (Heap.get?_push_size _ rfl) rfl (by simp; omega) ?_
  refine wpAny_bind (wpAny_isInstance (T := "StopIteration") (b := true) ⟨_, Heap.get?_update_self _ (Heap.get?_push_size _ rfl) rfl, rfl⟩ isSubtype_stop ?_)
  refine wpAny_pure (hQ _ fun b ob hb eb => ?_)
  have kb : ∀ {u v : Obj} {g : Obj → Obj}, (((s.heap.update it g).push u).push v).get? b = some ob := fun {u v g} => Heap.get?_push_of_some _ (Heap.get?_push_of_some _ ((Heap.get?_update_other _ _ hb.symm).trans eb))
  refine (Heap.get?_update_other _ _ (Nat.ne_of_gt ?_)).trans kb
  exact Nat.lt_of_lt_of_le (Heap.lt_size ((Heap.get?_update_other _ _ hb.symm).trans eb)) (Nat.le_of_lt (by rw [Heap.size_push]; exact Nat.lt_succ_self _))
end

/-! ### contexts in which at most one exception is handled -/
/-- nothing is handled, or one exception that nothing else names, nothing behind it -/
def CoolX (X : Cx) : Prop := ∀ (pins : List (Addr × Obj)) (σ : L2.St) (H : Hp) (s : Shared), Inv X pins σ H s → X.A.handled = none ∨ ∃ x1, HotAt X.A x1 s.heap ∧ H x1 = none ∧ ∀ b, FpOk X pins H b → x1 ≠ b
theorem cool_calm {X : Cx} (h : X.calm = true) : CoolX X := fun _ _ _ _ I => .inl (I.ok.hd h)
theorem cool_hot {X : Cx} (h : L2H.HotC X) : CoolX X := fun pins σ H s I => by
  obtain ⟨p, ⟨h1, vs, e1, e2⟩, hp⟩ := h
  obtain ⟨q1, q2, _⟩ := I.pin p (List.mem_append_left _ hp)
  exact .inr ⟨p.1, ⟨h1, p.2, vs, q1, e1, e2⟩, q2, fun b hb => hb.2.2.2.2.2 p (List.mem_append_left _ hp)⟩
/-- the block of a comprehension -/
theorem cool_blk {X : Cx} (c : CoolX X) {pins : List (Addr × Obj)} {σ : L2.St} {H : Hp} {s : Shared} {scope : Scope} {ce : PySem.Env} {fp : List Addr} (I : Inv X pins σ H s) (hf : ∀ b ∈ fp, FpOk X pins H b) : CoolX (X.blk s H scope ce fp) := by
  intro pins' σ' H' s' I'
  rcases c pins σ H s I with h | ⟨x1, ⟨h1, o, vs, h2, h3, h4⟩, hn, hx⟩
  · exact .inl h
  · have nf : x1 ∉ fp := fun z => hx x1 (hf x1 z) rfl
    obtain ⟨sl, q⟩ := I'.base.any h2 hn nf
    refine .inr ⟨x1, ⟨h1, _, vs, q, h3, h4⟩, I'.base.free x1 o h2 hn nf, fun b hb z => ?_⟩
    subst z
    rcases hb.2.2.2.1 with k | k
    · exact nf k
    · exact absurd (Heap.lt_size h2) (Nat.not_lt.mpr k)
theorem end_list {X : Cx} {P : Program} {w : World} (c : CoolX X) {pins : List (Addr × Obj)} {σ : L2.St} {H : Hp} {s : Shared} {it l : Addr} {i : Nat} {items : Array Value} {E : Value → Shared → Prop} {Q : Option Value → Shared → Prop} (I : Inv X pins σ H s) (hf : FpOk X pins H it)
    (hi : s.heap.IsListIter it l i) (hl : s.heap.IsList l items) (hx : items[i]? = none) (hQ : ∀ h', Heap.ExtBut it s.heap h' → Q none { s with heap := h' }) : wpAny (model P w) X.A (pyNext (.ref it)) Q E s := by
  rcases c pins σ H s I with h | ⟨x1, h1, _, h2⟩
  · exact wpAny_pyNext_list_end h hi hl hx hQ
  · exact list_end_hot h1 hi hl hx (h2 it hf) hQ

/-! ### a list comprehension over a list, one exception handled at most -/
section
variable {X : Cx}
theorem cool_core {pins : List (Addr × Obj)} {s : Shared} {σ : L2.St} {H : Hp} {Q : VK} {pos' : Pos} {use : Option (Value → Sem Unit)} {Qf : Value → Shared → Prop} {elt tg l : Expr} {ifs : List Expr} {scope : Scope} {own : List (Str × Nat)} {pos : Pos} {tl : TE} {g : TG} {tt : TT} {te : TE} (hc : CoolX X) (hN : X.N.Nodup) (I : Inv X pins σ H s) (hi : PE X l tl) (ok : BlkOk X.N X.env.scope scope own)
    (hg : ∀ (s : Shared) (H : Hp) (C : Addr) (cl : List (Str × Addr)) (fp : List Addr), CoolX (X.blk s H scope (compEnvC scope cl C X.env) fp) → PG (X.blk s H scope (compEnvC scope cl C X.env) fp) tg g)
    (ht : ∀ (s : Shared) (H : Hp) (C : Addr) (cl : List (Str × Addr)) (fp : List Addr), CoolX (X.blk s H scope (compEnvC scope cl C X.env) fp) → PTs (X.blk s H scope (compEnvC scope cl C X.env) fp) ifs tt)
    (he : ∀ (s : Shared) (H : Hp) (C : Addr) (cl : List (Str × Addr)) (fp : List Addr), CoolX (X.blk s H scope (compEnvC scope cl C X.env) fp) → PE (X.blk s H scope (compEnvC scope cl C X.env) fp) elt te) (hs : ∀ x, foldedSetIterable l X.env x = pure x)
    (h : tLc (iList X.K tl) g tt te (own.map (·.2)) σ H Q)
    (hRR : ∀ D C s' m H', Inv X pins σ H' s' → Q (.ref D) H' → s'.heap.Ns C m → FpOk X pins H' C → compPost (model X.prog X.w) X.A X.xe use Qf (.ref D) C (.ok .next) s') :
    wpAny (model X.prog X.w) X.A (comprehension (.ListComp elt [⟨tg, l, ifs, 0⟩] scope pos) scope X.env pos' (newList []) false (eval l X.env) use) Qf X.xe s := by
  have hfree : ∀ y ∈ scope.names, y.2 = .free → ∃ c, X.env.cells.lookup y.1 = some c := fun y hy e => (ok.free y hy e).elim (fun k => I.ok.has _ (.inl k)) (fun k => I.ok.has _ (.inr k))
  refine wpAny_comprehension_free (use := use) rfl hs (closure_ok hfree) ok.kind (fun y hy e => by rw [ok.uniq y hy, e]) (thn (hi.run pins s σ H _ I h) fun xv s1 ⟨x, H1, I1, r1, a, e1, ⟨ys0, hq0⟩, q⟩ => ?_)
  subst e1
  cases r1
  obtain ⟨its0, rv0, p0, hz0⟩ := I1.list hq0
  refine wpAny_pyIter_list p0.isList ?_
  let it := s1.heap.objs.size
  let s2 : Shared := { s1 with heap := s1.heap.push { cls := .type "list_iterator", data := .fields #[.ref a, rawInt 0] } }
  have I2 : Inv X pins σ H1 s2 := I1.kept (t' := s1.toks) fun b o e => Heap.get?_push_of_some _ e
  have st2 : s2.heap.IsListIter it a 0 := ⟨_, Heap.get?_push_size _ rfl, rfl, rfl⟩
  have fit : FpOk X pins H1 it := I1.fpOk (Nat.le_refl _) (I1.hok.fresh (Nat.le_refl _))
  refine wpAny_newObj_type (newEnv_comp ?_) (by show 0 ≤ sizeLine; decide)
  let D : Addr := s2.heap.objs.size
  have hD : s2.heap.objs.size = D := rfl
  have hDn : H1 D = none := I2.hok.fresh (Nat.le_of_eq hD)
  obtain ⟨W, ⟨m0, w0⟩, turn⟩ := q D hDn
  let s3 : Shared := { s2 with heap := s2.heap.push { cls := .type "list", data := .seq ([] : List Value).toArray } }
  have I3 : Inv X pins σ (upd H1 D (.lst [])) s3 := I2.laid (t' := s2.toks) (fun b o e => Heap.get?_push_of_some _ e) (Nat.le_of_eq hD) ⟨Nat.zero_le _, [], 0, .nil, by rw [← hD]; exact Heap.get?_push_size _ rfl⟩
  have hit : it < s2.heap.objs.size := by show s1.heap.objs.size < (s1.heap.push _).objs.size; rw [Heap.size_push]; exact Nat.lt_succ_self _
  have f3 : ∀ b ∈ [it], FpOk X pins (upd H1 D (.lst [])) b ∧ b < s3.heap.objs.size := fun b hb => by
    have e : b = it := by simpa using hb
    subst e
    refine ⟨⟨?_, fit.2⟩, by show it < (s2.heap.push _).objs.size; rw [Heap.size_push]; exact Nat.lt_succ_of_lt hit⟩
    rw [upd_ne (by rw [← hD]; exact Nat.ne_of_lt hit)]
    exact fit.1
  have st3 : s3.heap.IsListIter it a 0 := st2.at fun o e => Heap.get?_push_of_some _ e
  have I4 := block_start I3 ok hN f3
  have cb := cool_blk (scope := scope) (ce := compEnvC scope (cellsFrom (s3.heap.objs.size + 1) scope.names (cloFrom X.env.cells scope.names [])) s3.heap.objs.size X.env) (fp := [it]) hc I3 fun b hb => (f3 b hb).1
  have pg := hg s3 (upd H1 D (.lst [])) s3.heap.objs.size (cellsFrom (s3.heap.objs.size + 1) scope.names (cloFrom X.env.cells scope.names [])) [it] cb
  have pt := ht s3 (upd H1 D (.lst [])) s3.heap.objs.size (cellsFrom (s3.heap.objs.size + 1) scope.names (cloFrom X.env.cells scope.names [])) [it] cb
  have pe := he s3 (upd H1 D (.lst [])) s3.heap.objs.size (cellsFrom (s3.heap.objs.size + 1) scope.names (cloFrom X.env.cells scope.names [])) [it] cb
  have nfp : (upd H1 D (.lst [])) it = none := (f3 it (by simp)).1.1
  show codeAny _ _ (.compStart (.ListComp elt [⟨tg, l, ifs, 0⟩] scope pos) 0 (.ref it) (.ref D) (compEnvC scope (cellsFrom (s3.heap.objs.size + 1) scope.names (cloFrom X.env.cells scope.names [])) s3.heap.objs.size X.env)) (compPost (model X.prog X.w) X.A X.xe use Qf (.ref D) s3.heap.objs.size) { s3 with heap := pushCells (s3.heap.push { cls := .type "dict", data := .dict #[] }) scope.names }
  generalize hce : compEnvC scope (cellsFrom (s3.heap.objs.size + 1) scope.names (cloFrom X.env.cells scope.names [])) s3.heap.objs.size X.env = ce at I4 cb pg pt pe ⊢
  have cL : ce.locals = s3.heap.objs.size := by subst hce; rfl
  generalize hH3 : upd H1 D (.lst []) = H3 at I3 I4 cb pg pt pe w0 nfp f3
  generalize hs4 : ({ s3 with heap := pushCells (s3.heap.push { cls := .type "dict", data := .dict #[] }) scope.names } : Shared) = s4 at I4 ⊢
  have st4 : s4.heap.IsListIter it a 0 := st3.at fun o e => by rw [← hs4]; exact pushCells_keeps _ _ _ _ (Heap.get?_push_of_some _ e)
  have stat : ∀ {σ' : L2.St} {H' : Hp} {s' : Shared}, Inv (X.blk s3 H3 scope ce [it]) [] σ' H' s' → H' it = none → FpOk (X.blk s3 H3 scope ce [it]) [] H' it := fun {σ' H' s'} I' hn =>
    ⟨hn, (I'.ok.exf it (by simp)).1, I'.ok.exfs it (by simp), .inl (by simp), fun x c e => (I'.ok.exf it (by simp)).2 x c e, fun p hp => absurd (show p ∈ ([] : List (Addr × Obj)) ++ [] from hp) (by simp)⟩
  have loop : codeAny (model X.prog X.w) X.A (.compLoop (.ListComp elt [⟨tg, l, ifs, 0⟩] scope pos) 0 (.ref it) (.ref D) ce) (compPost (model X.prog X.w) X.A X.xe use Qf (.ref D) s3.heap.objs.size) s4 := by
    refine compLoop_any (fun n s' => ∃ i H', Inv (X.blk s3 H3 scope ce [it]) [] (wipe σ (own.map (·.2))) H' s' ∧ s'.heap.IsListIter it a i ∧ H' it = none ∧ W i n H') ?_ m0 ⟨0, H3, I4, st4, nfp, w0⟩
    rintro n s5 ⟨i, H5, I5, st5, n5, w5⟩
    rcases turn i n H5 w5 with ⟨⟨ys, hq, hy⟩, qq⟩ | ⟨⟨ys, y, hq, hy⟩, Nx, hNx, step⟩
    · obtain ⟨its, rv, pp, hz⟩ := I5.list hq
      have hl := rv.length
      refine end_list cb I5 (stat I5 n5) st5 pp.isList (by simp; omega) fun h' eb => ?_
      have I6 : Inv (X.blk s3 H3 scope ce [it]) [] (wipe σ (own.map (·.2))) H5 { s5 with heap := h' } := by
        obtain ⟨f0, f1, f2, f3, f4, f5⟩ := stat I5 n5
        exact I5.turned (t' := s5.toks) (fun b o hb e => eb b o hb e) f0 f1 f3 f4 f5
      have I7 : Inv X pins σ H5 { s5 with heap := h' } := I3.call' (ch := [it]) I6.os I6.base I6.hok I6.bare fun b hb => ⟨(f3 b hb).1.2.2.2.1, (f3 b hb).1.2.1, (f3 b hb).1.2.2.2.2.1, (f3 b hb).1.2.2.2.2.2⟩
      have nC : H5 s3.heap.objs.size = none := by rw [← cL]; exact I6.free
      obtain ⟨m, hn, _⟩ := I6.loc
      have hn : h'.Ns ce.locals m := hn
      rw [cL] at hn
      exact hRR D s3.heap.objs.size { s5 with heap := h' } m H5 I7 qq hn (I3.fpOk (Nat.le_refl _) nC)
    · obtain ⟨its, rv, pp, hz⟩ := I5.list hq
      obtain ⟨u, hu, ru⟩ := rv.get hy
      obtain ⟨f0, f1, f2, f3', f4, f5⟩ := stat I5 n5
      refine wpAny_pyNext_list_item st5 pp.isList (x := u) (by simpa using hu) fun h' st' sb => ?_
      have I6 : Inv (X.blk s3 H3 scope ce [it]) [] (wipe σ (own.map (·.2))) H5 { s5 with heap := h' } := I5.turned (t' := s5.toks) (fun b o hb e => (sb.2 b hb).trans e) f0 f1 f3' f4 f5
      obtain ⟨ob, eo, co, dob⟩ := id st'
      refine go_of (s := { s5 with heap := h' }) eo co dob (by decide) ?_
      have I7 := I6.pinned (fp := [it]) (fun b hb => by
        have e : b = it := by simpa using hb
        subst e; exact stat I6 n5) (fun b hb => by
        have e : b = it := by simpa using hb
        subst e; exact ⟨ob, eo, fun v z => by rw [dob] at z; cases z⟩)
      refine thnF (pg.run _ { s5 with heap := h' } _ H5 y u _ I7 ru (step y H5 ⟨rfl, fun zs hzs => by rw [I5.list_inj hzs hq]; exact hy⟩)) fun _ s8 ⟨σ8, H8, I8, hw8, q8⟩ => ?_
      refine thnF (pt.run _ s8 σ8 H8 _ I8 q8) fun b s9 ⟨H9, I9, q9⟩ => ?_
      have fin : ∀ {s' : Shared} {H' : Hp}, Inv (X.blk s3 H3 scope ce [it]) ([] ++ pinsAt [it] h') σ8 H' s' → Nx H' → ∃ m, m < n ∧ ∃ i H', Inv (X.blk s3 H3 scope ce [it]) [] (wipe σ (own.map (·.2))) H' s' ∧ s'.heap.IsListIter it a i ∧ H' it = none ∧ W i m H' := fun {s' H'} I' nx => by
        obtain ⟨m', hm, w'⟩ := hNx H' nx
        have pin := I'.pin (it, ob) (List.mem_append_right _ (List.mem_append_right _ (mem_pinsAt (by simp) eo)))
        have hl : (wipe σ (own.map (·.2))).length = σ8.length := by rw [← hw8, wipe_length]
        refine ⟨m', hm, i + 1, H', (I'.unpinned (pins := [])).weak hl (fun j v e => ?_), st'.at fun o e => ?_, pin.2.1, w'⟩
        · rw [← hw8] at e
          exact (wipe_some e).1
        · have : o = ob := Option.some.inj (e.symm.trans eo)
          subst this; exact pin.1
      cases b with
      | false =>
        simp only [Bool.false_eq_true, if_false] at q9 ⊢
        exact fin I9 q9
      | true =>
        simp only [if_true] at q9 ⊢
        refine thnF (pe.run _ s9 σ8 H9 _ I9 q9) fun z s10 ⟨yv, H10, I10, r10, acc, hD10, hz10, nx⟩ => ?_
        exact app_ok (X := X.blk s3 H3 scope ce [it]) I10 hD10 hz10 r10 fun s11 I11 => fin I11 nx
  exact codeAny_compStart_list loop (wpAny_pyIter_listiter st4 loop)
theorem cool_lc {elt tg l : Expr} {ifs : List Expr} {scope : Scope} {own : List (Str × Nat)} {pos : Pos} {tl : TE} {g : TG} {tt : TT} {te : TE} (hc : CoolX X) (hN : X.N.Nodup) (hi : PE X l tl) (ok : BlkOk X.N X.env.scope scope own)
    (hg : ∀ (s : Shared) (H : Hp) (C : Addr) (cl : List (Str × Addr)) (fp : List Addr), CoolX (X.blk s H scope (compEnvC scope cl C X.env) fp) → PG (X.blk s H scope (compEnvC scope cl C X.env) fp) tg g)
    (ht : ∀ (s : Shared) (H : Hp) (C : Addr) (cl : List (Str × Addr)) (fp : List Addr), CoolX (X.blk s H scope (compEnvC scope cl C X.env) fp) → PTs (X.blk s H scope (compEnvC scope cl C X.env) fp) ifs tt)
    (he : ∀ (s : Shared) (H : Hp) (C : Addr) (cl : List (Str × Addr)) (fp : List Addr), CoolX (X.blk s H scope (compEnvC scope cl C X.env) fp) → PE (X.blk s H scope (compEnvC scope cl C X.env) fp) elt te) (hs : ∀ x, foldedSetIterable l X.env x = pure x) :
    PE X (.ListComp elt [⟨tg, l, ifs, 0⟩] scope pos) (tLc (iList X.K tl) g tt te (own.map (·.2))) := by
  refine ⟨fun pins s σ H Q I h => ?_⟩
  rw [eval_ListComp]
  refine cool_core hc hN I hi ok hg ht he hs h fun L C s' m H' I' q hn f => ⟨m, hn, fun hz sb => ?_⟩
  obtain ⟨f0, f1, f2, f3, f4, f5⟩ := f
  exact ⟨.ref L, H', I'.turned (t' := s'.toks) (fun b o hb e => (sb.2 b hb).trans e) f0 f1 f3 f4 f5, rfl, q⟩
/-- .. stored in exchange under a name of the def's own -/
theorem cool_setLc {elt tg l : Expr} {ifs : List Expr} {scope : Scope} {own : List (Str × Nat)} {pos spos py : Pos} {i : Nat} {y : Str} {tl : TE} {g : TG} {tt : TT} {te : TE} (hy : X.N[i]? = some y) (hyl : X.env.scope.names.lookup y = some .local) (hsw : swapsWith (.ListComp elt [⟨tg, l, ifs, 0⟩] scope pos) (some (.Name y py)) spos.line X.env = pure true) (hc : CoolX X) (hN : X.N.Nodup) (hi : PE X l tl) (ok : BlkOk X.N X.env.scope scope own)
    (hg : ∀ (s : Shared) (H : Hp) (C : Addr) (cl : List (Str × Addr)) (fp : List Addr), CoolX (X.blk s H scope (compEnvC scope cl C X.env) fp) → PG (X.blk s H scope (compEnvC scope cl C X.env) fp) tg g)
    (ht : ∀ (s : Shared) (H : Hp) (C : Addr) (cl : List (Str × Addr)) (fp : List Addr), CoolX (X.blk s H scope (compEnvC scope cl C X.env) fp) → PTs (X.blk s H scope (compEnvC scope cl C X.env) fp) ifs tt)
    (he : ∀ (s : Shared) (H : Hp) (C : Addr) (cl : List (Str × Addr)) (fp : List Addr), CoolX (X.blk s H scope (compEnvC scope cl C X.env) fp) → PE (X.blk s H scope (compEnvC scope cl C X.env) fp) elt te) (hs : ∀ x, foldedSetIterable l X.env x = pure x) :
    PS X (.Assign [.Name y py] (.ListComp elt [⟨tg, l, ifs, 0⟩] scope pos) spos) (tAsg (tLc (iList X.K tl) g tt te (own.map (·.2))) (gName i)) := by
  refine ⟨fun pins s σ H D I h => ?_⟩
  rw [exec_Assign_Name_used _ _ _ _ hsw]
  refine wpAny_bind (wpAny_standAt (wpAny_bind ?_))
  show wpAny _ _ (do let _ ← comprehension (.ListComp elt [⟨tg, l, ifs, 0⟩] scope pos) scope X.env (firstIterPos [⟨tg, l, ifs, 0⟩] pos) (newList []) false (eval l X.env) (some (assign (.Name y py) X.env))) _ X.xe s
  have told : tLc (iList X.K tl) g tt te (own.map (·.2)) σ H (fun x H1 => gName i x σ H1 D.nx) := h
  refine wpAny_bind (thn (cool_core (Qf := fun _ s' => SP X pins D .next s') hc hN I hi ok hg ht he hs told fun L C s' m H' I' q hn f => ?_) fun _ s' hq => wpAny_pure (wpAny_pure hq))
  show wpAny _ _ (assign (.Name y py) X.env (.ref L)) _ _ s'
  refine wpAny_assign_Name (store_ok2 (v := V.ref L) I' hN hy (.inl hyl) rfl (fun s2 I2 ⟨ad, sb, had⟩ => ?_) (.inr hyl))
  obtain ⟨f0, f1, f2, f3, f4, f5⟩ := f
  have apart : C ≠ ad := had.elim (fun z => by rw [z]; exact f1) fun z e => f4 y ad z e.symm
  exact ⟨m, hn.sameBut sb apart, fun hz sb3 => ⟨_, H', I2.turned (t' := s2.toks) (fun b o hb e => (sb3.2 b hb).trans e) f0 f1 f3 f4 f5, q⟩⟩
end

/-! ### (a, b, ..) = a tuple, one exception handled at most -/
theorem unpack_cool {X : Cx} {P : Program} {w : World} (c : CoolX X) {pins : List (Addr × Obj)} {σ : L2.St} {H : Hp} {s : Shared} (I : Inv X pins σ H s) {t : Addr} {items : Array Value} {E : Value → Shared → Prop} {Q : List Value → Shared → Prop} (ht : s.heap.IsTuple t items)
    (hQ : ∀ h', Heap.ExtBut s.heap.objs.size s.heap h' → Q items.toList { s with heap := h' }) : wpAny (model P w) X.A (unpackItems (.ref t) items.size none) Q E s := by
  rcases c pins σ H s I with hh | ⟨x1, ⟨hh, o1, vs1, h1, d1, c1⟩, _, _⟩
  · exact wpAny_unpackItems_tuple hh ht hQ
  · have hlt : t ≠ s.heap.objs.size := by obtain ⟨o, ho, _⟩ := ht; exact Nat.ne_of_lt (Heap.lt_size ho)
    have hx : x1 ≠ s.heap.objs.size := Nat.ne_of_lt (Heap.lt_size h1)
    unfold unpackItems notIterableAtAll
    refine wpAny_bind (wpAny_bind (wpAny_specialOf ht.typeIs F.slot_tuple_iter.lookup (wpAny_pure ?_)))
    simp only [Bool.false_eq_true, if_false]
    refine wpAny_bind (wpAny_holding (wpAny_pyIter_tuple ht (wpAny_bind (wpAny_holding (wpAny_draw_tuple hlt items.size 0 _ _ ⟨_, Heap.get?_push_size _ rfl, rfl, rfl⟩ (ht.push _) (by omega) fun h₁ hit₁ hs₁ => ?_)))))
    have hall : List.take items.size (List.drop 0 items.toList) = items.toList := by rw [List.drop_zero]; exact List.take_of_length_le (by simp)
    rw [hall, if_neg (by simp)]
    have ht₁ : h₁.IsTuple t items := (ht.push _).extBut hs₁.extBut hlt
    refine wpAny_bind (wpAny_holding (tup_end_hot ⟨hh, o1, vs1, hs₁.extBut x1 o1 hx (Heap.get?_push_of_some _ h1), d1, c1⟩ hit₁ ht₁ (by simp) hx fun h₂ he₂ => ?_))
    simp only [Option.isSome_none, Bool.false_eq_true, if_false]
    exact wpAny_pure (hQ h₂ fun b o hb e => he₂ b o hb (hs₁.extBut b o hb (Heap.get?_push_of_some _ e)))
theorem pg_tup_cool {X : Cx} {pos : Pos} {es : List Expr} {k : Nat} {t : TGs} {n : Nat} (hc : CoolX X) (h : PGs X es t) (hn : (assignEach es X.env).length = n) (hst : (assignEach es X.env).findIdx? (·.1) = none) : PG X (.Tuple es k pos) (gTup X.K n t) := by
  refine ⟨fun pins s σ H v u Q I r hw => ?_⟩
  obtain ⟨a, xs, e1, hq, hl, hw⟩ := hw
  subst e1
  cases r
  obtain ⟨its, rv, ht, hz⟩ := I.tuple hq
  have hn' : (assignEach es X.env).length = its.toArray.size := by rw [hn, ← hl, rv.length]; simp
  rw [assign_Tuple]
  refine wpAny_bind (wpAny_standAt ?_)
  unfold unpack
  rw [hn', hst]
  refine wpAny_bind (wpAny_holding (unpack_cool hc I (show s.heap.IsTuple a its.toArray from ht) fun h' hx => ?_))
  have I1 : Inv X pins σ H { s with heap := h' } := I.kept (t' := s.toks) fun b o e => hx b o (Nat.ne_of_lt (Heap.lt_size e)) e
  exact h.run pins _ σ H xs _ Q I1 (by simpa using rv) hw
end Pf
/-! Pf, part X2: defs that are called where an exception is handled, the exception handed on. -/
namespace Pf
open PySem PySem.Spec PyProof.Rows L2 HotX L2H
/-- what such a def promises: p the handled exception, its class and dict told -/
structure FnP (P : Program) (w : World) (K : PySem.W.Frag) (mg : Str → Option Value) (base : Heap) (CX : CXT) (k : Nat) (f : Addr) (fd : FuncData) (ps : List Str) (sp : Addr → Value → Option Addr → Sp) : Prop where
  len : ∀ a cls d vs H Q E, sp a cls d vs H Q E → vs.length = ps.length
  run : ∀ (A : Around) (outer : List PySem.Env) (s : Shared) (H : Hp) (args : Args) (us : List Value) (vs : List V) (Q : VK) (E : L2.XK) (p : Addr × Obj) (cls : Value) (d : Option Addr), RoomH k A → Hot1 A p → PinOk outer H s p → Zc cls d p.2 → Env0 P w K mg base A outer s H → BindsTo s fd args (ps.zip us) → Vals vs us → sp p.1 cls d vs H Q E →
    codeAny (model P w) A (.call (.ref f) args) (CR CX outer P w H s Q E) s
theorem fnP_of {CX : CXT} {P : Program} {w : World} {K : PySem.W.Frag} {mg : Str → Option Value} {base : Heap} {k : Nat} {f : Addr} {name qual : Str} {params : Arguments} {body : List Stmt} {scope : Scope} {dV kV doc pm cdv ct oc : Value} {an od : Option Addr}
    {osl : Array (Option Value)} {N ps : List Str} {sp : Addr → Value → Option Addr → Sp} (lk : K.lookup f = some ⟨oc, od, .func (PySem.W.fnOf name qual params body scope dV kV doc pm an cdv ct), osl⟩) (hcd : PySem.W.codeIn K cdv qual = true) (S : FnScope N ps scope)
    (len : ∀ a cls d vs H Q E, sp a cls d vs H Q E → vs.length = ps.length)
    (hbody : ∀ (A : Around) (outer : List PySem.Env) (s : Shared) (H : Hp) (vs : List V) (Q : VK) (E : L2.XK) (p : Addr × Obj) (cls : Value) (d : Option Addr), Hot1 A p → Zc cls d p.2 → RoomH k (A.deeper (envOfC qual scope s.heap.objs.size f cdv)) → sp p.1 cls d vs H Q E →
      ∃ t, PSs (cxH CX P w K mg base N qual scope f cdv A outer s H E p) body t ∧ t { nx := fun _ H' => Q .non H', rt := Q } (L2.start N vs) H) :
    FnP P w K mg base CX (k + 1) f (PySem.W.fnOf name qual params body scope dV kV doc pm an cdv ct) ps sp := by
  refine ⟨len, fun A outer s H args us vs Q E p cls d hr hot hpin hz e0 hb r hsp => ?_⟩
  have hl := len _ _ _ _ _ _ _ hsp
  have kin : K.In s.heap := e0.mod.kin.keeps fun b o e => (e0.bs b o e).1
  have lim : s.heap.NoLimit := e0.mod.nolimit.keeps fun b o e => (e0.bs b o e).1
  have hkind : ∀ y ∈ ps.zip us, scope.names.lookup y.1 = some .local ∨ (scope.names.lookup y.1 = some .cell ∧ ((cellsFrom (s.heap.objs.size + 1) scope.names []).lookup y.1).isSome = true) := fun ⟨n, v⟩ hy => by
    rcases S.par n (List.of_mem_zip hy).1 with z | z
    · exact .inl z
    · exact .inr ⟨z, PySem.W.cellsFrom_some _ _ _ (.inl z)⟩
  refine codeAny_call_function hr.depth (kin _ _ lk) rfl S.co S.gen rfl (PySem.W.codeRec_of kin hcd) (hb _ _ _ _ (wpAny_newFunctionEnv_cells S.kind hkind fun env he s1 x => ?_))
  subst he
  refine ⟨lim.keeps x.toInCall.keep, codeAny_func ?_⟩
  obtain ⟨t, ht, hq⟩ := hbody A outer s H vs Q E p cls d hot hz (hr.deeper _) hsp
  have I : Inv (cxH CX P w K mg base N qual scope f cdv A outer s H E p) [] (L2.start N vs) H s1 := inv_startH S hpin e0 hl r x
  refine wpAny_mono (ht.run [] s1 (L2.start N vs) H _ I hq) (fun fl s' hs => ?_) fun _ _ z => z
  cases fl with
  | ret u =>
    obtain ⟨v, σ', H', J, rv, q⟩ := hs
    exact ⟨v, H', J.os, J.bare, J.base, J.hok, rv, q⟩
  | next =>
    obtain ⟨σ', H', J, q⟩ := hs
    exact ⟨V.non, H', J.os, J.bare, J.base, J.hok, rfl, q⟩
  | brk => obtain ⟨_, _, _, q⟩ := hs; exact q.elim
  | cont => obtain ⟨_, _, _, q⟩ := hs; exact q.elim
/-- .. called there, by its name -/
theorem pe_callP {X : Cx} {CX : CXT} {k : Nat} {f : Addr} {fd : FuncData} {ps : List Str} {sp : Addr → Value → Option Addr → Sp} {E : L2.St → L2.XK} {x : Str} {q pos : Pos} {e : Expr} {es : List Expr} {t : TA} {p : Addr × Obj} {cls : Value} {d : Option Addr}
    (F : FnP X.prog X.w X.K X.mg X.base CX k f fd ps sp) (hr : RoomH k X.A) (hot : Hot1 X.A p) (hp : p ∈ X.pn) (hz : Zc cls d p.2) (hg : Gl X x) (hm : X.mg x = some (.ref f)) (hk : PySem.W.keepIn X.K (.ref f) = true) (hb : Binds X.K fd ps []) (hx : ∀ σ, PassesAt CX X σ (E σ))
    (ha : PA X (e :: es) t) (hdb : (x == ("__debug__" : Str)) = false) (he : starEach (e :: es) X.env = (false, eval e X.env) :: starEach es X.env) (hpl : (backTo pos (starEach es X.env)).any (·.1) = false) :
    PE X (.Call (.Name x q) (e :: es) [] pos) (tCallS (sp p.1 cls d) E t) := by
  refine ⟨fun pins s σ H Q I h => ?_⟩
  refine wpAny_Call_Name_kw (ld_glob I hg hm (PySem.W.callWith_K (h₀ := X.base) I.ok.mod.kin hk (thn (ha.run pos pins s σ H _ I h) fun us s1 ⟨vs, H1, I1, r, z⟩ => ⟨I1.kIn, ?_⟩) he hpl) hdb)
  have hl : us.length = ps.length := by rw [← r.length]; exact F.len _ _ _ _ _ _ _ z
  have b := hb s1 us I1.kIn (by rw [List.append_nil]; exact hl)
  rw [List.append_nil] at b
  have P1 := I1.pin p (List.mem_append_left _ hp)
  have hpin : PinOk X.stack H1 s1 p := ⟨P1.1, P1.2.1, fun hm => (List.mem_cons.mp (I1.stkSub p.1 hm)).elim P1.2.2.1 P1.2.2.2.1, P1.2.2.2.2⟩
  refine wpAny_call (codeAny_mono (F.run X.A X.stack s1 H1 ⟨us, []⟩ us vs Q (E σ) p cls d hr hot hpin hz I1.env0 b r z) fun res s' hq => ?_)
  cases res with
  | error ev => exact hx σ pins H1 s1 ev s' I1 hq
  | ok fl =>
    cases fl with
    | ret u => exact I1.after hq
    | next => exact hq.elim
    | brk => exact hq.elim
    | cont => exact hq.elim

/-! ### the handled exception asked -/
/-- what an exception's class must say -/
structure ExcK (K : PySem.W.Frag) (C : Addr) : Prop where
  hcl : (PySem.W.clsIn K C).isSome = true
  hga : PySem.W.findIn K (.ref C) "__getattribute__" = some (some (.builtin "BaseException.__getattribute__"))
  hgt : PySem.W.findIn K (.ref C) "__getattr__" = some none
  hsub : PySem.W.subIn K (.ref C) (.type "BaseException") = some true
  ha : PySem.W.findIn K (.ref C) "__class__" = some (some (.builtin "object.__class__"))
  hn : PySem.W.specialIn K (.builtin "object.__class__") "__get__" = some (some (.builtin "getset_descriptor.__get__"))
  htk : PySem.W.takesIn K (.builtin "object.__class__") = some true
  hm : PySem.W.mroIn K C (.type "object") = some true
theorem inst_at {X : Cx} {pins : List (Addr × Obj)} {σ : L2.St} {H : Hp} {s : Shared} {a C : Addr} {oe : Obj} {d : Option Addr} (I : Inv X pins σ H s) (hp : (a, oe) ∈ X.pn) (hz : Zc (.ref C) d oe) (hf : ∃ vs, oe.data = .fields vs) (hd : d = none ∨ ∃ dd vs, d = some dd ∧ H dd = some (.xd vs)) : ∃ od, PySem.W.InstAt s.heap a oe C od := by
  obtain ⟨hget, _⟩ := I.pin (a, oe) (List.mem_append_left _ hp)
  obtain ⟨vs, hv⟩ := hf
  have hno : PySem.W.notCls oe = true := by unfold PySem.W.notCls; rw [hv] <;> rfl
  rcases hd with rfl | ⟨dd, ws, rfl, e⟩
  · exact ⟨none, hget, hz.1, hno, by rw [hz.2]; trivial⟩
  · obtain ⟨mA, hns, hr⟩ := (I.hok dd _ e : ObjOk X.prog X.w H s.heap dd (.xd ws))
    obtain ⟨od, ho, hl⟩ := lookIn_ns hns
    exact ⟨some od, hget, hz.1, hno, by rw [hz.2]; exact ho⟩
def rIsX (K : PySem.W.Frag) (a C : Addr) (d : Option Addr) : List V → Hp → VK → Prop := fun xs H Q => ∃ (c : V) (cv : Value) (b : Bool), xs = [.ref a, c] ∧ (∀ u, RelV c u → u = cv) ∧ PySem.W.kitOne K (.ref C) cv = some b ∧ (d = none ∨ ∃ dd vs, d = some dd ∧ H dd = some (.xd vs)) ∧ Q (.bl b) H
theorem call_isX {X : Cx} {a C : Addr} {oe : Obj} {d : Option Addr} (E : ExcK X.K C) (hp : (a, oe) ∈ X.pn) (hz : Zc (.ref C) d oe) (hf : ∃ vs, oe.data = .fields vs) : CallR X (.builtin "isinstance") (rIsX X.K a C d) := by
  intro pins s σ H xs us Q I r h
  obtain ⟨c, cv, b, rfl, hcv, e, hd, q⟩ := h
  match us, r with
  | [_, _], .cons rx (.cons rt .nil) =>
    cases rx
    have ec := hcv _ rt
    subst ec
    obtain ⟨od, J⟩ := inst_at I hp hz hf hd
    exact PySem.W.kia_one (PySem.W.kitx_exc (od := od) E.hcl E.hga E.hgt E.hsub E.ha E.hn E.htk E.hm) I.kIn J e (fun z => nomatch z) fun tk => ⟨.bl b, H, I.kept (t' := tk) fun _ _ z => z, rfl, q⟩
/-- e.f, e the handled exception -/
def tXat (a : Addr) (d : Option Addr) (f : Str) (te : TE) : TE := fun σ H Q => te σ H fun x H1 => x = .ref a ∧ ∃ (dd : Addr) (vs : List (Str × V)) (v : V), d = some dd ∧ H1 dd = some (.xd vs) ∧ vs.lookup f = some v ∧ Q v H1
theorem pe_xat {X : Cx} {a C : Addr} {oe : Obj} {d : Option Addr} {f : Str} {e : Expr} {te : TE} {pos : Pos} (E : ExcK X.K C) (hdC : PySem.W.hasDictIn X.K C = true) (hno : PySem.W.findIn X.K (.ref C) f = some none) (hp : (a, oe) ∈ X.pn) (hz : Zc (.ref C) d oe) (hf : ∃ vs, oe.data = .fields vs) (he : PE X e te)
    (hb : attributeBase e f X.env (eval e X.env) = eval e X.env) : PE X (.Attribute e f pos) (tXat a d f te) := by
  refine ⟨fun pins s σ H Q I h => attr_of hb (thn (he.run pins s σ H _ I h) fun u s1 ⟨x, H1, I1, rx, ex, dd, vs, v, ed, ea, el, q⟩ => ?_)⟩
  subst ex
  cases rx
  subst ed
  obtain ⟨hget, _⟩ := I1.pin (a, oe) (List.mem_append_left _ hp)
  obtain ⟨ws, hv⟩ := hf
  obtain ⟨mA, hns, hr⟩ := (I1.hok dd _ ea : ObjOk X.prog X.w H1 s1.heap dd (.xd vs))
  obtain ⟨od, ho, hl⟩ := lookIn_ns hns
  obtain ⟨u, hu, ru⟩ := RelO.some_of (v := v) (o := mA f) (by rw [← el]; exact hr f)
  have J : PySem.W.InstAt s1.heap a oe C (some od) := ⟨hget, hz.1, by unfold PySem.W.notCls; rw [hv] <;> rfl, by rw [hz.2]; exact ho⟩
  exact HandSPX.exc_get I1.kIn J E.hga E.hgt E.hsub (PySem.W.findObj_own hdC hno rfl (by rw [hl, hu])) (handed_of ru) ⟨v, H1, I1.tok _, ru, q⟩
end Pf
/-! Pf, part C2: what defs promise; the written part with and without a handled exception. -/
namespace Pf
open PySem PySem.Spec PyProof.Rows L2
theorem and2 {a b : Bool} (h : (a && b) = true) : a = true ∧ b = true := by rw [Bool.and_eq_true] at h; exact h
/-! ### what defs promise -/
def AtC (K : KX) (EX : EXT) (G : Hp) (Q : VK) (E : XK) (F : Hp) (ρ : List Addr) : RC → Prop
  | .ok d S => ∀ F' ρ' H v, Le F F' → ρ <+: ρ' → Sim K F' ρ' G [] S [] H → Rep K F' ρ' v d → Q v H
  | .exc x S => ∀ F' ρ' H cls d, Le F F' → ρ <+: ρ' → Sim K F' ρ' G [] S [] H → EX.ex F' ρ' H cls d x → E cls d H
  | .bad => False
def spF (K : KX) (EX : EXT) (np : Nat) (c : List D → Store → RC) : Sp := fun vs H Q E =>
  vs.length = np ∧ ∃ F ρ G S ds, Sim K F ρ G [] S [] H ∧ Reps K F ρ vs ds ∧ AtC K EX G Q E F ρ (c ds S)

section
variable {K : PySem.W.Frag} {xo : Option XO} {fl : FL} {F : Hp} {ρ : List Addr}
mutual
theorem Rep.low : ∀ {v : V} {d : D}, Rep ⟨K, xo, fl⟩ F ρ v d → D.noX d = true → Rep ⟨K, none, fl⟩ F ρ v d
  | _, _, .non, _ => .non
  | _, _, .bl b, _ => .bl b
  | _, _, .int i, _ => .int i
  | _, _, .str h, _ => .str h
  | _, _, .lst h hl r, n => .lst h hl (Reps.low r n)
  | _, _, .tup h hl r, n => .tup h hl (Reps.low r n)
  | _, _, .scr h hl, _ => .scr h hl
  | _, _, .loc h, _ => .loc h
  | _, _, .dic h hl r, n => .dic h hl (RepKs.low r n)
  | _, _, .exo0 _ _, n => by cases n
  | _, _, .exo _ _ _ _, n => by cases n
theorem Reps.low : ∀ {vs : List V} {ds : List D}, Reps ⟨K, xo, fl⟩ F ρ vs ds → D.noXs ds = true → Reps ⟨K, none, fl⟩ F ρ vs ds
  | _, _, .nil, _ => .nil
  | _, _, .cons (d := d) (ds := ds) h t, n => by
    have n : (D.noX d && D.noXs ds) = true := n
    exact .cons (Rep.low h (and2 n).1) (Reps.low t (and2 n).2)
theorem RepKs.low : ∀ {vs : List (Key × V)} {ds : List (D × D)}, RepKs ⟨K, xo, fl⟩ F ρ vs ds → D.noXk ds = true → RepKs ⟨K, none, fl⟩ F ρ vs ds
  | _, _, .nil, _ => .nil
  | _, _, .cons (d := d) (e := e) (ds := ds) hk h t, n => by
    have n : (D.noX d && D.noX e && D.noXk ds) = true := n
    exact .cons (Rep.low hk (and2 (and2 n).1).1) (Rep.low h (and2 (and2 n).1).2) (RepKs.low t (and2 n).2)
end
mutual
/-- what holds without a handled exception holds with one -/
theorem Rep.up : ∀ {v : V} {d : D}, Rep ⟨K, none, fl⟩ F ρ v d → Rep ⟨K, xo, fl⟩ F ρ v d
  | _, _, .non => .non
  | _, _, .bl b => .bl b
  | _, _, .int i => .int i
  | _, _, .str h => .str h
  | _, _, .lst h hl r => .lst h hl (Reps.up r)
  | _, _, .tup h hl r => .tup h hl (Reps.up r)
  | _, _, .scr h hl => .scr h hl
  | _, _, .loc h => .loc h
  | _, _, .dic h hl r => .dic h hl (RepKs.up r)
  | _, _, .exo0 h _ => by cases h
  | _, _, .exo h _ _ _ => by cases h
theorem Reps.up : ∀ {vs : List V} {ds : List D}, Reps ⟨K, none, fl⟩ F ρ vs ds → Reps ⟨K, xo, fl⟩ F ρ vs ds
  | _, _, .nil => .nil
  | _, _, .cons h t => .cons (Rep.up h) (Reps.up t)
theorem RepKs.up : ∀ {vs : List (Key × V)} {ds : List (D × D)}, RepKs ⟨K, none, fl⟩ F ρ vs ds → RepKs ⟨K, xo, fl⟩ F ρ vs ds
  | _, _, .nil => .nil
  | _, _, .cons hk h t => .cons (Rep.up hk) (Rep.up h) (RepKs.up t)
end
section
variable {G H : Hp} {S : Store}
theorem Sim.up (s : Sim ⟨K, none, fl⟩ F ρ G [] S [] H) : Sim ⟨K, xo, fl⟩ F ρ G [] S [] H :=
  ⟨s.fh, s.gh, s.fg, s.rg, s.rlen, s.rnd, s.live, fun n a c h1 h2 => by
    have q := s.cells n a c h1 h2
    cases c with
    | dead => trivial
    | dic _ => exact q
    | lst ds => obtain ⟨xs, q1, q2, q3, q4, q5⟩ := q; exact ⟨xs, q1, q2, Reps.up q3, q4, q5⟩, fun i sl e => (by simp at e), fun i j a ⟨⟨_, h⟩, _⟩ => (by simp at h), rfl, s.flo⟩
theorem Sim.low (s : Sim ⟨K, xo, fl⟩ F ρ G [] S [] H) (hn : S.all Cell.noX = true) : Sim ⟨K, none, fl⟩ F ρ G [] S [] H :=
  ⟨s.fh, s.gh, s.fg, s.rg, s.rlen, s.rnd, s.live, fun n a c h1 h2 => by
    have q := s.cells n a c h1 h2
    have hc := List.all_eq_true.mp hn c (List.mem_of_getElem? h2)
    cases c with
    | dead => trivial
    | dic _ => exact q
    | lst ds => obtain ⟨xs, q1, q2, q3, q4, q5⟩ := q; exact ⟨xs, q1, q2, Reps.low q3 hc, q4, q5⟩, fun i sl e => (by simp at e), fun i j a ⟨⟨_, h⟩, _⟩ => (by simp at h), rfl, s.flo⟩
end

mutual
/-- the floor and the handed function do not matter -/
theorem Rep.cast {K K' : KX} {F : Hp} {ρ : List Addr} (h : K.K = K'.K) (h2 : K.xo = K'.xo) : ∀ {v : V} {d : D}, Rep K F ρ v d → Rep K' F ρ v d
  | _, _, .non => .non
  | _, _, .bl b => .bl b
  | _, _, .int i => .int i
  | _, _, .str h => .str h
  | _, _, .lst e hl r => .lst e hl (Reps.cast h h2 r)
  | _, _, .tup e hl r => .tup (h ▸ e) hl (Reps.cast h h2 r)
  | _, _, .scr e hl => .scr (h ▸ e) hl
  | _, _, .loc h => .loc h
  | _, _, .dic e hl r => .dic e hl (RepKs.cast h h2 r)
  | _, _, .exo0 e f => .exo0 (h2 ▸ e) f
  | _, _, .exo a b c e => .exo (h2 ▸ a) b c (RepFs.cast h h2 e)
theorem Reps.cast {K K' : KX} {F : Hp} {ρ : List Addr} (h : K.K = K'.K) (h2 : K.xo = K'.xo) : ∀ {vs : List V} {ds : List D}, Reps K F ρ vs ds → Reps K' F ρ vs ds
  | _, _, .nil => .nil
  | _, _, .cons e t => .cons (Rep.cast h h2 e) (Reps.cast h h2 t)
theorem RepKs.cast {K K' : KX} {F : Hp} {ρ : List Addr} (h : K.K = K'.K) (h2 : K.xo = K'.xo) : ∀ {vs : List (Key × V)} {ds : List (D × D)}, RepKs K F ρ vs ds → RepKs K' F ρ vs ds
  | _, _, .nil => .nil
  | _, _, .cons hk e t => .cons (Rep.cast h h2 hk) (Rep.cast h h2 e) (RepKs.cast h h2 t)
theorem RepFs.cast {K K' : KX} {F : Hp} {ρ : List Addr} (h : K.K = K'.K) (h2 : K.xo = K'.xo) : ∀ {vs : List (Str × V)} {ds : List (String × D)}, RepFs K F ρ vs ds → RepFs K' F ρ vs ds
  | _, _, .nil => .nil
  | _, _, .cons e t => .cons (Rep.cast h h2 e) (RepFs.cast h h2 t)
end
section
variable {F F' G G' H H' : Hp} {ρ ρ' : List Addr} {S S' : Store} {σ : L2.St} {env : Env}
theorem Sim.nil {K : KX} (s : Sim K F ρ G env S σ H) : Sim K F ρ G [] S [] H :=
  ⟨s.fh, s.gh, s.fg, s.rg, s.rlen, s.rnd, s.live, s.cells, fun i sl e => by simp at e, fun i j a ⟨⟨_, h⟩, _⟩ => by simp at h, rfl, s.flo⟩
/-- another floor -/
theorem Sim.re {K K' : KX} (h : K.K = K'.K) (h2 : K.xo = K'.xo) (s : Sim K F ρ G [] S [] H) (f : Flo K'.fl F ρ G H) : Sim K' F ρ G [] S [] H :=
  ⟨s.fh, s.gh, s.fg, s.rg, s.rlen, s.rnd, s.live, fun n a c h1 h2' => by
    have q := s.cells n a c h1 h2'
    cases c with
    | dead => trivial
    | dic _ => exact q
    | lst ds => obtain ⟨xs, q1, q2, q3, q4, q5⟩ := q; exact ⟨xs, q1, q2, Reps.cast h h2 q3, q4, q5⟩, fun i sl e => (by simp at e), fun i j a ⟨⟨_, h⟩, _⟩ => (by simp at h), rfl, f⟩
/-- less to be left as it is -/
theorem Sim.reG {K : KX} (s : Sim K F ρ G [] S [] H) (hG : Le G' G) (f : Le K.fl.G G') : Sim K F ρ G' [] S [] H := by
  have nn : ∀ {a : Addr}, G a = none → G' a = none := fun {a} h => by
    cases q : G' a with
    | none => rfl
    | some o => rw [hG a o q] at h; cases h
  exact ⟨s.fh, fun a o e => s.gh a o (hG a o e), fun a o e => s.fg a o (hG a o e), fun a h => nn (s.rg a h), s.rlen, s.rnd, s.live, fun n a c h1 h2' => by
    have q := s.cells n a c h1 h2'
    cases c with
    | dead => trivial
    | dic _ => exact q
    | lst ds => obtain ⟨xs, q1, q2, q3, q4, q5⟩ := q; exact ⟨xs, q1, q2, q3, q4, nn q5⟩, fun i sl e => (by simp at e), fun i j a ⟨⟨_, h⟩, _⟩ => (by simp at h), rfl, ⟨s.flo.hF, s.flo.hρ, f, s.flo.tb, fun a o e => s.flo.gc a o (hG a o e), s.flo.fc⟩⟩
end
end

section
variable {K : PySem.W.Frag} {xo : Option XO} {fl : FL} {F G H : Hp} {ρ : List Addr} {S : Store} {σ : L2.St} {env : Env}
theorem Sim.upE (s : Sim ⟨K, none, fl⟩ F ρ G env S σ H) : Sim ⟨K, xo, fl⟩ F ρ G env S σ H :=
  ⟨s.fh, s.gh, s.fg, s.rg, s.rlen, s.rnd, s.live, s.nil.up.cells, fun i sl e => by
    have q := s.slots i sl e
    cases sl with
    | no => trivial
    | thk => exact q
    | dic _ => exact q
    | dat d => obtain ⟨x, e1, r⟩ := q; exact ⟨x, e1, r.up⟩
    | lst ds => obtain ⟨a, xs, e1, h1, h2, r, h3⟩ := q; exact ⟨a, xs, e1, h1, h2, Reps.up r, h3⟩, s.own, s.elen, s.flo⟩
theorem Sim.lowE (s : Sim ⟨K, xo, fl⟩ F ρ G env S σ H) (hn : S.all Cell.noX = true) (he : env.all Sl.noX = true) : Sim ⟨K, none, fl⟩ F ρ G env S σ H :=
  ⟨s.fh, s.gh, s.fg, s.rg, s.rlen, s.rnd, s.live, (s.nil.low hn).cells, fun i sl e => by
    have q := s.slots i sl e
    have hx := List.all_eq_true.mp he sl (List.mem_of_getElem? e)
    cases sl with
    | no => trivial
    | thk => exact q
    | dic _ => exact q
    | dat d => obtain ⟨x, e1, r⟩ := q; exact ⟨x, e1, r.low hx⟩
    | lst ds => obtain ⟨a, xs, e1, h1, h2, r, h3⟩ := q; exact ⟨a, xs, e1, h1, h2, Reps.low r hx, h3⟩, s.own, s.elen, s.flo⟩
end
theorem RepFs.up {K : PySem.W.Frag} {xo : Option XO} {fl fl' : FL} {F : Hp} {ρ : List Addr} : ∀ {vs : List (Str × V)} {ds : List (String × D)}, RepFs ⟨K, none, fl⟩ F ρ vs ds → RepFs ⟨K, xo, fl'⟩ F ρ vs ds
  | _, _, .nil => .nil
  | _, _, .cons h t => .cons (Rep.cast (K := ⟨K, xo, fl⟩) (K' := ⟨K, xo, fl'⟩) rfl rfl (Rep.up h)) (RepFs.up t)
/-- how an exception of the program's own lies -/
def exD (K : PySem.W.Frag) (mg : Str → Option Value) (xr : List String) : Hp → List Addr → Hp → Value → Option Addr → Exn → Prop := fun F ρ _ cls d x => ∃ D, x.cls ∈ xr ∧ mg (Str.ofString x.cls) = some (.ref D) ∧ cls = .ref D ∧
  ((d = none ∧ x.fs = []) ∨ ∃ dd vs, d = some dd ∧ F dd = some (.xd vs) ∧ RepFs ⟨K, none, FL.z []⟩ F ρ vs x.fs)
/-- the classes of errors, as they stand behind the top -/
structure ErrX (K : PySem.W.Frag) (mg : Str → Option Value) (sub : Sub) (xr xc xf xh : List String) : Prop where
  cls : ∀ c ∈ xr, ∃ D, mg (Str.ofString c) = some (.ref D) ∧ ExcK K D ∧ PySem.W.hasDictIn K D = true ∧ ∀ f ∈ xf, PySem.W.findIn K (.ref D) (Str.ofString f) = some none
  asked : ∀ c ∈ xc, ∃ D, mg (Str.ofString c) = some (.ref D)
  kit : ∀ c ∈ xr, ∀ c' ∈ xc, ∀ D D', mg (Str.ofString c) = some (.ref D) → mg (Str.ofString c') = some (.ref D') → PySem.W.kitOne K (.ref D) (.ref D') = some (c == c')
  caught : ∀ c ∈ xh, ∃ D, mg (Str.ofString c) = some (.ref D)
  exm : ∀ c ∈ xr, ∀ c' ∈ xh, ∀ D D', mg (Str.ofString c) = some (.ref D) → mg (Str.ofString c') = some (.ref D') → PySem.W.exmOne K (.ref D) (.ref D') = some (sub c c')

/-! ### a function that is handed on -/
/-- calls of the function at lam, made from later states, do what T does -/
structure ThOk (P : Program) (w : World) (K : PySem.W.Frag) (mg : Str → Option Value) (base : Heap) (EX : EXT) (s : Shared) (H : Hp) (fs : List Addr) (k : Nat) (lam : Addr) (T : Store → RC) : Prop where
  th : EX.fl.th = some lam
  obj : H lam = none ∧ lam ∉ fs ∧ ∃ o, s.heap.get? lam = some o ∧ ∀ h : Heap, h.get? lam = some o → PySem.W.FnAt lam h
  act : ∀ (A : Around) (outer : List PySem.Env) (sZ : Shared) (HZ : Hp) (Q : VK) (E : L2.XK) (F : Hp) (ρ : List Addr) (G : Hp) (S : Store), A.handled = none → Room (k + 1) A → Env0 P w K mg base A outer sZ HZ → Un fs [] H HZ s.heap sZ.heap →
    Sim ⟨K, none, EX.fl⟩ F ρ G [] S [] HZ → AtC ⟨K, none, EX.fl⟩ EX G Q E F ρ (T S) → codeAny (model P w) A (.call (.ref lam) ⟨[], []⟩) (CR (L2N.CX P w) outer P w HZ sZ Q E) sZ
/-- what a def that is handed a function promises; r: room; j: how many such defs one in another -/
structure FnT (P : Program) (w : World) (K : PySem.W.Frag) (mg : Str → Option Value) (base : Heap) (ex : Hp → List Addr → Hp → Value → Option Addr → Exn → Prop) (tb : List (Addr × Str)) (r j : Nat) (f : Addr) (fd : FuncData) (ps : List Str) (c : List D → (Store → RC) → Store → RC) : Prop where
  run : ∀ (A : Around) (outer : List PySem.Env) (s : Shared) (H : Hp) (args : Args) (us : List Value) (vs : List V) (lam : Addr) (T : Store → RC) (k : Nat) (fl : FL) (F : Hp) (ρ : List Addr) (G : Hp) (S : Store) (ds : List D) (Q : VK) (E : L2.XK),
    Room r A → Room (k + 1 + j) A → Env0 P w K mg base A outer s H → BindsTo s fd args (ps.zip (us ++ [.ref lam])) → Vals vs us → vs.length + 1 = ps.length → fl.tb = tb → fl.th = some lam → ThOk P w K mg base ⟨ex, none, fl⟩ s H (frs outer) k lam T →
    Sim ⟨K, none, fl⟩ F ρ G [] S [] H → Reps ⟨K, none, fl⟩ F ρ vs ds → AtC ⟨K, none, fl⟩ ⟨ex, none, fl⟩ G Q E F ρ (c ds T S) →
    codeAny (model P w) A (.call (.ref f) args) (CR (L2N.CX P w) outer P w H s Q E) s
def FnTIn (EX : EXT) (X : Cx) (r j : Nat) (c : List D → (Store → RC) → Store → RC) (f : String) (np : Nat) : Prop :=
  ∃ a fdt ps, X.mg (Str.ofString f) = some (.ref a) ∧ PySem.W.keepIn X.K (.ref a) = true ∧ Binds X.K fdt ps [] ∧ ps.length = np ∧ FnT X.prog X.w X.K X.mg X.base EX.ex EX.fl.tb r j a fdt ps c

/-! ### defs called where an exception is handled -/
/-- what a hot def promises -/
def spX (K : PySem.W.Frag) (mg : Str → Option Value) (xr : List String) (EX : EXT) (c : List D → Store → RC) : Addr → Value → Option Addr → Sp := fun a cls d vs H Q E =>
  vs = [.ref a] ∧ ∃ F ρ G S k fs C, Sim ⟨K, none, EX.fl⟩ F ρ G [] S [] H ∧ Rep ⟨K, some ⟨a, k, d⟩, EX.fl⟩ F ρ (.ref a) (.exo k fs) ∧ cls = .ref C ∧ mg (Str.ofString k) = some (.ref C) ∧ k ∈ xr ∧ AtC ⟨K, none, EX.fl⟩ EX G Q E F ρ (c [.exo k fs] S)
def FnXIn (EX : EXT) (X : Cx) (xr : List String) (c : List D → Store → RC) (f : String) : Prop :=
  ∃ a fdt ps, X.mg (Str.ofString f) = some (.ref a) ∧ PySem.W.keepIn X.K (.ref a) = true ∧ Binds X.K fdt ps [] ∧ FnP X.prog X.w X.K X.mg X.base (L2N.CX X.prog X.w) 1 a fdt ps (spX X.K X.mg xr ⟨EX.ex, none, EX.fl⟩ c)
end Pf
/-! Pf, part G: expressions: the readings of the rules from the runs. -/
namespace Pf
open PySem PySem.Spec PyProof.Rows L2 L2H

theorem PE.imp {X : Cx} {x : Expr} {t t' : TE} (h : PE X x t) (hi : ∀ σ H Q, t' σ H Q → t σ H Q) : PE X x t' := ⟨fun pins s σ H Q I q => h.run pins s σ H Q I (hi σ H Q q)⟩
theorem PT.imp {X : Cx} {x : Expr} {t t' : TT} (h : PT X x t) (hi : ∀ σ H Q, t' σ H Q → t σ H Q) : PT X x t' := ⟨fun pins s σ H Q I q => h.run pins s σ H Q I (hi σ H Q q)⟩
theorem PW.imp {X : Cx} {x : Expr} {t t' : TT} (h : PW X x t) (hi : ∀ σ H Q, t' σ H Q → t σ H Q) : PW X x t' := ⟨fun wh pins s σ H Q I q => h.run wh pins s σ H Q I (hi σ H Q q)⟩
theorem PA.imp {X : Cx} {x : List Expr} {t t' : TA} (h : PA X x t) (hi : ∀ σ H Q, t' σ H Q → t σ H Q) : PA X x t' := ⟨fun pos pins s σ H Q I q => h.run pos pins s σ H Q I (hi σ H Q q)⟩
theorem PO.imp {X : Cx} {x : Option Expr} {t t' : TO} (h : PO X x t) (hi : ∀ σ H Q, t' σ H Q → t σ H Q) : PO X x t' := ⟨fun pins s σ H Q I q => h.run pins s σ H Q I (hi σ H Q q)⟩
theorem PK.imp {X : Cx} {x : List Keyword} {t t' : TA} (h : PK X x t) (hi : ∀ σ H Q, t' σ H Q → t σ H Q) : PK X x t' := ⟨fun pos pins s σ H Q I q => h.run pos pins s σ H Q I (hi σ H Q q)⟩

/-- a def of the program, ready at a level -/
def FnIn (EX : EXT) (X : Cx) (n : Nat) (c : List D → Store → RC) (kw : Option (List Str)) (f : String) (np : Nat) : Prop :=
  ∃ a fdt ps, X.mg (Str.ofString f) = some (.ref a) ∧ PySem.W.keepIn X.K (.ref a) = true ∧ Binds X.K fdt ps [] ∧ ps.length = np ∧ FnOk X.prog X.w X.K X.mg X.base (L2N.CX X.prog X.w) n a fdt ps (spF (kx X EX) EX np c) ∧
    ∀ ks, kw = some ks → ks = ps ∧ ∀ (s : Shared) (ws : List Value), X.K.In s.heap → ws.length = ps.length → BindsTo s fdt ⟨[], ps.zip ws⟩ (ps.zip ws)
def blts : List String := ["len", "list", "tuple", "int", "str", "all", "any", "sum", "isinstance", "bool", "dict", "range", "enumerate", "zip", "sorted", "min", "max", "ord", "type", "repr"]
structure XF (C : Calls) (g : Glos) (w : WS) (n : Nat) (EX : EXT) (m : MC) (W : WX) (X : Cx) : Prop where
  hN : X.N = m.N
  nd : m.N.Nodup
  hsc : X.env.scope = m.sc
  hfn : X.fn = m.fnP
  calm : m.hot = false → X.calm = true
  cool : CoolX X
  units : X.A.units + 65 < cLine
  room : m.hot = false → Room n X.A
  tk : L2N.Takes X W
  fns : m.hot = false → ∀ f k, m.ar f = some k → FnIn EX X n (C.fn f) (m.kw f) f k
  glo : ∀ x d, g x = some d → ∃ u v, X.mg (Str.ofString x) = some u ∧ RelV v u ∧ ∀ F ρ, Rep (kx X EX) F ρ v d
  blt : ∀ b ∈ blts, X.mg (Str.ofString b) = none
  lamT : m.lm = true → (∀ f k, m.arT f = some k → FnTIn EX X (n + 5) 2 (C.lam f) f k) ∧ Room (n + 6) X.A ∧ X.A.handled = none ∧ EX.xo = none ∧
    ∃ c P, LamX.TabB X.base X.mg c P ∧ X.env.code = .ref c ∧ (P, X.env.qual ++ "<lambda>") ∈ EX.fl.tb ∧ ∀ p ∈ EX.fl.tb, p.1 = P → p.2 = X.env.qual ++ "<lambda>"
  thT : ∀ i, m.th = some i → ∃ lam k, ThOk X.prog X.w X.K X.mg X.base EX X.s_0 X.H_0 X.fs k lam C.th ∧ Room (k + 1) X.A ∧ X.A.handled = none ∧ X.ex = [] ∧ EX.xo = none ∧
    ∀ f np, m.arT f = some np → ∃ c r j, (∀ ds S, C.ps f ds S = c ds C.th S) ∧ FnTIn EX X r j c f np ∧ Room r X.A ∧ Room (k + 1 + j) X.A
  hotT : m.hot = true → m.hots ≠ [] → RoomH 1 X.A ∧ (∀ f ∈ m.hots, FnXIn EX X m.xr (C.hot f) f) ∧ ∀ x, EX.xo = some x → ∃ oe D, (x.a, oe) ∈ X.pn ∧ L2H.Hot1 X.A (x.a, oe) ∧ Zc (.ref D) x.d oe ∧ X.mg (Str.ofString x.cls) = some (.ref D) ∧ x.cls ∈ m.xr
  xcn : m.ex = true → ∀ c ∈ m.xc, ∃ D, X.mg (Str.ofString c) = some (.ref D)
  exq : m.ex = true → ∀ x, EX.xo = some x → ∃ oe C, (x.a, oe) ∈ X.pn ∧ Zc (.ref C) x.d oe ∧ (∃ vs, oe.data = .fields vs) ∧ ExcK X.K C ∧ PySem.W.hasDictIn X.K C = true ∧ (∀ f ∈ m.xf, PySem.W.findIn X.K (.ref C) (Str.ofString f) = some none) ∧
    ∀ c ∈ m.xc, ∃ D, X.mg (Str.ofString c) = some (.ref D) ∧ PySem.W.kitOne X.K (.ref C) (.ref D) = some (x.cls == c)
section
variable {C : Calls} {g : Glos} {w : WS} {n : Nat} {EX : EXT} {m : MC} {W : WX} {X : Cx}
abbrev tO (C : Calls) (g : Glos) (w : WS) (n : Nat) (EX : EXT) (W : WX) (X : Cx) (e : Ex) : TE := tR (kx X EX) W EX (POut (kx X EX)) (evO C g e)
abbrev tBo (C : Calls) (g : Glos) (w : WS) (n : Nat) (EX : EXT) (W : WX) (X : Cx) (e : Ex) : TT := tR (kx X EX) W EX PB (fun env S => (evO C g e env S).bl)
abbrev tDs (C : Calls) (g : Glos) (w : WS) (n : Nat) (EX : EXT) (W : WX) (X : Cx) (es : List Ex) : TA := tR (kx X EX) W EX (PDs (kx X EX)) (evDs C g es)
abbrev tAs (C : Calls) (g : Glos) (w : WS) (n : Nat) (EX : EXT) (W : WX) (X : Cx) (es : List Ex) : TA := tR (kx X EX) W EX (PArs (kx X EX)) (evAs C g es)
/-- what is shown of an expression -/
structure Snd (C : Calls) (g : Glos) (w : WS) (n : Nat) (EX : EXT) (W : WX) (X : Cx) (e : Ex) (x : Expr) : Prop where
  pe : PE X x (tO C g w n EX W X e)
  pt : PT X x (tBo C g w n EX W X e)
  pw : ∀ op vs p, x = .BoolOp op vs p → PW X x (tBo C g w n EX W X e)
theorem kind_eq {x : Str} : X.env.kindOf x = X.env.scope.names.lookup x := rfl
theorem vis_of (f : XF C g w n EX m W X) {x : Str} (h : visB m.sc x = true) : Vis X.env.scope x := by
  rw [f.hsc]; unfold visB at h
  split at h <;> first | exact .inl (by assumption) | exact .inr (.inl (by assumption)) | exact .inr (.inr (by assumption)) | cases h
theorem gl_of (f : XF C g w n EX m W X) {x : Str} (h : glB m.sc x = true) : Gl X x := by
  show X.env.scope.names.lookup x = _
  rw [f.hsc]; exact of_decide_eq_true h
theorem dbg_of {x : Str} (h : okN x = true) : (x == ("__debug__" : Str)) = false ∧ (x == ("__classdict__" : Str)) = false := by
  unfold okN at h
  simp only [Bool.and_eq_true, Bool.not_eq_true'] at h
  exact h
/-- a test that is no test's own form -/
theorem Snd.plain {e : Ex} {x : Expr} (h : PE X x (tO C g w n EX W X e)) (ht : isTest x = false) : Snd C g w n EX W X e x := by
  refine ⟨h, PT.imp (pt_val h (true_plain ht)) fun σ H Q ⟨F, ρ, G, env, S, s, a⟩ => ⟨F, ρ, G, env, S, s, a.bl⟩, fun op vs p z => ?_⟩
  subst z; cases ht
theorem Snd.nobool {e : Ex} {x : Expr} (h : PE X x (tO C g w n EX W X e)) (h2 : PT X x (tBo C g w n EX W X e)) (ht : ∀ op vs p, x ≠ .BoolOp op vs p) : Snd C g w n EX W X e x := ⟨h, h2, fun op vs p z => absurd z (ht op vs p)⟩

/-! ### constants and names -/
theorem s_val {d : D} {v : V} {e : Ex} {x : Expr} (hp : PE X x (tC v)) (he : ∀ env S, evO C g e env S = .ok (.val d) env S) (r : ∀ F ρ, Rep (kx X EX) F ρ v d) : PE X x (tO C g w n EX W X e) := by
  refine PE.imp hp fun σ H Q h => ?_
  obtain ⟨F, ρ, G, env, S, s, a⟩ := h
  rw [he] at a
  exact a.now s (r F ρ)
theorem s_var {i : Nat} {x : Expr} (hp : PE X x (tVar i)) : PE X x (tO C g w n EX W X (.var i)) := by
  refine PE.imp hp fun σ H Q h => ?_
  obtain ⟨F, ρ, G, env, S, s, a⟩ := h
  have a : At (kx X EX) W EX G σ (POut (kx X EX) G σ) Q F ρ (match rd env i with | some (d, env') => .ok (.val d) env' S | none => .bad) := a
  cases q : env[i]? with
  | none =>
    have : rd env i = none := by unfold rd; rw [q]
    rw [this] at a; exact a.elim
  | some sl =>
    cases sl with
    | no =>
      have : rd env i = none := by unfold rd; rw [q]
      rw [this] at a; exact a.elim
    | dat d =>
      have : rd env i = some (d, env) := by unfold rd; rw [q]
      rw [this] at a
      obtain ⟨v, e, r⟩ := s.slots i _ q
      exact ⟨v, e, a.now s r⟩
    | lst ds =>
      have : rd env i = some (.lst ds, env.set i (.dat (.lst ds))) := by unfold rd; rw [q]
      rw [this] at a
      obtain ⟨b, xs, F', ev, le, e1, e2, e3, s'⟩ := s.rdown q
      exact ⟨_, ev, a F' ρ H (.ref b) le prefix_refl s' (show Rep (kx X EX) F' ρ _ (.lst ds) from .lst e1 e2 e3)⟩
    | dic _ => exact (s.slots i _ q).elim
    | thk =>
      have : rd env i = none := by unfold rd; rw [q]
      rw [this] at a; exact a.elim
theorem s_hv {i : Nat} {x : Expr} (hp : PE X x (tVar i)) : PE X x (tO C g w n EX W X (.hv i)) := by
  refine PE.imp hp fun σ H Q h => ?_
  obtain ⟨F, ρ, G, env, S, s, a⟩ := h
  have a : At (kx X EX) W EX G σ (POut (kx X EX) G σ) Q F ρ (match env[i]? with | some (.lst _) => .ok (.hdl i) env S | some (.dic _) => .ok (.hdl i) env S | some (.dat d) => .ok (.val d) env S | _ => .bad) := a
  cases q : env[i]? with
  | none => rw [q] at a; exact a.elim
  | some sl =>
    rw [q] at a
    cases sl with
    | no => exact a.elim
    | thk => exact a.elim
    | dic _ => exact (s.slots i _ q).elim
    | dat d =>
      obtain ⟨v, e, r⟩ := s.slots i _ q
      exact ⟨v, e, a.now s r⟩
    | lst ds =>
      obtain ⟨b, xs, ev, _⟩ := s.slots i _ q
      exact ⟨_, ev, a.now s (show POut (kx X EX) G σ F ρ env H (.ref b) (.hdl i) from ev)⟩

/-! ### operators -/
theorem r_2 {f : D → D → Option Out} {ea eb : Ex} {σ : L2.St} {H : Hp} {Q : VK} {F G : Hp} {ρ : List Addr} {env : Env} {S : Store} (s : Sim (kx X EX) F ρ G env S σ H)
    (a : At (kx X EX) W EX G σ (POut (kx X EX) G σ) Q F ρ ((evO C g ea env S).ar.bind fun x env S => (evO C g eb env S).ar.bind fun y env S => ofO ((vw env S x).bind fun u => (vw env S y).bind fun v => f u v) env S)) :
    tOp (rV2 (kx X EX) W EX f) (tO C g w n EX W X ea) (tO C g w n EX W X eb) σ H Q := by
  refine ⟨F, ρ, G, env, S, s, At.ar (At.imp (At.bind (P1 := PAr (kx X EX) G σ) a) ?_)⟩
  intro x H1 ⟨ax, F1, ρ1, env1, S1, le1, pre1, sim1, rx, at1⟩
  refine ⟨F1, ρ1, G, env1, S1, sim1, At.ar (At.imp (At.bind (P1 := PAr (kx X EX) G σ) at1) ?_)⟩
  intro y H2 ⟨ay, F2, ρ2, env2, S2, le2, pre2, sim2, ry, at2⟩
  obtain ⟨out, eo, at3⟩ := At.ofO at2
  obtain ⟨u, eu, eo⟩ := bind_some eo
  obtain ⟨v, ev, eo⟩ := bind_some eo
  exact ⟨F2, ρ2, G, env2, S2, σ, u, v, sim2, (ArRep.mono rx le2 pre2).view sim2 eu, ArRep.view sim2 ry ev, out, eo, at3⟩
theorem r_c2 {f : D → D → Option Bool} {ea eb : Ex} {σ : L2.St} {H : Hp} {Q : VK} {F G : Hp} {ρ : List Addr} {env : Env} {S : Store} (s : Sim (kx X EX) F ρ G env S σ H)
    (a : At (kx X EX) W EX G σ (POut (kx X EX) G σ) Q F ρ ((evO C g ea env S).ar.bind fun x env S => (evO C g eb env S).ar.bind fun y env S => ofO ((vw env S x).bind fun u => (vw env S y).bind fun v => (f u v).map fun r => .val (.bl r)) env S)) :
    tOp (rC2 (kx X EX) f) (tO C g w n EX W X ea) (tO C g w n EX W X eb) σ H Q := by
  refine ⟨F, ρ, G, env, S, s, At.ar (At.imp (At.bind (P1 := PAr (kx X EX) G σ) a) ?_)⟩
  intro x H1 ⟨ax, F1, ρ1, env1, S1, le1, pre1, sim1, rx, at1⟩
  refine ⟨F1, ρ1, G, env1, S1, sim1, At.ar (At.imp (At.bind (P1 := PAr (kx X EX) G σ) at1) ?_)⟩
  intro y H2 ⟨ay, F2, ρ2, env2, S2, le2, pre2, sim2, ry, at2⟩
  obtain ⟨out, eo, at3⟩ := At.ofO at2
  obtain ⟨u, eu, eo⟩ := bind_some eo
  obtain ⟨v, ev, eo⟩ := bind_some eo
  obtain ⟨r, er, rfl⟩ := map_some eo
  exact ⟨F2, ρ2, G, env2, S2, σ, u, v, r, sim2, (ArRep.mono rx le2 pre2).view sim2 eu, ArRep.view sim2 ry ev, er, at3.now sim2 (show Rep (kx X EX) F2 ρ2 _ _ from .bl r)⟩
theorem units_of (f : XF C g w n EX m W X) : X.A.units + 65 < cLine := f.units
theorem s_bin (f : XF C g w n EX m W X) {o : BOp} {a b : Ex} {l r : Expr} {p : Pos} (ha : Snd C g w n EX W X a l) (hb : Snd C g w n EX W X b r) : PE X (.BinOp l (bopOf o) r p) (tO C g w n EX W X (.bin o a b)) :=
  PE.imp (pe_op (or_bin o) ha.pe hb.pe) fun σ H Q ⟨F, ρ, G, env, S, s, a⟩ => r_2 s a
theorem s_un {o : UOp} {a : Ex} {l : Expr} {p : Pos} (ha : Snd C g w n EX W X a l) : PE X (.UnaryOp .USub l p) (tO C g w n EX W X (.un o a)) := by
  refine PE.imp (pe_un (or_un (W := W) (EX := EX) o) ha.pe) fun σ H Q ⟨F, ρ, G, env, S, s, a⟩ => ?_
  refine ⟨F, ρ, G, env, S, s, At.ar (At.imp (At.bind (P1 := PAr (kx X EX) G σ) a) ?_)⟩
  intro x H1 ⟨ax, F1, ρ1, env1, S1, le1, pre1, sim1, rx, at1⟩
  obtain ⟨out, eo, at3⟩ := At.ofO at1
  obtain ⟨u, eu, eo⟩ := bind_some eo
  exact ⟨F1, ρ1, G, env1, S1, σ, u, sim1, ArRep.view sim1 rx eu, out, eo, at3⟩
theorem s_cmp (f : XF C g w n EX m W X) {o : COp} {a b : Ex} {l r : Expr} {p : Pos} (ha : Snd C g w n EX W X a l) (hb : Snd C g w n EX W X b r) (hs : isSet r = false) : Snd C g w n EX W X (.cmp o a b) (.Compare l [copOf o] [r] p) := by
  refine .nobool (PE.imp (pe_cmpR (or_cmp (EX := EX) o (units_of f)) ha.pe hb.pe (behind_in hs)) fun σ H Q ⟨F, ρ, G, env, S, s, a⟩ => r_c2 s a)
    (PT.imp (pt_cmpR (or_cmp (EX := EX) o (units_of f)) ha.pe hb.pe (behind_in hs)) fun σ H Q ⟨F, ρ, G, env, S, s, a⟩ => ?_) fun _ _ _ => nofun
  exact r_c2 s a.bl
theorem r_chain {o p : COp} {a b c : Ex} {σ : L2.St} {H : Hp} {Q : VK} {F G : Hp} {ρ : List Addr} {env : Env} {S : Store} (s : Sim (kx X EX) F ρ G env S σ H) (h : At (kx X EX) W EX G σ (POut (kx X EX) G σ) Q F ρ (evO C g (.cmp2 o p a b c) env S)) :
    tChain (rC2 (kx X EX) (cmpF o)) (rC2 (kx X EX) (cmpF p)) (tO C g w n EX W X a) (tO C g w n EX W X b) (tO C g w n EX W X c) σ H Q := by
  refine ⟨F, ρ, G, env, S, s, At.ar (At.imp (At.bind (P1 := PAr (kx X EX) G σ) h) ?_)⟩
  intro x H1 ⟨ax, F1, ρ1, env1, S1, le1, pre1, sim1, rx, at1⟩
  refine ⟨F1, ρ1, G, env1, S1, sim1, At.ar (At.imp (At.bind (P1 := PAr (kx X EX) G σ) at1) ?_)⟩
  intro y H2 ⟨ay, F2, ρ2, env2, S2, le2, pre2, sim2, ry, at2⟩
  cases eo : ((vw env2 S2 ax).bind fun u => (vw env2 S2 ay).bind fun v => cmpF o u v) with
  | none => rw [eo] at at2; exact at2.elim
  | some r =>
    rw [eo] at at2
    obtain ⟨u, eu, eo⟩ := bind_some eo
    obtain ⟨v, ev, eo⟩ := bind_some eo
    refine ⟨F2, ρ2, G, env2, S2, σ, u, v, r, sim2, (ArRep.mono rx le2 pre2).view sim2 eu, ArRep.view sim2 ry ev, eo, r, rfl, ?_⟩
    cases r with
    | false => exact at2.now sim2 (show Rep (kx X EX) F2 ρ2 _ _ from .bl false)
    | true =>
      refine ⟨F2, ρ2, G, env2, S2, sim2, At.ar (At.imp (At.bind (P1 := PAr (kx X EX) G σ) (show At (kx X EX) W EX G σ (POut (kx X EX) G σ) Q F2 ρ2 ((evO C g c env2 S2).ar.bind _) from at2)) ?_)⟩
      intro z H3 ⟨az, F3, ρ3, env3, S3, le3, pre3, sim3, rz, at3⟩
      obtain ⟨out, eo', at4⟩ := At.ofO at3
      obtain ⟨u', eu', eo'⟩ := bind_some eo'
      obtain ⟨v', ev', eo'⟩ := bind_some eo'
      obtain ⟨r', er, rfl⟩ := map_some eo'
      exact ⟨F3, ρ3, G, env3, S3, σ, u', v', r', sim3, (ArRep.mono ry le3 pre3).view sim3 eu', ArRep.view sim3 rz ev', er, at4.now sim3 (show Rep (kx X EX) F3 ρ3 _ _ from .bl r')⟩
theorem last2 {o o' : CmpOp} {b c : Expr} (hb : isSet c = false) : lastMarks [o, o'] [b, c] = false := behind_in hb
theorem s_cmp2 (f : XF C g w n EX m W X) {o q : COp} {a b c : Ex} {l r t : Expr} {p : Pos} (ha : Snd C g w n EX W X a l) (hb : Snd C g w n EX W X b r) (hc : Snd C g w n EX W X c t) (hs : isSet t = false) : Snd C g w n EX W X (.cmp2 o q a b c) (.Compare l [copOf o, copOf q] [r, t] p) := by
  refine .nobool (PE.imp (pe_chain (or_cmp (EX := EX) o (units_of f)) (or_cmp (EX := EX) q (units_of f)) ha.pe hb.pe hc.pe (last2 hs)) fun σ H Q ⟨F, ρ, G, env, S, s, a⟩ => r_chain s a)
    (PT.imp (pt_chain (or_cmp (EX := EX) o (units_of f)) (or_cmp (EX := EX) q (units_of f)) ha.pe hb.pe hc.pe (last2 hs)) fun σ H Q ⟨F, ρ, G, env, S, s, a⟩ => ?_) fun _ _ _ => nofun
  exact r_chain s a.bl

/-! ### and, or, not, if -/
theorem bl_bind {α : Type} (r : R α) (f : α → Env → Store → R Out) : (r.bind f).bl = r.bind fun a env S => (f a env S).bl := by cases r <;> rfl
theorem s_and {a b : Ex} {y z : Expr} {rest : List Expr} {p : Pos} (ha : Snd C g w n EX W X a y)
    (hb : PE X (.BoolOp .And (z :: rest) p) (tO C g w n EX W X b)) (hb2 : PW X (.BoolOp .And (z :: rest) p) (tBo C g w n EX W X b)) : Snd C g w n EX W X (.and a b) (.BoolOp .And (y :: z :: rest) p) := by
  have pw : PW X (.BoolOp .And (y :: z :: rest) p) (tBo C g w n EX W X (.and a b)) := by
    refine PW.imp (pw_and ha.pt hb2) fun σ H Q ⟨F, ρ, G, env, S, s, h⟩ => ?_
    have h : At (kx X EX) W EX G σ (PB G σ) Q F ρ ((evO C g a env S).bl.bind fun r env S => (if r then evO C g b env S else .ok (.val (.bl false)) env S).bl) := by rw [← bl_bind]; exact h
    refine ⟨F, ρ, G, env, S, s, At.imp (At.bind (P1 := PB G σ) h) ?_⟩
    rintro c H1 ⟨r, F1, ρ1, env1, S1, le1, pre1, sim1, e, at1⟩
    cases (show c = r from e)
    cases c with
    | true => exact ⟨F1, ρ1, G, env1, S1, sim1, at1⟩
    | false => exact at1.now sim1 (b := false) rfl
  refine ⟨PE.imp (pe_and ha.pe hb) fun σ H Q ⟨F, ρ, G, env, S, s, h⟩ => ?_, pw.pt, fun op vs q e => by cases e; exact pw⟩
  refine ⟨F, ρ, G, env, S, s, At.imp (At.bl (At.bind (P1 := PB G σ) h)) ?_⟩
  rintro v H1 ⟨c, rfl, r, F1, ρ1, env1, S1, le1, pre1, sim1, e, at1⟩
  cases (show c = r from e)
  refine ⟨c, rfl, ?_⟩
  cases c with
  | true => exact ⟨F1, ρ1, G, env1, S1, sim1, at1⟩
  | false => exact at1.now sim1 (show Rep (kx X EX) F1 ρ1 _ _ from .bl false)
theorem s_or {a b : Ex} {y z : Expr} {rest : List Expr} {p : Pos} (ha : Snd C g w n EX W X a y)
    (hb : PE X (.BoolOp .Or (z :: rest) p) (tO C g w n EX W X b)) (hb2 : PW X (.BoolOp .Or (z :: rest) p) (tBo C g w n EX W X b)) : Snd C g w n EX W X (.or a b) (.BoolOp .Or (y :: z :: rest) p) := by
  have pw : PW X (.BoolOp .Or (y :: z :: rest) p) (tBo C g w n EX W X (.or a b)) := by
    refine PW.imp (pw_or ha.pt hb2) fun σ H Q ⟨F, ρ, G, env, S, s, h⟩ => ?_
    have h : At (kx X EX) W EX G σ (PB G σ) Q F ρ ((evO C g a env S).bl.bind fun r env S => (if r then .ok (.val (.bl true)) env S else evO C g b env S).bl) := by rw [← bl_bind]; exact h
    refine ⟨F, ρ, G, env, S, s, At.imp (At.bind (P1 := PB G σ) h) ?_⟩
    rintro c H1 ⟨r, F1, ρ1, env1, S1, le1, pre1, sim1, e, at1⟩
    cases (show c = r from e)
    cases c with
    | false => exact ⟨F1, ρ1, G, env1, S1, sim1, at1⟩
    | true => exact at1.now sim1 (b := true) rfl
  refine ⟨PE.imp (pe_or ha.pe hb) fun σ H Q ⟨F, ρ, G, env, S, s, h⟩ => ?_, pw.pt, fun op vs q e => by cases e; exact pw⟩
  refine ⟨F, ρ, G, env, S, s, At.imp (At.bl (At.bind (P1 := PB G σ) h)) ?_⟩
  rintro v H1 ⟨c, rfl, r, F1, ρ1, env1, S1, le1, pre1, sim1, e, at1⟩
  cases (show c = r from e)
  refine ⟨c, rfl, ?_⟩
  cases c with
  | false => exact ⟨F1, ρ1, G, env1, S1, sim1, at1⟩
  | true => exact at1.now sim1 (show Rep (kx X EX) F1 ρ1 _ _ from .bl true)
theorem s_not {a : Ex} {y : Expr} {p : Pos} (ha : Snd C g w n EX W X a y) : Snd C g w n EX W X (.not a) (.UnaryOp .Not y p) := by
  refine .nobool (PE.imp (pe_not ha.pe) fun σ H Q ⟨F, ρ, G, env, S, s, h⟩ => ?_) (PT.imp (pt_not ha.pt) fun σ H Q ⟨F, ρ, G, env, S, s, h⟩ => ?_) fun _ _ _ => nofun
  · refine ⟨F, ρ, G, env, S, s, At.imp (At.bl (At.bind (P1 := PB G σ) h)) ?_⟩
    rintro v H1 ⟨c, rfl, r, F1, ρ1, env1, S1, le1, pre1, sim1, e, at1⟩
    cases (show c = r from e)
    exact ⟨c, rfl, at1.now sim1 (show Rep (kx X EX) F1 ρ1 _ _ from .bl _)⟩
  · have h : At (kx X EX) W EX G σ (PB G σ) Q F ρ ((evO C g a env S).bl.bind fun r env S => (R.ok (.val (.bl (!r))) env S).bl) := by rw [← bl_bind]; exact h
    refine ⟨F, ρ, G, env, S, s, At.imp (At.bind (P1 := PB G σ) h) ?_⟩
    rintro c H1 ⟨r, F1, ρ1, env1, S1, le1, pre1, sim1, e, at1⟩
    cases (show c = r from e)
    exact at1.now sim1 (b := !c) rfl
theorem pt_ifExp {c a b : Expr} {tc ta tb : TT} {pos : Pos} (hc : PT X c tc) (ha : PT X a ta) (hb : PT X b tb) : PT X (.IfExp c a b pos) (fun σ H Q => tc σ H fun d H1 => if d = true then ta σ H1 Q else tb σ H1 Q) := by
  refine ⟨fun pins s σ H Q I h => ?_⟩
  have e : isTrue (.IfExp c a b pos) X.env (eval (.IfExp c a b pos) X.env) = (do if ← isTrue c X.env (eval c X.env) then isTrue a X.env (eval a X.env) else isTrue b X.env (eval b X.env)) := rfl
  rw [e]
  refine wpAny_bind (thn (hc.run pins s σ H _ I h) fun d s1 ⟨H1, I1, q1⟩ => ?_)
  cases d with
  | true => exact ha.run pins s1 σ H1 Q I1 q1
  | false => exact hb.run pins s1 σ H1 Q I1 q1
theorem s_ite {c a b : Ex} {x y z : Expr} {p : Pos} (hc : Snd C g w n EX W X c x) (ha : Snd C g w n EX W X a y) (hb : Snd C g w n EX W X b z) : Snd C g w n EX W X (.ite c a b) (.IfExp x y z p) := by
  refine .nobool (PE.imp (pe_ifExp hc.pt ha.pe hb.pe) fun σ H Q ⟨F, ρ, G, env, S, s, h⟩ => ?_) (PT.imp (pt_ifExp hc.pt ha.pt hb.pt) fun σ H Q ⟨F, ρ, G, env, S, s, h⟩ => ?_) fun _ _ _ => nofun
  · refine ⟨F, ρ, G, env, S, s, At.imp (At.bind (P1 := PB G σ) h) ?_⟩
    rintro d H1 ⟨r, F1, ρ1, env1, S1, le1, pre1, sim1, e, at1⟩
    cases (show d = r from e)
    cases d with
    | true => exact ⟨F1, ρ1, G, env1, S1, sim1, at1⟩
    | false => exact ⟨F1, ρ1, G, env1, S1, sim1, at1⟩
  · have h : At (kx X EX) W EX G σ (PB G σ) Q F ρ ((evO C g c env S).bl.bind fun r env S => (if r then evO C g a env S else evO C g b env S).bl) := by rw [← bl_bind]; exact h
    refine ⟨F, ρ, G, env, S, s, At.imp (At.bind (P1 := PB G σ) h) ?_⟩
    rintro d H1 ⟨r, F1, ρ1, env1, S1, le1, pre1, sim1, e, at1⟩
    cases (show d = r from e)
    cases d with
    | true => exact ⟨F1, ρ1, G, env1, S1, sim1, at1⟩
    | false => exact ⟨F1, ρ1, G, env1, S1, sim1, at1⟩

/-! ### lists of expressions -/
theorem a_nil : PA X [] (tAs C g w n EX W X []) ∧ PA X [] (tDs C g w n EX W X []) := by
  constructor
  · refine PA.imp pa_nil fun σ H Q ⟨F, ρ, G, env, S, s, h⟩ => ?_
    have h : At (kx X EX) W EX G σ (PArs (kx X EX) G σ) Q F ρ (.ok [] env S) := h
    exact h.now s ArReps.nil
  · refine PA.imp pa_nil fun σ H Q ⟨F, ρ, G, env, S, s, h⟩ => ?_
    have h : At (kx X EX) W EX G σ (PDs (kx X EX) G σ) Q F ρ (.ok [] env S) := h
    exact h.now s Reps.nil
theorem a_cons {e : Ex} {es : List Ex} {x : Expr} {xs : List Expr} (hx : isStar x = false) (h1 : Snd C g w n EX W X e x) (h2 : PA X xs (tAs C g w n EX W X es) ∧ PA X xs (tDs C g w n EX W X es)) :
    PA X (x :: xs) (tAs C g w n EX W X (e :: es)) ∧ PA X (x :: xs) (tDs C g w n EX W X (e :: es)) := by
  constructor
  · refine PA.imp (pa_cons h1.pe h2.1 (star_cons hx)) fun σ H Q ⟨F, ρ, G, env, S, s, h⟩ => ?_
    refine ⟨F, ρ, G, env, S, s, At.ar (At.imp (At.bind (P1 := PAr (kx X EX) G σ) h) ?_)⟩
    intro v H1 ⟨a, F1, ρ1, env1, S1, le1, pre1, sim1, ra, at1⟩
    refine ⟨F1, ρ1, G, env1, S1, sim1, At.imp (At.bind (P1 := PArs (kx X EX) G σ) at1) ?_⟩
    intro vs H2 ⟨as, F2, ρ2, env2, S2, le2, pre2, sim2, ras, at2⟩
    exact at2.now sim2 (ArReps.cons (ArRep.mono ra le2 pre2) ras)
  · refine PA.imp (pa_cons h1.pe h2.2 (star_cons hx)) fun σ H Q ⟨F, ρ, G, env, S, s, h⟩ => ?_
    refine ⟨F, ρ, G, env, S, s, At.fz (At.imp (At.bind (P1 := PD (kx X EX) G σ) h) ?_)⟩
    intro v H1 ⟨a, F1, ρ1, env1, S1, le1, pre1, sim1, ra, at1⟩
    refine ⟨F1, ρ1, G, env1, S1, sim1, At.imp (At.bind (P1 := PDs (kx X EX) G σ) at1) ?_⟩
    intro vs H2 ⟨as, F2, ρ2, env2, S2, le2, pre2, sim2, ras, at2⟩
    exact at2.now sim2 (Reps.cons (Rep.mono le2 pre2 ra) ras)
theorem k_nil : PK X [] (tDs C g w n EX W X []) := by
  refine PK.imp pk_nil fun σ H Q ⟨F, ρ, G, env, S, s, h⟩ => ?_
  have h : At (kx X EX) W EX G σ (PDs (kx X EX) G σ) Q F ρ (.ok [] env S) := h
  exact h.now s Reps.nil
theorem k_cons {e : Ex} {es : List Ex} {nm : Option Str} {x : Expr} {kp : Pos} {xs : List Keyword} (h1 : Snd C g w n EX W X e x) (h2 : PK X xs (tDs C g w n EX W X es)) : PK X (⟨nm, x, kp⟩ :: xs) (tDs C g w n EX W X (e :: es)) := by
  refine PK.imp (pk_cons h1.pe h2) fun σ H Q ⟨F, ρ, G, env, S, s, h⟩ => ?_
  refine ⟨F, ρ, G, env, S, s, At.fz (At.imp (At.bind (P1 := PD (kx X EX) G σ) h) ?_)⟩
  intro v H1 ⟨a, F1, ρ1, env1, S1, le1, pre1, sim1, ra, at1⟩
  refine ⟨F1, ρ1, G, env1, S1, sim1, At.imp (At.bind (P1 := PDs (kx X EX) G σ) at1) ?_⟩
  intro vs H2 ⟨as, F2, ρ2, env2, S2, le2, pre2, sim2, ras, at2⟩
  exact at2.now sim2 (Reps.cons (Rep.mono le2 pre2 ra) ras)
theorem p_none : PO X none (tR (kx X EX) W EX (fun _ _ _ _ _ _ b a => b = a) (evP C g none)) := by
  refine PO.imp po_none fun σ H Q ⟨F, ρ, G, env, S, s, h⟩ => ?_
  have h : At (kx X EX) W EX G σ (fun _ _ _ _ b a => b = a) Q F ρ (.ok none env S) := h
  exact h.now s (b := none) rfl
theorem p_some {e : Ex} {x : Expr} (h1 : Snd C g w n EX W X e x) : PO X (some x) (tR (kx X EX) W EX (fun _ _ _ _ _ _ b a => b = a) (evP C g (some e))) := by
  refine PO.imp (po_some h1.pe) fun σ H Q ⟨F, ρ, G, env, S, s, h⟩ => ?_
  refine ⟨F, ρ, G, env, S, s, At.fz (At.imp (At.bind (P1 := PD (kx X EX) G σ) h) ?_)⟩
  intro v H1 ⟨a, F1, ρ1, env1, S1, le1, pre1, sim1, ra, at1⟩
  obtain ⟨o, eo, at2⟩ := At.ofO at1
  obtain ⟨i, ei, rfl⟩ := map_some eo
  have ra : Rep (kx X EX) F1 ρ1 v a := ra
  cases a with
  | int j => cases ei; cases ra; exact ⟨i, rfl, at2.now sim1 (b := some i) rfl⟩
  | _ => cases ei
theorem evDs_len : ∀ (es : List Ex) (env : Env) (S : Store) {ds : List D} {env' : Env} {S' : Store}, evDs C g es env S = .ok ds env' S' → ds.length = es.length
  | [], env, S, ds, env', S', e => by cases e; rfl
  | e :: es, env, S, ds, env', S', q => by
    have q : ((evO C g e env S).fz.bind fun d env S => (evDs C g es env S).bind fun ds env S => .ok (d :: ds) env S) = .ok ds env' S' := q
    cases z : (evO C g e env S).fz with
    | exc _ _ _ => rw [z] at q; cases q
    | bad => rw [z] at q; cases q
    | ok d env1 S1 =>
      rw [z] at q
      have q : ((evDs C g es env1 S1).bind fun ds env S => .ok (d :: ds) env S) = .ok ds env' S' := q
      cases z2 : evDs C g es env1 S1 with
      | exc _ _ _ => rw [z2] at q; cases q
      | bad => rw [z2] at q; cases q
      | ok ds1 env2 S2 =>
        rw [z2] at q
        cases q
        rw [List.length_cons, List.length_cons, evDs_len es env1 S1 z2]
/-- the items of a display -/
theorem r_disp {es : List Ex} {f : List D → Out} {σ : L2.St} {H : Hp} {Q : VK} {F G : Hp} {ρ : List Addr} {env : Env} {S : Store} (s : Sim (kx X EX) F ρ G env S σ H) (hl : es.length < 1000)
    (a : At (kx X EX) W EX G σ (POut (kx X EX) G σ) Q F ρ ((evDs C g es env S).bind fun ds env S => .ok (f ds) env S)) :
    tDs C g w n EX W X es σ H fun vs H1 => vs.length ≤ 16777216 ∧ ∃ ds F1 ρ1 env1 S1, Sim (kx X EX) F1 ρ1 G env1 S1 σ H1 ∧ Reps (kx X EX) F1 ρ1 vs ds ∧ At (kx X EX) W EX G σ (POut (kx X EX) G σ) Q F1 ρ1 (.ok (f ds) env1 S1) := by
  refine ⟨F, ρ, G, env, S, s, ?_⟩
  cases z : evDs C g es env S with
  | exc _ _ _ => rw [z] at a; exact a
  | bad => rw [z] at a; exact a
  | ok ds env1 S1 =>
    rw [z] at a
    intro F1 ρ1 H1 vs le1 pre1 sim1 r
    have hd := evDs_len es env S z
    have hv : vs.length ≤ 16777216 := by rw [Reps.length r, hd]; omega
    have a : At (kx X EX) W EX G σ (POut (kx X EX) G σ) Q F ρ (.ok (f ds) env1 S1) := a
    exact ⟨hv, ds, F1, ρ1, env1, S1, sim1, r, a.mono le1 pre1⟩
theorem tR_imp {β α : Type} {K : KX} {P : Hp → L2.St → Post β α} {r : Env → Store → R α} {σ : L2.St} {H : Hp} {Q Q' : β → Hp → Prop} (h : tR K W EX P r σ H Q) (hi : ∀ b H, Q b H → Q' b H) : tR K W EX P r σ H Q' := by
  obtain ⟨F, ρ, G, env, S, s, a⟩ := h
  exact ⟨F, ρ, G, env, S, s, a.imp hi⟩
theorem s_lst {es : List Ex} {xs : List Expr} {p : Pos} (h : PA X xs (tDs C g w n EX W X es)) (hl : es.length < 1000) : PE X (.List xs p) (tO C g w n EX W X (.lst es)) := by
  refine PE.imp (pe_lst h) fun σ H Q ⟨F, ρ, G, env, S, s, a⟩ => ?_
  refine tR_imp (r_disp (w := w) (n := n) (f := fun ds => .new (.lst ds)) s hl a) ?_
  rintro vs H1 ⟨hv, ds, F1, ρ1, env1, S1, sim1, r, a1⟩
  exact ⟨by rw [size24]; exact hv, fun p hp => a1.lst sim1 r hv hp⟩
theorem s_tup {es : List Ex} {xs : List Expr} {k : Nat} {p : Pos} (h : PA X xs (tDs C g w n EX W X es)) (hl : es.length < 1000) : PE X (.Tuple xs k p) (tO C g w n EX W X (.tup es)) := by
  refine PE.imp (pe_tup h) fun σ H Q ⟨F, ρ, G, env, S, s, a⟩ => ?_
  refine tR_imp (r_disp (w := w) (n := n) (f := fun ds => .val (.tup ds)) s hl a) ?_
  rintro vs H1 ⟨hv, ds, F1, ρ1, env1, S1, sim1, r, a1⟩
  exact ⟨by rw [size24]; exact hv, fun p hp => a1.tup sim1 r hv hp⟩

/-! ### subscripts -/
theorem s_idx {a b : Ex} {l r : Expr} {p : Pos} (ha : Snd C g w n EX W X a l) (hb : Snd C g w n EX W X b r) (hs : isSlice r = false) : PE X (.Subscript l r p) (tO C g w n EX W X (.idx a b)) :=
  PE.imp (pe_ix ix_ok ha.pe hb.pe (plain_ix hs)) fun σ H Q ⟨F, ρ, G, env, S, s, a⟩ => r_2 (f := fun u v => (idxF u v).map .val) s a
theorem s_slc {a : Ex} {lo hi : Option Ex} {l : Expr} {u v : Option Expr} {p p2 : Pos} (ha : Snd C g w n EX W X a l) (hl : PO X u (tR (kx X EX) W EX (fun _ _ _ _ _ _ b a => b = a) (evP C g lo))) (hh : PO X v (tR (kx X EX) W EX (fun _ _ _ _ _ _ b a => b = a) (evP C g hi))) :
    PE X (.Subscript l (.Slice u v none p2) p) (tO C g w n EX W X (.slc a lo hi)) := by
  refine PE.imp (pe_slice (sl_ok (W := W) (EX := EX)) ha.pe hl hh) fun σ H Q ⟨F, ρ, G, env, S, s, h⟩ => ?_
  refine ⟨F, ρ, G, env, S, s, At.ar (At.imp (At.bind (P1 := PAr (kx X EX) G σ) h) ?_)⟩
  intro x H1 ⟨ax, F1, ρ1, env1, S1, le1, pre1, sim1, rx, at1⟩
  refine ⟨F1, ρ1, G, env1, S1, sim1, At.imp (At.bind (P1 := fun _ _ _ _ b a => b = a) at1) ?_⟩
  rintro l1 H2 ⟨l2, F2, ρ2, env2, S2, le2, pre2, sim2, e2, at2⟩
  cases (show l1 = l2 from e2)
  refine ⟨F2, ρ2, G, env2, S2, sim2, At.imp (At.bind (P1 := fun _ _ _ _ b a => b = a) at2) ?_⟩
  rintro h1 H3 ⟨h2, F3, ρ3, env3, S3, le3, pre3, sim3, e3, at3⟩
  cases (show h1 = h2 from e3)
  obtain ⟨out, eo, at4⟩ := At.ofO at3
  obtain ⟨u, eu, eo⟩ := bind_some eo
  exact ⟨F3, ρ3, G, env3, S3, σ, u, sim3, (ArRep.mono rx (le2.trans le3) (prefix_trans pre2 pre3)).view sim3 eu, out, eo, at4⟩

/-! ### built-ins, methods -/
theorem views {F G H : Hp} {ρ : List Addr} {σ : L2.St} {env : Env} {S : Store} (s : Sim (kx X EX) F ρ G env S σ H) : ∀ {xs : List V} {as : List Ar} {ds : List D}, ArReps (kx X EX) F ρ σ xs as → vws env S as = some ds → VReps (kx X EX) F ρ H xs ds
  | _, _, _, .nil, e => by cases e; exact .nil
  | _, _, ds, .cons (a := a) (as := as) h t, e => by
    unfold vws at e
    split at e
    · rename_i d ds' e1 e2
      cases e
      exact .cons (h.view s e1) (views s t e2)
    · cases e
theorem s_bf (f : XF C g w n EX m W X) {b : Bf} {as : List Ex} {z : Str} {x : Expr} {xs : List Expr} {p pp : Pos} (hz : z = Str.ofString (bfOf b).name) (hg : glB m.sc z = true) (hn : noStars (x :: xs) = true) (h : PA X (x :: xs) (tAs C g w n EX W X as)) (hl : (!m.hot || isLen b) = true) :
    PE X (.Call (.Name z pp) (x :: xs) [] p) (tO C g w n EX W X (.bf b as)) := by
  have hx : isStar x = false := by unfold noStars at hn; rw [List.all_cons, Bool.and_eq_true] at hn; simpa using hn.1
  have hxs : noStars xs = true := by unfold noStars at hn ⊢; rw [List.all_cons, Bool.and_eq_true] at hn; exact hn.2
  have key : ∀ σ H Q, tO C g w n EX W X (.bf b as) σ H Q → tCB (rVs (kx X EX) W EX (bfF b)) (tAs C g w n EX W X as) σ H Q := fun σ H Q ⟨F, ρ, G, env, S, s, h⟩ => by
    refine ⟨F, ρ, G, env, S, s, At.imp (At.bind (P1 := PArs (kx X EX) G σ) h) ?_⟩
    intro vs H1 ⟨ax, F1, ρ1, env1, S1, le1, pre1, sim1, rx, at1⟩
    obtain ⟨out, eo, at2⟩ := At.ofO at1
    obtain ⟨ds, eu, eo⟩ := bind_some eo
    exact ⟨F1, ρ1, G, env1, S1, σ, ds, sim1, views sim1 rx eu, out, eo, at2⟩
  have gl := gl_of f hg
  subst hz
  have cr := cr_bf (W := W) (EX := EX) b fun hb => f.calm (by
    cases hm : m.hot with
    | false => rfl
    | true => rw [hm] at hl; cases b <;> first | exact absurd rfl hb | cases hl)
  cases b with
  | len => exact PE.imp (pe_callB cr gl (f.blt "len" (by decide)) (by decide +kernel) h (he := star_cons hx) (hpl := back_any hxs)) key
  | list => exact PE.imp (pe_callTy cr gl (f.blt "list" (by decide)) (by decide +kernel) h (he := star_cons hx) (hpl := back_any hxs)) key
  | tuple => exact PE.imp (pe_callTy cr gl (f.blt "tuple" (by decide)) (by decide +kernel) h (he := star_cons hx) (hpl := back_any hxs)) key
  | int => exact PE.imp (pe_callTy cr gl (f.blt "int" (by decide)) (by decide +kernel) h (he := star_cons hx) (hpl := back_any hxs)) key
  | str => exact PE.imp (pe_callTy cr gl (f.blt "str" (by decide)) (by decide +kernel) h (he := star_cons hx) (hpl := back_any hxs)) key
  | all => exact PE.imp (pe_callB cr gl (f.blt "all" (by decide)) (by decide +kernel) h (he := star_cons hx) (hpl := back_any hxs)) key
  | any => exact PE.imp (pe_callB cr gl (f.blt "any" (by decide)) (by decide +kernel) h (he := star_cons hx) (hpl := back_any hxs)) key
  | sum => exact PE.imp (pe_callB cr gl (f.blt "sum" (by decide)) (by decide +kernel) h (he := star_cons hx) (hpl := back_any hxs)) key
end
end Pf
/-! Pf, part H: methods, changes, isinstance, calls. -/
namespace Pf
open PySem PySem.Spec PyProof.Rows L2
section
variable {C : Calls} {g : Glos} {w : WS} {n : Nat} {EX : EXT} {m : MC} {W : WX} {X : Cx}
theorem noStars_cons {x : Expr} {xs : List Expr} (hn : noStars (x :: xs) = true) : isStar x = false ∧ noStars xs = true := by
  unfold noStars at hn ⊢; rw [List.all_cons, Bool.and_eq_true] at hn; exact ⟨by simpa using hn.1, hn.2⟩
theorem few {x : Expr} {xs : List Expr} {env : PySem.Env} {p : Pos} (hn : noStars (x :: xs) = true) (hl : (x :: xs).length < 29) :
    ((backTo p (starEach (x :: xs) env)).all (fun x => !x.1) && (backToKw p (keywordEach [] env)).all (fun x => x.1.isSome) && decide ((x :: xs).length + ([] : List Keyword).length + (if ([] : List Keyword).isEmpty then 0 else 1) < 30)) = true := by
  rw [back_all hn]
  have e : (backToKw p (keywordEach [] env)).all (fun x => x.1.isSome) = true := rfl
  rw [e]
  have e2 : ((x :: xs).length + ([] : List Keyword).length + (if ([] : List Keyword).isEmpty then 0 else 1) < 30) := by
    show (x :: xs).length + 0 + 0 < 30
    omega
  rw [decide_eq_true e2]; rfl
theorem s_mth {b : Mt} {r : Ex} {as : List Ex} {o : Expr} {z : Str} {x : Expr} {xs : List Expr} {ap cp : Pos} (hz : z = Str.ofString (mtOf b).2.1) (ho : Snd C g w n EX W X r o) (hn : noStars (x :: xs) = true) (h : PA X (x :: xs) (tAs C g w n EX W X as))
    (hc : isCall0 o = false) (hl : (ap.endLine == cp.line) = true) (hf : (x :: xs).length < 29) : PE X (.Call (.Attribute o z ap) (x :: xs) [] cp) (tO C g w n EX W X (.mth b r as)) := by
  obtain ⟨h1, h2⟩ := noStars_cons hn
  have key : ∀ σ H Q, tO C g w n EX W X (.mth b r as) σ H Q → tBM X.K (mtOf b).1 (rVm (kx X EX) W EX (mtF b)) (tO C g w n EX W X r) (tAs C g w n EX W X as) σ H Q := fun σ H Q ⟨F, ρ, G, env, S, s, h⟩ => by
    refine ⟨F, ρ, G, env, S, s, At.ar (At.imp (At.bind (P1 := PAr (kx X EX) G σ) h) ?_)⟩
    intro v H1 ⟨a, F1, ρ1, env1, S1, le1, pre1, sim1, rv, at1⟩
    cases hr : mtRecv b (vw env1 S1 a) with
    | false => rw [hr] at at1; exact at1.elim
    | true =>
      rw [hr] at at1
      refine ⟨?_, F1, ρ1, G, env1, S1, sim1, At.imp (At.bind (P1 := PArs (kx X EX) G σ) (show At (kx X EX) W EX G σ (POut (kx X EX) G σ) Q F1 ρ1 ((evAs C g as env1 S1).bind _) from at1)) ?_⟩
      · cases b with
        | join =>
          cases hv : vw env1 S1 a with
          | none => rw [hv] at hr; cases hr
          | some d =>
            rw [hv] at hr
            cases d with
            | str t =>
              obtain ⟨rfl, _⟩ := (ArRep.view sim1 rv hv).str
              rfl
            | _ => cases hr
        | index =>
          cases hv : vw env1 S1 a with
          | none => rw [hv] at hr; cases hr
          | some d =>
            rw [hv] at hr
            cases d with
            | str t =>
              obtain ⟨rfl, _⟩ := (ArRep.view sim1 rv hv).str
              rfl
            | _ => cases hr
      · intro vs H2 ⟨ax, F2, ρ2, env2, S2, le2, pre2, sim2, rx, at2⟩
        obtain ⟨out, eo, at3⟩ := At.ofO at2
        obtain ⟨u, eu, eo⟩ := bind_some eo
        obtain ⟨ds, ed, eo⟩ := bind_some eo
        exact ⟨F2, ρ2, G, env2, S2, σ, u, ds, sim2, (ArRep.mono rv le2 pre2).view sim2 eu, views sim2 rx ed, out, eo, at3⟩
  subst hz
  have mr := mt_ok (X := X) (W := W) (EX := EX) b
  cases b with
  | join => exact PE.imp (pe_bm PySem.F.plainAttrs_str PySem.F.slot_str_join PySem.F.type_str_join mr ho.pe h (attr_base hc) (few hn hf) hl (star_cons h1) (back_any h2)) key
  | index => exact PE.imp (pe_bm PySem.F.plainAttrs_str PySem.F.slot_str_index PySem.F.type_str_index mr ho.pe h (attr_base hc) (few hn hf) hl (star_cons h1) (back_any h2)) key
theorem cell_ty {F G H : Hp} {ρ : List Addr} {σ : L2.St} {env : Env} {S : Store} {v : V} {a : Ar} (s : Sim (kx X EX) F ρ G env S σ H) (rv : ArRep (kx X EX) F ρ σ v a) (h : isLst (cellAt env S a) = true) : tyV X.K "list" v H := by
  cases e : cellAt env S a with
  | none => rw [e] at h; cases h
  | some c =>
    rw [e] at h
    cases c with
    | lst ds =>
      obtain ⟨p, xs, rfl, h1, _⟩ := cell_at s rv e
      exact .inl ⟨rfl, xs, SqL.of h1⟩
    | dic _ => cases h
    | dead => cases h
theorem s_mut {b : Mu} {r : Ex} {as : List Ex} {o : Expr} {z : Str} {xs : List Expr} {ap cp : Pos} (hz : z = Str.ofString (muOf b).2.1) (ho : Snd C g w n EX W X r o) (hn : noStars xs = true) (h : PA X xs (tDs C g w n EX W X as)) (hlen : as.length = xs.length)
    (hc : isCall0 o = false) (hl : (ap.endLine == cp.line) = true) (hf : xs.length < 29) : PE X (.Call (.Attribute o z ap) xs [] cp) (tO C g w n EX W X (.mut b r as)) := by
  have key : ∀ σ H Q, tO C g w n EX W X (.mut b r as) σ H Q → tO C g w n EX W X r σ H fun v H1 => tyV X.K "list" v H1 ∧ tDs C g w n EX W X as σ H1 fun vs H2 => rMu (kx X EX) W EX b v vs H2 Q := fun σ H Q ⟨F, ρ, G, env, S, s, h⟩ => by
    refine ⟨F, ρ, G, env, S, s, At.ar (At.imp (At.bind (P1 := PAr (kx X EX) G σ) h) ?_)⟩
    intro v H1 ⟨a, F1, ρ1, env1, S1, le1, pre1, sim1, rv, at1⟩
    cases hr : isLst (cellAt env1 S1 a) with
    | false => rw [hr] at at1; exact at1.elim
    | true =>
      rw [hr] at at1
      refine ⟨cell_ty sim1 rv hr, F1, ρ1, G, env1, S1, sim1, At.imp (At.bind (P1 := PDs (kx X EX) G σ) (show At (kx X EX) W EX G σ (POut (kx X EX) G σ) Q F1 ρ1 ((evDs C g as env1 S1).bind _) from at1)) ?_⟩
      intro vs H2 ⟨ds, F2, ρ2, env2, S2, le2, pre2, sim2, rx, at2⟩
      cases e : (cellAt env2 S2 a).bind fun c => muF b c ds with
      | none => rw [e] at at2; exact at2.elim
      | some cd =>
        rw [e] at at2
        obtain ⟨c', d⟩ := cd
        obtain ⟨c, ec, em⟩ := bind_some e
        exact ⟨F2, ρ2, G, env2, S2, σ, a, ds, c, c', d, sim2, ArRep.mono rv le2 pre2, rx, ec, em, at2⟩
  subst hz
  have mr := mu_ok (X := X) (W := W) (EX := EX) b
  cases xs with
  | nil =>
    have e : as = [] := by cases as with
      | nil => rfl
      | cons _ _ => cases hlen
    subst e
    have key0 : ∀ σ H Q, tO C g w n EX W X (.mut b r []) σ H Q → tBM0 X.K "list" (rMu (kx X EX) W EX b) (tO C g w n EX W X r) σ H Q := fun σ H Q q => by
      refine tR_imp (key σ H Q q) ?_
      rintro v H1 ⟨t, F1, ρ1, G1, env1, S1, sim1, a1⟩
      have a1 : At (kx X EX) W EX G1 σ (PDs (kx X EX) G1 σ) _ F1 ρ1 (.ok [] env1 S1) := a1
      exact ⟨t, a1.now sim1 Reps.nil⟩
    cases b with
    | append => exact PE.imp (pe_bm0 PySem.F.plainAttrs_list PySem.F.slot_list_append PySem.F.type_list_append mr ho.pe (attr_base hc) hl) key0
    | pop0 => exact PE.imp (pe_bm0 PySem.F.plainAttrs_list PySem.F.slot_list_pop PySem.F.type_list_pop mr ho.pe (attr_base hc) hl) key0
    | popAt => exact PE.imp (pe_bm0 PySem.F.plainAttrs_list PySem.F.slot_list_pop PySem.F.type_list_pop mr ho.pe (attr_base hc) hl) key0
    | extend => exact PE.imp (pe_bm0 PySem.F.plainAttrs_list PySem.F.slot_list_extend PySem.F.type_list_extend mr ho.pe (attr_base hc) hl) key0
  | cons x xs =>
    obtain ⟨h1, h2⟩ := noStars_cons hn
    cases b with
    | append => exact PE.imp (pe_bm PySem.F.plainAttrs_list PySem.F.slot_list_append PySem.F.type_list_append mr ho.pe h (attr_base hc) (few hn hf) hl (star_cons h1) (back_any h2)) key
    | pop0 => exact PE.imp (pe_bm PySem.F.plainAttrs_list PySem.F.slot_list_pop PySem.F.type_list_pop mr ho.pe h (attr_base hc) (few hn hf) hl (star_cons h1) (back_any h2)) key
    | popAt => exact PE.imp (pe_bm PySem.F.plainAttrs_list PySem.F.slot_list_pop PySem.F.type_list_pop mr ho.pe h (attr_base hc) (few hn hf) hl (star_cons h1) (back_any h2)) key
    | extend => exact PE.imp (pe_bm PySem.F.plainAttrs_list PySem.F.slot_list_extend PySem.F.type_list_extend mr ho.pe h (attr_base hc) (few hn hf) hl (star_cons h1) (back_any h2)) key

/-! ### isinstance -/
theorem ty_pe (f : XF C g w n EX m W X) {t : Ty} {x : Expr} (h : mTy m t x = true) : PE X x (tC (.ty (tyN t))) ∧ isStar x = false := by
  cases x with
  | Name z p =>
    have h : (decide (z = Str.ofString (tyN t)) && glB m.sc z) = true := h
    rw [Bool.and_eq_true] at h
    have e := of_decide_eq_true h.1
    have gl := gl_of f h.2
    subst e
    refine ⟨?_, rfl⟩
    cases t with
    | int => exact pe_bltn gl (f.blt "int" (by decide)) (by decide +kernel) rfl
    | bool => exact pe_bltn gl (f.blt "bool" (by decide)) (by decide +kernel) rfl
    | str => exact pe_bltn gl (f.blt "str" (by decide)) (by decide +kernel) rfl
    | list => exact pe_bltn gl (f.blt "list" (by decide)) (by decide +kernel) rfl
    | tuple => exact pe_bltn gl (f.blt "tuple" (by decide)) (by decide +kernel) rfl
    | dict => exact pe_bltn gl (f.blt "dict" (by decide)) (by decide +kernel) rfl
  | _ => cases h
def tTys : List Ty → TA
  | [] => tNil
  | t :: ts => tCons (tC (.ty (tyN t))) (tTys ts)
theorem tys_pa (f : XF C g w n EX m W X) : ∀ {ts : List Ty} {xs : List Expr}, mTys m ts xs = true → PA X xs (tTys ts) ∧ noStars xs = true ∧ ts.length = xs.length
  | [], [], _ => ⟨pa_nil, rfl, rfl⟩
  | [], _ :: _, h => by cases h
  | _ :: _, [], h => by cases h
  | t :: ts, x :: xs, h => by
    have h : (mTy m t x && mTys m ts xs) = true := h
    rw [Bool.and_eq_true] at h
    obtain ⟨h1, h2⟩ := ty_pe f h.1
    obtain ⟨h3, h4, h5⟩ := tys_pa f h.2
    refine ⟨pa_cons h1 h3 (star_cons h2), ?_, by rw [List.length_cons, List.length_cons, h5]⟩
    unfold noStars at h4 ⊢
    rw [List.all_cons, h2, h4]; rfl
theorem tTys_run : ∀ {ts : List Ty} {σ : L2.St} {H : Hp} {Q : List V → Hp → Prop}, Q (ts.map fun t => .ty (tyN t)) H → tTys ts σ H Q
  | [], _, _, _, h => h
  | _ :: ts, _, _, _, h => tTys_run (ts := ts) h
theorem clsVs : ∀ ts : List Ty, Paired ClsV (ts.map fun t => V.ty (tyN t)) (ts.map fun t => Value.type (tyN t))
  | [] => .nil
  | t :: ts => .cons (.ty _) (clsVs ts)
theorem isTy_noDic {d : D} {t : Ty} {F : Hp} {ρ : List Addr} {H : Hp} {v : V} {b : Bool} (r : VRep (kx X EX) F ρ H v d) (e : isTy d t = some b) : ∃ s, dTy d = some s := by
  cases d with
  | scr _ => cases e
  | loc _ => cases e
  | fn _ => cases e
  | exo _ _ => cases e
  | _ => exact ⟨_, rfl⟩
theorem isAny_one {d : D} {t : Ty} {b : Bool} (h : isAny d [t] = some b) : isTy d t = some b := by
  unfold isAny at h
  split at h
  · rename_i e; cases h; exact e
  · rename_i e; cases h; exact e
  · cases h
theorem isAny_ty {d : D} {ts : List Ty} {b : Bool} (h : isAny d ts = some b) (hne : ts ≠ []) : ∃ t b', isTy d t = some b' := by
  cases ts with
  | nil => exact absurd rfl hne
  | cons t ts =>
    unfold isAny at h
    split at h
    · exact ⟨t, _, by assumption⟩
    · exact ⟨t, _, by assumption⟩
    · cases h
theorem s_isi1 (f : XF C g w n EX m W X) {a : Ex} {t : Ty} {l r : Expr} {z : Str} {p pp : Pos} (hz : z = Str.ofString "isinstance") (hg : glB m.sc z = true) (ha : Snd C g w n EX W X a l) (hl : isStar l = false) (hr : mTy m t r = true) :
    PE X (.Call (.Name z pp) [l, r] [] p) (tO C g w n EX W X (.isi a [t] true)) := by
  obtain ⟨h1, h2⟩ := ty_pe f hr
  have gl := gl_of f hg
  subst hz
  refine PE.imp (pe_callB call_isi gl (f.blt "isinstance" (by decide)) (by decide +kernel) (pa_cons ha.pe (pa_cons h1 pa_nil (star_cons h2)) (star_cons hl)) (he := star_cons hl) (hpl := back_any (by unfold noStars; rw [List.all_cons, h2]; rfl))) fun σ H Q ⟨F, ρ, G, env, S, s, h⟩ => ?_
  refine ⟨F, ρ, G, env, S, s, At.ar (At.imp (At.bind (P1 := PAr (kx X EX) G σ) h) ?_)⟩
  intro v H1 ⟨x, F1, ρ1, env1, S1, le1, pre1, sim1, rv, at1⟩
  obtain ⟨out, eo, at2⟩ := At.ofO at1
  obtain ⟨d, ed, eo⟩ := bind_some eo
  obtain ⟨b, eb, rfl⟩ := map_some eo
  have hv := ArRep.view sim1 rv ed
  have e1 := isAny_one eb
  obtain ⟨s, es⟩ := isTy_noDic hv e1
  exact ⟨v, .ty (tyN t), .type s, .type (tyN t), b, rfl, .ty _, hv.ty sim1.fh es, kit_ty (isTy_kit es e1), at2.now sim1 (show Rep (kx X EX) F1 ρ1 _ _ from .bl b)⟩
theorem s_isi (f : XF C g w n EX m W X) {a : Ex} {ts : List Ty} {l : Expr} {rs : List Expr} {z : Str} {k : Nat} {p pp tp : Pos} (hz : z = Str.ofString "isinstance") (hg : glB m.sc z = true) (ha : Snd C g w n EX W X a l) (hl : isStar l = false) (hr : mTys m ts rs = true) (hne : ts ≠ []) (hlen : rs.length < 100) :
    PE X (.Call (.Name z pp) [l, .Tuple rs k tp] [] p) (tO C g w n EX W X (.isi a ts false)) := by
  obtain ⟨h1, h2, h3⟩ := tys_pa f hr
  have gl := gl_of f hg
  subst hz
  refine PE.imp (pe_callB call_isiT gl (f.blt "isinstance" (by decide)) (by decide +kernel) (pa_cons ha.pe (pa_cons (pe_tup h1) pa_nil rfl) (star_cons hl)) (he := star_cons hl) (hpl := back_any rfl)) fun σ H Q ⟨F, ρ, G, env, S, s, h⟩ => ?_
  refine ⟨F, ρ, G, env, S, s, At.ar (At.imp (At.bind (P1 := PAr (kx X EX) G σ) h) ?_)⟩
  intro v H1 ⟨x, F1, ρ1, env1, S1, le1, pre1, sim1, rv, at1⟩
  obtain ⟨out, eo, at2⟩ := At.ofO at1
  obtain ⟨d, ed, eo⟩ := bind_some eo
  obtain ⟨b, eb, rfl⟩ := map_some eo
  have hv := ArRep.view sim1 rv ed
  obtain ⟨t, b', et⟩ := isAny_ty eb hne
  obtain ⟨s, es⟩ := isTy_noDic hv et
  refine tTys_run (Q := fun xs H1 => xs.length ≤ sizeLine ∧ _) ⟨by rw [List.length_map, h3, size24]; omega, fun q hq => ?_⟩
  have hv2 : TyX X.K (upd H1 q (.tup (ts.map fun t => V.ty (tyN t)))) v (.type s) := (hv.mono Le.refl prefix_refl (Le.upd hq)).ty (Le.trans sim1.fh (Le.upd hq)) es
  exact ⟨v, q, _, .type s, _, b, rfl, upd_same, clsVs ts, hv2, isAny_kit (K := kx X EX) es eb, at2.mono Le.refl prefix_refl |>.now (sim1.laid hq) (show Rep (kx X EX) F1 ρ1 _ _ from .bl b)⟩

/-! ### the handled exception asked -/
theorem exo_of {F H : Hp} {ρ : List Addr} {v : V} {k : String} {fs : List (String × D)} {κ : KX} (r : VRep κ F ρ H v (.exo k fs)) (le : Le F H) : ∃ x, κ.xo = some x ∧ v = .ref x.a ∧ x.cls = k ∧ ((x.d = none ∧ fs = []) ∨ ∃ dd vs, x.d = some dd ∧ H dd = some (.xd vs) ∧ RepFs κ F ρ vs fs) := by
  cases r with
  | r h _ =>
    cases h with
    | exo0 h hd => exact ⟨_, h, rfl, rfl, .inl ⟨hd, rfl⟩⟩
    | exo h hd e r => exact ⟨_, h, rfl, rfl, .inr ⟨_, _, hd, le _ _ e, r⟩⟩
theorem fs_at {κ : KX} {F : Hp} {ρ : List Addr} {f : String} {d : D} : ∀ {vs : List (Str × V)} {fs : List (String × D)}, RepFs κ F ρ vs fs → fs.lookup f = some d → (∀ p ∈ fs, Str.ofString p.1 = Str.ofString f → p.1 = f) → ∃ v, vs.lookup (Str.ofString f) = some v ∧ Rep κ F ρ v d
  | _, _, .nil, e, _ => by cases e
  | _, _, .cons (f := g) (v := v) (r := r) h t, e, inj => by
    by_cases hg : g = f
    · subst hg
      rw [List.lookup_cons, beq_self_eq_true] at e
      have e := Option.some.inj e
      subst e
      exact ⟨v, by rw [List.lookup_cons, beq_self_eq_true], h⟩
    · rw [List.lookup_cons, beq_false_of_ne (Ne.symm hg)] at e
      obtain ⟨u, h1, h2⟩ := fs_at t e fun p hp => inj p (List.mem_cons_of_mem _ hp)
      refine ⟨u, ?_, h2⟩
      rw [List.lookup_cons, beq_false_of_ne fun z => hg (inj _ List.mem_cons_self z.symm)]
      exact h1
theorem pe_gref (f : XF C g w n EX m W X) {y : Str} {D : Addr} {p : Pos} (gy : Gl X y) (ho : okN y = true) (hm : X.mg y = some (.ref D)) : PE X (.Name y p) (tC (.ref D)) := ⟨fun pins s σ H Q I h => ld_glob I gy hm ⟨.ref D, H, I.tok _, rfl, h⟩ (dbg_of ho).1⟩
theorem s_isx (f : XF C g w n EX m W X) {a : Ex} {c : String} {l : Expr} {y z : Str} {p pp yp : Pos} (hz : z = Str.ofString "isinstance") (hg : glB m.sc z = true) (ha : Snd C g w n EX W X a l) (hl : isStar l = false) (hy : y = Str.ofString c) (hgy : glB m.sc y = true) (ho : okN y = true) (hx : m.ex = true) (hc : c ∈ m.xc)
    (x : XO) (hxo : EX.xo = some x) : PE X (.Call (.Name z pp) [l, .Name y yp] [] p) (tO C g w n EX W X (.isx a c)) := by
  obtain ⟨oe, C, q1, q2, q3, q4, q5, q6, q7⟩ := f.exq hx x hxo
  obtain ⟨D, d1, d2⟩ := q7 c hc
  have gl := gl_of f hg
  have gy := gl_of f hgy
  subst hz hy
  refine PE.imp (pe_callB (call_isX q4 q1 q2 q3) gl (f.blt "isinstance" (by decide)) (by decide +kernel) (pa_cons ha.pe (pa_cons (pe_gref f gy ho d1) pa_nil rfl) (star_cons hl)) (he := star_cons hl) (hpl := back_any rfl)) fun σ H Q ⟨F, ρ, G, env, S, s, h⟩ => ?_
  refine ⟨F, ρ, G, env, S, s, At.ar (At.imp (At.bind (P1 := PAr (kx X EX) G σ) h) ?_)⟩
  intro v H1 ⟨ax, F1, ρ1, env1, S1, le1, pre1, sim1, rv, at1⟩
  obtain ⟨out, eo, at2⟩ := At.ofO at1
  obtain ⟨d, ed, eo⟩ := bind_some eo
  cases d with
  | exo k fs =>
    cases eo
    obtain ⟨x', e1, rfl, rfl, e4⟩ := exo_of (ArRep.view sim1 rv ed) sim1.fh
    have e1 : EX.xo = some x' := e1
    rw [hxo] at e1
    cases e1
    refine ⟨.ref D, .ref D, _, rfl, fun u ru => ru, d2, ?_, at2.now sim1 (show Rep (kx X EX) F1 ρ1 _ _ from .bl _)⟩
    rcases e4 with ⟨e5, _⟩ | ⟨dd, vs, e5, e6, _⟩
    · exact .inl e5
    · exact .inr ⟨dd, vs, e5, e6⟩
  | _ => cases eo

theorem s_isx0 (f : XF C g w n EX m W X) {a : Ex} {c : String} {l r : Expr} {z : Str} {p pp : Pos} {t : TE} (hz : z = Str.ofString "isinstance") (hg : glB m.sc z = true) (ha : Snd C g w n EX W X a l) (hl : isStar l = false) (hr : isStar r = false) (hpr : PE X r t) (hxo : EX.xo = none) : PE X (.Call (.Name z pp) [l, r] [] p) (tO C g w n EX W X (.isx a c)) := by
  have gl := gl_of f hg
  subst hz
  refine PE.imp (pe_callB call_isi gl (f.blt "isinstance" (by decide)) (by decide +kernel) (pa_cons ha.pe (pa_cons hpr pa_nil (star_cons hr)) (star_cons hl)) (he := star_cons hl) (hpl := back_any (by unfold noStars; rw [List.all_cons, hr]; rfl))) fun σ H Q ⟨F, ρ, G, env, S, s, h⟩ => ?_
  refine ⟨F, ρ, G, env, S, s, At.ar (At.imp (At.bind (P1 := PAr (kx X EX) G σ) h) ?_)⟩
  intro v H1 ⟨ax, F1, ρ1, env1, S1, le1, pre1, sim1, rv, at1⟩
  obtain ⟨out, eo, at2⟩ := At.ofO at1
  obtain ⟨d, ed, eo⟩ := bind_some eo
  cases d with
  | exo k fs =>
    obtain ⟨x', e1, _⟩ := exo_of (ArRep.view sim1 rv ed) sim1.fh
    have e1 : EX.xo = some x' := e1
    rw [hxo] at e1; cases e1
  | _ => cases eo

theorem s_fld (f : XF C g w n EX m W X) {a : Ex} {fn : String} {l : Expr} {nm : Str} {p : Pos} (hn : nm = Str.ofString fn) (ha : Snd C g w n EX W X a l) (hc : isCall0 l = false) (hx : m.ex = true) (hf : fn ∈ m.xf) (inj : ∀ s : String, Str.ofString s = Str.ofString fn → s = fn)
    (x : XO) (hxo : EX.xo = some x) : PE X (.Attribute l nm p) (tO C g w n EX W X (.fld a fn)) := by
  obtain ⟨oe, C, q1, q2, q3, q4, q5, q6, q7⟩ := f.exq hx x hxo
  subst hn
  refine PE.imp (pe_xat q4 q5 (q6 fn hf) q1 q2 q3 ha.pe (attr_base hc)) fun σ H Q ⟨F, ρ, G, env, S, s, h⟩ => ?_
  refine ⟨F, ρ, G, env, S, s, At.ar (At.imp (At.bind (P1 := PAr (kx X EX) G σ) h) ?_)⟩
  intro v H1 ⟨ax, F1, ρ1, env1, S1, le1, pre1, sim1, rv, at1⟩
  obtain ⟨out, eo, at2⟩ := At.ofO at1
  obtain ⟨d, ed, eo⟩ := bind_some eo
  cases d with
  | exo k fs =>
    obtain ⟨d0, e0, rfl⟩ := map_some (show (fs.lookup fn).map Out.val = some out from eo)
    obtain ⟨x', e1, rfl, rfl, e4⟩ := exo_of (ArRep.view sim1 rv ed) sim1.fh
    have e1 : EX.xo = some x' := e1
    rw [hxo] at e1
    cases e1
    rcases e4 with ⟨_, rfl⟩ | ⟨dd, vs, e5, e6, r6⟩
    · cases e0
    · obtain ⟨u, h1, h2⟩ := fs_at r6 e0 fun p _ z => inj p.1 z
      exact ⟨rfl, dd, vs, u, e5, e6, h1, at2.now sim1 h2⟩
  | _ => cases eo

theorem s_fld0 {a : Ex} {fn : String} {l : Expr} {nm : Str} {p : Pos} (ha : Snd C g w n EX W X a l) (hc : isCall0 l = false) (hxo : EX.xo = none) : PE X (.Attribute l nm p) (tO C g w n EX W X (.fld a fn)) := by
  refine PE.imp (pe_fld ha.pe (hb := attr_base hc)) fun σ H Q ⟨F, ρ, G, env, S, s, h⟩ => ?_
  refine ⟨F, ρ, G, env, S, s, At.ar (At.imp (At.bind (P1 := PAr (kx X EX) G σ) h) ?_)⟩
  intro v H1 ⟨ax, F1, ρ1, env1, S1, le1, pre1, sim1, rv, at1⟩
  obtain ⟨out, eo, at2⟩ := At.ofO at1
  obtain ⟨d, ed, eo⟩ := bind_some eo
  cases d with
  | exo k fs =>
    obtain ⟨x', e1, _⟩ := exo_of (ArRep.view sim1 rv ed) sim1.fh
    have e1 : EX.xo = some x' := e1
    rw [hxo] at e1; cases e1
  | _ => cases eo
theorem ofStr_inj {s t : String} (h : Str.ofString s = Str.ofString t) : s = t := by
  rw [PySem.Str.ofString_eq_toList, PySem.Str.ofString_eq_toList] at h
  injection h with h
  have h := congrArg Array.toList h
  have h : s.toList.map Char.toNat = t.toList.map Char.toNat := by simpa using h
  have := (List.map_inj_right (f := Char.toNat) fun a b e => Char.toNat_inj.mp e).mp h
  exact String.toList_inj.mp this

/-! ### calls -/
theorem at_call {F G H : Hp} {ρ : List Addr} {σ : L2.St} {env : Env} {S : Store} {Q : VK} {c : RC} (s : Sim (kx X EX) F ρ G env S σ H) (h : At (kx X EX) W EX G σ (POut (kx X EX) G σ) Q F ρ (c.r env)) : AtC (kx X EX) EX (Own G env σ H) Q (WE W σ) F ρ c := by
  cases c with
  | ok d S' => exact fun F' ρ' H' v le pre s' r => h F' ρ' H' v le pre (s.fromCall le pre s') r
  | exc x S' => exact fun F' ρ' H' cls d le pre s' e => h F' ρ' H' cls d le pre (s.fromCall le pre s') e
  | bad => exact h
theorem r_call {f : String} {np : Nat} {as : List Ex} {kws : List String} {σ : L2.St} {H : Hp} {Q : VK} (hlen : as.length = np) (q : tO C g w n EX W X (.call f as kws) σ H Q) :
    tDs C g w n EX W X as σ H fun vs H1 => spF (kx X EX) EX np (C.fn f) vs H1 Q (WE W σ) := by
  obtain ⟨F, ρ, G, env, S, s, a⟩ := q
  have a : At (kx X EX) W EX G σ (POut (kx X EX) G σ) Q F ρ ((evDs C g as env S).bind fun ds env S => (C.fn f ds S).r env) := a
  refine ⟨F, ρ, G, env, S, s, ?_⟩
  cases z : evDs C g as env S with
  | exc _ _ _ => rw [z] at a; exact a
  | bad => rw [z] at a; exact a
  | ok ds env1 S1 =>
    rw [z] at a
    intro F1 ρ1 H1 vs le1 pre1 sim1 r
    have a : At (kx X EX) W EX G σ (POut (kx X EX) G σ) Q F ρ ((C.fn f ds S1).r env1) := a
    exact ⟨by rw [Reps.length r, evDs_len as env S z]; exact hlen, F1, ρ1, _, S1, ds, sim1.toCall, r, at_call sim1 (a.mono le1 pre1)⟩
theorem pe_callS0 {CX : CXT} {k : Nat} {f : Addr} {fd : FuncData} {ps : List Str} {sp : Sp} {E : L2.St → XK} {x : Str} {p pos : Pos} (F : FnOk X.prog X.w X.K X.mg X.base CX k f fd ps sp) (hr : Room k X.A) (hg : Gl X x) (hm : X.mg x = some (.ref f)) (hk : PySem.W.keepIn X.K (.ref f) = true) (hb : Binds X.K fd ps []) (hx : ∀ σ, PassesAt CX X σ (E σ))
    (hdb : (x == ("__debug__" : Str)) = false) : PE X (.Call (.Name x p) [] [] pos) (tCallS sp E tNil) := by
  refine ⟨fun pins s σ H Q I h => ?_⟩
  refine wpAny_Call_Name_kw (ld_glob I hg hm ?_ hdb)
  exact PySem.W.callWith_K0 I.kIn hk (run_fnS (us := []) F hr hb (hx σ) I .nil h)
theorem pe_callSK {CX : CXT} {k : Nat} {f : Addr} {fd : FuncData} {ps : List Str} {sp : Sp} {E : L2.St → XK} {x : Str} {p pos : Pos} {kws : List Keyword} {tk : TA} (F : FnOk X.prog X.w X.K X.mg X.base CX k f fd ps sp) (hr : Room k X.A) (hg : Gl X x) (hm : X.mg x = some (.ref f)) (hk : PySem.W.keepIn X.K (.ref f) = true)
    (hb : ∀ (s : Shared) (ws : List Value), X.K.In s.heap → ws.length = ps.length → BindsTo s fd ⟨[], ps.zip ws⟩ (ps.zip ws)) (hx : ∀ σ, PassesAt CX X σ (E σ))
    (hkw : PK X kws tk) (hall : (backToKw pos (keywordEach kws X.env)).all (·.1.isSome) = true) (hks : (backToKw pos (keywordEach kws X.env)).filterMap (·.1) = ps) (hpl : (backToKw pos (keywordEach kws X.env)).any (·.1.isNone) = false)
    (hdb : (x == ("__debug__" : Str)) = false) : PE X (.Call (.Name x p) [] kws pos) (tCallS sp E tk) := by
  refine ⟨fun pins s σ H Q I h => ?_⟩
  refine wpAny_Call_Name_kw (ld_glob I hg hm ?_ hdb)
  refine PySem.W.callWith_KW0 (h₀ := X.base) I.ok.mod.kin hk hall ?_ (by rw [hpl]; rfl)
  refine thn (hkw.run pos pins s σ H _ I h) fun ws s2 ⟨zs, H2, I2, rz, q2⟩ => ⟨I2.kIn, ?_⟩
  rw [hks]
  have hl : ws.length = ps.length := by rw [← rz.length]; exact F.len _ _ _ _ q2
  refine wpAny_call (codeAny_mono (F.run X.A X.stack s2 H2 ⟨[], ps.zip ws⟩ ws zs Q (E σ) hr I2.env0 (hb s2 ws I2.kIn hl) rz q2) fun r s' hq => ?_)
  cases r with
  | error e => exact hx σ pins H2 s2 e s' I2 hq
  | ok fl =>
    cases fl with
    | ret u => exact I2.after hq
    | next => exact False.elim hq
    | brk => exact False.elim hq
    | cont => exact False.elim hq
theorem kw_all {p : Pos} {env : PySem.Env} : ∀ {ks : List Keyword}, ks.all (·.arg.isSome) = true → (backToKw p (keywordEach ks env)).all (·.1.isSome) = true ∧ (backToKw p (keywordEach ks env)).any (·.1.isNone) = false ∧ (backToKw p (keywordEach ks env)).filterMap (·.1) = ks.filterMap (·.arg)
  | [], _ => ⟨rfl, rfl, rfl⟩
  | ⟨a, e, q⟩ :: ks, h => by
    rw [List.all_cons, Bool.and_eq_true] at h
    obtain ⟨h1, h2, h3⟩ := kw_all (p := p) (env := env) h.2
    have h0 : a.isSome = true := h.1
    have e1 : backToKw p (keywordEach (⟨a, e, q⟩ :: ks) env) = (a, do let v ← eval e env; standAt p; pure v) :: backToKw p (keywordEach ks env) := rfl
    rw [e1]
    cases a with
    | none => cases h0
    | some a =>
      refine ⟨?_, ?_, ?_⟩
      · rw [List.all_cons, h1]; rfl
      · rw [List.any_cons, h2]; rfl
      · rw [List.filterMap_cons, List.filterMap_cons, h3]
theorem s_call (f : XF C g w n EX m W X) (hh : m.hot = false) {fn : String} {as : List Ex} {z : Str} {es : List Expr} {p pp : Pos} (hz : z = Str.ofString fn) (hg : glB m.sc z = true) (hd : okN z = true) (har : m.ar fn = some as.length) (hn : noStars es = true) (hlen : as.length = es.length) (h : PA X es (tDs C g w n EX W X as)) :
    PE X (.Call (.Name z pp) es [] p) (tO C g w n EX W X (.call fn as [])) := by
  have gl := gl_of f hg
  subst hz
  obtain ⟨a, fdt, ps, h1, h2, h3, h4, h5, _⟩ := f.fns hh fn _ har
  cases es with
  | nil =>
    refine PE.imp (pe_callS0 h5 (f.room hh) gl h1 h2 h3 (L2N.passAt f.tk) (dbg_of hd).1) fun σ H Q q => ?_
    have h6 : as = [] := by
      cases as with
      | nil => rfl
      | cons a as => exact absurd hlen (by simp)
    subst h6
    obtain ⟨F1, ρ1, G1, env1, S1, sim1, a1⟩ := r_call rfl q
    have a1 : At (kx X EX) W EX G1 σ (PDs (kx X EX) G1 σ) _ F1 ρ1 (.ok [] env1 S1) := a1
    exact a1.now sim1 Reps.nil
  | cons x xs =>
    obtain ⟨n1, n2⟩ := noStars_cons hn
    exact PE.imp (pe_callS h5 (f.room hh) gl h1 h2 h3 (L2N.passAt f.tk) h (dbg_of hd).1 (star_cons n1) (back_any n2)) fun σ H Q q => r_call rfl q
theorem s_callK (f : XF C g w n EX m W X) (hh : m.hot = false) {fn : String} {as : List Ex} {kws : List String} {z : Str} {ks : List Keyword} {p pp : Pos} (hz : z = Str.ofString fn) (hg : glB m.sc z = true) (hd : okN z = true) (har : m.ar fn = some as.length) (h : PK X ks (tDs C g w n EX W X as))
    (hk : m.kw fn = some (ks.filterMap (·.arg))) (hall : ks.all (·.arg.isSome) = true) : PE X (.Call (.Name z pp) [] ks p) (tO C g w n EX W X (.call fn as kws)) := by
  have gl := gl_of f hg
  subst hz
  obtain ⟨a, fdt, ps, h1, h2, h3, h4, h5, h6⟩ := f.fns hh fn _ har
  obtain ⟨e, h7⟩ := h6 _ hk
  obtain ⟨k1, k2, k3⟩ := kw_all (p := p) (env := X.env) hall
  exact PE.imp (pe_callSK h5 (f.room hh) gl h1 h2 h7 (L2N.passAt f.tk) h k1 (k3.trans e) k2 (dbg_of hd).1) fun σ H Q q => r_call rfl q
end
end Pf
/-! Pf, part I: what is walked, targets, comprehensions. -/
namespace Pf
open PySem PySem.Spec PyProof.Rows L2
section
variable {K : KX} {F F' G H H' : Hp} {ρ ρ' : List Addr} {σ σ' : L2.St} {env env' : Env} {S S' : Store}

/-! ### ghosts, wiping -/
theorem Sim.ghost {p : Addr} {o : HO} (s : Sim K F ρ (upd G p o) env S σ H) (hG : G p = none) (hfl : Le K.fl.G G) (hu : Chg o) {o' : HO} (hu' : Chg o') : Sim K F ρ (upd G p o') env S σ (upd H p o') := by
  have eq : ∀ a, a ≠ p → upd G p o' a = upd G p o a := fun a n => by rw [upd_ne n, upd_ne n]
  have atp : upd G p o p = some o := upd_same
  have keep : ∀ b u, b ≠ p → H b = some u → upd H p o' b = some u := fun b u n q => by rw [upd_ne n]; exact q
  have fp : F p = none := s.fg p o atp
  have none_ne : ∀ a, upd G p o a = none → a ≠ p := fun a e z => by rw [z, atp] at e; cases e
  refine ⟨fun a u e => keep a u (ne_of_none e fp) (s.fh a u e), fun a u e => ?_, fun a u e => ?_, fun a h => ?_, s.rlen, s.rnd, fun a h => ?_, fun n a c h1 h2 => ?_, fun i sl e => ?_, s.own, s.elen, ⟨s.flo.hF, s.flo.hρ, fun a u e => by rw [upd_ne (ne_of_none (hfl a u e) hG)]; exact hfl a u e, (s.flo.wr (s.gh p _ atp) hu).tb, fun a u e => ?_, s.flo.fc⟩⟩
  rotate_right
  · by_cases z : a = p
    · subst z; rw [upd_same] at e; cases e; exact hu'
    · rw [eq a z] at e; exact s.flo.gc a u e
  · by_cases z : a = p
    · subst z; rw [upd_same] at e ⊢; exact e
    · rw [eq a z] at e; exact keep a u z (s.gh a u e)
  · by_cases z : a = p
    · subst z; exact fp
    · rw [eq a z] at e; exact s.fg a u e
  · have q := s.rg a h
    rw [eq a (none_ne a q)]; exact q
  · obtain ⟨u, q, nt⟩ := s.live a h
    exact ⟨u, keep a u (none_ne a (s.rg a h)) q, nt⟩
  · have q := s.cells n a c h1 h2
    cases c with
    | dead => trivial
    | dic _ => exact q
    | lst ds =>
      obtain ⟨xs, q1, q2, q3, q4, q5⟩ := q
      have n := none_ne a q5
      exact ⟨xs, keep a _ n q1, q2, q3, q4, by rw [eq a n]; exact q5⟩
  · have q := s.slots i sl e
    cases sl with
    | no => trivial
    | dic _ => exact q
    | dat _ => exact q
    | thk => exact q
    | lst ds =>
      obtain ⟨a, xs, ev, q1, q2, q3, q4, q5, q6⟩ := q
      have n := none_ne a q5
      exact ⟨a, xs, ev, keep a _ n q1, q2, q3, q4, by rw [eq a n]; exact q5, q6⟩
theorem Sim.unghost {p : Addr} {o : HO} (s : Sim K F ρ (upd G p o) env S σ H) (hG : G p = none) (hfl : Le K.fl.G G) : Sim K F ρ G env S σ H := by
  have le : ∀ a u, G a = some u → upd G p o a = some u := fun a u e => by rw [upd_ne (ne_of_none e hG)]; exact e
  have back : ∀ a, upd G p o a = none → G a = none := fun a e => by
    cases z : G a with
    | none => rfl
    | some u => rw [le a u z] at e; cases e
  refine ⟨s.fh, fun a u e => s.gh a u (le a u e), fun a u e => s.fg a u (le a u e), fun a h => back a (s.rg a h), s.rlen, s.rnd, s.live, fun n a c h1 h2 => ?_, fun i sl e => ?_, s.own, s.elen, ⟨s.flo.hF, s.flo.hρ, hfl, s.flo.tb, fun a u e => s.flo.gc a u (le a u e), s.flo.fc⟩⟩
  · have q := s.cells n a c h1 h2
    cases c with
    | dead => trivial
    | dic _ => exact q
    | lst ds => obtain ⟨xs, q1, q2, q3, q4, q5⟩ := q; exact ⟨xs, q1, q2, q3, q4, back a q5⟩
  · have q := s.slots i sl e
    cases sl with
    | no => trivial
    | dic _ => exact q
    | dat _ => exact q
    | thk => exact q
    | lst ds => obtain ⟨a, xs, ev, q1, q2, q3, q4, q5, q6⟩ := q; exact ⟨a, xs, ev, q1, q2, q3, q4, back a q5, q6⟩
/-- a new object that is the caller's alone -/
theorem Sim.ghostNew (s : Sim K F ρ G env S σ H) {p : Addr} {o : HO} (hp : H p = none) (hu : Chg o) : Sim K F ρ (upd G p o) env S σ (upd H p o) := by
  have s1 := s.laid (o := o) hp
  have hF := s.fnone hp
  have hG := s.gnone hp
  have hr := s.notRho hp
  have ho := s.notOwn hp
  have eq : ∀ a, a ≠ p → upd G p o a = G a := fun a n => upd_ne n
  refine ⟨s1.fh, fun a u e => ?_, fun a u e => ?_, fun a h => by rw [eq a (fun z => hr (z ▸ h))]; exact s.rg a h, s.rlen, s.rnd, s1.live, fun n a c h1 h2 => ?_, fun i sl e => ?_, s.own, s.elen, ⟨s.flo.hF, s.flo.hρ, fun a u e => by rw [upd_ne (ne_of_none (s.flo.hG a u e) hG)]; exact s.flo.hG a u e, s1.flo.tb, fun a u e => ?_, s.flo.fc⟩⟩
  rotate_right
  · by_cases z : a = p
    · subst z; rw [upd_same] at e; cases e; exact hu
    · rw [eq a z] at e; exact s.flo.gc a u e
  · by_cases z : a = p
    · subst z; rw [upd_same] at e ⊢; exact e
    · rw [eq a z] at e; exact s1.gh a u e
  · by_cases z : a = p
    · subst z; exact hF
    · rw [eq a z] at e; exact s.fg a u e
  · have q := s1.cells n a c h1 h2
    cases c with
    | dead => trivial
    | dic _ => exact q
    | lst ds =>
      obtain ⟨xs, q1, q2, q3, q4, q5⟩ := q
      exact ⟨xs, q1, q2, q3, q4, by rw [eq a (fun z => hr (z ▸ List.mem_of_getElem? h1))]; exact q5⟩
  · have q := s1.slots i sl e
    cases sl with
    | no => trivial
    | dic _ => exact q
    | dat _ => exact q
    | thk => exact q
    | lst ds =>
      obtain ⟨a, xs, ev, q1, q2, q3, q4, q5, q6⟩ := q
      exact ⟨a, xs, ev, q1, q2, q3, q4, by rw [eq a (fun z => ho i ⟨⟨ds, e⟩, by rw [ev, z]⟩)]; exact q5, q6⟩
theorem Sim.ghostAt {p : Addr} {o : HO} (s : Sim K F ρ (upd G p o) env S σ H) : H p = some o ∧ F p = none ∧ p ∉ ρ ∧ ∀ i, ¬ OwnAt env σ i p := by
  refine ⟨s.gh p o upd_same, s.fg p o upd_same, fun h => ?_, fun i h => ?_⟩
  · have q := s.rg p h; rw [upd_same] at q; cases q
  · have q := (s.ownF h).2.2.1; rw [upd_same] at q; cases q
theorem Sim.wipe (s : Sim K F ρ G env S σ H) : ∀ vs : List Nat, Sim K F ρ G (wipeE env vs) S (L2.wipe σ vs) H
  | [] => s
  | v :: vs => (Sim.wipe s vs).slot (i := v) (w := none) (.inl rfl)
theorem wipeE_len (env : Env) : ∀ vs : List Nat, (wipeE env vs).length = env.length
  | [] => rfl
  | v :: vs => by show ((wipeE env vs).set v .no).length = _; rw [List.length_set, wipeE_len env vs]
theorem backE_len (old env : Env) : ∀ vs : List Nat, (backE old env vs).length = env.length
  | [] => rfl
  | v :: vs => by show ((backE old env vs).set v _).length = _; rw [List.length_set, backE_len old env vs]
theorem wipeE_out {env : Env} {j : Nat} : ∀ {vs : List Nat}, j ∉ vs → (wipeE env vs)[j]? = env[j]?
  | [], _ => rfl
  | v :: vs, h => by
    have h1 : v ≠ j := fun e => h (e ▸ List.mem_cons_self)
    show ((wipeE env vs).set v .no)[j]? = _
    rw [List.getElem?_set_ne h1, wipeE_out fun z => h (List.mem_cons_of_mem _ z)]
theorem backE_out {old env : Env} {j : Nat} : ∀ {vs : List Nat}, j ∉ vs → (backE old env vs)[j]? = env[j]?
  | [], _ => rfl
  | v :: vs, h => by
    have h1 : v ≠ j := fun e => h (e ▸ List.mem_cons_self)
    show ((backE old env vs).set v _)[j]? = _
    rw [List.getElem?_set_ne h1, backE_out fun z => h (List.mem_cons_of_mem _ z)]
theorem backE_in {old env : Env} {j : Nat} (hj : j < env.length) : ∀ {vs : List Nat}, j ∈ vs → (backE old env vs)[j]? = some (old.getD j .no)
  | v :: vs, h => by
    show ((backE old env vs).set v _)[j]? = _
    by_cases e : v = j
    · subst e
      rw [List.getElem?_set_self (by rw [backE_len]; exact hj)]
    · rw [List.getElem?_set_ne e]
      rcases List.mem_cons.mp h with z | z
      · exact absurd z.symm e
      · exact backE_in hj z
theorem wipe_out {σ : L2.St} {j : Nat} : ∀ {vs : List Nat}, j ∉ vs → (L2.wipe σ vs)[j]? = σ[j]?
  | [], _ => rfl
  | v :: vs, h => by
    have h1 : v ≠ j := fun e => h (e ▸ List.mem_cons_self)
    show ((L2.wipe σ vs).set v none)[j]? = _
    rw [List.getElem?_set_ne h1, wipe_out fun z => h (List.mem_cons_of_mem _ z)]
theorem wipe_in {σ : L2.St} {j : Nat} (hj : j < σ.length) : ∀ {vs : List Nat}, j ∈ vs → (L2.wipe σ vs)[j]? = some none
  | v :: vs, h => by
    show ((L2.wipe σ vs).set v none)[j]? = _
    by_cases e : v = j
    · subst e
      rw [List.getElem?_set_self (by rw [L2.wipe_length]; exact hj)]
    · rw [List.getElem?_set_ne e]
      rcases List.mem_cons.mp h with z | z
      · exact absurd z.symm e
      · exact wipe_in hj z
theorem wipe_ext {a b : L2.St} {vs : List Nat} (hl : a.length = b.length) (h : ∀ j, j ∉ vs → a[j]? = b[j]?) : L2.wipe a vs = L2.wipe b vs := by
  apply List.ext_getElem?
  intro j
  by_cases hj : j ∈ vs
  · by_cases hlt : j < a.length
    · rw [wipe_in hlt hj, wipe_in (hl ▸ hlt) hj]
    · rw [List.getElem?_eq_none (by rw [L2.wipe_length]; omega), List.getElem?_eq_none (by rw [L2.wipe_length]; omega)]
  · rw [wipe_out hj, wipe_out hj]; exact h j hj
/-- the slots as they were ahead -/
theorem Sim.back {F0 G0 H0 : Hp} {ρ0 : List Addr} {env0 : Env} {S0 : Store} {vs : List Nat} (s0 : Sim K F0 ρ0 G0 env0 S0 σ H0) (hp : vs.all (plainSl env0) = true) (hF : Le F0 F) (hρ : ρ0 <+: ρ) (s : Sim K F ρ G (wipeE env vs) S (L2.wipe σ vs) H) : Sim K F ρ G (backE env0 env vs) S σ H := by
  have hlen : env.length = σ.length := by have := s.elen; rw [wipeE_len, L2.wipe_length] at this; exact this
  have own : ∀ i a, OwnAt (backE env0 env vs) σ i a → OwnAt (wipeE env vs) (L2.wipe σ vs) i a := fun i a ⟨⟨ds, h1⟩, h2⟩ => by
    by_cases hi : i ∈ vs
    · have hlt : i < env.length := by rw [hlen]; exact (List.getElem?_eq_some_iff.mp h2).1
      rw [backE_in hlt hi] at h1
      have q := List.all_eq_true.mp hp i hi
      unfold plainSl at q
      have e := Option.some.inj h1
      rw [List.getD_eq_getElem?_getD] at e
      cases z : env0[i]? with
      | none => rw [z] at e; cases e
      | some sl => rw [z] at e q; simp at e; subst e; cases q
    · rw [backE_out hi] at h1
      exact ⟨⟨ds, by rw [wipeE_out hi]; exact h1⟩, by rw [wipe_out hi]; exact h2⟩
  refine ⟨s.fh, s.gh, s.fg, s.rg, s.rlen, s.rnd, s.live, s.cells, fun i sl e => ?_, fun i j a h1 h2 => s.own i j a (own i a h1) (own j a h2), by rw [backE_len]; exact hlen, s.flo⟩
  by_cases hi : i ∈ vs
  · have hlt : i < env.length := by have := (List.getElem?_eq_some_iff.mp e).1; rw [backE_len] at this; exact this
    rw [backE_in hlt hi] at e
    have q := List.all_eq_true.mp hp i hi
    unfold plainSl at q
    have e := Option.some.inj e
    rw [List.getD_eq_getElem?_getD] at e
    cases z : env0[i]? with
    | none => rw [z] at e; subst e; trivial
    | some sl' =>
      rw [z] at e q
      simp at e
      subst e
      have r := s0.slots i _ z
      cases sl' with
      | no => trivial
      | thk => exact r
      | dat d => obtain ⟨x, e1, r⟩ := r; exact ⟨x, e1, r.mono hF hρ⟩
      | lst _ => cases q
      | dic _ => cases q
  · rw [backE_out hi] at e
    have r := s.slots i sl (by rw [wipeE_out hi]; exact e)
    rw [wipe_out hi] at r
    exact r

/-! ### what is walked -/
structure ItOk (K : KX) (J : It) (F0 : Hp) (ρ0 : List Addr) (ds : List D) : Prop where
  go : ∀ i H, Le F0 H → i < ds.length → J.go i H
  stop : ∀ H, Le F0 H → J.stop ds.length H
  yld : ∀ i d H x H', Le F0 H → ds[i]? = some d → J.yld i H x H' → ∀ {F ρ G env S σ}, Le F0 F → ρ0 <+: ρ → Sim K F ρ G env S σ H → ∃ F', Le F F' ∧ Sim K F' ρ G env S σ H' ∧ Rep K F' ρ x d
  len : ds.length ≤ 16777216
theorem it_lst {a : Addr} {xs : List V} {ds : List D} (h : F a = some (.lst xs)) (hl : xs.length ≤ 16777216) (r : Reps K F ρ xs ds) : ItOk K (Itl K a) F ρ ds where
  go i H le hi := by
    have q : ∃ x, xs[i]? = some x := ⟨_, List.getElem?_eq_getElem (by rw [r.length]; exact hi)⟩
    obtain ⟨x, q⟩ := q
    exact ⟨xs, x, SqL.of (le _ _ h), q⟩
  stop H le := ⟨xs, SqL.of (le _ _ h), by rw [r.length]; exact Nat.le_refl _⟩
  yld i d H x H' le e y := by
    intro F' ρ' G env S σ le' pre s
    obtain ⟨rfl, y⟩ := y
    obtain ⟨d', e', rr⟩ := r.getV (y xs (SqL.of (le _ _ h)))
    rw [e] at e'; cases e'
    exact ⟨F', Le.refl, s, rr.mono le' pre⟩
  len := by rw [← r.length]; exact hl
theorem it_tup {a : Addr} {xs : List V} {ds : List D} (h : SqT K F a xs) (hl : xs.length ≤ 16777216) (r : Reps K F ρ xs ds) : ItOk K (Itt K a) F ρ ds where
  go i H le hi := by
    have q : ∃ x, xs[i]? = some x := ⟨_, List.getElem?_eq_getElem (by rw [r.length]; exact hi)⟩
    obtain ⟨x, q⟩ := q
    exact ⟨xs, x, le.sqT h, q⟩
  stop H le := ⟨xs, le.sqT h, by rw [r.length]; exact Nat.le_refl _⟩
  yld i d H x H' le e y := by
    intro F' ρ' G env S σ le' pre s
    obtain ⟨rfl, y⟩ := y
    obtain ⟨d', e', rr⟩ := r.getV (y xs (le.sqT h))
    rw [e] at e'; cases e'
    exact ⟨F', Le.refl, s, rr.mono le' pre⟩
  len := by rw [← r.length]; exact hl
theorem it_str {z : List Nat} (ok : okS z = true) : ItOk K (Its (txt z)) F ρ (z.map fun c => .str [c]) where
  go i H le hi := by show i < (txt z).cps.size; simp [txt] at hi ⊢; exact hi
  stop H le := by show (txt z).cps.size ≤ _; simp [txt]
  yld i d H x H' le e y := by
    intro F' ρ' G env S σ le' pre s
    obtain ⟨rfl, c, e1, rfl⟩ := y
    have e1 : z[i]? = some c := by simpa [txt] using e1
    rw [List.getElem?_map, e1] at e
    cases e
    exact ⟨F', Le.refl, s, .str (okS_one ok (List.mem_of_getElem? e1))⟩
  len := by rw [List.length_map]; exact okS_len ok
theorem it_rng {lo : Int} {n : Nat} (hn : n ≤ 16777216) : ItOk K (Itr lo n) F ρ ((List.range n).map fun (k : Nat) => .int (lo + k)) where
  go i H le hi := by show i < n; simpa using hi
  stop H le := by show n ≤ _; simp
  yld i d H x H' le e y := by
    intro F' ρ' G env S σ le' pre s
    obtain ⟨rfl, rfl⟩ := y
    have hi : i < n := by have := (List.getElem?_eq_some_iff.mp e).1; simpa using this
    rw [List.getElem?_map, List.getElem?_range hi] at e
    cases e
    exact ⟨F', Le.refl, s, .int _⟩
  len := by simpa using hn
theorem it_enum {a : Addr} {xs : List V} {ds : List D} (h : F a = some (.lst xs)) (hl : xs.length ≤ 16777216) (r : Reps K F ρ xs ds) : ItOk K (Ite K a) F ρ (ds.zipIdx.map fun p => .tup [.int p.2, p.1]) where
  go i H le hi := by
    have q : ∃ x, xs[i]? = some x := ⟨_, List.getElem?_eq_getElem (by rw [r.length]; simpa using hi)⟩
    obtain ⟨x, q⟩ := q
    exact ⟨xs, x, SqL.of (le _ _ h), q⟩
  stop H le := ⟨xs, SqL.of (le _ _ h), by rw [r.length]; simp⟩
  yld i d H x H' le e y := by
    intro F' ρ' G env S σ le' pre s
    obtain ⟨T, v, rfl, nT, rfl, y⟩ := y
    obtain ⟨d', e', rr⟩ := r.getV (y xs (SqL.of (le _ _ h)))
    rw [List.getElem?_map, List.getElem?_zipIdx, e'] at e
    simp at e
    subst e
    have le2 : Le F' (upd F' T (.tup [.int (i : Nat), v])) := Le.upd (s.fnone nT)
    exact ⟨_, le2, s.put nT, .tup (SqT.of upd_same) (by simp) (.cons (.int _) (.one (rr.mono (le'.trans le2) pre)))⟩
  len := by simpa [← r.length] using hl
theorem it_zip {a b : Addr} {xs ys : List V} {ds es : List D} (h : F a = some (.lst xs)) (hl : xs.length ≤ 16777216) (r : Reps K F ρ xs ds) (h' : F b = some (.lst ys)) (r' : Reps K F ρ ys es) : ItOk K (Itz K a b) F ρ ((ds.zip es).map fun p => .tup [p.1, p.2]) where
  go i H le hi := by
    have hi : i < ds.length ∧ i < es.length := by simp at hi; omega
    exact ⟨xs, ys, _, _, SqL.of (le _ _ h), SqL.of (le _ _ h'), List.getElem?_eq_getElem (by rw [r.length]; exact hi.1), List.getElem?_eq_getElem (by rw [r'.length]; exact hi.2)⟩
  stop H le := ⟨xs, ys, SqL.of (le _ _ h), SqL.of (le _ _ h'), by rw [r.length, r'.length]; simp; omega⟩
  yld i d H x H' le e y := by
    intro F' ρ' G env S σ le' pre s
    obtain ⟨T, v, u, rfl, nT, rfl, y1, y2⟩ := y
    obtain ⟨d1, e1, r1⟩ := r.getV (y1 xs (SqL.of (le _ _ h)))
    obtain ⟨d2, e2, r2⟩ := r'.getV (y2 ys (SqL.of (le _ _ h')))
    rw [List.getElem?_map, (List.getElem?_zip_eq_some (z := (d1, d2))).mpr ⟨e1, e2⟩] at e
    cases e
    have le2 : Le F' (upd F' T (.tup [v, u])) := Le.upd (s.fnone nT)
    exact ⟨_, le2, s.put nT, .tup (SqT.of upd_same) (by simp) (.cons (r1.mono (le'.trans le2) pre) (.one (r2.mono (le'.trans le2) pre)))⟩
  len := by rw [List.length_map, List.length_zip, ← r.length]; omega
theorem it_zipT {a b : Addr} {xs ys : List V} {ds es : List D} (h : SqT K F a xs) (hl : xs.length ≤ 16777216) (r : Reps K F ρ xs ds) (h' : SqT K F b ys) (r' : Reps K F ρ ys es) : ItOk K (RZ.ItzT K a b) F ρ ((ds.zip es).map fun p => .tup [p.1, p.2]) where
  go i H le hi := by
    have hi : i < ds.length ∧ i < es.length := by simp at hi; omega
    exact ⟨xs, ys, _, _, le.sqT h, le.sqT h', List.getElem?_eq_getElem (by rw [r.length]; exact hi.1), List.getElem?_eq_getElem (by rw [r'.length]; exact hi.2)⟩
  stop H le := ⟨xs, ys, le.sqT h, le.sqT h', by rw [r.length, r'.length]; simp; omega⟩
  yld i d H x H' le e y := by
    intro F' ρ' G env S σ le' pre s
    obtain ⟨T, v, u, rfl, nT, rfl, y1, y2⟩ := y
    obtain ⟨d1, e1, r1⟩ := r.getV (y1 xs (le.sqT h))
    obtain ⟨d2, e2, r2⟩ := r'.getV (y2 ys (le.sqT h'))
    rw [List.getElem?_map, (List.getElem?_zip_eq_some (z := (d1, d2))).mpr ⟨e1, e2⟩] at e
    cases e
    have le2 : Le F' (upd F' T (.tup [v, u])) := Le.upd (s.fnone nT)
    exact ⟨_, le2, s.put nT, .tup (SqT.of upd_same) (by simp) (.cons (r1.mono (le'.trans le2) pre) (.one (r2.mono (le'.trans le2) pre)))⟩
  len := by rw [List.length_map, List.length_zip, ← r.length]; omega
end
end Pf
/-! Pf, part J: what a for walks, targets, comprehensions: all expressions. -/
namespace Pf
open PySem PySem.Spec PyProof.Rows L2
section
variable {C : Calls} {g : Glos} {w : WS} {n : Nat} {EX : EXT} {m : MC} {W : WX} {X : Cx}
theorem PI.imp {tg x : Expr} {t t' : TI} (h : PI X tg x t) (hi : ∀ σ H R, t' σ H R → t σ H R) : PI X tg x t' := ⟨fun pins s σ H R I q => h.run pins s σ H R I (hi σ H R q)⟩
theorem PI.or {tg x : Expr} {t t' : TI} (h : PI X tg x t) (h' : PI X tg x t') : PI X tg x (fun σ H R => t σ H R ∨ t' σ H R) := ⟨fun pins s σ H R I q => q.elim (h.run pins s σ H R I) (h'.run pins s σ H R I)⟩
theorem PG.imp {x : Expr} {t t' : TG} (h : PG X x t) (hi : ∀ v σ H Q, t' v σ H Q → t v σ H Q) : PG X x t' := ⟨fun pins s σ H v u Q I r q => h.run pins s σ H v u Q I r (hi v σ H Q q)⟩
theorem PG.or {x : Expr} {t t' : TG} (h : PG X x t) (h' : PG X x t') : PG X x (fun v σ H Q => t v σ H Q ∨ t' v σ H Q) := ⟨fun pins s σ H v u Q I r q => q.elim (h.run pins s σ H v u Q I r) (h'.run pins s σ H v u Q I r)⟩

/-- the reading of what is walked -/
def tIt (C : Calls) (g : Glos) (w : WS) (n : Nat) (EX : EXT) (W : WX) (X : Cx) (k : Itk) (its : List Ex) : TI := fun σ H R => ∃ F ρ G env S, Sim (kx X EX) F ρ G env S σ H ∧
  At (kx X EX) W EX G σ (PDs (kx X EX) G σ) (fun vs H1 => ∃ F1 ρ1 xs ds, Le F1 H1 ∧ Reps (kx X EX) F1 ρ1 vs xs ∧ itF k xs = some ds ∧ ∀ J, ItOk (kx X EX) J F1 ρ1 ds → R J H1) F ρ (evDs C g its env S)
theorem one_of {e : Ex} {F G : Hp} {ρ : List Addr} {σ : L2.St} {env : Env} {S : Store} {Q : List V → Hp → Prop} (h : At (kx X EX) W EX G σ (PDs (kx X EX) G σ) Q F ρ (evDs C g [e] env S)) : At (kx X EX) W EX G σ (POut (kx X EX) G σ) (fun v H => Q [v] H) F ρ (evO C g e env S) := by
  refine At.fz (At.imp (At.bind (P1 := PD (kx X EX) G σ) h) ?_)
  intro v H1 ⟨a, F1, ρ1, env1, S1, le1, pre1, sim1, ra, at1⟩
  have at1 : At (kx X EX) W EX G σ (PDs (kx X EX) G σ) Q F1 ρ1 (.ok [a] env1 S1) := at1
  exact at1.now sim1 (Reps.one ra)
theorem two_of {e f : Ex} {F G H : Hp} {ρ : List Addr} {σ : L2.St} {env : Env} {S : Store} {Q : List V → Hp → Prop} (s : Sim (kx X EX) F ρ G env S σ H) (h : At (kx X EX) W EX G σ (PDs (kx X EX) G σ) Q F ρ (evDs C g [e, f] env S)) :
    tO C g w n EX W X e σ H fun v H1 => tO C g w n EX W X f σ H1 fun u H2 => Q [v, u] H2 := by
  refine ⟨F, ρ, G, env, S, s, At.fz (At.imp (At.bind (P1 := PD (kx X EX) G σ) h) ?_)⟩
  intro v H1 ⟨a, F1, ρ1, env1, S1, le1, pre1, sim1, ra, at1⟩
  refine ⟨F1, ρ1, G, env1, S1, sim1, ?_⟩
  have at1 : At (kx X EX) W EX G σ (PDs (kx X EX) G σ) Q F1 ρ1 ((evDs C g [f] env1 S1).bind fun ds env S => .ok (a :: ds) env S) := at1
  refine At.imp (one_of (Q := fun us H2 => Q (v :: us) H2) ?_) fun b H hq => hq
  cases z : evDs C g [f] env1 S1 with
  | exc _ _ _ => rw [z] at at1; exact at1
  | bad => rw [z] at at1; exact at1
  | ok ds env2 S2 =>
    rw [z] at at1
    have at1 : At (kx X EX) W EX G σ (PDs (kx X EX) G σ) Q F1 ρ1 (.ok (a :: ds) env2 S2) := at1
    exact fun F2 ρ2 H2 us le pre sim r => at1 F2 ρ2 H2 (v :: us) le pre sim (Reps.cons (Rep.mono le pre ra) r)
/-- a list, a tuple, a text, by its value -/
def iAny (K : PySem.W.Frag) (tl : TE) : TI := fun σ H R => tl σ H fun x H1 => (∃ a, x = .ref a ∧ (∃ xs, SqL K H1 a xs) ∧ R (Itl K a) H1) ∨ (∃ a, x = .ref a ∧ (∃ xs, SqT K H1 a xs) ∧ R (Itt K a) H1) ∨ ∃ z, x = .str z ∧ R (Its z) H1
theorem pi_any {l tg : Expr} {tl : TE} (hl : PE X l tl) : PI X tg l (iAny X.K tl) := by
  refine ⟨fun pins s σ H R I h => ?_⟩
  refine thn (hl.run pins s σ H _ I h) fun v s1 ⟨x, H1, I1, r1, q1⟩ => ?_
  rcases q1 with ⟨a, e, ⟨xs, hq⟩, q⟩ | ⟨a, e, ⟨xs, hq⟩, q⟩ | ⟨z, e, q⟩
  · subst e
    cases r1
    obtain ⟨its, rv, p, hz⟩ := I1.list hq
    refine wpAny_pyIter_list p.isList ?_
    refine ⟨s1.heap.objs.size, [s1.heap.objs.size], _, _, H1, rfl, I1.kept (t' := s1.toks) fun b o e => Heap.get?_push_of_some _ e, turn_list a _, ⟨_, Heap.get?_push_size _ rfl, rfl, rfl⟩, fun b hb => ?_, q⟩
    have e : b = s1.heap.objs.size := by simpa using hb
    subst e
    exact I1.fpOk (Nat.le_refl _) (I1.hok.fresh (Nat.le_refl _))
  · subst e
    cases r1
    obtain ⟨its, rv, p, hz⟩ := I1.tuple hq
    refine wpAny_pyIter_tuple (show s1.heap.IsTuple a its.toArray from p) ?_
    refine ⟨s1.heap.objs.size, [s1.heap.objs.size], _, _, H1, rfl, I1.kept (t' := s1.toks) fun b o e => Heap.get?_push_of_some _ e, turn_tuple a _, ⟨_, Heap.get?_push_size _ rfl, rfl, rfl⟩, fun b hb => ?_, q⟩
    have e : b = s1.heap.objs.size := by simpa using hb
    subst e
    exact I1.fpOk (Nat.le_refl _) (I1.hok.fresh (Nat.le_refl _))
  · subst e
    obtain ⟨t, rfl⟩ := r1
    cases ha : z.cps.all (· < 128)
    · exact wpAny_pyIter_wide ha (pi_one (tk := s1.toks) I1 _ (turn_str _ z t "str_iterator" (.inr rfl)) ⟨_, Heap.get?_push_size _ rfl, rfl, rfl⟩ q)
    · exact wpAny_pyIter_ascii ha (pi_one (tk := s1.toks) I1 _ (turn_str _ z t "str_ascii_iterator" (.inl rfl)) ⟨_, Heap.get?_push_size _ rfl, rfl, rfl⟩ q)
theorem pi_val {e : Ex} {x t : Expr} (he : PE X x (tO C g w n EX W X e)) : PI X t x (tIt C g w n EX W X .val [e]) := by
  refine PI.imp (pi_any he) fun σ H R ⟨F, ρ, G, env, S, s, h⟩ => ?_
  refine ⟨F, ρ, G, env, S, s, At.imp (one_of h) ?_⟩
  rintro v H1 ⟨F1, ρ1, xs, ds, le, r, e, f⟩
  match xs, r, e with
  | [], r, _ => cases r
  | _ :: _ :: _, r, _ => cases r with | cons _ t => cases t
  | [d], r, e =>
    cases r with
    | cons r _ =>
      cases r with
      | lst h1 h2 h3 => cases e; exact .inl ⟨_, rfl, ⟨_, SqL.of (le _ _ h1)⟩, f _ (it_lst h1 h2 h3)⟩
      | tup h1 h2 h3 => cases e; exact .inr (.inl ⟨_, rfl, ⟨_, le.sqT h1⟩, f _ (it_tup h1 h2 h3)⟩)
      | str ok => cases e; exact .inr (.inr ⟨_, rfl, f _ (it_str ok)⟩)
      | _ => cases e
/-- a list that is walked -/
theorem r_vl {e : Ex} {σ : L2.St} {H : Hp} {R : It → Hp → Prop} (q : tIt C g w n EX W X .vlist [e] σ H R) : iList X.K (tO C g w n EX W X e) σ H R := by
  obtain ⟨F, ρ, G, env, S, s, h⟩ := q
  refine ⟨F, ρ, G, env, S, s, At.imp (one_of h) ?_⟩
  rintro v H1 ⟨F1, ρ1, xs, ds, le, r, e, f⟩
  match xs, r, e with
  | [], r, _ => cases r
  | _ :: _ :: _, r, _ => cases r with | cons _ t => cases t
  | [d], r, e =>
    cases r with
    | cons r _ =>
      cases r with
      | lst h1 h2 h3 => cases e; exact ⟨_, rfl, ⟨_, SqL.of (le _ _ h1)⟩, f _ (it_lst h1 h2 h3)⟩
      | _ => cases e
theorem pi_vl {e : Ex} {x t : Expr} (he : PE X x (tO C g w n EX W X e)) : PI X t x (tIt C g w n EX W X .vlist [e]) := PI.imp (pi_list he) fun _ _ _ q => r_vl q
theorem pi_r1 (f : XF C g w n EX m W X) {e : Ex} {x t : Expr} {z : Str} {p pp : Pos} (hz : z = Str.ofString "range") (hg : glB m.sc z = true) (he : PA X [x] (tDs C g w n EX W X [e])) (hx : isStar x = false) : PI X t (.Call (.Name z pp) [x] [] p) (tIt C g w n EX W X .range1 [e]) := by
  have gl := gl_of f hg
  subst hz
  refine PI.imp (pi_range1 gl (f.blt "range" (by decide)) he (star_cons hx)) fun σ H R ⟨F, ρ, G, env, S, s, h⟩ => ?_
  refine ⟨F, ρ, G, env, S, s, At.imp h ?_⟩
  rintro vs H1 ⟨F1, ρ1, xs, ds, le, r, e, f⟩
  match xs, r, e with
  | [], _, e => cases e
  | [_, _], _, e => cases e
  | _ :: _ :: _ :: _, _, e => cases e
  | [d], r, e =>
    cases r with
    | cons r t =>
      cases t
      cases d with
      | int i =>
        cases r
        have e : (if -(2 ^ 62) ≤ i ∧ i ≤ 16777216 then some ((List.range i.toNat).map fun (k : Nat) => D.int k) else none) = some ds := e
        split at e
        · rename_i c
          cases e
          refine ⟨i, rfl, c.1, by omega, f _ ?_⟩
          have := it_rng (K := kx X EX) (F := F1) (ρ := ρ1) (lo := 0) (n := i.toNat) (by omega)
          simpa using this
        · cases e
      | _ => cases e
theorem pi_r2 (f : XF C g w n EX m W X) {e e' : Ex} {x y t : Expr} {z : Str} {p pp : Pos} (hz : z = Str.ofString "range") (hg : glB m.sc z = true) (he : PA X [x, y] (tDs C g w n EX W X [e, e'])) (hx : isStar x = false) (hy : isStar y = false) : PI X t (.Call (.Name z pp) [x, y] [] p) (tIt C g w n EX W X .range2 [e, e']) := by
  have gl := gl_of f hg
  subst hz
  refine PI.imp (pi_range2 gl (f.blt "range" (by decide)) he (by rw [star_cons hx, star_cons hy]; rfl) (star_cons hy)) fun σ H R ⟨F, ρ, G, env, S, s, h⟩ => ?_
  refine ⟨F, ρ, G, env, S, s, At.imp h ?_⟩
  rintro vs H1 ⟨F1, ρ1, xs, ds, le, r, e, f⟩
  match xs, r, e with
  | [], _, e => cases e
  | [_], _, e => cases e
  | _ :: _ :: _ :: _, _, e => cases e
  | [d, d'], r, e =>
    cases r with
    | cons r t =>
      cases t with
      | cons r' t =>
        cases t
        cases d with
        | int i =>
          cases d' with
          | int j =>
            cases r
            cases r'
            have e : (if -(2 ^ 62) ≤ i ∧ i < 2 ^ 62 ∧ -(2 ^ 62) ≤ j ∧ j < 2 ^ 62 ∧ j - i ≤ 16777216 then some ((List.range (j - i).toNat).map fun (k : Nat) => D.int (i + k)) else none) = some ds := e
            split at e
            · rename_i c
              cases e
              exact ⟨i, j, rfl, ⟨c.1, c.2.1, c.2.2.1, c.2.2.2.1⟩, f _ (it_rng (by omega))⟩
            · cases e
          | _ => cases e
        | _ => cases d' <;> cases e
theorem pi_en (f : XF C g w n EX m W X) {e : Ex} {x : Expr} {ts : List Expr} {kk : Nat} {tp : Pos} {z : Str} {p pp : Pos} (hz : z = Str.ofString "enumerate") (hg : glB m.sc z = true) (he : PA X [x] (tDs C g w n EX W X [e])) (hx : isStar x = false) : PI X (.Tuple ts kk tp) (.Call (.Name z pp) [x] [] p) (tIt C g w n EX W X .enum [e]) := by
  have gl := gl_of f hg
  subst hz
  refine PI.imp (pi_enum gl (f.blt "enumerate" (by decide)) he (star_cons hx)) fun σ H R ⟨F, ρ, G, env, S, s, h⟩ => ?_
  refine ⟨F, ρ, G, env, S, s, At.imp h ?_⟩
  rintro vs H1 ⟨F1, ρ1, xs, ds, le, r, e, f⟩
  match xs, r, e with
  | [], _, e => cases e
  | [_, _], _, e => cases e
  | _ :: _ :: _ :: _, _, e => cases e
  | [d], r, e =>
    cases r with
    | cons r1 t =>
      cases t
      cases d with
      | lst ds1 =>
        cases e
        cases r1 with
        | lst h1 h2 h3 => exact ⟨_, _, rfl, SqL.of (le _ _ h1), f _ (it_enum h1 h2 h3)⟩
      | _ => cases e
theorem pi_zp (f : XF C g w n EX m W X) {e e' : Ex} {x y : Expr} {ts : List Expr} {kk : Nat} {tp : Pos} {z : Str} {p pp : Pos} (hz : z = Str.ofString "zip") (hg : glB m.sc z = true) (he : PA X [x, y] (tDs C g w n EX W X [e, e'])) (hx : isStar x = false) (hy : isStar y = false) : PI X (.Tuple ts kk tp) (.Call (.Name z pp) [x, y] [] p) (tIt C g w n EX W X .zip [e, e']) := by
  have gl := gl_of f hg
  subst hz
  refine PI.imp (RZ.pi_zipA gl (f.blt "zip" (by decide)) he (star_cons hx) (back_any (by unfold noStars; rw [List.all_cons, hy]; rfl))) fun σ H R ⟨F, ρ, G, env, S, s, h⟩ => ?_
  refine ⟨F, ρ, G, env, S, s, At.imp h ?_⟩
  rintro vs H1 ⟨F1, ρ1, xs, ds, le, r, e, f⟩
  match xs, r, e with
  | [], _, e => cases e
  | [_], _, e => cases e
  | _ :: _ :: _ :: _, _, e => cases e
  | [d, d'], r, e =>
    cases r with
    | cons r1 t =>
      cases t with
      | cons r2 t =>
        cases t
        cases d with
        | lst ds1 =>
          cases d' with
          | lst ds2 =>
            cases e
            cases r1 with
            | lst h1 h2 h3 => cases r2 with
              | lst h4 h5 h6 => exact ⟨_, _, _, _, rfl, .inl ⟨SqL.of (le _ _ h1), SqL.of (le _ _ h4), f _ (it_zip h1 h2 h3 h4 h6)⟩⟩
          | _ => cases e
        | tup ds1 =>
          cases d' with
          | tup ds2 =>
            cases e
            cases r1 with
            | tup h1 h2 h3 => cases r2 with
              | tup h4 h5 h6 => exact ⟨_, _, _, _, rfl, .inr ⟨le.sqT h1, le.sqT h4, f _ (it_zipT h1 h2 h3 h4 h6)⟩⟩
          | _ => cases e
        | _ => cases d' <;> cases e

/-! ### targets -/
/-- a target's reading -/
def tTg (K : KX) (tg : Tg) : TG := fun v σ H Q => ∃ F ρ G env S d env', Sim K F ρ G env S σ H ∧ Rep K F ρ v d ∧ bindTg tg d env = some env' ∧
  ∀ σ', Sim K F ρ G env' S σ' H → σ'.length = σ.length → (∀ j, j ∉ tgSlots tg → σ'[j]? = σ[j]?) → Q σ' H
theorem sto_of (f : XF C g w n EX m W X) {i : Nat} {x : Expr} (h : mSto m i x = true) : ∃ z p, x = .Name z p ∧ X.N[i]? = some z ∧ Loc X.env.scope z ∧ (X.fn z = true ∨ X.env.scope.names.lookup z = some .local) := by
  cases x with
  | Name z p =>
    have h : (decide (m.N[i]? = some z) && stoB m z) = true := h
    rw [Bool.and_eq_true] at h
    have h2 : (locB m.sc z && (m.fnP z || decide (m.sc.names.lookup z = some .local))) = true := h.2
    rw [Bool.and_eq_true, Bool.or_eq_true] at h2
    refine ⟨z, p, rfl, by rw [f.hN]; exact of_decide_eq_true h.1, ?_, ?_⟩
    · rw [f.hsc]
      have q := h2.1
      unfold locB at q
      split at q <;> first | exact .inl (by assumption) | exact .inr (by assumption) | cases q
    · rw [f.hsc, f.hfn]
      exact h2.2.imp id of_decide_eq_true
  | _ => cases h
theorem pg_sto (f : XF C g w n EX m W X) {i : Nat} {x : Expr} (h : mSto m i x = true) : PG X x (gName i) := by
  obtain ⟨z, p, rfl, h1, h2, h3⟩ := sto_of f h
  exact pg_name (by rw [f.hN]; exact f.nd) h1 h2 h3
def gStos : List Nat → TGs
  | [] => gNil
  | i :: is => gCons (gName i) (gStos is)
theorem each_cons {x : Expr} {xs : List Expr} {env : PySem.Env} {z : Str} {p : Pos} (h : x = .Name z p) : (assignEach (x :: xs) env).map (·.2) = assign x env :: (assignEach xs env).map (·.2) ∧ (assignEach (x :: xs) env).length = (assignEach xs env).length + 1 ∧ (assignEach (x :: xs) env).findIdx? (·.1) = ((assignEach xs env).findIdx? (·.1)).map (· + 1) := by
  subst h
  refine ⟨rfl, rfl, ?_⟩
  have e : assignEach (.Name z p :: xs) env = (false, assign (.Name z p) env) :: assignEach xs env := rfl
  rw [e, List.findIdx?_cons]; rfl
theorem pgs_sto (f : XF C g w n EX m W X) : ∀ {is : List Nat} {xs : List Expr}, mStos m is xs = true → PGs X xs (gStos is) ∧ (assignEach xs X.env).length = is.length ∧ (assignEach xs X.env).findIdx? (·.1) = none
  | [], [], _ => ⟨pgs_nil, rfl, rfl⟩
  | [], _ :: _, h => by cases h
  | _ :: _, [], h => by cases h
  | i :: is, x :: xs, h => by
    have h : (mSto m i x && mStos m is xs) = true := h
    rw [Bool.and_eq_true] at h
    obtain ⟨z, p, e, _⟩ := sto_of f h.1
    obtain ⟨e1, e2, e3⟩ := each_cons (xs := xs) (env := X.env) e
    obtain ⟨h1, h2, h3⟩ := pgs_sto f h.2
    exact ⟨pgs_cons (pg_sto f h.1) h1 e1, by rw [e2, h2]; rfl, by rw [e3, h3]; rfl⟩
theorem stos_run {K : KX} {F G H : Hp} {ρ : List Addr} {S : Store} : ∀ {is : List Nat} {vs : List V} {ds : List D} {σ : L2.St} {env env' : Env} {Q : L2.St → Hp → Prop}, Sim K F ρ G env S σ H → Reps K F ρ vs ds → setNames is ds env = some env' →
    (∀ σ', Sim K F ρ G env' S σ' H → σ'.length = σ.length → (∀ j, j ∉ is → σ'[j]? = σ[j]?) → Q σ' H) → gStos is vs σ H Q
  | [], _, [], _, _, _, _, s, .nil, e, q => by cases e; exact ⟨rfl, q _ s rfl fun _ _ => rfl⟩
  | [], _, _ :: _, _, _, _, _, _, _, e, _ => by cases e
  | _ :: _, _, [], _, _, _, _, _, .nil, e, _ => by cases e
  | i :: is, _, d :: ds, σ, env, env', Q, s, .cons (x := v) (xs := vs) r t, e, q => by
    refine ⟨v, vs, rfl, ?_⟩
    refine stos_run (s.slot (i := i) (w := some v) (.inr ⟨d, v, rfl, rfl, r⟩)) t e fun σ' s' hl ho => q σ' s' (by rw [hl, List.length_set]) fun j hj => ?_
    rw [ho j fun z => hj (List.mem_cons_of_mem _ z), List.getElem?_set_ne (show i ≠ j from fun z => hj (z ▸ List.mem_cons_self))]
theorem setNames_len : ∀ {is : List Nat} {ds : List D} {env env' : Env}, setNames is ds env = some env' → is.length = ds.length
  | [], [], _, _, _ => rfl
  | [], _ :: _, _, _, h => by cases h
  | _ :: _, [], _, _, h => by cases h
  | _ :: is, _ :: ds, _, _, h => by rw [List.length_cons, List.length_cons, setNames_len (is := is) (ds := ds) h]
theorem and2' {a b : Bool} (h : (a && b) = true) : a = true ∧ b = true := by rw [Bool.and_eq_true] at h; exact h
theorem pg_tg (f : XF C g w n EX m W X) {tg : Tg} {t : Expr} (h : mTg m tg t = true) : PG X t (tTg (kx X EX) tg) := by
  cases tg with
  | name i =>
    refine PG.imp (pg_sto f h) fun v σ H Q ⟨F, ρ, G, env, S, d, env', s, r, e, q⟩ => ?_
    cases e
    exact q _ (s.slot (i := i) (w := some v) (.inr ⟨d, v, rfl, rfl, r⟩)) (List.length_set ..) fun j hj => List.getElem?_set_ne fun z => hj (by show j ∈ [i]; rw [z]; exact List.mem_singleton.mpr rfl)
  | tup is =>
    cases t with
    | Tuple es k p =>
      obtain ⟨hh, hs⟩ := and2' (show (!m.hot && mStos m is es) = true from h)
      have hc := f.calm (by simpa using hh)
      obtain ⟨h1, h2, h3⟩ := pgs_sto f hs
      refine PG.imp (PG.or (pg_tup hc h1 h2 h3) (pg_unl hc h1 h2 h3)) fun v σ H Q ⟨F, ρ, G, env, S, d, env', s, r, e, q⟩ => ?_
      cases d with
      | tup ds =>
        have e : setNames is ds env = some env' := e
        cases r with
        | tup g1 g2 g3 => exact .inl ⟨_, _, rfl, s.fh.sqT g1, by rw [g3.length]; exact (setNames_len e).symm, stos_run s g3 e q⟩
      | lst ds =>
        have e : setNames is ds env = some env' := e
        cases r with
        | lst g1 g2 g3 => exact .inr ⟨_, _, rfl, SqL.of (s.fh _ _ g1), by rw [g3.length]; exact (setNames_len e).symm, stos_run s g3 e q⟩
      | _ => cases e
    | _ => cases h
  | tupT is =>
    cases t with
    | Tuple es k p =>
      obtain ⟨h1, h2, h3⟩ := pgs_sto f (show mStos m is es = true from h)
      refine PG.imp (pg_tup_cool f.cool h1 h2 h3) fun v σ H Q ⟨F, ρ, G, env, S, d, env', s, r, e, q⟩ => ?_
      cases d with
      | tup ds =>
        have e : setNames is ds env = some env' := e
        cases r with
        | tup g1 g2 g3 => exact ⟨_, _, rfl, s.fh.sqT g1, by rw [g3.length]; exact (setNames_len e).symm, stos_run s g3 e q⟩
      | _ => cases e
    | _ => cases h
end
end Pf
/-! Pf, part K: comprehensions; every expression. -/
namespace Pf
open PySem PySem.Spec PyProof.Rows L2
section
variable {C : Calls} {g : Glos} {w : WS} {n : Nat} {EX : EXT} {m : MC} {W : WX} {X : Cx}
abbrev W0 : WX := fun _ _ _ _ => False
theorem nox_ok {α : Type} {r : R α} {a : α} {env : Env} {S : Store} (h : r.nox = .ok a env S) : r = .ok a env S := by cases r <;> first | (cases h; rfl) | cases h
theorem bind_ok {α β : Type} {r : R α} {f : α → Env → Store → R β} {b : β} {env : Env} {S : Store} (h : r.bind f = .ok b env S) : ∃ a env1 S1, r = .ok a env1 S1 ∧ f a env1 S1 = .ok b env S := by
  cases r with
  | ok a e1 S1 => exact ⟨a, e1, S1, rfl, h⟩
  | exc _ _ _ => cases h
  | bad => cases h
def compF (C : Calls) (g : Glos) (elt : Ex) (tg : Tg) (cond : Option Ex) (own : List Nat) (d : D) (env : Env) (S : Store) : R (Option D) := match bindTg tg d (wipeE env own) with
  | none => .bad
  | some env => (evC C g cond env S).bind fun r env S => if r then (evO C g elt env S).fz.bind fun y env S => .ok (some y) env S else .ok none env S
abbrev tCn (C : Calls) (g : Glos) (w : WS) (n : Nat) (EX : EXT) (X : Cx) (cond : Option Ex) : TT := tR (kx X EX) W0 EX PB (evC C g cond)
theorem r_comp {elt : Ex} {tg : Tg} {k : Itk} {its : List Ex} {cond : Option Ex} {own : List Nat} {σ : L2.St} {H : Hp} {Q : VK} (hown : own = tgSlots tg) (q : tO C g w n EX W X (.comp elt tg k its cond own) σ H Q) :
    tLc (tIt C g w n EX W X k its) (tTg (kx X EX) tg) (tCn C g w n EX X cond) (tO C g w n EX W0 X elt) own σ H Q := by
  obtain ⟨F, ρ, G, env, S, s, h⟩ := q
  have h : At (kx X EX) W EX G σ (POut (kx X EX) G σ) Q F ρ ((evDs C g its env S).bind fun xs env S => match itF k xs with
    | none => .bad
    | some ds => if own.all (plainSl env) then (turns (compF C g elt tg cond own) ds env S).nox.bind fun ys env' S => .ok (.new (.lst ys)) (backE env env' own) S else .bad) := h
  refine ⟨F, ρ, G, env, S, s, At.imp (At.bind (P1 := PDs (kx X EX) G σ) h) ?_⟩
  intro vs H1 ⟨xs, F1, ρ1, env1, S1, le1, pre1, sim1, rx, at1⟩
  cases ei : itF k xs with
  | none => rw [ei] at at1; exact at1.elim
  | some ds =>
    rw [ei] at at1
    have at1 : At (kx X EX) W EX G σ (POut (kx X EX) G σ) Q F1 ρ1 (if own.all (plainSl env1) then (turns (compF C g elt tg cond own) ds env1 S1).nox.bind fun ys env' S => .ok (.new (.lst ys)) (backE env1 env' own) S else .bad) := at1
    cases hp : own.all (plainSl env1) with
    | false => rw [hp] at at1; exact at1.elim
    | true =>
      rw [hp, if_pos rfl] at at1
      cases et : (turns (compF C g elt tg cond own) ds env1 S1).nox with
      | bad => rw [et] at at1; exact at1.elim
      | exc x e1 s1 =>
        exfalso
        cases z : turns (compF C g elt tg cond own) ds env1 S1 <;> (rw [z] at et; cases et)
      | ok ys envF SF =>
        rw [et] at at1
        have et := nox_ok et
        have at1 : At (kx X EX) W EX G σ (POut (kx X EX) G σ) Q F1 ρ1 (.ok (.new (.lst ys)) (backE env1 envF own) SF) := at1
        refine ⟨F1, ρ1, xs, ds, sim1.fh, rx, ei, fun J ok Dd nD => ?_⟩
        have gD : G Dd = none := sim1.gnone nD
        let Rem : List D → Hp → List Addr → R (List D) → Prop := fun accD F ρ r => ∃ ys envF SF, r = .ok ys envF SF ∧ ∀ F' ρ' H' acc', Le F F' → ρ <+: ρ' → Sim (kx X EX) F' ρ' (upd G Dd (.lst acc')) (wipeE envF own) SF (L2.wipe σ own) H' → Reps (kx X EX) F' ρ' acc' (accD ++ ys) → acc'.length ≤ 16777216 → Q (.ref Dd) H'
        let Iv : Nat → Hp → Prop := fun i H => ∃ F ρ env S accD acc, Le F1 F ∧ ρ1 <+: ρ ∧ Sim (kx X EX) F ρ (upd G Dd (.lst acc)) (wipeE env own) S (L2.wipe σ own) H ∧ Reps (kx X EX) F ρ acc accD ∧ acc.length ≤ i ∧ Rem accD F ρ (turns (compF C g elt tg cond own) (ds.drop i) env S)
        have start : Iv 0 (upd H1 Dd (.lst [])) := by
          refine ⟨F1, ρ1, env1, S1, [], [], Le.refl, prefix_refl, (sim1.ghostNew (o := .lst []) nD trivial).wipe own, .nil, Nat.le_refl _, ys, envF, SF, et, fun F' ρ' H' acc' le pre sim r hl => ?_⟩
          have sb := sim1.back hp le pre sim
          obtain ⟨g1, g2, g3, g4⟩ := sb.ghostAt
          exact at1 F' ρ' H' (.ref Dd) le pre (sb.unghost gD sim1.flo.hG) ⟨Dd, acc', rfl, g1, hl, r, g2, gD, g3, g4⟩
        refine ⟨fun i mm H => mm = ds.length - i ∧ i ≤ ds.length ∧ Iv i H, ⟨ds.length, by simp, Nat.zero_le _, start⟩, ?_⟩
        rintro i mm H ⟨rfl, hi, Fi, ρi, envi, Si, accD, acc, lei, prei, simi, ri, hacc, rem⟩
        have leH : Le F1 H := lei.trans simi.fh
        by_cases hlt : i < ds.length
        · refine .inr ⟨ok.go i H leH hlt, Iv (i + 1), fun H' p' => ⟨ds.length - (i + 1), by omega, rfl, hlt, p'⟩, fun x H' y => ?_⟩
          have hd : ds[i]? = some ds[i] := List.getElem?_eq_getElem hlt
          obtain ⟨F2, le2, sim2, r2⟩ := ok.yld i ds[i] H x H' leH hd y lei prei simi
          obtain ⟨ys', envF', SF', e', fin⟩ := rem
          rw [List.drop_eq_getElem_cons hlt] at e'
          have e' : ((compF C g elt tg cond own ds[i] envi Si).bind fun o env S => (turns (compF C g elt tg cond own) (ds.drop (i + 1)) env S).bind fun ys env S => .ok (match o with | some y => y :: ys | none => ys) env S) = .ok ys' envF' SF' := e'
          obtain ⟨o, env2, S2, ef, e'⟩ := bind_ok e'
          obtain ⟨ys2, env3, S3, er, e'⟩ := bind_ok e'
          cases e'
          unfold compF at ef
          cases eb : bindTg tg ds[i] (wipeE envi own) with
          | none => rw [eb] at ef; cases ef
          | some env4 =>
            rw [eb] at ef
            obtain ⟨r, env5, S5, ec, ef⟩ := bind_ok ef
            refine ⟨F2, ρi, _, wipeE envi own, Si, ds[i], env4, sim2, r2, eb, fun σ' sim4 hl4 ho4 => ?_⟩
            have hw : L2.wipe σ' own = L2.wipe σ own := wipe_ext (by rw [hl4, L2.wipe_length]) fun j hj => by
              rw [ho4 j (by rw [← hown]; exact hj), wipe_out hj]
            refine ⟨hw, F2, ρi, _, env4, Si, sim4, ?_⟩
            show At (kx X EX) W0 EX _ σ' (PB _ σ') _ F2 ρi (evC C g cond env4 Si)
            rw [ec]
            rintro F5 ρ5 H5 b le5 pre5 sim5 eb5
            cases (show b = r from eb5)
            cases r with
            | false =>
              have ef : R.ok (none : Option D) env5 S5 = .ok o env2 S2 := ef
              cases ef
              refine ⟨F5, ρ5, env2, S2, accD, acc, (lei.trans le2).trans le5, prefix_trans prei pre5, ?_, ri.mono (le2.trans le5) pre5, by omega, ys2, envF', SF', er, fun F' ρ' H' acc' le pre sim r hl => fin F' ρ' H' acc' ((le2.trans le5).trans le) (prefix_trans pre5 pre) sim r hl⟩
              rw [← hw]; exact sim5.wipe own
            | true =>
              have ef : ((evO C g elt env5 S5).fz.bind fun y env S => R.ok (some y) env S) = .ok o env2 S2 := ef
              obtain ⟨y, env6, S6, ey, ef⟩ := bind_ok ef
              cases ef
              refine ⟨F5, ρ5, _, env5, S5, sim5, At.fz ?_⟩
              rw [ey]
              intro F6 ρ6 H6 v le6 pre6 sim6 rv
              obtain ⟨g1, g2, g3, g4⟩ := sim6.ghostAt
              have hlen := ok.len
              have simN := sim6.ghost (o' := .lst (acc ++ [v])) gD sim1.flo.hG trivial trivial
              refine ⟨acc, g1, by rw [size24]; omega, F6, ρ6, env2, S2, accD ++ [y], acc ++ [v], ((lei.trans le2).trans le5).trans le6, prefix_trans (prefix_trans prei pre5) pre6, ?_, (ri.mono ((le2.trans le5).trans le6) (prefix_trans pre5 pre6)).append (.one rv), by simp; omega, ys2, envF', SF', er, fun F' ρ' H' acc' le pre sim r hl => fin F' ρ' H' acc' (((le2.trans le5).trans le6).trans le) (prefix_trans (prefix_trans pre5 pre6) pre) sim (by simpa using r) hl⟩
              rw [← hw]; exact simN.wipe own
        · have hie : i = ds.length := by omega
          refine .inl ⟨by rw [hie]; exact ok.stop H leH, ?_⟩
          obtain ⟨ys', envF', SF', e', fin⟩ := rem
          rw [hie, List.drop_length] at e'
          cases e'
          have hlen := ok.len
          exact fin Fi ρi H acc Le.refl prefix_refl simi (by simpa using ri) (by omega)
theorem takes0N {X : Cx} : L2N.Takes X (fun _ _ _ _ => False) := fun _ _ x => by
  obtain ⟨_, _, _, _, _, _, _, _, _, _, _, _, _, _, _, _, z⟩ := x
  exact z.elim
/-- a block's context -/
theorem XF.blk (f : XF C g w n EX m W X) {scope : Scope} (s : Shared) (H : Hp) (Ca : Addr) (cl : List (Str × Addr)) (fp : List Addr) (hc : CoolX (X.blk s H scope (compEnvC scope cl Ca X.env) fp)) : XF C g w n EX (inner m scope) W0 (X.blk s H scope (compEnvC scope cl Ca X.env) fp) where
  hN := f.hN
  nd := f.nd
  hsc := by
    show relabel scope X.env = relS scope m.sc
    rw [← f.hsc]; rfl
  hfn := rfl
  calm := f.calm
  cool := hc
  units := f.units
  room := f.room
  tk := takes0N
  lamT := fun h => (by cases h)
  thT := fun i h => (by cases h)
  hotT := fun _ h => absurd rfl h
  fns := f.fns
  glo := f.glo
  blt := f.blt
  xcn := fun h => (by cases h)
  exq := fun h => (by cases h)
/-- all that the rules of a comprehension ask -/
structure CompOk (C : Calls) (g : Glos) (w : WS) (n : Nat) (EX : EXT) (W : WX) (X : Cx) (e : Ex) (elt tg iter : Expr) (ifs : List Expr) (scope : Scope) : Prop where
  ex : ∃ (wi : TI) (gg : TG) (tt : TT) (te : TE) (own : List (Str × Nat)), PI X tg iter wi ∧ BlkOk X.N X.env.scope scope own ∧
    (∀ (s : Shared) (H : Hp) (Ca : Addr) (cl : List (Str × Addr)) (fp : List Addr), PG (X.blk s H scope (compEnvC scope cl Ca X.env) fp) tg gg) ∧
    (∀ (s : Shared) (H : Hp) (Ca : Addr) (cl : List (Str × Addr)) (fp : List Addr), PTs (X.blk s H scope (compEnvC scope cl Ca X.env) fp) ifs tt) ∧
    (∀ (s : Shared) (H : Hp) (Ca : Addr) (cl : List (Str × Addr)) (fp : List Addr), PE (X.blk s H scope (compEnvC scope cl Ca X.env) fp) elt te) ∧
    (∀ x, foldedSetIterable iter X.env x = pure x) ∧ ∀ σ H Q, tO C g w n EX W X e σ H Q → tLc wi gg tt te (own.map (·.2)) σ H Q
theorem CompOk.pe (f : XF C g w n EX m W X) (hh : m.hot = false) {e : Ex} {elt tg iter : Expr} {ifs : List Expr} {scope : Scope} {pos : Pos} (h : CompOk C g w n EX W X e elt tg iter ifs scope) : PE X (.ListComp elt [⟨tg, iter, ifs, 0⟩] scope pos) (tO C g w n EX W X e) := by
  obtain ⟨wi, gg, tt, te, own, h1, h2, h3, h4, h5, h6, h7⟩ := h.ex
  exact PE.imp (pe_lc (f.calm hh) (by rw [f.hN]; exact f.nd) h1 h2 h3 h4 h5 h6) h7
end
end Pf
/-! Pf, part D2: dict displays. -/
namespace Pf
open PySem PySem.Spec PyProof.Rows L2
section
variable {K : KX} {F F' G H H' : Hp} {ρ ρ' : List Addr} {σ : L2.St} {env env' : Env} {S S' : Store}
inductive RepPs (K : KX) (F : Hp) (ρ : List Addr) : List (V × V) → List (D × D) → Prop
  | nil : RepPs K F ρ [] []
  | cons {x y : V} {r : List (V × V)} {d e : D} {ds : List (D × D)} (hk : Rep K F ρ x d) (h : Rep K F ρ y e) (t : RepPs K F ρ r ds) : RepPs K F ρ ((x, y) :: r) ((d, e) :: ds)
theorem keyV {x : V} {d : D} (h : Rep K F ρ x d) (k : keyD d = true) : ∃ z : Key, x = kV z := by
  cases h with
  | int i => exact ⟨.inl i, rfl⟩
  | str h => exact ⟨.inr _, rfl⟩
  | _ => cases k
theorem rep_str {x : Str} {d : D} : ∀ {v : V}, Rep K F ρ v d → v = .str x → d = .str x.cps.toList
  | _, .str (s := s) _, e => by
    have : txt s = x := V.str.inj e
    rw [← this, txt_list]
  | _, .non, e => by cases e
  | _, .bl _, e => by cases e
  | _, .int _, e => by cases e
  | _, .lst _ _ _, e => by cases e
  | _, .tup _ _ _, e => by cases e
  | _, .scr _ _, e => by cases e
  | _, .loc _, e => by cases e
  | _, .dic _ _ _, e => by cases e
  | _, .exo0 _ _, e => by cases e
  | _, .exo _ _ _ _, e => by cases e
theorem keyEq {z : Key} {d e : D} (h : Rep K F ρ (kV z) d) (h' : Rep K F ρ (kV z) e) : d = e := by
  cases z with
  | inl i => cases h; cases h'; rfl
  | inr x => rw [rep_str h rfl, rep_str h' rfl]
theorem key_eqb {d : D} (k : keyD d = true) : d.eqb d = true := by
  cases d <;> first | (cases k; done) | simp [D.eqb]
theorem RepPs.keys : ∀ {ps : List (V × V)} {ds : List (D × D)}, RepPs K F ρ ps ds → keysOk ds = true → ∃ kvs : List (Key × V), ps = kvs.map (fun kv => (kV kv.1, kv.2)) ∧ RepKs K F ρ kvs ds
  | _, _, .nil, _ => ⟨[], rfl, .nil⟩
  | _, _, .cons (d := d) (ds := ds) hk h t, ok => by
    have ok : (keyD d && ds.all (fun p => !(d.eqb p.1)) && keysOk ds) = true := ok
    simp only [Bool.and_eq_true] at ok
    obtain ⟨kvs, rfl, r⟩ := RepPs.keys t ok.2
    obtain ⟨z, rfl⟩ := keyV hk ok.1.1
    exact ⟨(z, _) :: kvs, rfl, .cons hk h r⟩
theorem RepKs.notIn {z : Key} {d : D} (hk : Rep K F ρ (kV z) d) (hd : keyD d = true) : ∀ {kvs : List (Key × V)} {ds : List (D × D)}, RepKs K F ρ kvs ds → ds.all (fun p => !(d.eqb p.1)) = true → ∀ q ∈ kvs, q.1 ≠ z
  | _, _, .nil, _, q, h => by cases h
  | _, _, .cons (k := k) (d := d1) hk1 _ t, ok, q, h => by
    simp only [List.all_cons, Bool.and_eq_true, Bool.not_eq_true'] at ok
    rcases List.mem_cons.mp h with rfl | h
    · intro e
      have e : k = z := e
      subst e
      have := keyEq hk hk1
      subst this
      rw [key_eqb hd] at ok; cases ok.1
    · exact RepKs.notIn hk hd t ok.2 q h
theorem putK_new {acc : List (Key × V)} {k : Key} {v : V} (h : ∀ q ∈ acc, q.1 ≠ k) : putK acc k v = acc ++ [(k, v)] := by
  unfold putK
  rw [if_neg]
  intro z
  obtain ⟨q, h1, h2⟩ := List.any_eq_true.mp z
  exact h q h1 (of_decide_eq_true h2)
theorem merge_new : ∀ {kvs : List (Key × V)} {ds : List (D × D)} {acc : List (Key × V)}, RepKs K F ρ kvs ds → keysOk ds = true → (∀ q ∈ acc, ∀ r ∈ kvs, q.1 ≠ r.1) → mergeK acc kvs = acc ++ kvs
  | _, _, acc, .nil, _, _ => by simp [mergeK]
  | _, _, acc, .cons (k := k) (v := v) (r := r) (d := d) (ds := ds) hk h t, ok, ha => by
    have ok : (keyD d && ds.all (fun p => !(d.eqb p.1)) && keysOk ds) = true := ok
    simp only [Bool.and_eq_true] at ok
    have e : mergeK acc ((k, v) :: r) = mergeK (putK acc k v) r := rfl
    rw [e, putK_new fun q hq => ha q hq _ List.mem_cons_self, merge_new t ok.2 fun q hq p hp => ?_, List.append_assoc]
    · rfl
    · rcases List.mem_append.mp hq with hq | hq
      · exact ha q hq p (List.mem_cons_of_mem _ hp)
      · have : q = (k, v) := by simpa using hq
        subst this
        exact fun z => RepKs.notIn hk ok.1.1 t ok.1.2 p hp z.symm
theorem RepKs.length : ∀ {kvs : List (Key × V)} {ds : List (D × D)}, RepKs K F ρ kvs ds → kvs.length = ds.length
  | _, _, .nil => rfl
  | _, _, .cons _ _ t => by rw [List.length_cons, List.length_cons, RepKs.length t]
end
section
variable {C : Calls} {g : Glos} {w : WS} {n : Nat} {EX : EXT} {m : MC} {W : WX} {X : Cx}
def trsOf (C : Calls) (g : Glos) (w : WS) (n : Nat) (EX : EXT) (W : WX) (X : Cx) : List Ex → List (TE × TE)
  | k :: v :: r => (tO C g w n EX W X k, tO C g w n EX W X v) :: trsOf C g w n EX W X r
  | _ => []
theorem pairD_len : ∀ {ds : List D} {ks : List (D × D)}, pairD ds = some ks → ds.length = 2 * ks.length
  | [], _, h => by cases h; rfl
  | [_], _, h => by cases h
  | _ :: _ :: r, ks, h => by
    obtain ⟨ks', h1, rfl⟩ := map_some (show (pairD r).map _ = some ks from h)
    have := pairD_len h1
    simp only [List.length_cons]; omega
theorem bindOk {α β : Type} {r : R α} {f : α → Env → Store → R β} {b : β} {env : Env} {S : Store} (h : r.bind f = .ok b env S) : ∃ a e1 S1, r = .ok a e1 S1 ∧ f a e1 S1 = .ok b env S := bind_ok h
theorem pairs_run {σ : L2.St} {envF : Env} {SF : Store} {G : Hp} : ∀ (es : List Ex) {ds : List D} {kds : List (D × D)} {F : Hp} {ρ : List Addr} {env : Env} {S : Store} {H : Hp} {Q : List (V × V) → Hp → Prop},
    evDs C g es env S = .ok ds envF SF → pairD ds = some kds → Sim (kx X EX) F ρ G env S σ H →
    (∀ F' ρ' H' ps, Le F F' → ρ <+: ρ' → Sim (kx X EX) F' ρ' G envF SF σ H' → RepPs (kx X EX) F' ρ' ps kds → Q ps H') → tPairs (trsOf C g w n EX W X es) σ H Q
  | [], ds, kds, F, ρ, env, S, H, Q, e, ek, s, q => by
    cases e
    cases ek
    exact q F ρ H [] Le.refl prefix_refl s .nil
  | [k], ds, kds, F, ρ, env, S, H, Q, e, ek, s, q => by
    have hl := evDs_len [k] env S e
    have := pairD_len ek
    simp only [List.length_cons, List.length_nil] at hl
    omega
  | k :: v :: r, ds, kds, F, ρ, env, S, H, Q, e, ek, s, q => by
    have e : ((evO C g k env S).fz.bind fun d env S => ((evO C g v env S).fz.bind fun d env S => (evDs C g r env S).bind fun ds env S => .ok (d :: ds) env S).bind fun ds env S => .ok (d :: ds) env S) = .ok ds envF SF := e
    obtain ⟨d1, e1, S1, z1, e⟩ := bindOk e
    obtain ⟨ds2, e2, S2, z2, e⟩ := bindOk e
    cases e
    obtain ⟨d3, e3, S3, z3, z2⟩ := bindOk z2
    obtain ⟨ds4, e4, S4, z4, z2⟩ := bindOk z2
    cases z2
    obtain ⟨kds', ek', rfl⟩ := map_some (show (pairD ds4).map ((d1, d3) :: ·) = some kds from ek)
    refine ⟨F, ρ, G, env, S, s, At.fz ?_⟩
    show At _ _ _ _ _ _ _ _ _ (evO C g k env S).fz
    rw [z1]
    intro F1 ρ1 H1 x le1 pre1 s1 r1
    refine ⟨F1, ρ1, G, e1, S1, s1, At.fz ?_⟩
    show At _ _ _ _ _ _ _ _ _ (evO C g v e1 S1).fz
    rw [z3]
    intro F2 ρ2 H2 y le2 pre2 s2 r2
    exact pairs_run r z4 ek' s2 fun F' ρ' H' ps le pre s' rp => q F' ρ' H' _ ((le1.trans le2).trans le) (prefix_trans (prefix_trans pre1 pre2) pre) s' (.cons (Rep.mono (le2.trans le) (prefix_trans pre2 pre) r1) (Rep.mono le pre r2) rp)
theorem s_dic {es : List Ex} {ks : List (Option Expr)} {vs : List Expr} {pos : Pos} (h : PPs X pos ks vs (trsOf C g w n EX W X es)) (hall : ks.all (·.isSome) = true) (hl : ks.length = vs.length) (h2 : es.length = 2 * ks.length) (h0 : ks ≠ []) (h15 : ks.length ≤ 15) :
    PE X (.Dict ks vs pos) (tO C g w n EX W X (.dic es)) := by
  refine PE.imp (pe_disp h hall hl h0 h15) fun σ H Q ⟨F, ρ, G, env, S, s, a⟩ => ?_
  have a : At (kx X EX) W EX G σ (POut (kx X EX) G σ) Q F ρ ((evDs C g es env S).nox.bind fun ds env S => match pairD ds with
    | some kvs => if keysOk kvs then .ok (.new (.dic kvs)) env S else .bad
    | none => .bad) := a
  cases et : (evDs C g es env S).nox with
  | bad => rw [et] at a; exact a.elim
  | exc x e1 s1 =>
    exfalso
    cases z : evDs C g es env S <;> (rw [z] at et; cases et)
  | ok ds envF SF =>
    rw [et] at a
    have et := nox_ok et
    cases ek : pairD ds with
    | none => rw [R.bind_ok, ek] at a; exact (show False from a).elim
    | some kds =>
      rw [R.bind_ok, ek] at a
      have a : At (kx X EX) W EX G σ (POut (kx X EX) G σ) Q F ρ (if keysOk kds then .ok (.new (.dic kds)) envF SF else .bad) := a
      cases ok : keysOk kds with
      | false => rw [ok] at a; exact (show False from a).elim
      | true =>
        rw [ok, if_pos rfl] at a
        intro p hp
        have gD := s.gnone hp
        refine pairs_run es et ek (s.ghostNew (o := .dK []) hp trivial) fun F1 ρ1 H1 ps le1 pre1 s1 rp => ?_
        obtain ⟨kvs, rfl, rk⟩ := rp.keys ok
        obtain ⟨g1, g2, g3, g4⟩ := s1.ghostAt
        have em : mergeK [] kvs = kvs := by rw [merge_new rk ok fun q hq => by cases hq]; rfl
        have l1 := pairD_len ek
        have l2 := evDs_len es env S et
        have l3 := rk.length
        refine ⟨g1, kvs, rfl, by omega, ?_⟩
        rw [em]
        exact (a.mono le1 pre1).dic ((s1.ghost (o' := .dK kvs) gD s.flo.hG trivial trivial).unghost gD s.flo.hG) rk (by omega) upd_same g2 gD g3 g4
end
end Pf
/-! Pf, part T: functions that are handed on; defs called where an exception is handled. -/
namespace Pf
open PySem PySem.Spec PyProof.Rows L2 L2H
theorem not1 {a : Bool} (h : (!a) = true) : a = false := by simpa using h
section
variable {C : Calls} {g : Glos} {w : WS} {n : Nat} {EX : EXT}
theorem name_of {m : MC} {W : WX} {X : Cx} (f : XF C g w n EX m W X) {i : Nat} {x : Expr} (h : mName m i x = true) : PE X x (tVar i) ∧ isTest x = false := by
  cases x with
  | Name z p =>
    have h : (decide (m.N[i]? = some z) && visB m.sc z && okN z) = true := h
    obtain ⟨h1, h2⟩ := and2 h
    obtain ⟨h3, h4⟩ := and2 h1
    obtain ⟨d1, d2⟩ := dbg_of h2
    exact ⟨pe_var (by rw [f.hN]; exact of_decide_eq_true h3) (vis_of f h4) d1 d2, rfl⟩
  | _ => cases h

/-- behind a call within a frame -/
theorem Un.within {fs : List Addr} {L : Addr} {H H1 H2 : Hp} {h h1 h2 : Heap} (a : Un fs [] H H1 h h1) (b : Un (L :: fs) [] H1 H2 h1 h2) (hL : h.objs.size ≤ L) : Un fs [] H H2 h h2 where
  keep := fun c ob q nn hc hx => b.keep c ob (a.keep c ob q nn hc hx) (a.free c ob q nn hx) (fun z => (List.mem_cons.mp z).elim (fun e => by subst e; exact absurd (Heap.lt_size q) (Nat.not_lt.mpr hL)) hc) hx
  slot := fun c ob q nn hc hx => by
    obtain ⟨sl, e1⟩ := a.slot c ob q nn hc hx
    obtain ⟨sl', e2⟩ := b.slot c _ e1 (a.free c ob q nn hx) (List.mem_cons_of_mem _ hc) hx
    exact ⟨sl', e2⟩
  free := fun c ob q nn hx => by
    obtain ⟨o', e1⟩ := a.there c ob q hx
    exact b.free c o' e1 (a.free c ob q nn hx) hx
  there := fun c ob q hx => by
    obtain ⟨o', e1⟩ := a.there c ob q hx
    exact b.there c o' e1 hx
  tups := fun c xs q => b.tups c xs (a.tups c xs q)
  frzs := fun c ob xs q => b.frzs c ob xs (a.frzs c ob xs q)
  tbls := fun c ps q => by
    obtain ⟨m1, e1⟩ := a.tbls c ps q
    obtain ⟨m2, e2⟩ := b.tbls c _ e1
    exact ⟨m1 ++ m2, by rw [e2, Array.append_assoc]⟩
section
variable {m : MC} {W : WX} {X : Cx}
/-- what we were handed, as it stands at a later state of ours -/
theorem ThOk.later {pins : List (Addr × Obj)} {σ : L2.St} {H : Hp} {s : Shared} {k : Nat} {lam : Addr} {T : Store → RC} (t : ThOk X.prog X.w X.K X.mg X.base EX X.s_0 X.H_0 X.fs k lam T) (hex : X.ex = []) (I : Inv X pins σ H s) : ThOk X.prog X.w X.K X.mg X.base EX s H (frs X.stack) k lam T := by
  have u : Un X.fs [] X.H_0 H X.s_0.heap s.heap := by have := I.base; rw [hex] at this; exact this
  obtain ⟨o1, o2, o, o3, o4⟩ := t.obj
  refine ⟨t.th, ⟨u.free lam o o3 o1 (by simp), fun z => ?_, o, u.keep lam o o3 o1 o2 (by simp), o4⟩, fun A outer sZ HZ Q E F ρ G S hd hr e0 un sim a => t.act A outer sZ HZ Q E F ρ G S hd hr e0 ?_ sim a⟩
  · rcases List.mem_cons.mp (I.stkSub lam z) with e | e
    · have := Heap.lt_size o3
      have h2 := I.ok.above
      rw [← e] at h2
      exact absurd this (Nat.not_lt.mpr h2)
    · exact o2 e
  · exact Un.within u (un.mono I.stkSub fun b z => z) I.ok.above
theorem sim_tocall (hx : EX.xo = none) {F G H : Hp} {ρ : List Addr} {σ : L2.St} {env : Env} {S : Store} (s : Sim (kx X EX) F ρ G env S σ H) : Sim ⟨X.K, none, EX.fl⟩ F ρ (Own G env σ H) [] S [] H := by
  have := s.toCall
  rw [show kx X EX = ⟨X.K, none, EX.fl⟩ by unfold kx; rw [hx]] at this
  exact this
theorem ex_none (hx : EX.xo = none) : EX = ⟨EX.ex, none, EX.fl⟩ := by cases EX; cases hx; rfl
/-- call() -/
theorem s_thk (f : XF C g w n EX m W X) {i : Nat} {z : Str} {p pp : Pos} (hi : m.th = some i) (hm : mName m i (.Name z p) = true) : PE X (.Call (.Name z p) [] [] pp) (tO C g w n EX W X (.thk i)) := by
  refine ⟨fun pins s σ H Q I h => ?_⟩
  obtain ⟨F, ρ, G, env, S, sm, a⟩ := h
  have a : At (kx X EX) W EX G σ (POut (kx X EX) G σ) Q F ρ (if isThk env i then (C.th S).r env else .bad) := a
  cases q : env[i]? with
  | none => rw [show isThk env i = false by unfold isThk; rw [q]] at a; exact a.elim
  | some sl =>
    cases sl with
    | thk =>
      rw [show isThk env i = true by unfold isThk; rw [q], if_pos rfl] at a
      obtain ⟨lam, e1, e2⟩ := sm.slots i _ q
      obtain ⟨lam', k, T, hr, hd, hex, hxo, _⟩ := f.thT i hi
      have e3 := T.th
      rw [show (kx X EX).fl.th = EX.fl.th from rfl, e3] at e1
      cases e1
      refine wpAny_Call_Name_kw (thn ((name_of f hm).1.run pins s σ H (fun v H1 => v = .ref lam ∧ H1 = H) I ⟨.ref lam, e2, rfl, rfl⟩) fun u s1 ⟨v, H1, I1, r1, q1⟩ => ?_)
      obtain ⟨ev, eH⟩ := q1
      subst ev
      rw [eH] at I1
      obtain rfl : u = Value.ref lam := r1
      have T1 := T.later hex I1
      obtain ⟨_, _, o, o3, o4⟩ := T1.obj
      refine PySem.W.callWith_F0 (o4 _ o3) ?_
      have at2 := at_call sm a
      rw [show kx X EX = ⟨X.K, none, EX.fl⟩ by unfold kx; rw [hxo]] at at2
      refine wpAny_call (codeAny_mono (T1.act X.A X.stack s1 H Q (WE W σ) F ρ _ S hd hr I1.env0 Un.refl (sim_tocall hxo sm) at2) fun r s' hq => ?_)
      cases r with
      | error e => exact L2N.passAt f.tk σ pins H s1 e s' I1 hq
      | ok fl =>
        cases fl with
        | ret u => exact I1.after hq
        | next => exact False.elim hq
        | brk => exact False.elim hq
        | cont => exact False.elim hq
    | _ => rw [show isThk env i = false by unfold isThk; rw [q]] at a; exact a.elim

/-! ### arguments, a last one behind them -/
def PThen (X : Cx) (xs : List Expr) (t : TA) : Prop := ∀ (l : Expr) (hl : isStar l = false) (pos : Pos) (pins : List (Addr × Obj)) (s : Shared) (σ : L2.St) (H : Hp) (P : List Value → Shared → Prop), Inv X pins σ H s →
  t σ H (fun vs H1 => ∀ us s1, Inv X pins σ H1 s1 → Vals vs us → wpAny (model X.prog X.w) X.A (eval l X.env) (fun v s2 => P (us ++ [v]) s2) X.xe s1) →
  wpAny (model X.prog X.w) X.A (spliced (backTo pos (starEach (xs ++ [l]) X.env))) P X.xe s
theorem pthen_nil : PThen X [] (tDs C g w n EX W X []) := by
  intro l hl pos pins s σ H P I h
  obtain ⟨F, ρ, G, env, S, sm, a⟩ := h
  have a : At (kx X EX) W EX G σ (PDs (kx X EX) G σ) _ F ρ (.ok [] env S) := a
  have q := a.now sm Reps.nil
  rw [List.nil_append, star_cons hl]
  refine Calls.spliced_cons (thn (q [] s I .nil) fun v s1 h1 => ?_)
  exact Calls.spliced_nil h1
theorem pthen_cons {e : Ex} {es : List Ex} {x : Expr} {xs : List Expr} (hx : isStar x = false) (h1 : PE X x (tO C g w n EX W X e)) (h2 : PThen X xs (tDs C g w n EX W X es)) : PThen X (x :: xs) (tDs C g w n EX W X (e :: es)) := by
  intro l hl pos pins s σ H P I ⟨F, ρ, G, env, S, sm, a⟩
  have q : tO C g w n EX W X e σ H fun v H1 => tDs C g w n EX W X es σ H1 fun vs H2 => ∀ us s1, Inv X pins σ H2 s1 → Vals (v :: vs) us → wpAny (model X.prog X.w) X.A (eval l X.env) (fun v s2 => P (us ++ [v]) s2) X.xe s1 := by
    refine ⟨F, ρ, G, env, S, sm, At.fz (At.imp (At.bind (P1 := PD (kx X EX) G σ) a) ?_)⟩
    intro v H1 ⟨a, F1, ρ1, env1, S1, le1, pre1, sim1, ra, at1⟩
    refine ⟨F1, ρ1, G, env1, S1, sim1, At.imp (At.bind (P1 := PDs (kx X EX) G σ) at1) ?_⟩
    intro vs H2 ⟨as, F2, ρ2, env2, S2, le2, pre2, sim2, ras, at2⟩
    exact at2.now sim2 (Reps.cons (Rep.mono le2 pre2 ra) ras)
  rw [List.cons_append, star_cons hx]
  refine Calls.spliced_cons (thn (h1.run pins s σ H _ I q) fun u s1 ⟨v, H1, I1, r1, q1⟩ => ?_)
  exact h2 l hl pos pins s1 σ H1 (fun us s2 => P (u :: us) s2) I1 (tR_imp q1 fun vs H2 q2 us s2 I2 r2 => q2 (u :: us) s2 I2 (.cons r1 r2))
theorem snoc_cons {ys : List Expr} {l : Expr} (hn : noStars ys = true) (hl : isStar l = false) : ∃ e rest, ys ++ [l] = e :: rest ∧ isStar e = false ∧ noStars rest = true := by
  cases ys with
  | nil => exact ⟨l, [], rfl, hl, rfl⟩
  | cons y ys =>
    obtain ⟨n1, n2⟩ := noStars_cons hn
    refine ⟨y, ys ++ [l], rfl, n1, ?_⟩
    unfold noStars at n2 ⊢
    rw [List.all_append, n2]
    simp [hl]
/-- the call itself, its arguments at hand -/
theorem run_fnT {Q : VK} {pins : List (Addr × Obj)} {σ : L2.St} {H : Hp} {s : Shared} {r j k : Nat} {a lam : Addr} {fdt : FuncData} {ps : List Str} {c : List D → (Store → RC) → Store → RC} {T : Store → RC} {fl : FL} {F G : Hp} {ρ : List Addr} {S : Store} {ds : List D} {us : List Value} {vs : List V} {ex : Hp → List Addr → Hp → Value → Option Addr → Exn → Prop}
    (tk : L2N.Takes X W) (FT : FnT X.prog X.w X.K X.mg X.base ex fl.tb r j a fdt ps c) (hr : Room r X.A) (hk : Room (k + 1 + j) X.A) (hb : Binds X.K fdt ps []) (I : Inv X pins σ H s) (rv : Vals vs us) (hl : vs.length + 1 = ps.length) (hth : fl.th = some lam)
    (t : ThOk X.prog X.w X.K X.mg X.base ⟨ex, none, fl⟩ s H (frs X.stack) k lam T) (sim : Sim ⟨X.K, none, fl⟩ F ρ G [] S [] H) (rd : Reps ⟨X.K, none, fl⟩ F ρ vs ds) (at1 : AtC ⟨X.K, none, fl⟩ ⟨ex, none, fl⟩ G Q (WE W σ) F ρ (c ds T S)) :
    wpAny (model X.prog X.w) X.A (call (.ref a) (us ++ [.ref lam])) (EP X pins σ Q) X.xe s := by
  have hlen : (us ++ [Value.ref lam]).length = ps.length := by rw [List.length_append, ← rv.length]; exact hl
  have b := hb s (us ++ [.ref lam]) I.kIn (by rw [List.append_nil]; exact hlen)
  rw [List.append_nil] at b
  refine wpAny_call (codeAny_mono (FT.run X.A X.stack s H ⟨us ++ [.ref lam], []⟩ us vs lam T k fl F ρ G S ds Q (WE W σ) hr hk I.env0 b rv hl rfl hth t sim rd at1) fun r s' hq => ?_)
  cases r with
  | error e => exact L2N.passAt tk σ pins H s e s' I hq
  | ok fl =>
    cases fl with
    | ret u => exact I.after hq
    | next => exact False.elim hq
    | brk => exact False.elim hq
    | cont => exact False.elim hq
/-- f(.., call) -/
theorem s_callP (f : XF C g w n EX m W X) {fn : String} {as : List Ex} {i : Nat} {z : Str} {ys : List Expr} {l : Expr} {p pp : Pos} (hz : z = Str.ofString fn) (hg : glB m.sc z = true) (hd : okN z = true) (hi : m.th = some i) (har : m.arT fn = some (as.length + 1)) (hm : mName m i l = true) (hl : isStar l = false)
    (hn : noStars ys = true) (hlen : as.length = ys.length) (h : PThen X ys (tDs C g w n EX W X as)) : PE X (.Call (.Name z pp) (ys ++ [l]) [] p) (tO C g w n EX W X (.callP fn as i)) := by
  have gl := gl_of f hg
  subst hz
  obtain ⟨lam, k, T, _, _, hex, hxo, hf⟩ := f.thT i hi
  obtain ⟨c, r, j, hc, ⟨a, fdt, ps, h1, h2, h3, h4, h5⟩, hr, hk⟩ := hf fn _ har
  refine ⟨fun pins s σ H Q I ⟨F, ρ, G, env, S, sm, at0⟩ => ?_⟩
  have at0 : At (kx X EX) W EX G σ (POut (kx X EX) G σ) Q F ρ ((evDs C g as env S).bind fun ds env S => if isThk env i then (C.ps fn ds S).r env else .bad) := at0
  refine wpAny_Call_Name_kw (ld_glob I gl h1 ?_ (dbg_of hd).1)
  obtain ⟨e0, rest, ee, n1, n2⟩ := snoc_cons hn hl
  rw [ee]
  refine PySem.W.callWith_K (h₀ := X.base) I.ok.mod.kin h2 ?_ (star_cons n1) (back_any n2)
  rw [← ee]
  refine h l hl p pins s σ H _ I ⟨F, ρ, G, env, S, sm, ?_⟩
  cases zq : evDs C g as env S with
  | exc _ _ _ => rw [zq] at at0; exact at0
  | bad => rw [zq] at at0; exact at0
  | ok ds env1 S1 =>
    rw [zq] at at0
    intro F1 ρ1 H1 vs le1 pre1 sim1 rd us s1 I1 rv
    have at0 : At (kx X EX) W EX G σ (POut (kx X EX) G σ) Q F ρ (if isThk env1 i then (C.ps fn ds S1).r env1 else .bad) := at0
    cases q : env1[i]? with
    | none => rw [show isThk env1 i = false by unfold isThk; rw [q]] at at0; exact at0.elim
    | some sl =>
      cases sl with
      | thk =>
        rw [show isThk env1 i = true by unfold isThk; rw [q], if_pos rfl] at at0
        obtain ⟨lam2, e1, e2⟩ := sim1.slots i _ q
        have e3 := T.th
        rw [show (kx X EX).fl.th = EX.fl.th from rfl, e3] at e1
        have e1 := Option.some.inj e1
        rw [← e1] at e2
        refine thn ((name_of f hm).1.run pins s1 σ H1 (fun v H2 => v = .ref lam ∧ H2 = H1) I1 ⟨.ref lam, e2, rfl, rfl⟩) fun u s2 ⟨v, H2, I2, r1, ev, eH⟩ => ?_
        subst ev
        rw [eH] at I2
        obtain rfl : u = Value.ref lam := r1
        refine ⟨I2.kIn, ?_⟩
        have at2 := at_call sim1 (at0.mono le1 pre1)
        rw [hc] at at2
        have hkx : kx X EX = ⟨X.K, none, EX.fl⟩ := by unfold kx; rw [hxo]
        have hE := ex_none hxo
        rw [hkx] at at2 rd
        have T2 := T.later hex I2
        rw [hE] at T2
        have at3 : AtC ⟨X.K, none, EX.fl⟩ ⟨EX.ex, none, EX.fl⟩ (Own G env1 σ H1) Q (WE W σ) F1 ρ1 (c ds C.th S1) := by rw [hE] at at2; exact at2
        exact run_fnT f.tk h5 hr hk h3 I2 rv (by rw [Reps.length rd, evDs_len as env S zq]; exact h4.symm ▸ rfl) T.th T2 (sim_tocall hxo sim1) rd at3
      | _ => rw [show isThk env1 i = false by unfold isThk; rw [q]] at at0; exact at0.elim
/-! ### lambdas -/
/-- the context of a lambda's body -/
def lamCxN (X : Cx) (A : Around) (outer : List PySem.Env) (s : Shared) (H : Hp) (E : L2.XK) (scope : Scope) (f c' : Addr) : Cx :=
  (LamX.lamCx X A outer s H E scope f c').tr [] fun e s' => wpAny (model X.prog X.w) (A.deeper (LamX.lamEnv X scope s.heap.objs.size f c')) (leaving (LamX.lamEnv X scope s.heap.objs.size f c') e) (fun _ s'' => L2N.CX X.prog X.w outer H s E e s'') (fun e' s'' => L2N.CX X.prog X.w outer H s E e' s'') s'
theorem XF.lam (f : XF C g w n EX m W X) (hh : m.hot = false) {A : Around} {outer : List PySem.Env} {s : Shared} {H : Hp} {E : L2.XK} {scope : Scope} {fa c' : Addr} (hr : Room n (A.deeper (LamX.lamEnv X scope s.heap.objs.size fa c'))) : XF C g w n EX (lamMC m scope) (fun cls d _ H => E cls d H) (lamCxN X A outer s H E scope fa c') where
  hN := f.hN
  nd := f.nd
  hsc := rfl
  hfn := rfl
  calm := fun _ => rfl
  cool := cool_calm rfl
  units := by have := hr.un; show (A.deeper _).units + 65 < cLine; omega
  room := fun _ => hr
  tk := L2N.takes_of rfl rfl rfl rfl
  fns := fun _ => f.fns hh
  glo := f.glo
  blt := f.blt
  lamT := fun h => (by cases h)
  thT := fun i h => (by cases h)
  hotT := fun h => (by cases h)
  xcn := fun h => (by cases h)
  exq := fun h => (by cases h)
theorem thin_at {env : Env} {i : Nat} {sl : Sl} (h : (env.map Sl.thin)[i]? = some sl) : sl = .no ∨ ∃ d, sl = .dat d ∧ env[i]? = some (.dat d) := by
  rw [List.getElem?_map] at h
  cases q : env[i]? with
  | none => rw [q] at h; cases h
  | some a =>
    rw [q] at h
    cases h
    cases a with
    | dat d => exact .inr ⟨d, rfl, rfl⟩
    | _ => exact .inl rfl
/-- .. the maker's names, as a later state has them -/
theorem Sim.thin {K K' : KX} (hK : K'.K = K.K) (hx : K'.xo = K.xo) {F F0 G H H0 : Hp} {ρ ρ0 : List Addr} {G0 : Hp} {σ : L2.St} {env : Env} {S S0 : Store} (s0 : Sim K F0 ρ0 G0 env S0 σ H0) (hF : Le F0 F) (hρ : ρ0 <+: ρ) (s : Sim K' F ρ G [] S [] H) (fl : Flo K.fl F ρ G H) : Sim K F ρ G (env.map Sl.thin) S σ H := by
  refine ⟨s.fh, s.gh, s.fg, s.rg, s.rlen, s.rnd, s.live, (s.re hK hx fl).cells, fun i sl e => ?_, fun i j a ⟨⟨ds, h1⟩, _⟩ => ?_, by rw [List.length_map]; exact s0.elen, fl⟩
  · rcases thin_at e with rfl | ⟨d, rfl, q⟩
    · trivial
    · obtain ⟨x, e1, r⟩ := s0.slots i _ q
      exact ⟨x, e1, r.mono hF hρ⟩
  · rcases thin_at h1 with z | ⟨d, z, _⟩ <;> cases z
/-- a new code object is frozen -/
theorem Sim.code {K : KX} {F G H : Hp} {ρ : List Addr} {S : Store} (s : Sim K F ρ G [] S [] H) {c : Addr} {q : Str} (e : H c = some (LamX.CodeO c q)) : Sim K (upd F c (LamX.CodeO c q)) ρ G [] S [] H ∧ Le F (upd F c (LamX.CodeO c q)) := by
  have le : Le F (upd F c (LamX.CodeO c q)) := fun a o h => by
    by_cases z : a = c
    · subst z
      rw [upd_same]
      have := s.fh a o h
      rw [e] at this
      exact this
    · rw [upd_ne z]; exact h
  refine ⟨⟨fun a o h => ?_, s.gh, fun a o h => ?_, s.rg, s.rlen, s.rnd, s.live, fun n a cl h1 h2 => ?_, fun i sl h => by simp at h, fun i j a ⟨⟨_, h⟩, _⟩ => by simp at h, rfl, s.flo.mono le prefix_refl (fun _ _ e _ => e) (nt_upd s.flo.fc fun _ z => by unfold LamX.CodeO at z; cases z)⟩, le⟩
  · by_cases z : a = c
    · subst z; rw [upd_same] at h; cases h; exact e
    · rw [upd_ne z] at h; exact s.fh a o h
  · by_cases z : a = c
    · subst z
      have g1 := s.flo.gc a o h
      have g2 := s.gh a o h
      rw [e] at g2; cases g2; exact g1.elim
    · rw [upd_ne z]; exact s.fg a o h
  · refine (s.cells n a cl h1 h2).mono le prefix_refl fun xs q1 q2 _ => ⟨q1, ?_⟩
    rw [upd_ne (fun z => by subst z; rw [e] at q1; cases q1)]; exact q2
/-- a state's lists, whatever tables and code objects have come -/
theorem Sim.extN {K : KX} {F G H H' : Hp} {ρ : List Addr} {env : Env} {S : Store} {σ : L2.St} (s : Sim K F ρ G env S σ H) (h : LamX.ExtN H H') (tb : LamX.Tabs K.fl.tb H') : Sim K F ρ G env S σ H' := by
  refine ⟨fun a o e => h a o (s.fh a o e) (s.flo.fc a o e), fun a o e => h a o (s.gh a o e) fun ps z => ?_, s.fg, s.rg, s.rlen, s.rnd, fun a ha => let ⟨o, e, nt⟩ := s.live a ha; ⟨o, h a o e nt, nt⟩, fun n a c h1 h2 => (s.cells n a c h1 h2).mono Le.refl prefix_refl fun xs e q _ => ⟨h a _ e (fun ps z => by cases z), q⟩, fun i sl e => (s.slots i sl e).mono Le.refl prefix_refl fun ds a xs _ _ e q _ r => ⟨h a _ e (fun ps z => by cases z), q, r⟩, s.own, s.elen, ⟨s.flo.hF, s.flo.hρ, s.flo.hG, tb, s.flo.gc, s.flo.fc⟩⟩
  have := s.flo.gc a o e
  rw [z] at this; exact this
/-- the lambda's promise -/
theorem args_nil {ps : Arguments} (h : argsNil ps = true) : ps = ⟨[], [], none, [], [], none, []⟩ := by
  obtain ⟨a, b, c, d, e, f, g⟩ := ps
  unfold argsNil at h
  simp only [Bool.and_eq_true, List.isEmpty_iff, Option.isNone_iff_eq_none] at h
  obtain ⟨⟨⟨⟨⟨⟨rfl, rfl⟩, rfl⟩, rfl⟩, rfl⟩, rfl⟩, rfl⟩ := h
  rfl
theorem lam_ok (hxo : EX.xo = none) {pins : List (Addr × Obj)} {σ : L2.St} {H : Hp} {s : Shared} {F G : Hp} {ρ : List Addr} {env : Env} {S : Store} {scope : Scope} {params : Arguments} {body : Expr} {b : Ex} {fa c' : Addr} {pm ctv : Value}
    (I : Inv X pins σ H s) (L : LamX.LamS X.env.scope scope) (hf : s.heap.get? fa = some (PySem.W.kla_obj "<lambda>" (X.env.qual ++ "<lambda>") params body scope (cloFrom X.env.cells scope.names []) pm c' ctv)) (hfn : H fa = none) (hfr : fa ∉ frs X.stack) (hc : H c' = some (LamX.CodeO c' (X.env.qual ++ "<lambda>"))) (hp : argsNil params = true)
    (sm : Sim (kx X EX) F ρ G env S σ H)
    (hbody : ∀ (A : Around) (outer : List PySem.Env) (s : Shared) (H : Hp) (E : L2.XK), Room n (A.deeper (LamX.lamEnv X scope s.heap.objs.size fa c')) → PE (lamCxN X A outer s H E scope fa c') body (tO C g w n EX (fun cls d _ H => E cls d H) (lamCxN X A outer s H E scope fa c') b)) :
    ThOk X.prog X.w X.K X.mg X.base ⟨EX.ex, none, ⟨some fa, upd F c' (LamX.CodeO c' (X.env.qual ++ "<lambda>")), ρ, Own G env σ H, EX.fl.tb⟩⟩ s H (frs X.stack) n fa (fun S => (evO C g b (env.map Sl.thin) S).fz.rc) := by
  cases args_nil hp
  refine ⟨rfl, ⟨hfn, hfr, _, hf, fun h e => ⟨_, _, _, _, e⟩⟩, fun A outer sZ HZ Q E F1 ρ1 G1 S1 hd hr e0 un sim at1 => ?_⟩
  have kept := un.keep fa _ hf hfn hfr (by simp)
  have hcZ : HZ c' = some (LamX.CodeO c' (X.env.qual ++ "<lambda>")) := sim.fh c' _ (sim.flo.hF c' _ upd_same)
  obtain ⟨⟨oc, vs, t, q1, q2, q3⟩, _, _⟩ := e0.hok c' _ hcZ
  refine PySem.W.kla_callFunE hr.depth kept rfl L.co L.gen rfl ⟨c', oc, vs, t, rfl, q1, q2, q3⟩ (wpAny_pure (wpAny_newFunctionEnv (fun y hy => (L.own y hy).2) (fun y hy => absurd hy (by simp)) (fun h₁ hns hsb => ⟨?_, ?_⟩) L.kind))
  · exact (e0.mod.nolimit.keeps fun b o e => (e0.bs b o e).1).fresh _ hsb
  show codeAny _ _ (.expr body (LamX.lamEnv X scope sZ.heap.objs.size fa c')) _ _
  have kp : ∀ b o, sZ.heap.get? b = some o → h₁.get? b = some o := fun b o e => hsb.extBut b o (Nat.ne_of_lt (Heap.lt_size e)) (Heap.get?_push_of_some _ e)
  have J := (LamX.lam_start2 (E := E) (f := fa) (c' := c') (tk := sZ.toks + ([] : List (Str × Value)).length) I L e0 hd un hns kp).toTry (fun e s' => wpAny (model X.prog X.w) (A.deeper (LamX.lamEnv X scope sZ.heap.objs.size fa c')) (leaving (LamX.lamEnv X scope sZ.heap.objs.size fa c') e) (fun _ s'' => L2N.CX X.prog X.w outer HZ sZ E e s'') (fun e' s'' => L2N.CX X.prog X.w outer HZ sZ E e' s'') s')
  have leF : Le F F1 := Le.trans (Sim.code sm.nil hc).2 sim.flo.hF
  have fl1 : Flo EX.fl F1 ρ1 G1 HZ := ⟨sm.flo.hF.trans leF, prefix_trans sm.flo.hρ sim.flo.hρ, fun a o e => sim.flo.hG a o (by
    have g1 := sm.flo.hG a o e
    show Own G env σ H a = some o
    rw [Own.not fun ⟨i, z⟩ => by rw [(sm.ownF z).2.2.1] at g1; cases g1]; exact g1), sim.flo.tb, sim.flo.gc, sim.flo.fc⟩
  have simT : Sim (kx X EX) F1 ρ1 G1 (env.map Sl.thin) S1 σ HZ := Sim.thin (K := kx X EX) (K' := ⟨X.K, none, ⟨some fa, upd F c' (LamX.CodeO c' (X.env.qual ++ "<lambda>")), ρ, Own G env σ H, EX.fl.tb⟩⟩) rfl (show none = (kx X EX).xo from hxo.symm) sm leF sim.flo.hρ sim fl1
  refine PySem.W.kla_codeExpr (wpAny_mono ((hbody A outer sZ HZ E (hr.deeper _)).run [] _ σ HZ Q J ⟨F1, ρ1, G1, env.map Sl.thin, S1, simT, At.fz ?_⟩) (fun v s' hq => ?_) fun e s' hq => hq)
  · -- the run's answer to us is the answer to the caller
    have back : ∀ {F2 : Hp} {ρ2 : List Addr} {env2 : Env} {S2 : Store} {σ2 : L2.St} {H2 : Hp}, Le F1 F2 → ρ1 <+: ρ2 → Sim (kx X EX) F2 ρ2 G1 env2 S2 σ2 H2 → Sim ⟨X.K, none, ⟨some fa, upd F c' (LamX.CodeO c' (X.env.qual ++ "<lambda>")), ρ, Own G env σ H, EX.fl.tb⟩⟩ F2 ρ2 G1 [] S2 [] H2 := fun le pre s2 =>
      Sim.re (K := kx X EX) (K' := ⟨X.K, none, ⟨some fa, upd F c' (LamX.CodeO c' (X.env.qual ++ "<lambda>")), ρ, Own G env σ H, EX.fl.tb⟩⟩) rfl hxo s2.nil ⟨sim.flo.hF.trans le, prefix_trans sim.flo.hρ pre, sim.flo.hG, s2.flo.tb, s2.flo.gc, s2.flo.fc⟩
    cases zz : (evO C g b (env.map Sl.thin) S1).fz with
    | bad => rw [zz] at at1; exact at1
    | ok d env2 S2 =>
      rw [zz] at at1
      exact fun F2 ρ2 H2 v le pre s2 r => at1 F2 ρ2 H2 v le pre (back le pre s2) (Rep.cast (K := kx X EX) (K' := ⟨X.K, none, ⟨some fa, upd F c' (LamX.CodeO c' (X.env.qual ++ "<lambda>")), ρ, Own G env σ H, EX.fl.tb⟩⟩) rfl hxo r)
    | exc x env2 S2 =>
      rw [zz] at at1
      exact fun F2 ρ2 H2 cls d le pre s2 e => at1 F2 ρ2 H2 cls d le pre (back le pre s2) e
  · obtain ⟨w', H', J', rv, q⟩ := hq
    exact ⟨w', H', J'.os, J'.bare, J'.base, J'.hok, rv, q⟩
/-- f(.., lambda: ..) -/
theorem s_callT (f : XF C g w n EX m W X) (hlm : m.lm = true) {fn : String} {as : List Ex} {b : Ex} {z : Str} {ys : List Expr} {params : Arguments} {body : Expr} {scope : Scope} {lp p pp : Pos} (hz : z = Str.ofString fn) (hg : glB m.sc z = true) (hd : okN z = true) (har : m.arT fn = some (as.length + 1)) (hp : argsNil params = true) (hL : LamX.lamSB m.sc scope = true)
    (hn : noStars ys = true) (hlen : as.length = ys.length) (h : PThen X ys (tDs C g w n EX W X as))
    (hbody : ∀ (A : Around) (outer : List PySem.Env) (s : Shared) (H : Hp) (E : L2.XK) (fa c' : Addr), Room n (A.deeper (LamX.lamEnv X scope s.heap.objs.size fa c')) → PE (lamCxN X A outer s H E scope fa c') body (tO C g w n EX (fun cls d _ H => E cls d H) (lamCxN X A outer s H E scope fa c') b)) :
    PE X (.Call (.Name z pp) (ys ++ [.Lambda params body scope lp]) [] p) (tO C g w n EX W X (.callT fn as b)) := by
  have gl := gl_of f hg
  subst hz
  obtain ⟨hf, hr3, _, hxo, cc, P, TB, hcode, hmT, hu⟩ := f.lamT hlm
  obtain ⟨a, fdt, ps, h1, h2, h3, h4, h5⟩ := hf fn _ har
  have L : LamX.LamS X.env.scope scope := LamX.lamS_by (by rw [f.hsc]; exact hL)
  have hl : isStar (.Lambda params body scope lp) = false := rfl
  refine ⟨fun pins s σ H Q I ⟨F, ρ, G, env, S, sm, at0⟩ => ?_⟩
  have at0 : At (kx X EX) W EX G σ (POut (kx X EX) G σ) Q F ρ ((evDs C g as env S).bind fun ds env S => (C.lam fn ds (fun S => (evO C g b (env.map Sl.thin) S).fz.rc) S).r env) := at0
  refine wpAny_Call_Name_kw (ld_glob I gl h1 ?_ (dbg_of hd).1)
  obtain ⟨e0, rest, ee, n1, n2⟩ := snoc_cons hn hl
  rw [ee]
  refine PySem.W.callWith_K (h₀ := X.base) I.ok.mod.kin h2 ?_ (star_cons n1) (back_any n2)
  rw [← ee]
  refine h _ hl p pins s σ H _ I ⟨F, ρ, G, env, S, sm, ?_⟩
  cases zq : evDs C g as env S with
  | exc _ _ _ => rw [zq] at at0; exact at0
  | bad => rw [zq] at at0; exact at0
  | ok ds env1 S1 =>
    rw [zq] at at0
    intro F1 ρ1 H1 vs le1 pre1 sim1 rd us s1 I1 rv
    have at0 : At (kx X EX) W EX G σ (POut (kx X EX) G σ) Q F ρ ((C.lam fn ds (fun S => (evO C g b (env1.map Sl.thin) S).fz.rc) S1).r env1) := at0
    refine LamX.lam_make2 I1 TB hcode hmT hu sim1.flo.tb (by cases args_nil hp; rfl) (L.has I1.ok) fun fa c' pm ctv H2 s2 I2 eN T2 hfo hfn hfr hco => ?_
    have sim2 := sim1.extN eN T2
    have sc := sim2.toCall
    obtain ⟨sc1, leC⟩ := Sim.code sc hco
    have hxo' : (kx X EX).xo = none := hxo
    have T := lam_ok (C := C) (g := g) (w := w) (n := n) (b := b) hxo I2 L hfo hfn hfr hco hp sim2 fun A outer s H E hr => hbody A outer s H E fa c' hr
    refine ⟨I2.kIn, ?_⟩
    refine run_fnT (fl := ⟨some fa, upd F1 c' (LamX.CodeO c' (X.env.qual ++ "<lambda>")), ρ1, Own G env1 σ H2, EX.fl.tb⟩) (T := fun S => (evO C g b (env1.map Sl.thin) S).fz.rc) f.tk h5 (hr3.mono (by omega)) (hr3.mono (by omega)) h3 I2 rv (by rw [Reps.length rd, evDs_len as env S zq]; exact h4.symm ▸ rfl) rfl T
      (Sim.re (K := kx X EX) (K' := ⟨X.K, none, ⟨some fa, upd F1 c' (LamX.CodeO c' (X.env.qual ++ "<lambda>")), ρ1, Own G env1 σ H2, EX.fl.tb⟩⟩) rfl hxo' sc1 ⟨Le.refl, prefix_refl, Le.refl, sc1.flo.tb, sc1.flo.gc, sc1.flo.fc⟩) (Reps.cast (K := kx X EX) (K' := ⟨X.K, none, ⟨some fa, upd F1 c' (LamX.CodeO c' (X.env.qual ++ "<lambda>")), ρ1, Own G env1 σ H2, EX.fl.tb⟩⟩) rfl hxo' (rd.mono leC prefix_refl)) ?_
    have back : ∀ {F' : Hp} {ρ' : List Addr} {S' : Store} {H' : Hp}, Le (upd F1 c' (LamX.CodeO c' (X.env.qual ++ "<lambda>"))) F' → ρ1 <+: ρ' → Sim ⟨X.K, none, ⟨some fa, upd F1 c' (LamX.CodeO c' (X.env.qual ++ "<lambda>")), ρ1, Own G env1 σ H2, EX.fl.tb⟩⟩ F' ρ' (Own G env1 σ H2) [] S' [] H' → Sim (kx X EX) F' ρ' G env1 S' σ H' := fun le pre s' =>
      sim2.fromCall (leC.trans le) pre (Sim.re (K := ⟨X.K, none, ⟨some fa, upd F1 c' (LamX.CodeO c' (X.env.qual ++ "<lambda>")), ρ1, Own G env1 σ H2, EX.fl.tb⟩⟩) (K' := kx X EX) rfl hxo'.symm s' ⟨(sim2.flo.hF.trans leC).trans le, prefix_trans sim2.flo.hρ pre, sc.flo.hG, s'.flo.tb, s'.flo.gc, s'.flo.fc⟩)
    cases zr : C.lam fn ds (fun S => (evO C g b (env1.map Sl.thin) S).fz.rc) S1 with
    | bad => rw [zr] at at0; exact at0
    | ok d S' =>
      rw [zr] at at0
      exact fun F' ρ' H' v le pre s' r => at0 F' ρ' H' v (le1.trans (leC.trans le)) (prefix_trans pre1 pre) (back le pre s') (show Rep (kx X EX) F' ρ' v d from Rep.cast (K := ⟨X.K, none, ⟨some fa, upd F1 c' (LamX.CodeO c' (X.env.qual ++ "<lambda>")), ρ1, Own G env1 σ H2, EX.fl.tb⟩⟩) (K' := kx X EX) rfl hxo'.symm r)
    | exc x S' =>
      rw [zr] at at0
      exact fun F' ρ' H' cls d le pre s' e => at0 F' ρ' H' cls d (le1.trans (leC.trans le)) (prefix_trans pre1 pre) (back le pre s') e
/-! ### a def called where an exception is handled -/
/-- the promise of a hot def, from the run -/
theorem spx {F1 G H1 : Hp} {ρ1 : List Addr} {σ : L2.St} {env1 : Env} {S1 : Store} {Q : VK} {x : XO} {Da : Addr} {xc : List String} {fs : List (String × D)} {c : List D → Store → RC} (hkx : kx X EX = ⟨X.K, some x, EX.fl⟩) (sim1 : Sim (kx X EX) F1 ρ1 G env1 S1 σ H1) (r0 : Rep (kx X EX) F1 ρ1 (.ref x.a) (.exo x.cls fs)) (hno : S1.all Cell.noX = true)
    (at1 : At (kx X EX) W EX G σ (POut (kx X EX) G σ) Q F1 ρ1 ((c [.exo x.cls fs] S1).r env1)) (p4 : X.mg (Str.ofString x.cls) = some (.ref Da)) (p5 : x.cls ∈ xc) :
    ∃ F ρ G S k fs C, Sim ⟨X.K, none, EX.fl⟩ F ρ G [] S [] H1 ∧ Rep ⟨X.K, some ⟨x.a, k, x.d⟩, EX.fl⟩ F ρ (.ref x.a) (.exo k fs) ∧ Value.ref Da = .ref C ∧ X.mg (Str.ofString k) = some (.ref C) ∧ k ∈ xc ∧ AtC ⟨X.K, none, EX.fl⟩ ⟨EX.ex, none, EX.fl⟩ G Q (WE W σ) F ρ (c [.exo k fs] S) := by
  have sc := sim1.toCall
  rw [hkx] at sc r0
  refine ⟨F1, ρ1, Own G env1 σ H1, S1, x.cls, fs, Da, sc.low hno, r0, rfl, p4, p5, ?_⟩
  cases zr : c [.exo x.cls fs] S1 with
  | bad => rw [zr] at at1; exact at1
  | ok d S' =>
    rw [zr] at at1
    refine fun F' ρ' H' v le pre s' r => at1 F' ρ' H' v le pre (sim1.fromCall le pre ?_) ?_
    · rw [hkx]; exact s'.up
    · show Rep (kx X EX) F' ρ' v d
      rw [hkx]; exact r.up
  | exc x' S' =>
    rw [zr] at at1
    refine fun F' ρ' H' cls d le pre s' e => at1 F' ρ' H' cls d le pre (sim1.fromCall le pre ?_) e
    rw [hkx]; exact s'.up
theorem s_callH (f : XF C g w n EX m W X) {fn : String} {as : List Ex} {z : Str} {e : Expr} {es : List Expr} {p pp : Pos} (hz : z = Str.ofString fn) (hh : m.hot = true) (hg : glB m.sc z = true) (hd : okN z = true) (hf : fn ∈ m.hots) (hn : noStars (e :: es) = true) (h : PA X (e :: es) (tDs C g w n EX W X as)) :
    PE X (.Call (.Name z pp) (e :: es) [] p) (tO C g w n EX W X (.callH fn as)) := by
  have gl := gl_of f hg
  subst hz
  obtain ⟨hr, q1, q2⟩ := f.hotT hh (fun z => by rw [z] at hf; cases hf)
  obtain ⟨a, fdt, ps, h1, h2, h3, h4⟩ := q1 fn hf
  have hx : isStar e = false ∧ noStars es = true := noStars_cons hn
  refine ⟨fun pins s σ H Q I ⟨F, ρ, G, env, S, sm, at0⟩ => ?_⟩
  have at0 : At (kx X EX) W EX G σ (POut (kx X EX) G σ) Q F ρ ((evDs C g as env S).bind fun ds env S => if exoArg ds && S.all Cell.noX then (C.hot fn ds S).r env else .bad) := at0
  refine wpAny_Call_Name_kw (ld_glob I gl h1 ?_ (dbg_of hd).1)
  refine PySem.W.callWith_K (h₀ := X.base) I.ok.mod.kin h2 (thn (h.run p pins s σ H (fun vs H1 => ∃ F1 ρ1 env1 S1 k fs, Sim (kx X EX) F1 ρ1 G env1 S1 σ H1 ∧ Reps (kx X EX) F1 ρ1 vs [.exo k fs] ∧ S1.all Cell.noX = true ∧ At (kx X EX) W EX G σ (POut (kx X EX) G σ) Q F1 ρ1 ((C.hot fn [.exo k fs] S1).r env1)) I ⟨F, ρ, G, env, S, sm, ?_⟩) fun us s1 ⟨vs, H1, I1, rv, F1, ρ1, env1, S1, k, fs, sim1, rd, hno, at1⟩ => ?_) (star_cons hx.1) (back_any hx.2)
  · cases zq : evDs C g as env S with
    | exc _ _ _ => rw [zq] at at0; exact at0
    | bad => rw [zq] at at0; exact at0
    | ok ds env1 S1 =>
      rw [zq] at at0
      intro F1 ρ1 H1 vs le1 pre1 sim1 rd
      have at0 : At (kx X EX) W EX G σ (POut (kx X EX) G σ) Q F ρ (if exoArg ds && S1.all Cell.noX then (C.hot fn ds S1).r env1 else .bad) := at0
      cases hc : (exoArg ds && S1.all Cell.noX) with
      | false => rw [hc] at at0; exact at0.elim
      | true =>
        rw [hc, if_pos rfl] at at0
        obtain ⟨c1, c2⟩ := and2 hc
        unfold exoArg at c1
        split at c1
        · exact ⟨F1, ρ1, env1, S1, _, _, sim1, rd, c2, at0.mono le1 pre1⟩
        · cases c1
  · match vs, rd with
    | [v0], .cons r0 .nil =>
      refine ⟨I1.kIn, ?_⟩
      have key : ∃ x, EX.xo = some x ∧ v0 = V.ref x.a ∧ k = x.cls := by
        cases r0 with
        | exo0 e1 e2 => exact ⟨_, e1, rfl, rfl⟩
        | exo e1 e2 e3 e4 => exact ⟨_, e1, rfl, rfl⟩
      obtain ⟨x, hx, rfl, rfl⟩ := key
      obtain ⟨oe, D, p1, p2, p3, p4, p5⟩ := q2 x hx
      have hkx : kx X EX = ⟨X.K, some x, EX.fl⟩ := by unfold kx; rw [hx]
      have hl : us.length = ps.length := by
        rw [← rv.length]
        have := h4.len x.a (.ref D) x.d [.ref x.a] H1 Q (WE W σ)
        refine this ?_
        exact ⟨rfl, spx (EX := EX) hkx sim1 r0 hno at1 p4 p5⟩
      have b := h3 s1 us I1.kIn (by rw [List.append_nil]; exact hl)
      rw [List.append_nil] at b
      have P1 := I1.pin (x.a, oe) (List.mem_append_left _ p1)
      have hpin : PinOk X.stack H1 s1 (x.a, oe) := ⟨P1.1, P1.2.1, fun hm => (List.mem_cons.mp (I1.stkSub x.a hm)).elim P1.2.2.1 P1.2.2.2.1, P1.2.2.2.2⟩
      refine wpAny_call (codeAny_mono (h4.run X.A X.stack s1 H1 ⟨us, []⟩ us [.ref x.a] Q (WE W σ) (x.a, oe) (.ref D) x.d hr p2 hpin p3 I1.env0 b rv ⟨rfl, spx (EX := EX) hkx sim1 r0 hno at1 p4 p5⟩) fun res s' hq => ?_)
      cases res with
      | error ev => exact L2N.passAt f.tk σ pins H1 s1 ev s' I1 hq
      | ok fl =>
        cases fl with
        | ret u => exact I1.after hq
        | next => exact hq.elim
        | brk => exact hq.elim
        | cont => exact hq.elim
end
end
end Pf
/-! Pf, part L: every expression. -/
namespace Pf
open PySem PySem.Spec PyProof.Rows L2 L2H
section
variable {C : Calls} {g : Glos} {w : WS} {n : Nat} {EX : EXT}
theorem own_names {m : MC} {own : List Nat} : (ownOf m own).map (·.2) = own := by
  unfold ownOf
  rw [List.map_map]
  exact (List.map_congr_left (fun _ _ => rfl)).trans (List.map_id _)
mutual
theorem sound {m : MC} {W : WX} {X : Cx} (f : XF C g w n EX m W X) : ∀ (e : Ex) {x : Expr}, mE m e x = true → Snd C g w n EX W X e x
  | .int i, x, h => by
    have h : (match (generalizing := false) x with | .Constant (.int j) _ _ => i == j | _ => false) = true := h
    split at h
    · rename_i j _ _ _
      have e : i = j := by simpa using h
      subst e
      exact .plain (s_val pe_int (fun _ _ => rfl) fun _ _ => .int i) rfl
    · cases h
  | .str z, x, h => by
    have h : (match (generalizing := false) x with | .Constant (.str y) _ _ => decide (y = txt z) && okS z | _ => false) = true := h
    split at h
    · rename_i y _ _ _
      obtain ⟨h1, h2⟩ := and2 h
      have e := of_decide_eq_true h1
      subst e
      exact .plain (s_val pe_str (fun _ _ => rfl) fun _ _ => .str h2) rfl
    · cases h
  | .bl i, x, h => by
    have h : (match (generalizing := false) x with | .Constant (.bool j) _ _ => i == j | _ => false) = true := h
    split at h
    · rename_i j _ _ _
      have e : i = j := by simpa using h
      subst e
      exact .plain (s_val pe_bl (fun _ _ => rfl) fun _ _ => .bl i) rfl
    · cases h
  | .non, x, h => by
    have h : (match (generalizing := false) x with | .Constant .none _ _ => true | _ => false) = true := h
    split at h
    · exact .plain (s_val pe_non (fun _ _ => rfl) fun _ _ => .non) rfl
    · cases h
  | .var i, x, h => by
    obtain ⟨h1, h2⟩ := name_of f (show mName m i x = true from h)
    exact .plain (s_var h1) h2
  | .hv i, x, h => by
    obtain ⟨h1, h2⟩ := name_of f (show mName m i x = true from h)
    exact .plain (s_hv h1) h2
  | .glo gx, x, h => by
    have h : (match (generalizing := false) x with | .Name z _ => decide (z = Str.ofString gx) && glB m.sc z && okN z | _ => false) = true := h
    split at h
    · rename_i z p _
      obtain ⟨h1, h2⟩ := and2 h
      obtain ⟨h3, h4⟩ := and2 h1
      have e := of_decide_eq_true h3
      have gl := gl_of f h4
      subst e
      have d1 := (dbg_of h2).1
      refine .plain ?_ rfl
      cases q : g gx with
      | none =>
        refine ⟨fun pins s σ H Q I hh => ?_⟩
        obtain ⟨F, ρ, G, env, S, sm, a⟩ := hh
        have a : At (kx X EX) W EX G σ (POut (kx X EX) G σ) Q F ρ (ofO ((g gx).map Out.val) env S) := a
        rw [q] at a
        exact a.elim
      | some d =>
        obtain ⟨u, v, h5, h6, h7⟩ := f.glo gx d q
        exact s_val (d := d) (pe_glob gl h5 h6 d1) (fun env S => by show ofO ((g gx).map Out.val) env S = _; rw [q]; rfl) h7
    · cases h
  | .bin o a b, x, h => by
    have h : (match (generalizing := false) x with | .BinOp l op r _ => decide (op = bopOf o) && mE m a l && mE m b r | _ => false) = true := h
    split at h
    · obtain ⟨h1, h2⟩ := and2 h
      obtain ⟨h3, h4⟩ := and2 h1
      have e := of_decide_eq_true h3
      subst e
      exact .plain (s_bin f (sound f a h4) (sound f b h2)) rfl
    · cases h
  | .un o a, x, h => by
    have h : (match (generalizing := false) x with | .UnaryOp .USub l _ => mE m a l | _ => false) = true := h
    split at h
    · exact .plain (s_un (sound f a h)) rfl
    · cases h
  | .cmp o a b, x, h => by
    have h : (match (generalizing := false) x with | .Compare l [op] [r] _ => decide (op = copOf o) && mE m a l && mE m b r && !isSet r | _ => false) = true := h
    split at h
    · obtain ⟨h1, h2⟩ := and2 h
      obtain ⟨h3, h4⟩ := and2 h1
      obtain ⟨h5, h6⟩ := and2 h3
      have e := of_decide_eq_true h5
      subst e
      exact s_cmp f (sound f a h6) (sound f b h4) (not1 h2)
    · cases h
  | .cmp2 o p a b c, x, h => by
    have h : (match (generalizing := false) x with | .Compare l [op, op'] [r, t] _ => decide (op = copOf o) && decide (op' = copOf p) && mE m a l && mE m b r && mE m c t && !isSet r && !isSet t | _ => false) = true := h
    split at h
    · obtain ⟨h1, h2⟩ := and2 h
      obtain ⟨h3, h4⟩ := and2 h1
      obtain ⟨h5, h6⟩ := and2 h3
      obtain ⟨h7, h8⟩ := and2 h5
      obtain ⟨h9, h10⟩ := and2 h7
      obtain ⟨h11, h12⟩ := and2 h9
      have e := of_decide_eq_true h11
      have e' := of_decide_eq_true h12
      subst e e'
      exact s_cmp2 f (sound f a h10) (sound f b h8) (sound f c h6) (not1 h2)
    · cases h
  | .and a b, x, h => by
    have h : (match (generalizing := false) x with
      | .BoolOp .And (y :: z :: rest) p => mE m a y && (match (generalizing := false) rest with
        | [] => mE m b z
        | u :: us => mE m b (.BoolOp .And (z :: u :: us) p))
      | _ => false) = true := h
    split at h
    · rename_i y z rest p _
      obtain ⟨h1, h2⟩ := and2 h
      cases rest with
      | nil =>
        have q := sound f b (show mE m b z = true from h2)
        exact s_and (sound f a h1) (pe_one q.pe) (pw_and1 q.pt)
      | cons u us =>
        have q := sound f b (show mE m b (.BoolOp .And (z :: u :: us) p) = true from h2)
        exact s_and (sound f a h1) q.pe (q.pw _ _ _ rfl)
    · cases h
  | .or a b, x, h => by
    have h : (match (generalizing := false) x with
      | .BoolOp .Or (y :: z :: rest) p => mE m a y && (match (generalizing := false) rest with
        | [] => mE m b z
        | u :: us => mE m b (.BoolOp .Or (z :: u :: us) p))
      | _ => false) = true := h
    split at h
    · rename_i y z rest p _
      obtain ⟨h1, h2⟩ := and2 h
      cases rest with
      | nil =>
        have q := sound f b (show mE m b z = true from h2)
        exact s_or (sound f a h1) (pe_one q.pe) (pw_or1 q.pt)
      | cons u us =>
        have q := sound f b (show mE m b (.BoolOp .Or (z :: u :: us) p) = true from h2)
        exact s_or (sound f a h1) q.pe (q.pw _ _ _ rfl)
    · cases h
  | .not a, x, h => by
    have h : (match (generalizing := false) x with | .UnaryOp .Not l _ => mE m a l | _ => false) = true := h
    split at h
    · exact s_not (sound f a h)
    · cases h
  | .ite c a b, x, h => by
    have h : (match (generalizing := false) x with | .IfExp t l r _ => mE m c t && mE m a l && mE m b r | _ => false) = true := h
    split at h
    · obtain ⟨h1, h2⟩ := and2 h
      obtain ⟨h3, h4⟩ := and2 h1
      exact s_ite (sound f c h3) (sound f a h4) (sound f b h2)
    · cases h
  | .lst es, x, h => by
    have h : (match (generalizing := false) x with | .List xs _ => mEs m es xs && decide (es.length < 1000) | _ => false) = true := h
    split at h
    · obtain ⟨h1, h2⟩ := and2 h
      exact .plain (s_lst (soundEs f es h1).1.2 (of_decide_eq_true h2)) rfl
    · cases h
  | .tup es, x, h => by
    have h : (match (generalizing := false) x with | .Tuple xs _ _ => mEs m es xs && decide (es.length < 1000) | _ => false) = true := h
    split at h
    · obtain ⟨h1, h2⟩ := and2 h
      exact .plain (s_tup (soundEs f es h1).1.2 (of_decide_eq_true h2)) rfl
    · cases h
  | .dic es, x, h => by
    have h : (match (generalizing := false) x with | .Dict ks vs _ => mKV m es ks vs && decide (ks.length ≤ 15) | _ => false) = true := h
    split at h
    · rename_i ks vs _ _
      obtain ⟨h3, h2⟩ := and2 h
      obtain ⟨q1, q2, q3, q4⟩ := soundKV f es h3
      cases ks with
      | cons k ks => exact .plain (s_dic q1 q2 q3 q4 (fun z => by cases z) (of_decide_eq_true h2)) rfl
      | nil =>
        cases vs with
        | cons _ _ => cases q3
        | nil =>
          cases es with
          | cons _ _ => simp at q4
          | nil =>
            refine .plain (PE.imp pe_dnewK fun σ H Q ⟨F, ρ, G, env, S, sm, a⟩ p hp => ?_) rfl
            have a : At (kx X EX) W EX G σ (POut (kx X EX) G σ) Q F ρ (.ok (.new (.dic [])) env S) := a
            have gD := sm.gnone hp
            exact a.dic ((sm.ghostNew (o := .dK []) hp trivial).unghost gD sm.flo.hG) .nil (by simp) upd_same (sm.fnone hp) gD (sm.notRho hp) (sm.notOwn hp)
    · cases h
  | .idx a b, x, h => by
    have h : (match (generalizing := false) x with | .Subscript l r _ => mE m a l && mE m b r && !isSlice r | _ => false) = true := h
    split at h
    · obtain ⟨h1, h2⟩ := and2 h
      obtain ⟨h3, h4⟩ := and2 h1
      exact .plain (s_idx (sound f a h3) (sound f b h4) (not1 h2)) rfl
    · cases h
  | .slc a lo hi, x, h => by
    have h : (match (generalizing := false) x with | .Subscript l (.Slice u v none _) _ => mE m a l && mO m lo u && mO m hi v | _ => false) = true := h
    split at h
    · obtain ⟨h1, h2⟩ := and2 h
      obtain ⟨h3, h4⟩ := and2 h1
      exact .plain (s_slc (sound f a h3) (soundO f lo h4) (soundO f hi h2)) rfl
    · cases h
  | .bf b as, x, h => by
    have h : (match (generalizing := false) x with | .Call (.Name z _) (e :: es) [] _ => decide (z = Str.ofString (bfOf b).name) && glB m.sc z && mEs m as (e :: es) && (!m.hot || isLen b) | _ => false) = true := h
    split at h
    · obtain ⟨h0, h5⟩ := and2 h
      obtain ⟨h1, h2⟩ := and2 h0
      obtain ⟨h3, h4⟩ := and2 h1
      have q := soundEs f as h2
      exact .plain (s_bf f (of_decide_eq_true h3) h4 q.2.1 q.1.1 h5) rfl
    · cases h
  | .mth t r as, x, h => by
    have h : (match (generalizing := false) x with
      | .Call (.Attribute o n apos) (e :: es) [] cpos => decide (n = Str.ofString (mtOf t).2.1) && mE m r o && mEs m as (e :: es) && !isCall0 o && (apos.endLine == cpos.line) && decide ((e :: es).length < 29)
      | _ => false) = true := h
    split at h
    · obtain ⟨h1, h2⟩ := and2 h
      obtain ⟨h3, h4⟩ := and2 h1
      obtain ⟨h5, h6⟩ := and2 h3
      obtain ⟨h7, h8⟩ := and2 h5
      obtain ⟨h9, h10⟩ := and2 h7
      have q := soundEs f as h8
      exact .plain (s_mth (of_decide_eq_true h9) (sound f r h10) q.2.1 q.1.1 (not1 h6) h4 (of_decide_eq_true h2)) rfl
    · cases h
  | .mut t r as, x, h => by
    have h : (match (generalizing := false) x with
      | .Call (.Attribute o n apos) es [] cpos => decide (n = Str.ofString (muOf t).2.1) && mE m r o && mEs m as es && !isCall0 o && (apos.endLine == cpos.line) && decide (es.length < 29)
      | _ => false) = true := h
    split at h
    · obtain ⟨h1, h2⟩ := and2 h
      obtain ⟨h3, h4⟩ := and2 h1
      obtain ⟨h5, h6⟩ := and2 h3
      obtain ⟨h7, h8⟩ := and2 h5
      obtain ⟨h9, h10⟩ := and2 h7
      have q := soundEs f as h8
      exact .plain (s_mut (of_decide_eq_true h9) (sound f r h10) q.2.1 q.1.2 q.2.2.1 (not1 h6) h4 (of_decide_eq_true h2)) rfl
    · cases h
  | .isi a ts one, x, h => by
    have h : (match (generalizing := false) x with
      | .Call (.Name z _) [l, r] [] _ => decide (z = Str.ofString "isinstance") && glB m.sc z && mE m a l && !isStar l && (match (generalizing := false) one, ts, r with
        | true, [t], r => mTy m t r
        | false, ts, .Tuple rs _ _ => mTys m ts rs && decide (ts ≠ []) && decide (rs.length < 100)
        | _, _, _ => false)
      | _ => false) = true := h
    split at h
    · obtain ⟨h1, h2⟩ := and2 h
      obtain ⟨h3, h4⟩ := and2 h1
      obtain ⟨h5, h6⟩ := and2 h3
      obtain ⟨h7, h8⟩ := and2 h5
      split at h2
      · exact .plain (s_isi1 f (of_decide_eq_true h7) h8 (sound f a h6) (not1 h4) h2) rfl
      · obtain ⟨g1, g2⟩ := and2 h2
        obtain ⟨g3, g4⟩ := and2 g1
        exact .plain (s_isi f (of_decide_eq_true h7) h8 (sound f a h6) (not1 h4) g3 (of_decide_eq_true g4) (of_decide_eq_true g2)) rfl
      · cases h2
    · cases h
  | .comp elt tg k its cond own, x, h => by
    have h : (match (generalizing := false) x with
      | .ListComp e [⟨t, it, ifs, 0⟩] scope _ => blkC m.N m.sc scope (ownOf m own) && decide (own = tgSlots tg) && own.all (fun i => decide (i < m.N.length)) && mTg (inner m scope) tg t && mIt m k its it t && mC (inner m scope) cond ifs && mE (inner m scope) elt e && (!m.hot || isVl k)
      | _ => false) = true := h
    split at h
    · rename_i e t it ifs scope pos _
      obtain ⟨h0, h13⟩ := and2 h
      obtain ⟨h1, h2⟩ := and2 h0
      obtain ⟨h3, h4⟩ := and2 h1
      obtain ⟨h5, h6⟩ := and2 h3
      obtain ⟨h7, h8⟩ := and2 h5
      obtain ⟨h9, _⟩ := and2 h7
      obtain ⟨h11, h12⟩ := and2 h9
      obtain ⟨p1, p2⟩ := soundIt f k its h6
      have p3 := soundV f its (x := it) (t := t)
      have bk : BlkOk X.N X.env.scope scope (ownOf m own) := by rw [f.hN, f.hsc]; exact blkOk_by h11
      cases hh : m.hot with
      | false =>
        have cc : ∀ (s : Shared) (H : Hp) (Ca : Addr) (cl : List (Str × Addr)) (fp : List Addr), CoolX (X.blk s H scope (compEnvC scope cl Ca X.env) fp) := fun s H Ca cl fp => cool_calm (show X.calm = true from f.calm hh)
        refine .plain (CompOk.pe f hh ⟨tIt C g w n EX W X k its, tTg (kx X EX) tg, tCn C g w n EX X cond, tO C g w n EX W0 X elt, ownOf m own, p1, bk, fun s H Ca cl fp => pg_tg (f.blk s H Ca cl fp (cc s H Ca cl fp)) h8, fun s H Ca cl fp => soundC (f.blk s H Ca cl fp (cc s H Ca cl fp)) cond h4, fun s H Ca cl fp => (sound (f.blk s H Ca cl fp (cc s H Ca cl fp)) elt h2).pe, fold_set p2, fun σ H Q q => ?_⟩) rfl
        rw [own_names]; exact r_comp (of_decide_eq_true h12) q
      | true =>
        rw [hh] at h13
        cases k with
        | vlist =>
          obtain ⟨e1, rfl, p4⟩ := p3 h6
          refine .plain (PE.imp (cool_lc (g := tTg (kx X EX) tg) (tt := tCn C g w n EX X cond) (te := tO C g w n EX W0 X elt) f.cool (by rw [f.hN]; exact f.nd) p4 bk (fun s H Ca cl fp cc => pg_tg (f.blk s H Ca cl fp cc) h8) (fun s H Ca cl fp cc => soundC (f.blk s H Ca cl fp cc) cond h4) (fun s H Ca cl fp cc => (sound (f.blk s H Ca cl fp cc) elt h2).pe) (fold_set p2)) fun σ H Q q => ?_) rfl
          rw [own_names]
          exact r_vl (r_comp (of_decide_eq_true h12) q)
        | _ => cases h13
    · cases h
  | .call fn as kws, x, h => by
    have h : (match (generalizing := false) x with
      | .Call (.Name z _) es ks _ => decide (z = Str.ofString fn) && !m.hot && glB m.sc z && okN z && decide (m.ar fn = some as.length) && (match (generalizing := false) kws, ks with
        | [], [] => mEs m as es
        | _ :: _, ks => (match (generalizing := false) es with
          | [] => mKs m as ks && decide (m.kw fn = some (ks.filterMap (·.arg))) && ks.all (·.arg.isSome)
          | _ => false)
        | _, _ => false)
      | _ => false) = true := h
    split at h
    · obtain ⟨h1, h2⟩ := and2 h
      obtain ⟨h3, h4⟩ := and2 h1
      obtain ⟨h5, h6⟩ := and2 h3
      obtain ⟨h7', h8⟩ := and2 h5
      obtain ⟨h7, hh⟩ := and2 h7'
      have hh := not1 hh
      split at h2
      · have q := soundEs f as h2
        exact .plain (s_call f hh (of_decide_eq_true h7) h8 h6 (of_decide_eq_true h4) q.2.1 q.2.2.1 q.1.2) rfl
      · split at h2
        · obtain ⟨g1, g2⟩ := and2 h2
          obtain ⟨g3, g4⟩ := and2 g1
          exact .plain (s_callK f hh (of_decide_eq_true h7) h8 h6 (of_decide_eq_true h4) (soundK f as g3) (of_decide_eq_true g4) g2) rfl
        · cases h2
      · cases h2
    · cases h
  | .new e, x, h => by
    have q := sound f e (show mE m e x = true from h)
    have key : ∀ σ H Q, tO C g w n EX W X (.new e) σ H Q → tO C g w n EX W X e σ H Q := fun σ H Q ⟨F, ρ, G, env, S, s, a⟩ => by
      refine ⟨F, ρ, G, env, S, s, ?_⟩
      have a : At (kx X EX) W EX G σ (POut (kx X EX) G σ) Q F ρ ((evO C g e env S).bind fun o env S => match o with | .new (.lst xs) => .ok (.val (.loc S.length)) env (S ++ [.lst xs]) | _ => .bad) := a
      cases z : evO C g e env S with
      | bad => rw [z] at a; exact a
      | exc _ _ _ => rw [z] at a; exact a
      | ok o env1 S1 =>
        rw [z] at a
        cases o with
        | val _ => exact a.elim
        | hdl _ => exact a.elim
        | new c =>
          intro F1 ρ1 H1 v le pre sim r
          cases c with
          | dic _ => exact (show False from a).elim
          | dead => exact (show False from r).elim
          | lst ds =>
            obtain ⟨p, xs, rfl, e1, e2, e3, e4, e5, e6, e7⟩ := r
            have a : At (kx X EX) W EX G σ (POut (kx X EX) G σ) Q F ρ (.ok (.val (.loc S1.length)) env1 (S1 ++ [.lst ds])) := a
            exact a F1 (ρ1 ++ [p]) H1 (.ref p) le (prefix_trans pre ⟨[p], rfl⟩) (sim.cellNew e1 e2 e3 e4 e5 e6 e7) (show Rep (kx X EX) F1 (ρ1 ++ [p]) _ (.loc S1.length) from .loc (by rw [← sim.rlen]; exact List.getElem?_concat_length ..))
    have key2 : ∀ σ H Q, tBo C g w n EX W X (.new e) σ H Q → tBo C g w n EX W X e σ H Q := fun σ H Q ⟨F, ρ, G, env, S, s, a⟩ => by
      refine ⟨F, ρ, G, env, S, s, ?_⟩
      have a : At (kx X EX) W EX G σ (PB G σ) Q F ρ (((evO C g e env S).bind fun o env S => match o with | .new (.lst xs) => .ok (.val (.loc S.length)) env (S ++ [.lst xs]) | _ => .bad).bl) := a
      show At (kx X EX) W EX G σ (PB G σ) Q F ρ ((evO C g e env S).bl)
      cases z : evO C g e env S with
      | bad => rw [z] at a; exact a.elim
      | exc _ _ _ => rw [z] at a; exact a
      | ok o env1 S1 =>
        rw [z] at a
        cases o <;> first | exact (show False from a).elim | (rename_i c; cases c <;> exact (show False from a).elim)
    exact ⟨PE.imp q.pe key, PT.imp q.pt key2, fun op vs p e => PW.imp (q.pw op vs p e) key2⟩
  | .isx a c, x, h => by
    have h : (match (generalizing := false) x with
      | .Call (.Name z _) [l, .Name y _] [] _ => decide (z = Str.ofString "isinstance") && glB m.sc z && mE m a l && !isStar l && decide (y = Str.ofString c) && glB m.sc y && okN y && m.ex && decide (c ∈ m.xc)
      | _ => false) = true := h
    split at h
    · obtain ⟨h1, hc⟩ := and2 h
      obtain ⟨h2, hx⟩ := and2 h1
      obtain ⟨h3, ho⟩ := and2 h2
      obtain ⟨h4, hgy⟩ := and2 h3
      obtain ⟨h5, hy⟩ := and2 h4
      obtain ⟨h6, hl⟩ := and2 h5
      obtain ⟨h7, h8⟩ := and2 h6
      obtain ⟨h9, hg⟩ := and2 h7
      have hc := of_decide_eq_true hc
      have hy := of_decide_eq_true hy
      cases hxo : EX.xo with
      | none =>
        obtain ⟨D, hD⟩ := f.xcn hx c hc
        subst hy
        exact .plain (s_isx0 f (of_decide_eq_true h9) hg (sound f a h8) (not1 hl) rfl (pe_gref f (gl_of f hgy) ho hD) hxo) rfl
      | some x => exact .plain (s_isx f (of_decide_eq_true h9) hg (sound f a h8) (not1 hl) hy hgy ho hx hc x hxo) rfl
    · cases h
  | .fld a fn, x, h => by
    have h : (match (generalizing := false) x with
      | .Attribute o nm _ => mE m a o && decide (nm = Str.ofString fn) && !isCall0 o && m.ex && decide (fn ∈ m.xf)
      | _ => false) = true := h
    split at h
    · obtain ⟨h1, hf⟩ := and2 h
      obtain ⟨h2, hx⟩ := and2 h1
      obtain ⟨h3, hc⟩ := and2 h2
      obtain ⟨h4, hn⟩ := and2 h3
      cases hxo : EX.xo with
      | none => exact .plain (s_fld0 (sound f a h4) (not1 hc) hxo) rfl
      | some x => exact .plain (s_fld f (of_decide_eq_true hn) (sound f a h4) (not1 hc) hx (of_decide_eq_true hf) (fun s z => ofStr_inj z) x hxo) rfl
    · cases h
  | .thk i, x, h => by
    have h : (match (generalizing := false) x with
      | .Call (.Name z p) [] [] _ => decide (m.th = some i) && mName m i (.Name z p) && !m.hot
      | _ => false) = true := h
    split at h
    · obtain ⟨h1, h2⟩ := and2 h
      obtain ⟨h3, h4⟩ := and2 h1
      exact .plain (s_thk f (of_decide_eq_true h3) h4) rfl
    · cases h
  | .callP fn as i, x, h => by
    have h : (match (generalizing := false) x with
      | .Call (.Name z _) es [] _ => decide (z = Str.ofString fn) && !m.hot && glB m.sc z && okN z && decide (m.th = some i) && decide (m.arT fn = some (as.length + 1)) && (match (generalizing := false) unsnoc es with
        | some (ys, l) => mEs m as ys && mName m i l && !isStar l
        | none => false)
      | _ => false) = true := h
    split at h
    · obtain ⟨h1, h2⟩ := and2 h
      obtain ⟨h3, h4⟩ := and2 h1
      obtain ⟨h5, h6⟩ := and2 h3
      obtain ⟨h7, h8⟩ := and2 h5
      obtain ⟨h9, h10⟩ := and2 h7
      obtain ⟨h11, h12⟩ := and2 h9
      split at h2
      · rename_i ys l hu
        obtain ⟨g1, g2⟩ := and2 h2
        obtain ⟨g3, g4⟩ := and2 g1
        have q := soundEs f as g3
        rw [unsnoc_eq hu]
        exact .plain (s_callP f (of_decide_eq_true h11) h10 h8 (of_decide_eq_true h6) (of_decide_eq_true h4) g4 (not1 g2) q.2.1 q.2.2.1 q.2.2.2) rfl
      · cases h2
    · cases h
  | .callT fn as b, x, h => by
    have h : (match (generalizing := false) x with
      | .Call (.Name z _) es [] _ => decide (z = Str.ofString fn) && !m.hot && m.lm && glB m.sc z && okN z && decide (m.arT fn = some (as.length + 1)) && (match (generalizing := false) unsnoc es with
        | some (ys, .Lambda params body scope _) => mEs m as ys && argsNil params && LamX.lamSB m.sc scope && mE (lamMC m scope) b body
        | _ => false)
      | _ => false) = true := h
    split at h
    · obtain ⟨h1, h2⟩ := and2 h
      obtain ⟨h3, h4⟩ := and2 h1
      obtain ⟨h5, h6⟩ := and2 h3
      obtain ⟨h7, h8⟩ := and2 h5
      obtain ⟨h9, h10⟩ := and2 h7
      obtain ⟨h11, h12⟩ := and2 h9
      split at h2
      · rename_i ys params body scope lp hu
        obtain ⟨g1, g2⟩ := and2 h2
        obtain ⟨g3, g4⟩ := and2 g1
        obtain ⟨g5, g6⟩ := and2 g3
        have q := soundEs f as g5
        rw [unsnoc_eq hu]
        exact .plain (s_callT f h10 (of_decide_eq_true h11) h8 h6 (of_decide_eq_true h4) g6 g4 q.2.1 q.2.2.1 q.2.2.2 fun A outer s H E fa c' hr => (sound (XF.lam f (not1 h12) hr) b g2).pe) rfl
      · cases h2
    · cases h
  | .callH fn as, x, h => by
    have h : (match (generalizing := false) x with
      | .Call (.Name z _) (e :: es) [] _ => decide (z = Str.ofString fn) && m.hot && m.ex && glB m.sc z && okN z && decide (fn ∈ m.hots) && mEs m as (e :: es)
      | _ => false) = true := h
    split at h
    · obtain ⟨h1, h2⟩ := and2 h
      obtain ⟨h3, h4⟩ := and2 h1
      obtain ⟨h5, h6⟩ := and2 h3
      obtain ⟨h7, h8⟩ := and2 h5
      obtain ⟨h9, h10⟩ := and2 h7
      obtain ⟨h11, h12⟩ := and2 h9
      have q := soundEs f as h2
      exact .plain (s_callH f (of_decide_eq_true h11) h12 h8 h6 (of_decide_eq_true h4) q.2.1 q.1.2) rfl
    · cases h
theorem soundEs {m : MC} {W : WX} {X : Cx} (f : XF C g w n EX m W X) : ∀ (es : List Ex) {xs : List Expr}, mEs m es xs = true → (PA X xs (tAs C g w n EX W X es) ∧ PA X xs (tDs C g w n EX W X es)) ∧ noStars xs = true ∧ es.length = xs.length ∧ PThen X xs (tDs C g w n EX W X es)
  | [], xs, h => by
    cases xs with
    | nil => exact ⟨a_nil, rfl, rfl, pthen_nil⟩
    | cons _ _ => cases h
  | e :: es, xs, h => by
    cases xs with
    | nil => cases h
    | cons x xs =>
      have h : (mE m e x && !isStar x && mEs m es xs) = true := h
      obtain ⟨h1, h2⟩ := and2 h
      obtain ⟨h3, h4⟩ := and2 h1
      obtain ⟨q1, q2, q3, q4⟩ := soundEs f es h2
      refine ⟨a_cons (not1 h4) (sound f e h3) q1, ?_, by rw [List.length_cons, List.length_cons, q3], pthen_cons (not1 h4) (sound f e h3).pe q4⟩
      unfold noStars at q2 ⊢
      rw [List.all_cons, not1 h4, q2]; rfl
theorem soundO {m : MC} {W : WX} {X : Cx} (f : XF C g w n EX m W X) : ∀ (e : Option Ex) {x : Option Expr}, mO m e x = true → PO X x (tR (kx X EX) W EX (fun _ _ _ _ _ _ b a => b = a) (evP C g e))
  | none, x, h => by
    cases x with
    | none => exact p_none
    | some _ => cases h
  | some e, x, h => by
    cases x with
    | none => cases h
    | some x => exact p_some (sound f e (show mE m e x = true from h))
theorem soundC {m : MC} {X : Cx} {W : WX} (f : XF C g w n EX m W X) : ∀ (e : Option Ex) {x : List Expr}, mC m e x = true → PTs X x (tR (kx X EX) W EX PB (evC C g e))
  | none, x, h => by
    match x, h with
    | [], _ =>
      refine ⟨fun pins s σ H Q I q => pts_nil.run pins s σ H Q I ?_⟩
      obtain ⟨F, ρ, G, env, S, sm, a⟩ := q
      have a : At (kx X EX) W EX G σ (PB G σ) Q F ρ (.ok true env S) := a
      exact a.now sm (b := true) rfl
    | _ :: _, h => cases h
  | some e, x, h => by
    match x, h with
    | [], h => cases h
    | [y], h => exact pts_one (sound f e (show mE m e y = true from h)).pt
    | _ :: _ :: _, h => cases h
theorem soundKV {m : MC} {W : WX} {X : Cx} (f : XF C g w n EX m W X) : ∀ (es : List Ex) {ks : List (Option Expr)} {vs : List Expr} {pos : Pos}, mKV m es ks vs = true → PPs X pos ks vs (trsOf C g w n EX W X es) ∧ ks.all (·.isSome) = true ∧ ks.length = vs.length ∧ es.length = 2 * ks.length
  | [], ks, vs, pos, h => by
    cases ks with
    | nil => cases vs with
      | nil => exact ⟨pps_nil, rfl, rfl, rfl⟩
      | cons _ _ => cases h
    | cons _ _ => cases h
  | [k], ks, vs, pos, h => by
    cases ks with
    | nil => cases h
    | cons a ks => cases a with
      | none => cases h
      | some a => cases vs with
        | nil => cases h
        | cons b vs =>
          have h : (mE m k a && false) = true := h
          rw [Bool.and_false] at h; cases h
  | k :: v :: es, ks, vs, pos, h => by
    cases ks with
    | nil => cases h
    | cons a ks => cases a with
      | none => cases h
      | some a => cases vs with
        | nil => cases h
        | cons b vs =>
          have h : (mE m k a && (mE m v b && mKV m es ks vs)) = true := h
          obtain ⟨h1, h2⟩ := and2 h
          obtain ⟨h3, h4⟩ := and2 h2
          obtain ⟨q1, q2, q3, q4⟩ := soundKV f es (pos := pos) h4
          refine ⟨pps_cons (sound f k h1).pe (sound f v h3).pe q1, ?_, by rw [List.length_cons, List.length_cons, q3], by simp only [List.length_cons]; omega⟩
          rw [List.all_cons, q2]; rfl
theorem soundK {m : MC} {W : WX} {X : Cx} (f : XF C g w n EX m W X) : ∀ (es : List Ex) {xs : List Keyword}, mKs m es xs = true → PK X xs (tDs C g w n EX W X es)
  | [], xs, h => by
    cases xs with
    | nil => exact k_nil
    | cons _ _ => cases h
  | e :: es, xs, h => by
    cases xs with
    | nil => cases h
    | cons x xs =>
      obtain ⟨a, y, p⟩ := x
      have h : (mE m e y && mKs m es xs) = true := h
      obtain ⟨h1, h2⟩ := and2 h
      exact k_cons (sound f e h1) (soundK f es h2)
theorem soundV {m : MC} {W : WX} {X : Cx} (f : XF C g w n EX m W X) : ∀ (es : List Ex) {x t : Expr}, mIt m .vlist es x t = true → ∃ e, es = [e] ∧ PE X x (tO C g w n EX W X e)
  | [], x, t, h => by cases h
  | [e], x, t, h => by
    have h : (mE m e x && !isSet x) = true := h
    exact ⟨e, rfl, (sound f e (and2 h).1).pe⟩
  | _ :: _ :: _, x, t, h => by
    rename_i a b r
    cases r <;> cases h
theorem soundIt {m : MC} {W : WX} {X : Cx} (f : XF C g w n EX m W X) (k : Itk) : ∀ (es : List Ex) {x t : Expr}, mIt m k es x t = true → PI X t x (tIt C g w n EX W X k es) ∧ isSet x = false
  | [], x, t, h => by cases k <;> cases h
  | [e], x, t, h => by
    cases k with
    | val =>
      have h : (mE m e x && !isSet x) = true := h
      obtain ⟨h1, h2⟩ := and2 h
      exact ⟨pi_val (sound f e h1).pe, not1 h2⟩
    | vlist =>
      have h : (mE m e x && !isSet x) = true := h
      obtain ⟨h1, h2⟩ := and2 h
      exact ⟨pi_vl (sound f e h1).pe, not1 h2⟩
    | range1 =>
      have h : (match (generalizing := false) x with
        | .Call (.Name z _) [y] [] _ => decide (z = Str.ofString "range") && glB m.sc z && mE m e y && !isStar y
        | _ => false) = true := h
      split at h
      · obtain ⟨h1, h2⟩ := and2 h
        obtain ⟨h3, h4⟩ := and2 h1
        obtain ⟨h5, h6⟩ := and2 h3
        exact ⟨pi_r1 f (of_decide_eq_true h5) h6 (a_cons (not1 h2) (sound f e h4) a_nil).2 (not1 h2), rfl⟩
      · cases h
    | enum =>
      have h : (match (generalizing := false) x, t with
        | .Call (.Name z _) [y] [] _, .Tuple _ _ _ => decide (z = Str.ofString "enumerate") && glB m.sc z && mE m e y && !isStar y
        | _, _ => false) = true := h
      split at h
      · obtain ⟨h1, h2⟩ := and2 h
        obtain ⟨h3, h4⟩ := and2 h1
        obtain ⟨h5, h6⟩ := and2 h3
        exact ⟨pi_en f (of_decide_eq_true h5) h6 (a_cons (not1 h2) (sound f e h4) a_nil).2 (not1 h2), rfl⟩
      · cases h
    | range2 => cases h
    | zip => cases h
  | [e, e'], x, t, h => by
    cases k with
    | range2 =>
      have h : (match (generalizing := false) x with
        | .Call (.Name z _) [y, u] [] _ => decide (z = Str.ofString "range") && glB m.sc z && mE m e y && !isStar y && mE m e' u && !isStar u
        | _ => false) = true := h
      split at h
      · obtain ⟨h1, h2⟩ := and2 h
        obtain ⟨h3, h4⟩ := and2 h1
        obtain ⟨h5, h6⟩ := and2 h3
        obtain ⟨h7, h8⟩ := and2 h5
        obtain ⟨h9, h10⟩ := and2 h7
        exact ⟨pi_r2 f (of_decide_eq_true h9) h10 (a_cons (not1 h6) (sound f e h8) (a_cons (not1 h2) (sound f e' h4) a_nil)).2 (not1 h6) (not1 h2), rfl⟩
      · cases h
    | zip =>
      have h : (match (generalizing := false) x, t with
        | .Call (.Name z _) [y, u] [] _, .Tuple _ _ _ => decide (z = Str.ofString "zip") && glB m.sc z && mE m e y && !isStar y && mE m e' u && !isStar u
        | _, _ => false) = true := h
      split at h
      · obtain ⟨h1, h2⟩ := and2 h
        obtain ⟨h3, h4⟩ := and2 h1
        obtain ⟨h5, h6⟩ := and2 h3
        obtain ⟨h7, h8⟩ := and2 h5
        obtain ⟨h9, h10⟩ := and2 h7
        exact ⟨pi_zp f (of_decide_eq_true h9) h10 (a_cons (not1 h6) (sound f e h8) (a_cons (not1 h2) (sound f e' h4) a_nil)).2 (not1 h6) (not1 h2), rfl⟩
      · cases h
    | val => cases h
    | vlist => cases h
    | range1 => cases h
    | enum => cases h
  | _ :: _ :: _ :: _, x, t, h => by cases k <;> cases h
end
end
end Pf
/-! Pf, part R: raise of a class of the program's own, whose __init__ stores its parameters. -/
namespace Pf
open PySem PySem.Spec PyProof.Rows L2
/-! ### such an __init__ -/
/-- self.f = p -/
def iniStm (f p : String) (x : Stmt) : Bool := match x with
  | .Assign [.Attribute (.Name s _) g _] (.Name q _) _ => decide (s = Str.ofString "self") && decide (g = Str.ofString f) && decide (q = Str.ofString p)
  | _ => false
theorem iniStm_eq {f p : String} {x : Stmt} (h : iniStm f p x = true) : ∃ sp gp qp ap, x = .Assign [.Attribute (.Name (Str.ofString "self") sp) (Str.ofString f) gp] (.Name (Str.ofString p) qp) ap := by
  unfold iniStm at h
  split at h
  · obtain ⟨h1, h2⟩ := and2 h
    obtain ⟨h3, h4⟩ := and2 h1
    cases (of_decide_eq_true h3)
    cases (of_decide_eq_true h4)
    cases (of_decide_eq_true h2)
    exact ⟨_, _, _, _, rfl⟩
  · cases h
/-- .. one after the other -/
def initB : List String → List String → List Stmt → Bool
  | [], _, st => st.isEmpty
  | _ :: _, [], _ => false
  | _ :: _, _ :: _, [] => false
  | f :: fs, p :: ps, x :: r => iniStm f p x && initB fs ps r
def tIni (K : PySem.W.Frag) : List String → Nat → TS
  | [], _ => fun D σ H => D.nx σ H
  | f :: fs, i => fun D σ H => tOst K (Str.ofString f) (tVar 0) (tVar i) { D with nx := fun σ H => tIni K fs (i + 1) D σ H } σ H
theorem pss_ini {X : Cx} : ∀ (fs ps : List String) (st : List Stmt) (i : Nat), initB fs ps st = true → X.N[0]? = some (Str.ofString "self") → (∀ j, (h : j < ps.length) → X.N[i + j]? = some (Str.ofString ps[j])) → (∀ x ∈ X.N, Vis X.env.scope x ∧ okN x = true) → PSs X st (tIni X.K fs i) := by
  intro fs
  induction fs with
  | nil =>
    intro ps st i hb _ _ _
    cases st with
    | nil => exact ⟨fun pins s σ H D I h => wpAny_execs_nil ⟨σ, H, I, h⟩⟩
    | cons _ _ => cases hb
  | cons f fs ih =>
    intro ps st i hb h0 hp hv
    cases ps with
    | nil => cases hb
    | cons p ps =>
      cases st with
      | nil => cases hb
      | cons x r =>
        have hb : (iniStm f p x && initB fs ps r) = true := hb
        obtain ⟨h1, h2⟩ := and2 hb
        obtain ⟨sp, gp, qp, ap, rfl⟩ := iniStm_eq h1
        have e1 := hp 0 (by simp)
        simp only [Nat.add_zero, List.getElem_cons_zero] at e1
        obtain ⟨v0, o0⟩ := hv _ (List.mem_of_getElem? h0)
        obtain ⟨v1, o1⟩ := hv _ (List.mem_of_getElem? e1)
        have rest := ih ps r (i + 1) h2 h0 (fun j hj => by
          have := hp (j + 1) (by simpa using hj)
          simp only [List.getElem_cons_succ] at this
          rw [← this]; congr 1; omega) hv
        have q1 := pe_var (X := X) (pos := sp) h0 v0 (dbg_of o0).1 (dbg_of o0).2
        have q2 := pe_var (X := X) (pos := qp) e1 v1 (dbg_of o1).1 (dbg_of o1).2
        exact pss_cons (ps_ost (f := Str.ofString f) (p' := gp) (pos := ap) q1 q2 (swaps_none rfl)) rest
/-- what it promises: the new exception gets a dict of its fields -/
def spI (K : PySem.W.Frag) (C : Addr) (fs : List String) : Sp := fun vs H Q _ => ∃ a xs, vs = .ref a :: xs ∧ xs.length = fs.length ∧ H a = some (exo a C none) ∧
  ∀ d H', H d = none → d ≠ a → H' a = some (exo a C (some d)) → H' d = some (exd d ((fs.map Str.ofString).zip xs).reverse) → (∀ b, b ≠ a → b ≠ d → H' b = H b) → Q .non H'
theorem tini_run {K : PySem.W.Frag} {C a d : Addr} (T : OexC K C) {D : Ends} {σ : L2.St} : ∀ (fs : List String) (xs : List V) (acc : List (Str × V)) (i : Nat) (H : Hp), (∀ f ∈ fs, PySem.W.findIn K (.ref C) (Str.ofString f) = some none) → xs.length = fs.length → σ[0]? = some (some (.ref a)) → (∀ j x, xs[j]? = some x → σ[i + j]? = some (some x)) → d ≠ a →
    H a = some (exo a C (some d)) → H d = some (exd d acc) → acc.length + fs.length ≤ 900 →
    (∀ H', H' a = some (exo a C (some d)) → H' d = some (exd d (((fs.map Str.ofString).zip xs).reverse ++ acc)) → (∀ b, b ≠ d → H' b = H b) → D.nx σ H') → tIni K fs i D σ H := by
  intro fs
  induction fs with
  | nil =>
    intro xs acc i H _ hl _ _ _ ha hd _ q
    cases xs with
    | nil => exact q H ha (by simpa using hd) fun _ _ => rfl
    | cons _ _ => cases hl
  | cons f fs ih =>
    intro xs acc i H hf hl h0 hx ne ha hd hn q
    cases xs with
    | nil => cases hl
    | cons x xs =>
      have e1 := hx 0 x rfl
      rw [Nat.add_zero] at e1
      have hn' : acc.length + (fs.length + 1) ≤ 900 := by simpa using hn
      refine ⟨x, e1, .ref a, h0, a, C, rfl, T, hf f List.mem_cons_self, .inr ⟨d, acc, ha, hd, by omega, ?_⟩⟩
      refine ih xs ((Str.ofString f, x) :: acc) (i + 1) _ (fun g hg => hf g (List.mem_cons_of_mem _ hg)) (by simpa using hl) h0 (fun j y hy => ?_) ne (by rw [upd_ne (Ne.symm ne)]; exact ha) upd_same (by rw [List.length_cons]; omega) fun H' h1 h2 h3 => ?_
      · have := hx (j + 1) y (by simpa using hy)
        rw [← this]; congr 1; omega
      · refine q H' h1 (by simpa using h2) fun b hb => by rw [h3 b hb, upd_ne hb]
def initOk (N : List Str) (ps fs : List String) (st : Stmt) : Bool :=
  C8.scC N (Str.ofString "self" :: ps.map Str.ofString) (defScope st) && decide (N = Str.ofString "self" :: ps.map Str.ofString) && initB fs ps (defBody st) && N.all (fun x => visB (defScope st) x && okN x) && !fs.isEmpty && decide (fs.length = ps.length) && decide (fs.length ≤ 900)
theorem vis_b {sc : Scope} {x : Str} (h : visB sc x = true) : Vis sc x := by
  unfold visB at h
  split at h <;> first | exact .inl (by assumption) | exact .inr (.inl (by assumption)) | exact .inr (.inr (by assumption)) | cases h
theorem init_ok {P : Program} {w : World} {K : PySem.W.Frag} {mg : Str → Option Value} {base : Heap} {x q : Str} {st : Stmt} {fI C : Addr} {fd : FuncData} {N : List Str} {ps fs : List String} (F : L2.Fun K x q st fI fd) (ok : initOk N ps fs st = true) (T : OexC K C) (hf : ∀ f ∈ fs, PySem.W.findIn K (.ref C) (Str.ofString f) = some none) :
    FnOk P w K mg base CX0 1 fI fd (Str.ofString "self" :: ps.map Str.ofString) (spI K C fs) := by
  unfold initOk at ok
  obtain ⟨o1, o2⟩ := and2 ok
  obtain ⟨o3, o4⟩ := and2 o1
  obtain ⟨o5, o6⟩ := and2 o3
  obtain ⟨o7, o8⟩ := and2 o5
  obtain ⟨o9, o10⟩ := and2 o7
  obtain ⟨o11, o12⟩ := and2 o9
  have S := C8.fnScope_by o11
  have eN := of_decide_eq_true o12
  have el := of_decide_eq_true o4
  refine F.ok (k := 0) S (fun vs H Q E ⟨a, xs, e1, e2, _⟩ => by rw [e1]; simp [e2, el]) fun cdv A outer s H vs Q E hr h => ?_
  obtain ⟨a, xs, rfl, hl, ha, hq⟩ := h
  refine ⟨_, PSs.nox (pss_ini fs ps _ 1 o10 (by rw [eN]; rfl) (fun j hj => by
    rw [show (cxOf CX0 P w K mg base N q (defScope st) fI cdv A outer s H E).N = N from rfl, eN, Nat.add_comm, List.getElem?_cons_succ, List.getElem?_map, List.getElem?_eq_getElem hj]; rfl) (fun y hy => by
    have := List.all_eq_true.mp o8 y hy
    obtain ⟨z1, z2⟩ := and2 this
    exact ⟨vis_b z1, z2⟩)), ?_⟩
  have hs : ∀ j x, xs[j]? = some x → (L2.start N (.ref a :: xs))[1 + j]? = some (some x) := fun j x hx => by
    unfold L2.start
    have hj : j < xs.length := (List.getElem?_eq_some_iff.mp hx).1
    rw [List.getElem?_append_left (by simp; omega), Nat.add_comm, List.map_cons, List.getElem?_cons_succ, List.getElem?_map, hx]; rfl
  have h0 : (L2.start N (.ref a :: xs))[0]? = some (some (.ref a)) := rfl
  cases fs with
  | nil => cases o6
  | cons f fs =>
    match xs, hl with
    | x :: xs, hl =>
      have e1 := hs 0 x rfl
      refine ⟨x, e1, .ref a, h0, a, C, rfl, T, hf f List.mem_cons_self, .inl ⟨ha, fun dx hd ne => ?_⟩⟩
      refine tini_run T fs xs [(Str.ofString f, x)] 2 _ (fun g hg => hf g (List.mem_cons_of_mem _ hg)) (by simpa using hl) h0 (fun j y hy => ?_) ne upd_same (by rw [upd_ne ne, upd_same]) (by have := of_decide_eq_true o2; simp at this ⊢; omega) fun H' h1 h2 h3 => ?_
      · have := hs (j + 1) y (by simpa using hy)
        rw [← this]; congr 1; omega
      · refine hq dx H' hd ne h1 (by simpa using h2) fun b h4 h5 => by rw [h3 b h5, upd_ne h4, upd_ne h5]

/-! ### making and raising -/
/-- what is there of a class that is raised -/
structure RaiC (K : PySem.W.Frag) (mg : Str → Option Value) (c : String) (fs : List String) (D : Addr) : Prop where
  mg : mg (Str.ofString c) = some (.ref D)
  ox : OexC K D
  ini : ∃ (fI : Addr) (fd : FuncData) (x q : Str) (st : Stmt) (N : List Str) (ps : List String), PySem.W.findIn K (.ref D) "__init__" = some (some (.ref fI)) ∧ PySem.W.typeIn K (.ref fI) = some (.type "function") ∧ L2.Fun K x q st fI fd ∧ initOk N ps fs st = true ∧ Binds K fd (Str.ofString "self" :: ps.map Str.ofString) []
  no : ∀ f ∈ fs, PySem.W.findIn K (.ref D) (Str.ofString f) = some none
theorem Cx0.no {P : Program} {w : World} {X : Cx} {E : L2.XK} : Passes CX0 X E := pass0
section
variable {X : Cx}
/-- C(e, ..), an exception -/
theorem pmk_rai {c : String} {fs : List String} {Da : Addr} {e : Expr} {es : List Expr} {ta : TA} {p pos : Pos} (R : RaiC X.K X.mg c fs Da) (hr : Room 2 X.A) (hg : Gl X (Str.ofString c)) (ha : PA X (e :: es) ta) (hdb : ((Str.ofString c : Str) == ("__debug__" : Str)) = false) (hn : noStars (e :: es) = true) :
    L2N.PMk X (.Call (.Name (Str.ofString c) p) (e :: es) [] pos) (fun σ H Q => ta σ H fun vs H1 => vs.length = fs.length ∧ ∀ d, H1 d = none → Q (.ref Da) (some d) (upd H1 d (.xd ((fs.map Str.ofString).zip vs).reverse))) := by
  intro pins s σ H Q I h
  obtain ⟨fI, fd, x, q, st, N, ps, i1, i2, i3, i4, i5⟩ := R.ini
  have T := R.ox
  have F1 := init_ok (P := X.prog) (w := X.w) (mg := X.mg) (base := X.base) i3 i4 T R.no
  obtain ⟨nm, q', N', bs, bm, sn, sub, ab, col, dd, k0, k1, k2, k3, k5, hC, hbm⟩ := T.cls
  obtain ⟨n1, n2⟩ := noStars_cons hn
  refine wpAny_Call_Name_kw (ld_glob I hg R.mg (PySem.W.callWith_K (h₀ := X.base) I.ok.mod.kin T.kC (thn (ha.run pos pins s σ H _ I h) fun us s1 ⟨vs, H1, I1, r1, hz, q1⟩ => ⟨I1.kIn, ?_⟩) (star_cons n1) (back_any n2)) hdb)
  obtain ⟨hp, gg, dr, tk, os⟩ := s1
  let a := hp.objs.size + 1
  have hle : hp.objs.size ≤ a := Nat.le_succ _
  have na : H1 a = none := I1.hok.fresh hle
  let hp2 := (hp.push (PySem.W.kdv_tup us)).push (PySem.HandSPX.excO Da hp.objs.size)
  have keep : ∀ b o, hp.get? b = some o → hp2.get? b = some o := fun b o z => Heap.get?_push_of_some _ (Heap.get?_push_of_some _ z)
  have got : hp2.get? a = some (PySem.HandSPX.excO Da hp.objs.size) := by
    have e : a = (hp.push (PySem.W.kdv_tup us)).objs.size := by rw [Heap.size_push]
    rw [e]; exact Heap.get?_push_size _ rfl
  have I2 : Inv X pins σ (upd H1 a (exo a Da none)) ⟨hp2, gg, dr, tk, os⟩ := I1.laid (t' := tk) keep hle (exo_ok got)
  have rr : Vals (V.ref a :: vs) (Value.ref a :: us) := .cons rfl r1
  have sp0 : spI X.K Da fs (V.ref a :: vs) (upd H1 a (exo a Da none)) (fun v H2 => v = .non ∧ ∃ (d : Addr), H2 a = some (exo a Da (some d)) ∧ H2 d = some (exd d ((fs.map Str.ofString).zip vs).reverse) ∧ H1 d = none ∧ Q (.ref Da) (some d) (upd (del H2 a) d (.xd ((fs.map Str.ofString).zip vs).reverse))) (fun _ _ _ => False) := by
    refine ⟨a, vs, rfl, hz, upd_same, fun d H' hd ne h1 h2 h3 => ⟨rfl, d, h1, h2, by rw [upd_ne ne] at hd; exact hd, ?_⟩⟩
    have e : upd (del H' a) d (.xd ((fs.map Str.ofString).zip vs).reverse) = upd H1 d (.xd ((fs.map Str.ofString).zip vs).reverse) := by
      funext b
      by_cases hb : b = d
      · subst hb; rw [upd_same, upd_same]
      · rw [upd_ne hb, upd_ne hb]
        by_cases hb2 : b = a
        · subst hb2; rw [del_same, na]
        · rw [del_ne hb2, h3 b hb2 hb, upd_ne hb2]
    rw [e]
    exact q1 d (by rw [upd_ne ne] at hd; exact hd)
  have hl : (Value.ref a :: us).length = (Str.ofString "self" :: ps.map Str.ofString).length := by
    rw [← rr.length]; exact F1.len _ _ _ _ sp0
  have hus : us.length ≤ sizeLine := by
    have h1 := r1.length
    unfold initOk at i4
    have h2 := of_decide_eq_true (and2 i4).2
    rw [sizeLine_eq]; omega
  have bb := i5 ⟨hp2, gg, dr, tk, os⟩ (Value.ref a :: us) I2.kIn (by rw [List.append_nil]; exact hl)
  rw [List.append_nil] at bb
  refine wpAny_call (PySem.HandSPX.call_own F.excBase_ValueError (fun Y => PySem.HandSPX.refsVE_contains Y bm hbm) (I1.kIn _ _ hC) (PySem.W.looks_findIn I1.kIn i1) (fun self => PySem.W.bind_fn I1.kIn self i2) hus
    (codeAny_mono (F1.run _ X.stack _ _ ⟨Value.ref a :: us, []⟩ (Value.ref a :: us) _ _ (fun _ _ _ => False) (hr.make Da us []) (I2.env0.make Da us []) bb rr sp0) fun r s' hq' => ?_))
  cases r with
  | error er => exact hq'.elim
  | ok fl =>
    cases fl with
    | next => exact hq'.elim
    | brk => exact hq'.elim
    | cont => exact hq'.elim
    | ret u =>
      obtain ⟨v, H2, os2, bare2, un2, hok2, rv, ev, d, ea, ed, hd1, q2⟩ := hq'
      subst ev
      obtain ⟨h2, g2, d2, t2, os'⟩ := s'
      obtain ⟨t0, G, J, kG, ge, hoe, nn⟩ := mk_end0 (d2 := d2) (t2 := t2) I1 hle keep un2 hok2 os2 bare2 ea ed hd1
      exact ⟨rv, a, _, _, ⟨G, g2, d2, t2, os'⟩, _, .ref Da, some d, rfl, J, kG, ge, hoe, ⟨rfl, rfl, fun zs hzs => by cases hzs; rfl⟩, rfl, rfl, nn, rfl, bare2, raises_own T.exC T.tyC, q2⟩
end
end Pf
/-! Pf, part Y: try with several clauses, each with or without a name. -/
namespace Pf
open PySem PySem.Spec PyProof.Rows L2
abbrev TSu := Addr → Value → Option Addr → TS
/-- the ends of a suite whose exception has the name in slot i -/
def endsAs (D : Ends) : Option Nat → Ends
  | none => D
  | some i => { nx := fun σ H => D.nx (σ.set i none) H, rt := D.rt, bk := fun σ H => D.bk (σ.set i none) H, ct := fun σ H => D.ct (σ.set i none) H }
def slotAs (a : Addr) (σ : L2.St) : Option Nat → L2.St
  | none => σ
  | some i => σ.set i (some (.ref a))
/-- what the clauses wish of an exception -/
def wHs (K : PySem.W.Frag) (Wout : WX) (D : Ends) : List (Value × Option Nat × TSu) → WX
  | [] => Wout
  | (c, i, ts) :: r => fun cls d σ H => ∃ b, PySem.W.exmOne K cls c = some b ∧ (b = true → ∀ a, H a = none → ts a cls d (endsAs D i) (slotAs a σ i) H) ∧ (b = false → wHs K Wout D r cls d σ H)
def NameOk (X : Cx) : Option Str → Option Nat → Prop
  | none, none => True
  | some n, some i => X.N[i]? = some n ∧ X.env.kindOf n = some .local
  | _, _ => False
inductive HsOk (X : Cx) : List ExceptHandler → List (Value × Option Nat × TSu) → Prop
  | nil : HsOk X [] []
  | cons {x : Str} {c : Value} {n : Option Str} {i : Option Nat} {ts : TSu} {b₀ : Stmt} {suite : List Stmt} {np pos' : Pos} {hds : List ExceptHandler} {l : List (Value × Option Nat × TSu)} (hc : Names X x c) (hn : NameOk X n i)
      (hsu : ∀ (a : Addr) (oe : Obj) (cls : Value) (d : Option Addr) (pn : List (Addr × Obj)), L2N.Zn cls d oe → (∃ vs, oe.data = .fields vs) → PSs (X.suite a ((a, oe) :: pn)) (b₀ :: suite) (ts a cls d)) (r : HsOk X hds l) :
      HsOk X (.ExceptHandler (some (.Name x np)) n (b₀ :: suite) pos' :: hds) ((c, i, ts) :: l)
section
variable {X : Cx} {body : List Stmt} {h₀ : ExceptHandler} {hds : List ExceptHandler} {l : List (Value × Option Nat × TSu)} {pos : Pos} {tb : WX → TS} {Wout : WX}
theorem ps_try_hs (hs : X.stack = X.env :: X.outer) (hf : X.env.frame = some X.env.locals) (hN : X.N.Nodup) (tk : L2N.Takes X Wout)
    (hb : ∀ (W : WX) (pn : List (Addr × Obj)) (xe : Value → Shared → Prop), L2N.Takes (X.tr pn xe) W → PassesOwn (model X.prog X.w) X.A X.env xe → PSs (X.tr pn xe) body (tb W))
    (hh : HsOk X (h₀ :: hds) l) : PS X (.Try body (h₀ :: hds) [] [] pos) (fun D σ H => tb (wHs X.K Wout D l) D σ H) := by
  refine ⟨fun pins s σ H D I wish => ?_⟩
  have okX := I.ok
  have frE : X.A.frames = some (X.env :: X.outer) := by rw [okX.frames, hs]
  refine wpAny_Try_except (wpAny_mono ((hb (wHs X.K Wout D l) (X.pn ++ pins) (fun e z₁ => wpAny (model X.prog X.w) X.A (noteFrame e X.env) (fun _ z₂ => wpAny (model X.prog X.w) X.A (setFlight e none) (fun _ z₃ =>
    wpAny (model X.prog X.w) X.A (handleBy e X.env (h₀ :: hds)) (SP X pins D) X.xe z₃) X.xe z₂) X.xe z₁) (fun u sv caught => ?_) PassesOwn.looking).run [] s σ H D (I.toTry _) wish) (fun fl sv done => ?_) (fun _ _ he => he))
  · obtain ⟨a, B, sI, pins', σ', H', cls, d, rfl, Jt, nb, up, sky, na, os, ag, w⟩ := caught
    have J0 : Inv X pins σ' H' sI := Jt.ofTry okX
    have sky1 : Sky B (X.env :: X.outer) a (L2N.Zn cls d) X.env.locals sv.heap := by rw [← hs]; exact sky
    show wpAny _ _ (noteFrame (.ref a) X.env) _ _ sv
    refine L2N.Sky.land L2N.Zn.steady frE hf sky1 fun hA flA upA => ?_
    have JA : Inv X pins σ' H' { sv with heap := hA } := J0.landed nb flA.1 (up.trans upA) os ag
    obtain ⟨oA, vA, gA, zA, dA⟩ := flA.there
    have nofr : a ∉ frs (X.env :: X.outer) := fun hm => by
      obtain ⟨_, o2, e2, hnf⟩ := flA.2.2.1.mem hm
      rw [gA] at e2; cases e2
      exact hnf _ dA
    have nL : a ≠ X.env.locals := fun z => nofr (List.mem_filterMap.mpr ⟨X.env, List.mem_cons_self, by rw [hf, z]⟩)
    have nF : a ∉ X.fs := fun hm => by
      obtain ⟨e, he, z⟩ := List.mem_filterMap.mp hm
      exact nofr (List.mem_filterMap.mpr ⟨e, List.mem_cons_of_mem _ he, z⟩)
    have SA := JA.suite gA dA na nL nF
    have walk : ∀ {hs1 : List ExceptHandler} {l1 : List (Value × Option Nat × TSu)}, HsOk X hs1 l1 → wHs X.K Wout D l1 cls d σ' H' → wpAny (model X.prog X.w) X.A (handleBy (.ref a) X.env hs1) (SP X pins D) X.xe { sv with heap := hA } := by
      intro hs1 l1 hk
      induction hk with
      | nil =>
        intro w
        refine wpAny_handleBy_nil ?_
        obtain ⟨_, _, _, oe, vs, T, oT, tt, he, hz, hd, h1, hr⟩ := id flA
        unfold PySem.passOn
        refine wpAny_bind (wpAny_field he hd h1 ?_)
        rw [if_neg (show ¬ ((Value.ref T == Value.none) = true) by simp)]
        have out : wpAny (model X.prog X.w) X.A (setFlight (.ref a) X.env.frame) (fun _ z4 => wpAny (model X.prog X.w) X.A (throw (.ref a) : Sem Flow) (SP X pins D) X.xe z4) X.xe { sv with heap := hA } := by
          rw [hf]
          exact HandSPX.setFlight_upZ flA fun hB holdB upB => wpAny_throw (tk _ _ ⟨a, B, sI, pins, σ', H', cls, d, rfl, J0, nb, (up.trans upA).trans upB, .inr (.inr (by rw [hs]; exact holdB)), na, os, ag, w⟩)
        first
          | exact wpAny_bind (wpAny_pure (wpAny_bind out))
          | exact wpAny_bind out
      | @cons x c n i ts b₀ suite np pos' hds2 l2 hc hn hsu r ih =>
        intro w
        obtain ⟨b, eb, yes, no⟩ := w
        refine wpAny_handleBy_cons (codeAny_handlers_test ?_) (by intro q; cases q)
        have look : PySem.W.Looks (model X.prog X.w) hA (typeOf (.ref a)) cls := fun A Q E s k q => wpAny_typeOf_ref (k _ _ gA) (by rw [zA.1]; exact q)
        have looks := PySem.W.exm_one (M := model X.prog X.w) JA.kIn look eb
        have name : ∀ {Q E : Value → Shared → Prop}, Q c { sv with heap := hA } → wpAny (model X.prog X.w) (X.A.mark (some (.ref a))) (eval (.Name x np) X.env) Q E { sv with heap := hA } := fun {Q E} q => by
          obtain ⟨g1, g2, m1 | ⟨m1, m2, m3⟩⟩ := hc
          · exact ld_glob (X := X.suite a ((a, oA) :: (X.pn ++ pins))) SA g1 m1 q g2
          · exact ld_blt (X := X.suite a ((a, oA) :: (X.pn ++ pins))) SA g1 m1 m2 q m3 g2
        refine name (looks.here ?_)
        cases b with
        | false => exact ih (no rfl)
        | true =>
          cases n with
          | none =>
            cases i with
            | some _ => exact hn.elim
            | none =>
              refine codeAny_handlers_suite (HandSPX.lands_againZ flA fun hB flB upB => ?_)
              have JB : Inv X pins σ' H' { sv with heap := hB } := J0.landed nb flB.1 ((up.trans upA).trans upB) os ag
              obtain ⟨oB, vB, gB, zB, dB⟩ := flB.there
              have SB := JB.suite gB dB na nL nF
              refine wpAny_mono ((hsu a oB cls d (X.pn ++ pins) zB ⟨_, dB⟩).run [] _ _ H' _ SB (yes rfl a na)) (fun fl s6 z => ?_) (fun _ _ z => z.elim)
              cases fl with
              | ret u => obtain ⟨v6, σ6, H6, S6, r6, q6⟩ := z; exact ⟨_, _, _, S6.unsuite okX, r6, q6⟩
              | next => obtain ⟨σ6, H6, S6, q6⟩ := z; exact ⟨_, _, S6.unsuite okX, q6⟩
              | brk => obtain ⟨σ6, H6, S6, q6⟩ := z; exact ⟨_, _, S6.unsuite okX, q6⟩
              | cont => obtain ⟨σ6, H6, S6, q6⟩ := z; exact ⟨_, _, S6.unsuite okX, q6⟩
          | some n =>
            cases i with
            | none => exact hn.elim
            | some i =>
              obtain ⟨hi, hk⟩ := hn
              refine codeAny_handlers_suite_as (HandSPX.lands_againZ flA fun hB flB upB => ?_)
              have JB : Inv X pins σ' H' { sv with heap := hB } := J0.landed nb flB.1 ((up.trans upA).trans upB) os ag
              obtain ⟨oB, vB, gB, zB, dB⟩ := flB.there
              have SB := JB.suite gB dB na nL nF
              refine store_ok (X := X.suite a ((a, oB) :: (X.pn ++ pins))) (v := .ref a) SB hN hi (show Loc X.env.scope n from .inl hk) rfl (fun s5 S5 => ?_) (.inr hk)
              refine wpAny_mono ((hsu a oB cls d (X.pn ++ pins) zB ⟨_, dB⟩).run [] s5 _ H' _ S5 (yes rfl a na)) (fun fl s6 z => ?_) (fun _ _ z => z.elim)
              have fin : ∀ {σ6 : L2.St} {H6 : Hp} {Q : Shared → Prop}, Inv (X.suite a ((a, oB) :: (X.pn ++ pins))) [] σ6 H6 s6 → (∀ s7, Inv X pins (σ6.set i none) H6 s7 → Q s7) → wpAny (model X.prog X.w) X.A (do bindName X.env n .none; unbindBehindTheSuite X.env n pos') (fun _ s7 => Q s7) X.xe s6 := fun S6 hq => gone_ok (S6.unsuite okX) hN hi hk hq
              cases fl with
              | ret u => obtain ⟨v6, σ6, H6, S6, r6, q6⟩ := z; exact fin S6 fun s7 J7 => ⟨_, _, _, J7, r6, q6⟩
              | next => obtain ⟨σ6, H6, S6, q6⟩ := z; exact fin S6 fun s7 J7 => ⟨_, _, J7, q6⟩
              | brk => obtain ⟨σ6, H6, S6, q6⟩ := z; exact fin S6 fun s7 J7 => ⟨_, _, J7, q6⟩
              | cont => obtain ⟨σ6, H6, S6, q6⟩ := z; exact fin S6 fun s7 J7 => ⟨_, _, J7, q6⟩
    exact walk hh w
  · cases fl with
    | ret u => obtain ⟨v, σ', H', J', r, q⟩ := done; exact ⟨v, σ', H', J'.ofTry okX, r, q⟩
    | next => obtain ⟨σ', H', J', q⟩ := done; exact wpAny_execs_nil ⟨σ', H', J'.ofTry okX, q⟩
    | brk => obtain ⟨σ', H', J', q⟩ := done; exact ⟨σ', H', J'.ofTry okX, q⟩
    | cont => obtain ⟨σ', H', J', q⟩ := done; exact ⟨σ', H', J'.ofTry okX, q⟩
end
end Pf
/-! Pf, part M: statements. -/
namespace Pf
open PySem PySem.Spec PyProof.Rows L2
theorem PS.imp {X : Cx} {st : Stmt} {t t' : TS} (h : PS X st t) (hi : ∀ D σ H, t' D σ H → t D σ H) : PS X st t' := ⟨fun pins s σ H D I q => h.run pins s σ H D I (hi D σ H q)⟩
theorem PSs.imp {X : Cx} {st : List Stmt} {t t' : TS} (h : PSs X st t) (hi : ∀ D σ H, t' D σ H → t D σ H) : PSs X st t' := ⟨fun pins s σ H D I q => h.run pins s σ H D I (hi D σ H q)⟩

/-! ### the match -/
def isName : Expr → Bool
  | .Name .. => true
  | _ => false
def isTup : Expr → Bool
  | .Tuple .. => true
  | _ => false
/-- a comprehension's value stored in exchange -/
def lcSwap (m : MC) (t v : Expr) : Bool := match v, t with
  | .ListComp _ _ scope vp, .Name y yp => m.sc.kind == .function && decide (m.sc.names.lookup y = some .local) && yp.line == vp.line && !(scope.names.any fun (n, k) => n == y && (k == .local || k == .cell))
  | _, _ => false
/-- two names from a display of two -/
def mPar (m : MC) (is : List Nat) : List Expr → List Expr → Bool
  | [.Name x px, .Name y py], [a, b] => (match is with
    | [i, j] => decide (m.N[i]? = some x) && decide (m.N[j]? = some y) && !m.hot && decide (i ≠ j) && decide (x ≠ y) && decide (m.sc.names.lookup x = some .local) && decide (m.sc.names.lookup y = some .local) && m.sc.kind == .function && px.line == py.line && !isStar a && !isStar b && !foldedForSure 8 a && !constantsAlone 8 a
    | _ => false)
  | _, _ => false
/-- a cell's name ahead: no exchange of names -/
def cellTg (m : MC) : List Expr → Bool
  | .Name x _ :: _ => !decide (m.sc.names.lookup x = some .local)
  | _ => false
def isComp : Ex → Bool
  | .comp .. => true
  | _ => false
def tupEs : Ex → Option (List Ex)
  | .tup es => some es
  | _ => none
/-- an except suite -/
def hotMC (m : MC) : MC := { m with hot := true, ex := true, lm := false, th := none, tr := false }
mutual
def mS (m : MC) : Stm → Stmt → Bool
  | .ex e => fun x => match x with
    | .Expr y _ => mE m e y && !isCompr y
    | _ => false
  | .asg (.name i) e => fun x => match x with
    | .Assign [t] y _ => mSto m i t && mE m e y && (!isCompr y || (isComp e && lcSwap m t y))
    | _ => false
  | .asg (.tup is) e => fun x => match x with
    | .Assign [.Tuple ts k tp] y _ => (match y with
      | .Tuple ys _ _ => (match tupEs e with
        | some es => (mPar m is ts ys && mEs m es ys) || (cellTg m ts && mTg m (.tup is) (.Tuple ts k tp) && mEs m es ys && decide (es.length < 1000))
        | none => false)
      | y => mTg m (.tup is) (.Tuple ts k tp) && mE m e y && !isCompr y)
    | _ => false
  | .asg (.tupT is) e => fun x => match x with
    | .Assign [.Tuple ts k tp] y _ => mTg m (.tupT is) (.Tuple ts k tp) && mE m e y && !isCompr y && !isTup y
    | _ => false
  | .own i e => fun x => match x with
    | .Assign [t] y _ => mSto m i t && mE m e y && (!isCompr y || (isComp e && lcSwap m t y))
    | _ => false
  | .put o k v => fun x => match x with
    | .Assign [.Subscript a b _] y _ => mE m o a && mE m k b && mE m v y && !isCompr y && !isSlice b
    | _ => false
  | .ret none => fun x => match x with
    | .Return none _ => true
    | _ => false
  | .ret (some e) => fun x => match x with
    | .Return (some y) _ => mE m e y
    | _ => false
  | .ife c a b => fun x => match x with
    | .If y p q _ => mE m c y && mSs m a p && mSs m b q
    | _ => false
  | .whl c a => fun x => match x with
    | .While y p [] _ => mE m c y && mSs m a p
    | _ => false
  | .fr t k its a => fun x => match x with
    | .For tg it p [] _ => !m.hot && mTg m t tg && mIt m k its it tg && mSs m a p
    | _ => false
  | .brk => fun x => match x with
    | .Break _ => true
    | _ => false
  | .cnt => fun x => match x with
    | .Continue _ => true
    | _ => false
  | .pass => fun x => match x with
    | .Pass _ => true
    | .Expr (.Constant (.str _) _ _) _ => true
    | _ => false
  | .nev => fun _ => true
  | .rai c fs as => fun x => match x with
    | .Raise (some (.Call (.Name z _) (e :: es) [] _)) none _ => decide (z = Str.ofString c) && !m.hot && glB m.sc z && okN z && decide (m.rs c = some fs) && mEs m as (e :: es)
    | _ => false
  | .tri a hs => fun x => match x with
    | .Try body hds [] [] _ => !m.hot && m.tr && !m.ex && mSs m a body && mHs m hs hds && !hds.isEmpty
    | _ => false
def mHs (m : MC) : List Hd → List ExceptHandler → Bool
  | [] => fun x => match x with
    | [] => true
    | _ => false
  | h :: hs => fun x => match x with
    | y :: ys => mH m h y && mHs m hs ys
    | [] => false
def mH (m : MC) : Hd → ExceptHandler → Bool
  | .mk c v a => fun x => match x with
    | .ExceptHandler (some (.Name z _)) n suite _ => decide (z = Str.ofString c) && glB m.sc z && okN z && decide (c ∈ m.xh) && mSs (hotMC m) a suite && !suite.isEmpty && (match v, n with
      | none, none => true
      | some i, some y => decide (m.N[i]? = some y) && decide (m.sc.names.lookup y = some .local)
      | _, _ => false)
    | _ => false
def mSs (m : MC) : List Stm → List Stmt → Bool
  | [] => fun x => match x with
    | [] => true
    | _ => false
  | s :: ss => fun x => match x with
    | y :: ys => mS m s y && mSs m ss ys
    | [] => false
end

/-! ### what is asked of a run of statements -/
section
variable {γ δ : Type} {K : KX} {W : WX} {EX : EXT} {F F' G H H' : Hp} {ρ ρ' : List Addr} {σ : L2.St} {env env' : Env} {S S' : Store}
def AtS (K : KX) (W : WX) (EX : EXT) (G : Hp) (D : Ends) (F : Hp) (ρ : List Addr) : R Fl → Prop
  | .ok .nxt env S => ∀ F' ρ' σ' H, Le F F' → ρ <+: ρ' → Sim K F' ρ' G env S σ' H → D.nx σ' H
  | .ok .brk env S => ∀ F' ρ' σ' H, Le F F' → ρ <+: ρ' → Sim K F' ρ' G env S σ' H → D.bk σ' H
  | .ok .cnt env S => ∀ F' ρ' σ' H, Le F F' → ρ <+: ρ' → Sim K F' ρ' G env S σ' H → D.ct σ' H
  | .ok (.ret d) env S => ∀ F' ρ' σ' H v, Le F F' → ρ <+: ρ' → Sim K F' ρ' G env S σ' H → Rep K F' ρ' v d → D.rt v H
  | .exc x env S => ∀ F' ρ' σ' H cls d, Le F F' → ρ <+: ρ' → Sim K F' ρ' G env S σ' H → EX.ex F' ρ' H cls d x → W cls d σ' H
  | .bad => False
theorem AtS.mono {D : Ends} {r : R Fl} (h : AtS K W EX G D F ρ r) (hF : Le F F') (hρ : ρ <+: ρ') : AtS K W EX G D F' ρ' r := by
  cases r with
  | ok a env S => cases a with
    | ret d => exact fun F2 ρ2 σ' H v h1 h2 => h F2 ρ2 σ' H v (hF.trans h1) (prefix_trans hρ h2)
    | _ => exact fun F2 ρ2 σ' H h1 h2 => h F2 ρ2 σ' H (hF.trans h1) (prefix_trans hρ h2)
  | exc x env S => exact fun F2 ρ2 σ' H c d h1 h2 => h F2 ρ2 σ' H c d (hF.trans h1) (prefix_trans hρ h2)
  | bad => exact h
theorem AtS.bind {P1 : Post γ δ} {D : Ends} {r : R δ} {f : δ → Env → Store → R Fl} (h : AtS K W EX G D F ρ (r.bind f)) :
    At K W EX G σ P1 (fun b H => ∃ a F1 ρ1 env1 S1, Le F F1 ∧ ρ <+: ρ1 ∧ Sim K F1 ρ1 G env1 S1 σ H ∧ P1 F1 ρ1 env1 H b a ∧ AtS K W EX G D F1 ρ1 (f a env1 S1)) F ρ r := by
  cases r with
  | ok a env S => exact fun F1 ρ1 H b h1 h2 h3 h4 => ⟨a, F1, ρ1, env, S, h1, h2, h3, h4, AtS.mono h h1 h2⟩
  | exc x env S => exact fun F1 ρ1 H c d h1 h2 h3 h4 => h F1 ρ1 σ H c d h1 h2 h3 h4
  | bad => exact h
/-- first statements, then what comes after each end of theirs -/
theorem AtS.then {D D' : Ends} {r : R Fl} {f : Fl → Env → Store → R Fl} (h : AtS K W EX G D F ρ (r.bind f))
    (hn : ∀ F1 ρ1 env1 S1 σ' H, Le F F1 → ρ <+: ρ1 → Sim K F1 ρ1 G env1 S1 σ' H → AtS K W EX G D F1 ρ1 (f .nxt env1 S1) → D'.nx σ' H)
    (hb : ∀ F1 ρ1 env1 S1 σ' H, Le F F1 → ρ <+: ρ1 → Sim K F1 ρ1 G env1 S1 σ' H → AtS K W EX G D F1 ρ1 (f .brk env1 S1) → D'.bk σ' H)
    (hc : ∀ F1 ρ1 env1 S1 σ' H, Le F F1 → ρ <+: ρ1 → Sim K F1 ρ1 G env1 S1 σ' H → AtS K W EX G D F1 ρ1 (f .cnt env1 S1) → D'.ct σ' H)
    (hr : ∀ F1 ρ1 env1 S1 σ' H d v, Le F F1 → ρ <+: ρ1 → Sim K F1 ρ1 G env1 S1 σ' H → Rep K F1 ρ1 v d → AtS K W EX G D F1 ρ1 (f (.ret d) env1 S1) → D'.rt v H) : AtS K W EX G D' F ρ r := by
  cases r with
  | ok a env S => cases a with
    | ret d => exact fun F2 ρ2 σ' H v h1 h2 h3 h4 => hr F2 ρ2 env S σ' H d v h1 h2 h3 h4 (AtS.mono h h1 h2)
    | nxt => exact fun F2 ρ2 σ' H h1 h2 h3 => hn F2 ρ2 env S σ' H h1 h2 h3 (AtS.mono h h1 h2)
    | brk => exact fun F2 ρ2 σ' H h1 h2 h3 => hb F2 ρ2 env S σ' H h1 h2 h3 (AtS.mono h h1 h2)
    | cnt => exact fun F2 ρ2 σ' H h1 h2 h3 => hc F2 ρ2 env S σ' H h1 h2 h3 (AtS.mono h h1 h2)
  | exc x env S => exact h
  | bad => exact h
theorem AtS.nxt {D : Ends} (h : AtS K W EX G D F ρ (.ok .nxt env S)) (s : Sim K F ρ G env S σ H) : D.nx σ H := h F ρ σ H Le.refl prefix_refl s
theorem AtS.ret {D : Ends} {d : Pf.D} {v : V} (h : AtS K W EX G D F ρ (.ok (.ret d) env S)) (s : Sim K F ρ G env S σ H) (r : Rep K F ρ v d) : D.rt v H := h F ρ σ H v Le.refl prefix_refl s r
def tS (K : KX) (W : WX) (EX : EXT) (r : Env → Store → R Fl) : TS := fun D σ H => ∃ F ρ G env S, Sim K F ρ G env S σ H ∧ AtS K W EX G D F ρ (r env S)
end

section
variable {C : Calls} {g : Glos} {w : WS} {n : Nat} {EX : EXT} {m : MC} {W : WX} {X : Cx}
/-- the context of a def's own code -/
structure XS (C : Calls) (g : Glos) (w : WS) (n : Nat) (EX : EXT) (m : MC) (W : WX) (X : Cx) : Prop extends XF C g w n EX m W X where
  po : PassesOwn (model X.prog X.w) X.A X.env X.xe
  rai : m.hot = false → ∀ c fs, m.rs c = some fs → Room 2 X.A ∧ EX.xo = none ∧ EX.ex = exD X.K X.mg m.xr ∧ c ∈ m.xr ∧ ∃ D, RaiC X.K X.mg c fs D
  tri : m.tr = true → m.hot = false → EX.xo = none ∧ EX.ex = exD X.K X.mg m.xr ∧ Room 1 X.A ∧ ErrX X.K X.mg w.sub m.xr m.xc m.xf m.xh ∧ (∀ f ∈ m.hots, FnXIn EX X m.xr (C.hot f) f) ∧ X.stack = X.env :: X.outer ∧ X.env.frame = some X.env.locals
abbrev tX (C : Calls) (g : Glos) (w : WS) (n : Nat) (EX : EXT) (W : WX) (X : Cx) (s : Stm) : TS := tS (kx X EX) W EX (exS C g w.w w.sub s)
abbrev tXs (C : Calls) (g : Glos) (w : WS) (n : Nat) (EX : EXT) (W : WX) (X : Cx) (s : List Stm) : TS := tS (kx X EX) W EX (exSs C g w.w w.sub s)
theorem x_nil : PSs X [] (tXs C g w n EX W X []) := PSs.imp pss_nil fun D σ H ⟨F, ρ, G, env, S, s, h⟩ => AtS.nxt h s
theorem x_cons {s : Stm} {ss : List Stm} {st : Stmt} {sts : List Stmt} (h1 : PS X st (tX C g w n EX W X s)) (h2 : PSs X sts (tXs C g w n EX W X ss)) : PSs X (st :: sts) (tXs C g w n EX W X (s :: ss)) := by
  refine PSs.imp (pss_cons h1 h2) fun D σ H ⟨F, ρ, G, env, S, sm, h⟩ => ?_
  have h : AtS (kx X EX) W EX G D F ρ ((exS C g w.w w.sub s env S).bind fun fl env S => match fl with
    | .nxt => exSs C g w.w w.sub ss env S
    | .brk => .ok .brk env S
    | .cnt => .ok .cnt env S
    | .ret d => .ok (.ret d) env S) := h
  refine ⟨F, ρ, G, env, S, sm, AtS.then h ?_ ?_ ?_ ?_⟩
  · exact fun F1 ρ1 env1 S1 σ1 H1 _ _ s1 a1 => ⟨F1, ρ1, G, env1, S1, s1, a1⟩
  · exact fun F1 ρ1 env1 S1 σ1 H1 _ _ s1 a1 => a1 F1 ρ1 σ1 H1 Le.refl prefix_refl s1
  · exact fun F1 ρ1 env1 S1 σ1 H1 _ _ s1 a1 => a1 F1 ρ1 σ1 H1 Le.refl prefix_refl s1
  · exact fun F1 ρ1 env1 S1 σ1 H1 d v _ _ s1 rv a1 => a1 F1 ρ1 σ1 H1 v Le.refl prefix_refl s1 rv
theorem x_ex {e : Ex} {y : Expr} {p : Pos} (f : XS C g w n EX m W X) (h : mE m e y = true) (hc : isCompr y = false) : PS X (.Expr y p) (tX C g w n EX W X (.ex e)) := by
  refine PS.imp (ps_expr (sound f.toXF e h).pe (swaps_none hc)) fun D σ H ⟨F, ρ, G, env, S, s, q⟩ => ?_
  refine ⟨F, ρ, G, env, S, s, At.fz (At.imp (AtS.bind (P1 := PD (kx X EX) G σ) q) ?_)⟩
  intro v H1 ⟨a, F1, ρ1, env1, S1, le1, pre1, s1, ra, a1⟩
  exact AtS.nxt a1 s1
theorem x_ret {e : Ex} {y : Expr} {p : Pos} (f : XS C g w n EX m W X) (h : mE m e y = true) : PS X (.Return (some y) p) (tX C g w n EX W X (.ret (some e))) := by
  refine PS.imp (ps_ret (sound f.toXF e h).pe) fun D σ H ⟨F, ρ, G, env, S, s, q⟩ => ?_
  refine ⟨F, ρ, G, env, S, s, At.fz (At.imp (AtS.bind (P1 := PD (kx X EX) G σ) q) ?_)⟩
  intro v H1 ⟨a, F1, ρ1, env1, S1, le1, pre1, s1, ra, a1⟩
  exact AtS.ret a1 s1 ra
theorem x_if {c : Ex} {a b : List Stm} {y : Expr} {ps qs : List Stmt} {p : Pos} (f : XS C g w n EX m W X) (h : mE m c y = true) (ha : PSs X ps (tXs C g w n EX W X a)) (hb : PSs X qs (tXs C g w n EX W X b)) : PS X (.If y ps qs p) (tX C g w n EX W X (.ife c a b)) := by
  refine PS.imp (ps_if (sound f.toXF c h).pt ha hb) fun D σ H ⟨F, ρ, G, env, S, s, q⟩ => ?_
  refine ⟨F, ρ, G, env, S, s, At.imp (AtS.bind (P1 := PB G σ) q) ?_⟩
  rintro d H1 ⟨r, F1, ρ1, env1, S1, le1, pre1, s1, e, a1⟩
  cases (show d = r from e)
  cases d with
  | true => exact ⟨F1, ρ1, G, env1, S1, s1, a1⟩
  | false => exact ⟨F1, ρ1, G, env1, S1, s1, a1⟩
theorem x_while {c : Ex} {a : List Stm} {y : Expr} {ps : List Stmt} {p : Pos} (f : XS C g w n EX m W X) (h : mE m c y = true) (ha : PSs X ps (tXs C g w n EX W X a)) : PS X (.While y ps [] p) (tX C g w n EX W X (.whl c a)) := by
  refine PS.imp (ps_while f.po (sound f.toXF c h).pt ha) fun D σ H ⟨F, ρ, G, env, S, s, q⟩ => ?_
  let cF := fun env S => (evO C g c env S).bl
  let aF := fun env S => exSs C g w.w w.sub a env S
  refine ⟨fun k σ H => ∃ F ρ env S, Sim (kx X EX) F ρ G env S σ H ∧ AtS (kx X EX) W EX G D F ρ (loopW cF aF k env S), ⟨w.w, F, ρ, env, S, s, q⟩, ?_⟩
  rintro k σ H ⟨F, ρ, env, S, s, q⟩
  cases k with
  | zero => exact (show False from q).elim
  | succ k =>
    have q : AtS (kx X EX) W EX G D F ρ ((cF env S).bind fun b env S => if b then (aF env S).bind fun fl env S => match fl with
      | .nxt | .cnt => loopW cF aF k env S
      | .brk => .ok .nxt env S
      | .ret d => .ok (.ret d) env S else .ok .nxt env S) := q
    refine ⟨F, ρ, G, env, S, s, At.imp (AtS.bind (P1 := PB G σ) q) ?_⟩
    rintro d H1 ⟨r, F1, ρ1, env1, S1, le1, pre1, s1, e, a1⟩
    cases (show d = r from e)
    cases d with
    | false => exact AtS.nxt a1 s1
    | true =>
      have a1 : AtS (kx X EX) W EX G D F1 ρ1 ((aF env1 S1).bind fun fl env S => match fl with
        | .nxt | .cnt => loopW cF aF k env S
        | .brk => .ok .nxt env S
        | .ret d => .ok (.ret d) env S) := a1
      refine ⟨fun σ H => ∃ F ρ env S, Sim (kx X EX) F ρ G env S σ H ∧ AtS (kx X EX) W EX G D F ρ (loopW cF aF k env S), fun σ' H' z => ⟨k, Nat.lt_succ_self k, z⟩, F1, ρ1, G, env1, S1, s1, AtS.then a1 ?_ ?_ ?_ ?_⟩
      · exact fun F2 ρ2 env2 S2 σ2 H2 _ _ s2 a2 => ⟨F2, ρ2, env2, S2, s2, a2⟩
      · exact fun F2 ρ2 env2 S2 σ2 H2 _ _ s2 a2 => AtS.nxt (W := W) (EX := EX) (D := D) a2 s2
      · exact fun F2 ρ2 env2 S2 σ2 H2 _ _ s2 a2 => ⟨F2, ρ2, env2, S2, s2, a2⟩
      · exact fun F2 ρ2 env2 S2 σ2 H2 d v _ _ s2 rv a2 => AtS.ret (W := W) (EX := EX) (D := D) a2 s2 rv
theorem x_for (hh : m.hot = false) {t : Tg} {k : Itk} {its : List Ex} {a : List Stm} {tg it : Expr} {ps : List Stmt} {p : Pos} (f : XS C g w n EX m W X) (ht : mTg m t tg = true) (hi : mIt m k its it tg = true) (ha : PSs X ps (tXs C g w n EX W X a)) : PS X (.For tg it ps [] p) (tX C g w n EX W X (.fr t k its a)) := by
  obtain ⟨h1, h2⟩ := soundIt f.toXF k its hi
  refine PS.imp (ps_for f.po (f.calm hh) h1 (pg_tg f.toXF ht) ha (fold_set h2)) fun D σ H ⟨F, ρ, G, env, S, s, q⟩ => ?_
  let aF := fun d env S => match bindTg t d env with
    | none => R.bad
    | some env => exSs C g w.w w.sub a env S
  have q : AtS (kx X EX) W EX G D F ρ ((evDs C g its env S).bind fun xs env S => match itF k xs with
    | none => .bad
    | some ds => loopF aF ds env S) := q
  refine ⟨F, ρ, G, env, S, s, At.imp (AtS.bind (P1 := PDs (kx X EX) G σ) q) ?_⟩
  intro vs H1 ⟨xs, F1, ρ1, env1, S1, le1, pre1, s1, rx, a1⟩
  cases ei : itF k xs with
  | none => rw [ei] at a1; exact (show False from a1).elim
  | some ds =>
    rw [ei] at a1
    refine ⟨F1, ρ1, xs, ds, s1.fh, rx, ei, fun J ok => ?_⟩
    let Iv : Nat → L2.St → Hp → Prop := fun i σ H => ∃ F ρ env S, Le F1 F ∧ ρ1 <+: ρ ∧ Sim (kx X EX) F ρ G env S σ H ∧ AtS (kx X EX) W EX G D F ρ (loopF aF (ds.drop i) env S)
    refine ⟨fun i mm σ H => mm = ds.length - i ∧ i ≤ ds.length ∧ Iv i σ H, ⟨ds.length, by simp, Nat.zero_le _, F1, ρ1, env1, S1, Le.refl, prefix_refl, s1, a1⟩, ?_⟩
    rintro i mm σ H ⟨rfl, hi, Fi, ρi, envi, Si, lei, prei, si, ai⟩
    have leH : Le F1 H := lei.trans si.fh
    by_cases hlt : i < ds.length
    · refine .inr ⟨ok.go i H leH hlt, Iv (i + 1), fun σ' H' p' => ⟨ds.length - (i + 1), by omega, rfl, hlt, p'⟩, fun x H' y => ?_⟩
      have hd : ds[i]? = some ds[i] := List.getElem?_eq_getElem hlt
      obtain ⟨F2, le2, s2, r2⟩ := ok.yld i ds[i] H x H' leH hd y lei prei si
      rw [List.drop_eq_getElem_cons hlt] at ai
      have ai : AtS (kx X EX) W EX G D Fi ρi ((aF ds[i] envi Si).bind fun fl env S => match fl with
        | .nxt | .cnt => loopF aF (ds.drop (i + 1)) env S
        | .brk => .ok .nxt env S
        | .ret d => .ok (.ret d) env S) := ai
      cases eb : bindTg t ds[i] envi with
      | none =>
        have : aF ds[i] envi Si = R.bad := by show (match bindTg t ds[i] envi with | none => R.bad | some env => exSs C g w.w w.sub a env Si) = _; rw [eb]
        rw [this] at ai; exact (show False from ai).elim
      | some env4 =>
        have e4 : aF ds[i] envi Si = exSs C g w.w w.sub a env4 Si := by show (match bindTg t ds[i] envi with | none => R.bad | some env => exSs C g w.w w.sub a env Si) = _; rw [eb]
        rw [e4] at ai
        refine ⟨F2, ρi, G, envi, Si, ds[i], env4, s2, r2, eb, fun σ' s4 hl4 ho4 => ⟨F2, ρi, G, env4, Si, s4, AtS.mono (AtS.then ai ?_ ?_ ?_ ?_) le2 prefix_refl⟩⟩
        · exact fun F5 ρ5 env5 S5 σ5 H5 le5 pre5 s5 a5 => ⟨F5, ρ5, env5, S5, lei.trans le5, prefix_trans prei pre5, s5, a5⟩
        · exact fun F5 ρ5 env5 S5 σ5 H5 le5 pre5 s5 a5 => AtS.nxt (W := W) (EX := EX) (D := D) a5 s5
        · exact fun F5 ρ5 env5 S5 σ5 H5 le5 pre5 s5 a5 => ⟨F5, ρ5, env5, S5, lei.trans le5, prefix_trans prei pre5, s5, a5⟩
        · exact fun F5 ρ5 env5 S5 σ5 H5 d v le5 pre5 s5 rv a5 => AtS.ret (W := W) (EX := EX) (D := D) a5 s5 rv
    · have hie : i = ds.length := by omega
      refine .inl ⟨by rw [hie]; exact ok.stop H leH, ?_⟩
      rw [hie, List.drop_length] at ai
      exact AtS.nxt ai si

/-! ### assignments -/
theorem gens_of (f : XF C g w n EX m W X) (hh : m.hot = false) {e : Ex} {elt : Expr} {gens : List Comprehension} {scope : Scope} {vp : Pos} (hc : isComp e = true) (h : mE m e (.ListComp elt gens scope vp) = true) : ∃ t it ifs, gens = [⟨t, it, ifs, 0⟩] ∧ CompOk C g w n EX W X e elt t it ifs scope := by
  cases e with
  | comp el tg k its cond own =>
    have h : (match (generalizing := false) Expr.ListComp elt gens scope vp with
      | .ListComp e [⟨t, it, ifs, 0⟩] scope _ => blkC m.N m.sc scope (ownOf m own) && decide (own = tgSlots tg) && own.all (fun i => decide (i < m.N.length)) && mTg (inner m scope) tg t && mIt m k its it t && mC (inner m scope) cond ifs && mE (inner m scope) el e && (!m.hot || isVl k)
      | _ => false) = true := h
    split at h
    · rename_i e t it ifs sc p he
      cases he
      obtain ⟨h0, _⟩ := and2 h
      obtain ⟨h1, h2⟩ := and2 h0
      have cc : ∀ (s : Shared) (H : Hp) (C : Addr) (cl : List (Str × Addr)) (fp : List Addr), CoolX (X.blk s H scope (compEnvC scope cl C X.env) fp) := fun s H C cl fp => cool_calm (show X.calm = true from f.calm hh)
      obtain ⟨h3, h4⟩ := and2 h1
      obtain ⟨h5, h6⟩ := and2 h3
      obtain ⟨h7, h8⟩ := and2 h5
      obtain ⟨h9, _⟩ := and2 h7
      obtain ⟨h11, h12⟩ := and2 h9
      obtain ⟨p1, p2⟩ := soundIt f k its h6
      refine ⟨t, it, ifs, rfl, tIt C g w n EX W X k its, tTg (kx X EX) tg, tCn C g w n EX X cond, tO C g w n EX W0 X el, ownOf m own, p1, ?_, fun s H C cl fp => pg_tg (f.blk s H C cl fp (cc s H C cl fp)) h8, fun s H C cl fp => soundC (f.blk s H C cl fp (cc s H C cl fp)) cond h4, fun s H C cl fp => (sound (f.blk s H C cl fp (cc s H C cl fp)) el h2).pe, fold_set p2, fun σ H Q q => ?_⟩
      · rw [f.hN, f.hsc]; exact blkOk_by h11
      · rw [own_names]; exact r_comp (of_decide_eq_true h12) q
    · cases h
  | _ => cases hc
theorem gens_hot (f : XF C g w n EX m W X) (hh : m.hot = true) {e : Ex} {elt : Expr} {gens : List Comprehension} {scope : Scope} {vp : Pos} (hc : isComp e = true) (h : mE m e (.ListComp elt gens scope vp) = true) :
    ∃ t it ifs, gens = [⟨t, it, ifs, 0⟩] ∧ ∃ (tl : TE) (gg : TG) (tt : TT) (te : TE) (own : List (Str × Nat)), PE X it tl ∧ BlkOk X.N X.env.scope scope own ∧
      (∀ (s : Shared) (H : Hp) (Ca : Addr) (cl : List (Str × Addr)) (fp : List Addr), CoolX (X.blk s H scope (compEnvC scope cl Ca X.env) fp) → PG (X.blk s H scope (compEnvC scope cl Ca X.env) fp) t gg) ∧
      (∀ (s : Shared) (H : Hp) (Ca : Addr) (cl : List (Str × Addr)) (fp : List Addr), CoolX (X.blk s H scope (compEnvC scope cl Ca X.env) fp) → PTs (X.blk s H scope (compEnvC scope cl Ca X.env) fp) ifs tt) ∧
      (∀ (s : Shared) (H : Hp) (Ca : Addr) (cl : List (Str × Addr)) (fp : List Addr), CoolX (X.blk s H scope (compEnvC scope cl Ca X.env) fp) → PE (X.blk s H scope (compEnvC scope cl Ca X.env) fp) elt te) ∧
      (∀ x, foldedSetIterable it X.env x = pure x) ∧ ∀ σ H Q, tO C g w n EX W X e σ H Q → tLc (iList X.K tl) gg tt te (own.map (·.2)) σ H Q := by
  cases e with
  | comp el tg k its cond own =>
    have h : (match (generalizing := false) Expr.ListComp elt gens scope vp with
      | .ListComp e [⟨t, it, ifs, 0⟩] scope _ => blkC m.N m.sc scope (ownOf m own) && decide (own = tgSlots tg) && own.all (fun i => decide (i < m.N.length)) && mTg (inner m scope) tg t && mIt m k its it t && mC (inner m scope) cond ifs && mE (inner m scope) el e && (!m.hot || isVl k)
      | _ => false) = true := h
    split at h
    · rename_i e t it ifs sc p he
      cases he
      obtain ⟨h0, h13⟩ := and2 h
      obtain ⟨h1, h2⟩ := and2 h0
      obtain ⟨h3, h4⟩ := and2 h1
      obtain ⟨h5, h6⟩ := and2 h3
      obtain ⟨h7, h8⟩ := and2 h5
      obtain ⟨h9, _⟩ := and2 h7
      obtain ⟨h11, h12⟩ := and2 h9
      obtain ⟨p1, p2⟩ := soundIt f k its h6
      have p3 := soundV f its (x := it) (t := t)
      rw [hh] at h13
      cases k with
      | vlist =>
        obtain ⟨e1, rfl, p4⟩ := p3 h6
        refine ⟨t, it, ifs, rfl, tO C g w n EX W X e1, tTg (kx X EX) tg, tCn C g w n EX X cond, tO C g w n EX W0 X el, ownOf m own, p4, ?_, fun s H Ca cl fp cc => pg_tg (f.blk s H Ca cl fp cc) h8, fun s H Ca cl fp cc => soundC (f.blk s H Ca cl fp cc) cond h4, fun s H Ca cl fp cc => (sound (f.blk s H Ca cl fp cc) el h2).pe, fold_set p2, fun σ H Q q => ?_⟩
        · rw [f.hN, f.hsc]; exact blkOk_by h11
        · rw [own_names]
          exact r_vl (r_comp (of_decide_eq_true h12) q)
      | _ => cases h13
    · cases h
  | _ => cases hc
theorem sole_none {t e : Expr} {n : Nat} {env : PySem.Env} (h : isCompr e = false) : swapsWithSole [t] e n env = pure false := by
  unfold swapsWithSole; exact swaps_none h
theorem swap_t {env : PySem.Env} {elt : Expr} {gens : List Comprehension} {scope : Scope} {vp yp : Pos} {y : Str} {l : Nat} (h : (env.blockKind == .function && env.kindOf y == some .local && yp.line == vp.line && !(scope.names.any fun (n, k) => n == y && (k == .local || k == .cell))) = true) :
    swapsWith (.ListComp elt gens scope vp) (some (.Name y yp)) l env = pure true := by
  show (pure (env.blockKind == .function && env.kindOf y == some .local && yp.line == vp.line && !(scope.names.any fun (n, k) => n == y && (k == .local || k == .cell))) : Sem Bool) = pure true
  rw [h]
theorem fun_block {env : PySem.Env} (h : (env.scope.kind == .function) = true) : env.blockKind = .function := by
  have e := beq_iff_eq.mp h
  unfold PySem.Env.blockKind
  rw [e]; rfl
theorem sto_or (f : XF C g w n EX m W X) {e : Ex} {i : Nat} {t y : Expr} {p : Pos} (ht : mSto m i t = true) (he : mE m e y = true) (hs : (!isCompr y || (isComp e && lcSwap m t y)) = true) : PS X (.Assign [t] y p) (tAsg (tO C g w n EX W X e) (gName i)) := by
  obtain ⟨z, zp, rfl, h1, h2, h3⟩ := sto_of f ht
  have hN : X.N.Nodup := by rw [f.hN]; exact f.nd
  cases hc : isCompr y with
  | false => exact ps_set hN h1 h2 (sound f e he).pe (swaps_none hc) h3
  | true =>
    rw [hc] at hs
    obtain ⟨q1, q2⟩ := and2 (show (isComp e && lcSwap m (.Name z zp) y) = true from hs)
    cases y with
    | ListComp elt gens scope vp =>
      have q2 : (m.sc.kind == .function && decide (m.sc.names.lookup z = some .local) && zp.line == vp.line && !(scope.names.any fun (n, k) => n == z && (k == .local || k == .cell))) = true := q2
      obtain ⟨a1, a2⟩ := and2 q2
      obtain ⟨a3, a4⟩ := and2 a1
      obtain ⟨a5, a6⟩ := and2 a3
      have lk : X.env.scope.names.lookup z = some .local := by rw [f.hsc]; exact of_decide_eq_true a6
      have sw : (X.env.blockKind == .function && X.env.kindOf z == some .local && zp.line == vp.line && !(scope.names.any fun (n, k) => n == z && (k == .local || k == .cell))) = true := by
        rw [fun_block (by rw [f.hsc]; exact a5), a4, a2, kind_eq, lk]; rfl
      cases hh : m.hot with
      | false =>
        obtain ⟨tg, it, ifs, rfl, wi, gg, tt, te, own, k1, k2, k3, k4, k5, k6, k7⟩ := gens_of f hh q1 he
        exact PS.imp (ps_setLc (f.calm hh) hN h1 lk (swap_t sw) k1 k2 k3 k4 k5 k6) fun D σ H q => k7 σ H _ q
      | true =>
        obtain ⟨tg, it, ifs, rfl, tl, gg, tt, te, own, k1, k2, k3, k4, k5, k6, k7⟩ := gens_hot f hh q1 he
        exact PS.imp (cool_setLc h1 lk (swap_t sw) f.cool hN k1 k2 k3 k4 k5 k6) fun D σ H q => k7 σ H _ q
    | _ => cases q2
theorem x_name (f : XS C g w n EX m W X) {e : Ex} {i : Nat} {t y : Expr} {p : Pos} (ht : mSto m i t = true) (he : mE m e y = true) (hs : (!isCompr y || (isComp e && lcSwap m t y)) = true) : PS X (.Assign [t] y p) (tX C g w n EX W X (.asg (.name i) e)) := by
  refine PS.imp (sto_or f.toXF ht he hs) fun D σ H ⟨F, ρ, G, env, S, s, q⟩ => ?_
  refine ⟨F, ρ, G, env, S, s, At.fz (At.imp (AtS.bind (P1 := PD (kx X EX) G σ) q) ?_)⟩
  intro v H1 ⟨a, F1, ρ1, env1, S1, le1, pre1, s1, ra, a1⟩
  have a1 : AtS (kx X EX) W EX G D F1 ρ1 (.ok .nxt (env1.set i (.dat a)) S1) := a1
  exact AtS.nxt a1 (s1.slot (.inr ⟨a, v, rfl, rfl, ra⟩))
theorem x_own (f : XS C g w n EX m W X) {e : Ex} {i : Nat} {t y : Expr} {p : Pos} (ht : mSto m i t = true) (he : mE m e y = true) (hs : (!isCompr y || (isComp e && lcSwap m t y)) = true) : PS X (.Assign [t] y p) (tX C g w n EX W X (.own i e)) := by
  refine PS.imp (sto_or f.toXF ht he hs) fun D σ H ⟨F, ρ, G, env, S, s, q⟩ => ?_
  refine ⟨F, ρ, G, env, S, s, At.imp (AtS.bind (P1 := POut (kx X EX) G σ) q) ?_⟩
  intro v H1 ⟨a, F1, ρ1, env1, S1, le1, pre1, s1, ra, a1⟩
  cases a with
  | val d => exact (show False from a1).elim
  | hdl j => exact (show False from a1).elim
  | new c =>
    cases c with
    | dead => exact (show False from a1).elim
    | dic _ => exact (show False from a1).elim
    | lst ds =>
      obtain ⟨b, xs, rfl, q1, q2, q3, q4, q5, q6, q7⟩ := ra
      have a1 : AtS (kx X EX) W EX G D F1 ρ1 (.ok .nxt (env1.set i (.lst ds)) S1) := a1
      exact AtS.nxt a1 (s1.ownSet q1 q2 q3 q4 q5 q6 q7)
theorem x_put (f : XS C g w n EX m W X) {o k v : Ex} {a b y : Expr} {tp p : Pos} (ho : mE m o a = true) (hk : mE m k b = true) (hv : mE m v y = true) (hc : isCompr y = false) (hs : isSlice b = false) : PS X (.Assign [.Subscript a b tp] y p) (tX C g w n EX W X (.put o k v)) := by
  have hg := pg_sub (pos := tp) (sound f.toXF o ho).pe (sound f.toXF k hk).pe set_list (by intro v; cases b <;> first | rfl | (cases hs))
  refine PS.imp (ps_asg (sound f.toXF v hv).pe hg (sole_none hc) (by cases y <;> rfl) rfl) fun D σ H ⟨F, ρ, G, env, S, s, q⟩ => ?_
  refine ⟨F, ρ, G, env, S, s, At.fz (At.imp (AtS.bind (P1 := PD (kx X EX) G σ) q) ?_)⟩
  intro u H1 ⟨d, F1, ρ1, env1, S1, le1, pre1, s1, rd, a1⟩
  refine ⟨F1, ρ1, G, env1, S1, s1, At.ar (At.imp (AtS.bind (P1 := PAr (kx X EX) G σ) a1) ?_)⟩
  intro x H2 ⟨ax, F2, ρ2, env2, S2, le2, pre2, s2, rx, a2⟩
  refine ⟨F2, ρ2, G, env2, S2, s2, At.fz (At.imp (AtS.bind (P1 := PD (kx X EX) G σ) a2) ?_)⟩
  intro j H3 ⟨kd, F3, ρ3, env3, S3, le3, pre3, s3, rk, a3⟩
  cases e : (cellAt env3 S3 ax).bind fun c => putF c kd d with
  | none => rw [e] at a3; exact (show False from a3).elim
  | some c =>
    rw [e] at a3
    have a3 : AtS (kx X EX) W EX G D F3 ρ3 (.ok .nxt (cellPut env3 S3 ax c).1 (cellPut env3 S3 ax c).2) := a3
    obtain ⟨c0, ec, em⟩ := bind_some e
    cases c0 with
    | dic _ => cases em
    | dead => cases em
    | lst ds =>
      cases kd with
      | int i =>
        obtain ⟨pp, xs, rfl, h1, h2, h3, wr⟩ := cell_at s3 (ArRep.mono rx le3 pre3) ec
        obtain ⟨jj, ej, rfl⟩ := map_some (show (L2.ixN ds.length i).map (fun k => Cell.lst (ds.set k d)) = some c from em)
        cases rk
        refine ⟨pp, xs, i, jj, rfl, rfl, h1, by rw [h3.length]; exact ej, ?_⟩
        exact AtS.nxt a3 (wr _ _ (by rw [List.length_set]; exact h2) (h3.set (rd.mono (le2.trans le3) (prefix_trans pre2 pre3))))
      | _ => cases em
theorem set_names {K : KX} {F G H : Hp} {ρ : List Addr} {S : Store} {σ : L2.St} {env env' : Env} {i j : Nat} {x y : V} {d e : D} (s : Sim K F ρ G env S σ H) (r : Rep K F ρ x d) (r' : Rep K F ρ y e) (h : setNames [i, j] [d, e] env = some env') : Sim K F ρ G env' S ((σ.set i (some x)).set j (some y)) H := by
  cases h
  exact (s.slot (.inr ⟨d, x, rfl, rfl, r⟩)).slot (.inr ⟨e, y, rfl, rfl, r'⟩)
theorem swapped_two {env : PySem.Env} {x y : Str} {px py pt p2 : Pos} {kt k2 : Nat} {a b : Expr} (hk : env.blockKind = .function) (hx : env.kindOf x = some .local) (hy : env.kindOf y = some .local) (hl : (px.line == py.line) = true) (hxy : x ≠ y)
    (ha : isStar a = false) (hb : isStar b = false) (fa : foldedForSure 8 a = false) (ca : constantsAlone 8 a = false) : swappedStores [.Tuple [.Name x px, .Name y py] kt pt] (.Tuple [a, b] k2 p2) env = pure (some [x, y]) := by
  have hl' : py.line = px.line := (beq_iff_eq.mp hl).symm
  have sa : ∀ z, isStar z = false → (match z with | .Starred .. => true | _ => false) = false := fun z h => by
    cases z <;> first | rfl | (cases h)
  have hn : ([Expr.Name x px, Expr.Name y py].filterMap fun
      | .Name id pos => if env.kindOf id == some .local && pos.line == (([Expr.Name x px, Expr.Name y py].head?.map (·.pos.line)).getD 0) then some id else none
      | _ => none) = [x, y] := by
    simp [hx, hy, Expr.pos, hl']
  unfold swappedStores
  refine (if_neg ?_).trans ?_
  · rw [hk]; simp
  refine (if_neg ?_).trans ?_
  · intro z
    simp only [List.any_cons, List.any_nil, Bool.or_false, Bool.or_eq_true] at z
    rcases z with z | z
    · exact absurd (z.symm.trans (sa a ha)) (by decide)
    · exact absurd (z.symm.trans (sa b hb)) (by decide)
  refine Eq.trans (congrArg (fun (ns : List Str) => if (ns.length != [Expr.Name x px, Expr.Name y py].length || ns.eraseDups.length != ns.length) = true then pure none else if ([a, b].all (foldedForSure 8)) = true then pure none else if ([a, b].all (constantsAlone 8)) = true then (do unsupported "assign.tuple-of-constant-expressions:order-of-the-stores"; return some ns : Sem (Option (List Str))) else pure (some ns)) hn) ?_
  have he : [x, y].eraseDups.length = 2 := by
    rw [List.eraseDups_cons]
    simp [hxy, Ne.symm hxy]
    rfl
  simp [he, fa, ca]
theorem x_par (f : XS C g w n EX m W X) {es : List Ex} {is : List Nat} {ts ys : List Expr} {k k2 : Nat} {tp yp p : Pos} (hp : mPar m is ts ys = true) (he : mEs m es ys = true) : PS X (.Assign [.Tuple ts k tp] (.Tuple ys k2 yp) p) (tX C g w n EX W X (.asg (.tup is) (.tup es))) := by
  unfold mPar at hp
  split at hp
  · rename_i x px y py a b
    split at hp
    · rename_i i j
      simp only [Bool.and_eq_true, decide_eq_true_eq, Bool.not_eq_true'] at hp
      obtain ⟨⟨⟨⟨⟨⟨⟨⟨⟨⟨⟨⟨h1, h2⟩, hh⟩, h3⟩, h4⟩, h5⟩, h6⟩, h7⟩, h8⟩, h9⟩, h10⟩, h11⟩, h12⟩ := hp
      have hN : X.N.Nodup := by rw [f.hN]; exact f.nd
      have lx : X.env.scope.names.lookup x = some .local := by rw [f.hsc]; exact h5
      have ly : X.env.scope.names.lookup y = some .local := by rw [f.hsc]; exact h6
      obtain ⟨q1, q2, q3⟩ := soundEs f.toXF es he
      refine PS.imp (ps_par (f.calm hh) hN (by rw [f.hN]; exact h1) (by rw [f.hN]; exact h2) h3 lx ly q1.2 (swapped_two (fun_block (by rw [f.hsc]; exact h7)) (by rw [kind_eq]; exact lx) (by rw [kind_eq]; exact ly) h8 h4 h9 h10 h11 h12) (sole_none rfl)) fun D σ H ⟨F, ρ, G, env, S, s, q⟩ => ?_
      have q : AtS (kx X EX) W EX G D F ρ ((((evDs C g es env S).bind fun ds env S => .ok (.val (.tup ds)) env S).fz).bind fun d env S => (ofO (bindTg (.tup [i, j]) d env) env S).bind fun env' _ S => .ok .nxt env' S) := q
      have q : AtS (kx X EX) W EX G D F ρ ((evDs C g es env S).bind fun ds env S => (ofO (setNames [i, j] ds env) env S).bind fun env' _ S => .ok .nxt env' S) := by
        cases z : evDs C g es env S with
        | ok a b c => rw [z] at q; exact q
        | exc a b c => rw [z] at q; exact q
        | bad => rw [z] at q; exact q
      refine ⟨F, ρ, G, env, S, s, At.imp (AtS.bind (P1 := PDs (kx X EX) G σ) q) ?_⟩
      intro vs H1 ⟨ds, F1, ρ1, env1, S1, le1, pre1, s1, rds, a1⟩
      cases z : setNames [i, j] ds env1 with
      | none => rw [z] at a1; exact (show False from a1).elim
      | some env2 =>
        rw [z] at a1
        have a1 : AtS (kx X EX) W EX G D F1 ρ1 (.ok .nxt env2 S1) := a1
        match ds, vs, rds, z with
        | [d, e], _, .cons r1 (.cons r2 .nil), z => exact ⟨_, _, rfl, AtS.nxt a1 (set_names s1 r1 r2 z)⟩
        | [], _, _, z => cases z
        | [_], _, _, z => cases z
        | _ :: _ :: _ :: _, _, _, z => cases z
    · cases hp
  · cases hp
theorem x_tup (f : XS C g w n EX m W X) {e : Ex} {tg : Tg} {ts : List Expr} {k : Nat} {y : Expr} {tp p : Pos} (ht : mTg m tg (.Tuple ts k tp) = true) (he : mE m e y = true) (hc : isCompr y = false) (hy : isTup y = false) : PS X (.Assign [.Tuple ts k tp] y p) (tX C g w n EX W X (.asg tg e)) := by
  refine PS.imp (ps_asg (sound f.toXF e he).pe (pg_tg f.toXF ht) (sole_none hc) (by cases y <;> first | rfl | (cases hy)) rfl) fun D σ H ⟨F, ρ, G, env, S, s, q⟩ => ?_
  refine ⟨F, ρ, G, env, S, s, At.fz (At.imp (AtS.bind (P1 := PD (kx X EX) G σ) q) ?_)⟩
  intro v H1 ⟨a, F1, ρ1, env1, S1, le1, pre1, s1, ra, a1⟩
  cases z : bindTg tg a env1 with
  | none => rw [z] at a1; exact (show False from a1).elim
  | some env2 =>
    rw [z] at a1
    have a1 : AtS (kx X EX) W EX G D F1 ρ1 (.ok .nxt env2 S1) := a1
    exact ⟨F1, ρ1, G, env1, S1, a, env2, s1, ra, z, fun σ' s' _ _ => AtS.nxt a1 s'⟩

theorem swapped_cell {env : PySem.Env} {ts vs : List Expr} {k k2 : Nat} {tp p2 : Pos} {x : Str} {px : Pos} {r : List Expr} (ht : ts = .Name x px :: r) (hx : env.kindOf x ≠ some .local) : swappedStores [.Tuple ts k tp] (.Tuple vs k2 p2) env = pure none := by
  subst ht
  have hl : ((.Name x px :: r).filterMap fun
      | .Name id pos => if env.kindOf id == some .local && pos.line == (((Expr.Name x px :: r).head?.map (·.pos.line)).getD 0) then some id else none
      | _ => none).length ≤ r.length := by
    rw [List.filterMap_cons]
    have e : (env.kindOf x == some .local) = false := by simpa using hx
    simp only [e, Bool.false_and]
    exact List.length_filterMap_le _ _
  unfold swappedStores
  show (if _ then _ else _) = _
  split
  · rfl
  · split
    · rfl
    · dsimp only
      rw [if_pos]
      · rw [Bool.or_eq_true]
        left
        rw [bne_iff_ne]
        intro z
        exact absurd (Nat.le_trans (Nat.le_of_eq z.symm) hl) (by simp)
theorem x_tupC (f : XS C g w n EX m W X) {es : List Ex} {is : List Nat} {ts ys : List Expr} {k k2 : Nat} {tp yp p : Pos} (hc : cellTg m ts = true) (ht : mTg m (.tup is) (.Tuple ts k tp) = true) (he : mEs m es ys = true) (hl : es.length < 1000) : PS X (.Assign [.Tuple ts k tp] (.Tuple ys k2 yp) p) (tX C g w n EX W X (.asg (.tup is) (.tup es))) := by
  have hsw : swappedStores [.Tuple ts k tp] (.Tuple ys k2 yp) X.env = pure none := by
    unfold cellTg at hc
    split at hc
    · rename_i x px r
      refine swapped_cell rfl ?_
      rw [kind_eq, f.hsc]
      simpa using hc
    · cases hc
  refine PS.imp (ps_asg (s_tup (soundEs f.toXF es he).1.2 hl) (pg_tg f.toXF ht) (sole_none rfl) hsw rfl) fun D σ H ⟨F, ρ, G, env, S, s, q⟩ => ?_
  refine ⟨F, ρ, G, env, S, s, At.fz (At.imp (AtS.bind (P1 := PD (kx X EX) G σ) q) ?_)⟩
  intro v H1 ⟨a, F1, ρ1, env1, S1, le1, pre1, s1, ra, a1⟩
  cases z : bindTg (.tup is) a env1 with
  | none => rw [z] at a1; exact (show False from a1).elim
  | some env2 =>
    rw [z] at a1
    have a1 : AtS (kx X EX) W EX G D F1 ρ1 (.ok .nxt env2 S1) := a1
    exact ⟨F1, ρ1, G, env1, S1, a, env2, s1, ra, z, fun σ' s' _ _ => AtS.nxt a1 s'⟩

/-! ### raise -/
theorem reps_fs {K : PySem.W.Frag} {fl : FL} {F : Hp} {ρ : List Addr} : ∀ {fs : List String} {vs : List V} {ds : List D}, Reps ⟨K, none, fl⟩ F ρ vs ds → RepFs ⟨K, none, FL.z []⟩ F ρ ((fs.map Str.ofString).zip vs) (fs.zip ds)
  | [], _, _, _ => by rw [List.map_nil, List.zip_nil_left, List.zip_nil_left]; exact .nil
  | _ :: _, _, _, .nil => by rw [List.zip_nil_right, List.zip_nil_right]; exact .nil
  | f :: fs, _, _, .cons h t => .cons (Rep.cast (K := ⟨K, none, fl⟩) (K' := ⟨K, none, FL.z []⟩) rfl rfl h) (reps_fs t)
theorem repFs_append {K : KX} {F : Hp} {ρ : List Addr} : ∀ {vs ws : List (Str × V)} {ds es : List (String × D)}, RepFs K F ρ vs ds → RepFs K F ρ ws es → RepFs K F ρ (vs ++ ws) (ds ++ es)
  | _, _, _, _, .nil, h => h
  | _, _, _, _, .cons h t, h' => .cons h (repFs_append t h')
theorem repFs_reverse {K : KX} {F : Hp} {ρ : List Addr} : ∀ {vs : List (Str × V)} {ds : List (String × D)}, RepFs K F ρ vs ds → RepFs K F ρ vs.reverse ds.reverse
  | _, _, .nil => .nil
  | _, _, .cons h t => by rw [List.reverse_cons, List.reverse_cons]; exact repFs_append (repFs_reverse t) (.cons h .nil)
theorem repFs_mono {K : KX} {F F' : Hp} {ρ ρ' : List Addr} (hF : Le F F') (hρ : ρ <+: ρ') : ∀ {vs : List (Str × V)} {ds : List (String × D)}, RepFs K F ρ vs ds → RepFs K F' ρ' vs ds
  | _, _, .nil => .nil
  | _, _, .cons h t => .cons (h.mono hF hρ) (repFs_mono hF hρ t)
theorem x_rai (f : XS C g w n EX m W X) (hh : m.hot = false) {c : String} {fs : List String} {as : List Ex} {e : Expr} {es : List Expr} {z : Str} {p p2 p3 : Pos} (hz : z = Str.ofString c) (hg : glB m.sc z = true) (hd : okN z = true) (hr : m.rs c = some fs) (hn : noStars (e :: es) = true) (h : PA X (e :: es) (tDs C g w n EX W X as)) :
    PS X (.Raise (some (.Call (.Name z p) (e :: es) [] p2)) none p3) (tX C g w n EX W X (.rai c fs as)) := by
  have gl := gl_of f.toXF hg
  subst hz
  obtain ⟨r2, hxo, hex, hc, Da, R⟩ := f.rai hh c fs hr
  refine PS.imp (L2N.ps_raise (f.calm hh) f.tk (pmk_rai R r2 gl h (dbg_of hd).1 hn)) fun D σ H ⟨F, ρ, G, env, S, s, q⟩ => ?_
  have q : AtS (kx X EX) W EX G D F ρ ((evDs C g as env S).nox.bind fun ds env S => if ds.length = fs.length then .exc ⟨c, (fs.zip ds).reverse⟩ env S else .bad) := q
  refine ⟨F, ρ, G, env, S, s, ?_⟩
  cases zq : evDs C g as env S with
  | exc _ _ _ => rw [zq] at q; exact (show False from q).elim
  | bad => rw [zq] at q; exact (show False from q).elim
  | ok ds env1 S1 =>
    rw [zq] at q
    intro F1 ρ1 H1 vs le1 pre1 s1 rd
    have q : AtS (kx X EX) W EX G D F ρ (if ds.length = fs.length then .exc ⟨c, (fs.zip ds).reverse⟩ env1 S1 else .bad) := q
    by_cases hl : ds.length = fs.length
    · rw [if_pos hl] at q
      refine ⟨by rw [Reps.length rd, hl], fun d hd => ?_⟩
      have le2 : Le F1 (upd F1 d (.xd ((fs.map Str.ofString).zip vs).reverse)) := Le.upd (s1.fnone hd)
      refine q _ ρ1 σ _ (.ref Da) (some d) (le1.trans le2) pre1 (s1.put hd) ?_
      rw [hex]
      refine ⟨Da, hc, R.mg, rfl, .inr ⟨d, _, rfl, upd_same, ?_⟩⟩
      have hkx : kx X EX = ⟨X.K, none, EX.fl⟩ := by unfold kx; rw [hxo]
      have rd : Reps (kx X EX) F1 ρ1 vs ds := rd
      rw [hkx] at rd
      exact repFs_reverse (reps_fs (rd.mono le2 prefix_refl))
    · rw [if_neg hl] at q; exact (show False from q).elim

/-! ### try -/
theorem XS.tr (f : XS C g w n EX m W X) (hh : m.hot = false) (hx : m.ex = false) {pn : List (Addr × Obj)} {xe : Value → Shared → Prop} {W' : WX} (tk : L2N.Takes (X.tr pn xe) W') (po : PassesOwn (model X.prog X.w) X.A X.env xe) : XS C g w n EX m W' (X.tr pn xe) where
  hN := f.hN
  nd := f.nd
  hsc := f.hsc
  hfn := f.hfn
  calm := f.calm
  cool := cool_calm (show X.calm = true from f.calm hh)
  units := f.units
  room := f.room
  tk := tk
  fns := f.fns
  glo := f.glo
  blt := f.blt
  lamT := f.lamT
  thT := f.thT
  hotT := fun h => by rw [hh] at h; cases h
  xcn := f.xcn
  exq := fun h => by rw [hx] at h; cases h
  po := po
  rai := f.rai
  tri := f.tri
theorem XS.suite (f : XS C g w n EX m W X) (htr : m.tr = true) (hh : m.hot = false) {a : Addr} {oe : Obj} {k : String} {Da : Addr} {d : Option Addr} {pn : List (Addr × Obj)} (hz : L2N.Zn (.ref Da) d oe) (hfd : ∃ vs, oe.data = .fields vs) (hk : k ∈ m.xr) (hm : X.mg (Str.ofString k) = some (.ref Da)) :
    XS C g w n ⟨EX.ex, some ⟨a, k, d⟩, EX.fl⟩ (hotMC m) (fun _ _ _ _ => False) (X.suite a ((a, oe) :: pn)) := by
  obtain ⟨hxo, hex, hr, er, hots, _⟩ := f.tri htr hh
  obtain ⟨D', d1, d2, d3, d4⟩ := er.cls k hk
  have e := hm.symm.trans d1
  cases e
  have hot : L2H.Hot1 (X.suite a ((a, oe) :: pn)).A (a, oe) := by
    obtain ⟨vs, hv⟩ := hfd
    exact ⟨rfl, vs, hv, hz.2.2 vs hv⟩
  exact {
    hN := f.hN, nd := f.nd, hsc := f.hsc, hfn := f.hfn, calm := fun h => by cases h
    cool := cool_hot ⟨(a, oe), hot, List.mem_cons_self⟩
    units := f.units, room := fun h => by cases h
    tk := takes0N, fns := fun h => by cases h
    glo := fun x dd e => by
      obtain ⟨u, v, h1, h2, h3⟩ := f.glo x dd e
      refine ⟨u, v, h1, h2, fun F ρ => ?_⟩
      have := h3 F ρ
      rw [show kx X EX = ⟨X.K, none, EX.fl⟩ by unfold kx; rw [hxo]] at this
      exact this.up
    blt := f.blt, lamT := fun h => by cases h
    thT := fun i h => by cases h
    hotT := fun _ _ => ⟨⟨hr.dp, hr.un⟩, hots, fun x hx => by
      cases hx
      exact ⟨oe, Da, List.mem_cons_self, hot, hz.zc, hm, hk⟩⟩
    xcn := fun _ c hc => er.asked c hc
    exq := fun _ x hx => by
      cases hx
      exact ⟨oe, Da, List.mem_cons_self, hz.zc, hfd, d2, d3, d4, fun c hc => by
        obtain ⟨D2, e2⟩ := er.asked c hc
        exact ⟨D2, e2, er.kit k hk c hc Da D2 hm e2⟩⟩
    po := PassesOwn.never
    rai := fun h => by cases h
    tri := fun h => by cases h }
/-- the readings of the clauses -/
def tsH (C : Calls) (g : Glos) (w : WS) (n : Nat) (EX : EXT) (m : MC) (X : Cx) (a : List Stm) : TSu := fun ad cls d => fun D σ H => ∃ k Da, k ∈ m.xr ∧ X.mg (Str.ofString k) = some (.ref Da) ∧ cls = .ref Da ∧ tS ⟨X.K, some ⟨ad, k, d⟩, EX.fl⟩ (fun _ _ _ _ => False) ⟨EX.ex, some ⟨ad, k, d⟩, EX.fl⟩ (exSs C g w.w w.sub a) D σ H
inductive HLs (C : Calls) (g : Glos) (w : WS) (n : Nat) (EX : EXT) (m : MC) (X : Cx) : List Hd → List (Value × Option Nat × TSu) → Prop
  | nil : HLs C g w n EX m X [] []
  | cons {c : String} {v : Option Nat} {a : List Stm} {hs : List Hd} {l : List (Value × Option Nat × TSu)} {Dc : Addr} (hc : c ∈ m.xh) (hm : X.mg (Str.ofString c) = some (.ref Dc)) (t : HLs C g w n EX m X hs l) : HLs C g w n EX m X (.mk c v a :: hs) ((.ref Dc, v, tsH C g w n EX m X a) :: l)
def offS (σ : L2.St) : Option Nat → L2.St
  | none => σ
  | some i => σ.set i none
theorem endsAs_nx {D : Ends} {v : Option Nat} {σ : L2.St} {H : Hp} : (endsAs D v).nx σ H = D.nx (offS σ v) H := by cases v <;> rfl
theorem endsAs_bk {D : Ends} {v : Option Nat} {σ : L2.St} {H : Hp} : (endsAs D v).bk σ H = D.bk (offS σ v) H := by cases v <;> rfl
theorem endsAs_ct {D : Ends} {v : Option Nat} {σ : L2.St} {H : Hp} : (endsAs D v).ct σ H = D.ct (offS σ v) H := by cases v <;> rfl
theorem endsAs_rt {D : Ends} {v : Option Nat} : (endsAs D v).rt = D.rt := by cases v <;> rfl
/-- an exception met by the clauses -/
theorem x_met (f : XS C g w n EX m W X) (htr : m.tr = true) (hh : m.hot = false) {x : Exn} {e1 : Env} {S1 : Store} {D : Ends} {F G : Hp} {ρ : List Addr} : ∀ {hs : List Hd} {l : List (Value × Option Nat × TSu)}, HLs C g w n EX m X hs l → AtS (kx X EX) W EX G D F ρ (exHs C g w.w w.sub hs x e1 S1) →
    ∀ {F' ρ' σ' H cls d}, Le F F' → ρ <+: ρ' → Sim (kx X EX) F' ρ' G e1 S1 σ' H → EX.ex F' ρ' H cls d x → wHs X.K W D l cls d σ' H
  | _, _, .nil, a, F', ρ', σ', H, cls, d, le, pre, s, ex => a F' ρ' σ' H cls d le pre s ex
  | _, _, .cons (c := c) (v := v) (a := su) (hs := hs) (l := l) (Dc := Dc) hc hm t, a, F', ρ', σ', H, cls, d, le, pre, s, ex => by
    obtain ⟨hxo, hex, hr, er, hots, _⟩ := f.tri htr hh
    have hkx : kx X EX = ⟨X.K, none, EX.fl⟩ := by unfold kx; rw [hxo]
    have ex' := ex
    rw [hex] at ex'
    obtain ⟨Da, h1, h2, rfl, h3⟩ := ex'
    have a : AtS (kx X EX) W EX G D F ρ (match (if w.sub x.cls c then some (lowF v (exSs C g w.w w.sub su (asEnv v x e1) S1)) else none) with
      | some r => r
      | none => exHs C g w.w w.sub hs x e1 S1) := a
    refine ⟨w.sub x.cls c, er.exm _ h1 _ hc _ _ h2 hm, fun hb ad na => ?_, fun hb => ?_⟩
    · rw [if_pos hb] at a
      have a : AtS (kx X EX) W EX G D F ρ (lowF v (exSs C g w.w w.sub su (asEnv v x e1) S1)) := a
      refine ⟨x.cls, Da, h1, h2, rfl, F', ρ', G, asEnv v x e1, S1, ?_, ?_⟩
      · rw [hkx] at s
        have s1 : Sim ⟨X.K, some ⟨ad, x.cls, d⟩, EX.fl⟩ F' ρ' G e1 S1 σ' H := s.upE
        cases v with
        | none => exact s1
        | some i =>
          refine s1.slot (.inr ⟨_, .ref ad, rfl, rfl, ?_⟩)
          rcases h3 with ⟨rfl, h4⟩ | ⟨dd, vs, rfl, h4, h5⟩
          · rw [h4]; exact Rep.exo0 (K := ⟨X.K, some ⟨ad, x.cls, none⟩, EX.fl⟩) (x := ⟨ad, x.cls, none⟩) rfl rfl
          · exact Rep.exo (K := ⟨X.K, some ⟨ad, x.cls, some dd⟩, EX.fl⟩) (x := ⟨ad, x.cls, some dd⟩) rfl rfl h4 h5.up
      · have key : ∀ {fl : Fl} {e2 : Env} {S2 : Store}, AtS (kx X EX) W EX G D F ρ (lowF v (.ok fl e2 S2)) → (AtS (kx X EX) W EX G D F ρ (.ok fl (offEnv v e2) S2) ∧ fl.noX = true ∧ ∀ {F2 ρ2 σ2 H2}, Sim ⟨X.K, some ⟨ad, x.cls, d⟩, EX.fl⟩ F2 ρ2 G e2 S2 σ2 H2 → Sim (kx X EX) F2 ρ2 G (offEnv v e2) S2 (offS σ2 v) H2) := fun {fl e2 S2} q => by
          have q : AtS (kx X EX) W EX G D F ρ (if fl.noX && (offEnv v e2).all Sl.noX && S2.all Cell.noX then .ok fl (offEnv v e2) S2 else .bad) := q
          cases hc : (fl.noX && (offEnv v e2).all Sl.noX && S2.all Cell.noX) with
          | false => rw [hc] at q; exact (show False from q).elim
          | true =>
            rw [hc, if_pos rfl] at q
            obtain ⟨c1, c2⟩ := and2 hc
            obtain ⟨c3, c4⟩ := and2 c1
            refine ⟨q, c3, fun {F2 ρ2 σ2 H2} s2 => ?_⟩
            rw [hkx]
            cases v with
            | none => exact s2.lowE c2 c4
            | some i => exact (s2.slot (i := i) (w := none) (.inl rfl)).lowE c2 c4
        cases zr : exSs C g w.w w.sub su (asEnv v x e1) S1 with
        | bad => rw [zr] at a; exact (show False from a).elim
        | exc _ _ _ => rw [zr] at a; exact (show False from a).elim
        | ok fl e2 S2 =>
          rw [zr] at a
          obtain ⟨q, c3, low⟩ := key a
          cases fl with
          | ret dd =>
            intro F2 ρ2 σ2 H2 u le2 pre2 s2 r
            rw [endsAs_rt]
            exact q F2 ρ2 _ H2 u (le.trans le2) (prefix_trans pre pre2) (low s2) (by rw [hkx]; exact r.low c3)
          | nxt =>
            intro F2 ρ2 σ2 H2 le2 pre2 s2
            rw [endsAs_nx]
            exact q F2 ρ2 _ H2 (le.trans le2) (prefix_trans pre pre2) (low s2)
          | brk =>
            intro F2 ρ2 σ2 H2 le2 pre2 s2
            rw [endsAs_bk]
            exact q F2 ρ2 _ H2 (le.trans le2) (prefix_trans pre pre2) (low s2)
          | cnt =>
            intro F2 ρ2 σ2 H2 le2 pre2 s2
            rw [endsAs_ct]
            exact q F2 ρ2 _ H2 (le.trans le2) (prefix_trans pre pre2) (low s2)
    · rw [hb] at a
      exact x_met f htr hh t a le pre s ex
theorem x_try (f : XS C g w n EX m W X) (htr : m.tr = true) (hh : m.hot = false) {a : List Stm} {hs : List Hd} {body : List Stmt} {h₀ : ExceptHandler} {hds : List ExceptHandler} {l : List (Value × Option Nat × TSu)} {p : Pos} (hl : HLs C g w n EX m X hs l) (ho : HsOk X (h₀ :: hds) l)
    (hb : ∀ (W' : WX) (pn : List (Addr × Obj)) (xe : Value → Shared → Prop), L2N.Takes (X.tr pn xe) W' → PassesOwn (model X.prog X.w) X.A X.env xe → PSs (X.tr pn xe) body (tXs C g w n EX W' (X.tr pn xe) a)) : PS X (.Try body (h₀ :: hds) [] [] p) (tX C g w n EX W X (.tri a hs)) := by
  obtain ⟨hxo, hex, hr, er, hots, st1, st2⟩ := f.tri htr hh
  refine PS.imp (ps_try_hs st1 st2 (by rw [f.hN]; exact f.nd) f.tk (tb := fun W' => tS (kx X EX) W' EX (exSs C g w.w w.sub a)) (fun W' pn xe tk po => hb W' pn xe tk po) ho) fun D σ H ⟨F, ρ, G, env, S, s, q⟩ => ?_
  have q : AtS (kx X EX) W EX G D F ρ (match exSs C g w.w w.sub a env S with
    | .exc x env S => exHs C g w.w w.sub hs x env S
    | r => r) := q
  refine ⟨F, ρ, G, env, S, s, ?_⟩
  cases zq : exSs C g w.w w.sub a env S with
  | bad => rw [zq] at q; exact (show False from q).elim
  | ok fl e1 S1 => rw [zq] at q; cases fl <;> exact q
  | exc x e1 S1 =>
    rw [zq] at q
    exact fun F' ρ' σ' H' cls d le pre s' ex => x_met f htr hh hl q le pre s' ex

/-! ### every statement -/
mutual
theorem soundS {EX : EXT} {m : MC} {W : WX} {X : Cx} (f : XS C g w n EX m W X) : ∀ (s : Stm) {st : Stmt}, mS m s st = true → PS X st (tX C g w n EX W X s)
  | .ex e, st, h => by
    have h : (match (generalizing := false) st with
      | .Expr y _ => mE m e y && !isCompr y
      | _ => false) = true := h
    split at h
    · obtain ⟨h1, h2⟩ := and2 h
      exact x_ex f h1 (not1 h2)
    · cases h
  | .asg (.name i) e, st, h => by
    have h : (match (generalizing := false) st with
      | .Assign [t] y _ => mSto m i t && mE m e y && (!isCompr y || (isComp e && lcSwap m t y))
      | _ => false) = true := h
    split at h
    · obtain ⟨h1, h2⟩ := and2 h
      obtain ⟨h3, h4⟩ := and2 h1
      exact x_name f h3 h4 h2
    · cases h
  | .asg (.tup is) e, st, h => by
    have h : (match (generalizing := false) st with
      | .Assign [.Tuple ts k tp] y _ => (match (generalizing := false) y with
        | .Tuple ys _ _ => (match (generalizing := false) tupEs e with
          | some es => (mPar m is ts ys && mEs m es ys) || (cellTg m ts && mTg m (.tup is) (.Tuple ts k tp) && mEs m es ys && decide (es.length < 1000))
          | none => false)
        | y => mTg m (.tup is) (.Tuple ts k tp) && mE m e y && !isCompr y)
      | _ => false) = true := h
    split at h
    · split at h
      · split at h
        · rename_i es he
          cases e with
          | tup es' =>
            cases he
            rcases Bool.or_eq_true_iff.mp h with h | h
            · obtain ⟨h1, h2⟩ := and2 h
              exact x_par f h1 h2
            · obtain ⟨h1, h2⟩ := and2 h
              obtain ⟨h3, h4⟩ := and2 h1
              obtain ⟨h5, h6⟩ := and2 h3
              exact x_tupC f h5 h6 h4 (of_decide_eq_true h2)
          | _ => cases he
        · cases h
      · rename_i hn
        obtain ⟨h1, h2⟩ := and2 h
        obtain ⟨h3, h4⟩ := and2 h1
        exact x_tup f h3 h4 (not1 h2) (by unfold isTup; split <;> first | rfl | exact (hn _ _ _ rfl).elim)
    · cases h
  | .asg (.tupT is) e, st, h => by
    have h : (match (generalizing := false) st with
      | .Assign [.Tuple ts k tp] y _ => mTg m (.tupT is) (.Tuple ts k tp) && mE m e y && !isCompr y && !isTup y
      | _ => false) = true := h
    split at h
    · obtain ⟨h1, h2⟩ := and2 h
      obtain ⟨h3, h4⟩ := and2 h1
      obtain ⟨h5, h6⟩ := and2 h3
      exact x_tup f h5 h6 (not1 h4) (not1 h2)
    · cases h
  | .own i e, st, h => by
    have h : (match (generalizing := false) st with
      | .Assign [t] y _ => mSto m i t && mE m e y && (!isCompr y || (isComp e && lcSwap m t y))
      | _ => false) = true := h
    split at h
    · obtain ⟨h1, h2⟩ := and2 h
      obtain ⟨h3, h4⟩ := and2 h1
      exact x_own f h3 h4 h2
    · cases h
  | .put o k v, st, h => by
    have h : (match (generalizing := false) st with
      | .Assign [.Subscript a b _] y _ => mE m o a && mE m k b && mE m v y && !isCompr y && !isSlice b
      | _ => false) = true := h
    split at h
    · obtain ⟨h1, h2⟩ := and2 h
      obtain ⟨h3, h4⟩ := and2 h1
      obtain ⟨h5, h6⟩ := and2 h3
      obtain ⟨h7, h8⟩ := and2 h5
      exact x_put f h7 h8 h6 (not1 h4) (not1 h2)
    · cases h
  | .ret none, st, h => by
    have h : (match (generalizing := false) st with
      | .Return none _ => true
      | _ => false) = true := h
    split at h
    · refine PS.imp ps_retN fun D σ H ⟨F, ρ, G, env, S, s, q⟩ => ?_
      have q : AtS (kx X EX) W EX G D F ρ (.ok (.ret .non) env S) := q
      exact AtS.ret q s .non
    · cases h
  | .ret (some e), st, h => by
    have h : (match (generalizing := false) st with
      | .Return (some y) _ => mE m e y
      | _ => false) = true := h
    split at h
    · exact x_ret f h
    · cases h
  | .ife c a b, st, h => by
    have h : (match (generalizing := false) st with
      | .If y p q _ => mE m c y && mSs m a p && mSs m b q
      | _ => false) = true := h
    split at h
    · obtain ⟨h1, h2⟩ := and2 h
      obtain ⟨h3, h4⟩ := and2 h1
      exact x_if f h3 (soundSs f a h4) (soundSs f b h2)
    · cases h
  | .whl c a, st, h => by
    have h : (match (generalizing := false) st with
      | .While y p [] _ => mE m c y && mSs m a p
      | _ => false) = true := h
    split at h
    · obtain ⟨h1, h2⟩ := and2 h
      exact x_while f h1 (soundSs f a h2)
    · cases h
  | .fr t k its a, st, h => by
    have h : (match (generalizing := false) st with
      | .For tg it p [] _ => !m.hot && mTg m t tg && mIt m k its it tg && mSs m a p
      | _ => false) = true := h
    split at h
    · obtain ⟨h1, h2⟩ := and2 h
      obtain ⟨h3', h4⟩ := and2 h1
      obtain ⟨hh, h3⟩ := and2 h3'
      exact x_for (not1 hh) f h3 h4 (soundSs f a h2)
    · cases h
  | .brk, st, h => by
    have h : (match (generalizing := false) st with
      | .Break _ => true
      | _ => false) = true := h
    split at h
    · exact PS.imp ps_break fun D σ H ⟨F, ρ, G, env, S, s, q⟩ => (show AtS (kx X EX) W EX G D F ρ (.ok .brk env S) from q) F ρ σ H Le.refl prefix_refl s
    · cases h
  | .cnt, st, h => by
    have h : (match (generalizing := false) st with
      | .Continue _ => true
      | _ => false) = true := h
    split at h
    · exact PS.imp ps_continue fun D σ H ⟨F, ρ, G, env, S, s, q⟩ => (show AtS (kx X EX) W EX G D F ρ (.ok .cnt env S) from q) F ρ σ H Le.refl prefix_refl s
    · cases h
  | .pass, st, h => by
    have h : (match (generalizing := false) st with
      | .Pass _ => true
      | .Expr (.Constant (.str _) _ _) _ => true
      | _ => false) = true := h
    split at h
    · exact PS.imp ps_pass fun D σ H ⟨F, ρ, G, env, S, s, q⟩ => AtS.nxt (show AtS (kx X EX) W EX G D F ρ (.ok .nxt env S) from q) s
    · exact PS.imp ps_doc fun D σ H ⟨F, ρ, G, env, S, s, q⟩ => AtS.nxt (show AtS (kx X EX) W EX G D F ρ (.ok .nxt env S) from q) s
    · cases h
  | .nev, st, h => PS.imp ps_never fun D σ H ⟨F, ρ, G, env, S, s, q⟩ => (show False from q)
  | .rai c fs as, st, h => by
    have h : (match (generalizing := false) st with
      | .Raise (some (.Call (.Name z _) (e :: es) [] _)) none _ => decide (z = Str.ofString c) && !m.hot && glB m.sc z && okN z && decide (m.rs c = some fs) && mEs m as (e :: es)
      | _ => false) = true := h
    split at h
    · obtain ⟨h1, h2⟩ := and2 h
      obtain ⟨h3, h4⟩ := and2 h1
      obtain ⟨h5, h6⟩ := and2 h3
      obtain ⟨h7, h8⟩ := and2 h5
      obtain ⟨h9, h10⟩ := and2 h7
      have q := soundEs f.toXF as h2
      exact x_rai f (not1 h10) (of_decide_eq_true h9) h8 h6 (of_decide_eq_true h4) q.2.1 q.1.2
    · cases h
  | .tri a hs, st, h => by
    have h : (match (generalizing := false) st with
      | .Try body hds [] [] _ => !m.hot && m.tr && !m.ex && mSs m a body && mHs m hs hds && !hds.isEmpty
      | _ => false) = true := h
    split at h
    · obtain ⟨h1, h2⟩ := and2 h
      obtain ⟨h3, h4⟩ := and2 h1
      obtain ⟨h5, h6⟩ := and2 h3
      obtain ⟨h7, h8⟩ := and2 h5
      obtain ⟨h9, h10⟩ := and2 h7
      obtain ⟨l, q1, q2⟩ := soundHs f h10 (not1 h9) hs h4
      rename_i body hds p _
      cases hds with
      | nil => cases h2
      | cons h₀ hds => exact x_try f h10 (not1 h9) q1 q2 fun W' pn xe tk po => soundSs (X := X.tr pn xe) (W := W') (XS.tr f (not1 h9) (not1 h8) tk po) a h6
    · cases h
theorem soundHs {EX : EXT} {m : MC} {W : WX} {X : Cx} (f : XS C g w n EX m W X) (htr : m.tr = true) (hh : m.hot = false) : ∀ (hs : List Hd) {hds : List ExceptHandler}, mHs m hs hds = true → ∃ l, HLs C g w n EX m X hs l ∧ HsOk X hds l
  | [], hds, h => by
    cases hds with
    | nil => exact ⟨[], .nil, .nil⟩
    | cons _ _ => cases h
  | .mk c v a :: hs, hds, h => by
    cases hds with
    | nil => cases h
    | cons y ys =>
      have h : (mH m (.mk c v a) y && mHs m hs ys) = true := h
      obtain ⟨h1, h2⟩ := and2 h
      obtain ⟨l, q1, q2⟩ := soundHs f htr hh hs h2
      have h1 : (match (generalizing := false) y with
        | .ExceptHandler (some (.Name z _)) n suite _ => decide (z = Str.ofString c) && glB m.sc z && okN z && decide (c ∈ m.xh) && mSs (hotMC m) a suite && !suite.isEmpty && (match (generalizing := false) v, n with
          | none, none => true
          | some i, some y => decide (m.N[i]? = some y) && decide (m.sc.names.lookup y = some .local)
          | _, _ => false)
        | _ => false) = true := h1
      split at h1
      · rename_i nm suite p' _ _
        obtain ⟨g1, g2⟩ := and2 h1
        obtain ⟨g3, g4⟩ := and2 g1
        obtain ⟨g5, g6⟩ := and2 g3
        obtain ⟨g7, g8⟩ := and2 g5
        obtain ⟨g9, g10⟩ := and2 g7
        obtain ⟨g11, g12⟩ := and2 g9
        have gl := gl_of f.toXF g12
        cases (of_decide_eq_true g11)
        have hcm := of_decide_eq_true g8
        obtain ⟨hxo, hex, hr, er, hots, st1, st2⟩ := f.tri htr hh
        obtain ⟨Dc, hDc⟩ := er.caught c hcm
        have hno : NameOk X nm v := by
          cases v with
          | none => cases nm with
            | none => trivial
            | some _ => cases g2
          | some i => cases nm with
            | none => cases g2
            | some y =>
              obtain ⟨k1, k2⟩ := and2 g2
              refine ⟨by rw [f.hN]; exact of_decide_eq_true k1, ?_⟩
              rw [kind_eq, f.hsc]; exact of_decide_eq_true k2
        cases suite with
        | nil => cases g4
        | cons b₀ suite =>
          refine ⟨(.ref Dc, v, tsH C g w n EX m X a) :: l, .cons hcm hDc q1, .cons ⟨gl, (dbg_of g10).1, .inl hDc⟩ hno (fun ad oe cls d pn hz hfd => ?_) q2⟩
          refine ⟨fun pins s σ H D I ⟨k, Da, k1, k2, k3, t⟩ => ?_⟩
          subst k3
          exact (soundSs (XS.suite f htr hh hz hfd k1 k2) a g6).run pins s σ H D I t
      · cases h1
theorem soundSs {EX : EXT} {m : MC} {W : WX} {X : Cx} (f : XS C g w n EX m W X) : ∀ (s : List Stm) {st : List Stmt}, mSs m s st = true → PSs X st (tXs C g w n EX W X s)
  | [], st, h => by
    cases st with
    | nil => exact x_nil
    | cons _ _ => cases h
  | s :: ss, st, h => by
    cases st with
    | nil => cases h
    | cons y ys =>
      have h : (mS m s y && mSs m ss ys) = true := h
      obtain ⟨h1, h2⟩ := and2 h
      exact x_cons (soundS f s h1) (soundSs f ss h2)
end
end
end Pf
/-! Pf, part N: defs. -/
namespace Pf
open PySem PySem.Spec PyProof.Rows L2
section
variable {K : KX} {F F' G H H' : Hp} {ρ ρ' : List Addr} {σ : L2.St} {env env' : Env} {S S' : Store}
theorem Reps.dat {vs : List V} {ds : List D} (r : Reps K F ρ vs ds) {i : Nat} {sl : Sl} (e : (ds.map Sl.dat)[i]? = some sl) : ∃ d x, sl = .dat d ∧ vs[i]? = some x ∧ Rep K F ρ x d := by
  rw [List.getElem?_map] at e
  cases z : ds[i]? with
  | none => rw [z] at e; cases e
  | some d =>
    rw [z] at e; cases e
    obtain ⟨x, e1, e2⟩ := r.get z
    exact ⟨d, x, rfl, e1, e2⟩
theorem Sim.start (s : Sim K F ρ G [] S [] H) {N : List Str} {ns : Nat} {vs : List V} {ds : List D} (r : Reps K F ρ vs ds) (hn : N.length = ns) : Sim K F ρ G (startE ns ds) S (L2.start N vs) H := by
  have hl : (ds.map Sl.dat).length = vs.length := by rw [List.length_map, r.length]
  have key : ∀ i sl, (startE ns ds)[i]? = some sl → sl = Sl.no ∨ ∃ d x, sl = Sl.dat d ∧ (L2.start N vs)[i]? = some (some x) ∧ Rep K F ρ x d := fun i sl e => by
    unfold startE at e
    by_cases hi : i < (ds.map Sl.dat).length
    · rw [List.getElem?_append_left hi] at e
      obtain ⟨d, x, e1, e2, e3⟩ := r.dat e
      refine .inr ⟨d, x, e1, ?_, e3⟩
      unfold L2.start
      rw [List.getElem?_append_left (by rw [List.length_map, ← hl]; exact hi), List.getElem?_map, e2]; rfl
    · rw [List.getElem?_append_right (by omega)] at e
      exact .inl (List.eq_of_mem_replicate (List.mem_of_getElem? e))
  refine ⟨s.fh, s.gh, s.fg, s.rg, s.rlen, s.rnd, s.live, s.cells, fun i sl e => ?_, fun i j a ⟨⟨ds, h⟩, _⟩ => ?_, ?_, s.flo⟩
  · rcases key i sl e with rfl | ⟨d, x, rfl, e1, e2⟩
    · trivial
    · exact ⟨x, e1, e2⟩
  · rcases key i _ h with z | ⟨_, _, z, _⟩ <;> cases z
  · unfold startE L2.start
    simp [r.length, hn]
theorem Sim.startT (s : Sim K F ρ G [] S [] H) {N : List Str} {ns : Nat} {vs : List V} {ds : List D} {lam : Addr} (r : Reps K F ρ vs ds) (hn : N.length = ns) (hl0 : ds.length + 1 ≤ ns) (hth : K.fl.th = some lam) : Sim K F ρ G (Pf.startT ns ds) S (L2.start N (vs ++ [V.ref lam])) H := by
  have hl : (ds.map Sl.dat).length = vs.length := by rw [List.length_map, r.length]
  have key : ∀ i sl, (Pf.startT ns ds)[i]? = some sl → sl = Sl.no ∨ (sl = Sl.thk ∧ (L2.start N (vs ++ [V.ref lam]))[i]? = some (some (V.ref lam))) ∨ ∃ d x, sl = Sl.dat d ∧ (L2.start N (vs ++ [V.ref lam]))[i]? = some (some x) ∧ Rep K F ρ x d := fun i sl e => by
    unfold Pf.startT at e
    by_cases hi : i < (ds.map Sl.dat).length
    · rw [List.getElem?_append_left hi] at e
      obtain ⟨d, x, e1, e2, e3⟩ := r.dat e
      refine .inr (.inr ⟨d, x, e1, ?_, e3⟩)
      unfold L2.start
      rw [List.getElem?_append_left (by rw [List.length_map, List.length_append, ← hl]; omega), List.getElem?_map, List.getElem?_append_left (by omega), e2]; rfl
    · rw [List.getElem?_append_right (by omega)] at e
      by_cases hz : i = (ds.map Sl.dat).length
      · rw [hz, Nat.sub_self] at e
        cases e
        refine .inr (.inl ⟨rfl, ?_⟩)
        unfold L2.start
        rw [hz, hl, List.getElem?_append_left (by simp), List.getElem?_map, List.getElem?_append_right (Nat.le_refl _), Nat.sub_self]; rfl
      · obtain ⟨k, hk⟩ : ∃ k, i - (ds.map Sl.dat).length = k + 1 := ⟨i - (ds.map Sl.dat).length - 1, by omega⟩
        rw [hk, List.getElem?_cons_succ] at e
        exact .inl (List.eq_of_mem_replicate (List.mem_of_getElem? e))
  refine ⟨s.fh, s.gh, s.fg, s.rg, s.rlen, s.rnd, s.live, s.cells, fun i sl e => ?_, fun i j a ⟨⟨ds, h⟩, _⟩ => ?_, ?_, s.flo⟩
  · rcases key i sl e with rfl | ⟨rfl, e1⟩ | ⟨d, x, rfl, e1, e2⟩
    · trivial
    · exact ⟨lam, hth, e1⟩
    · exact ⟨x, e1, e2⟩
  · rcases key i _ h with z | ⟨z, _⟩ | ⟨_, _, z, _⟩ <;> cases z
  · unfold Pf.startT L2.start
    simp [r.length, hn]
    omega
theorem AtC.ends {EX : EXT} {Q : VK} {E : XK} {r : R Fl} (h : AtC K EX G Q E F ρ (endR r)) : AtS K (fun cls d _ H => E cls d H) EX G { nx := fun _ H' => Q .non H', rt := Q } F ρ r := by
  cases r with
  | ok a env S => cases a with
    | ret d => exact fun F' ρ' σ' H v le pre s r => h F' ρ' H v le pre s.nil r
    | nxt => exact fun F' ρ' σ' H le pre s => h F' ρ' H .non le pre s.nil .non
    | brk => exact (show False from h).elim
    | cnt => exact (show False from h).elim
  | exc x env S => exact fun F' ρ' σ' H cls d le pre s e => h F' ρ' H cls d le pre s.nil e
  | bad => exact h
end
theorem AtC.low {K : PySem.W.Frag} {xo : Option XO} {fl : FL} {F : Hp} {ρ : List Addr} {EX EX' : EXT} {Q : VK} {E : L2.XK} {G : Hp} {r : R Fl} (h : AtC ⟨K, none, fl⟩ EX G Q E F ρ (lowR (endR r))) : AtS ⟨K, xo, fl⟩ (fun cls d _ H => E cls d H) EX' G { nx := fun _ H' => Q .non H', rt := Q } F ρ r := by
  have key : ∀ {d : D} {S : Store}, AtC ⟨K, none, fl⟩ EX G Q E F ρ (lowR (.ok d S)) → ∀ {F' : Hp} {ρ' : List Addr} {env : Env} {σ' : L2.St} {H : Hp} {v : V}, Le F F' → ρ <+: ρ' → Sim ⟨K, xo, fl⟩ F' ρ' G env S σ' H → Rep ⟨K, xo, fl⟩ F' ρ' v d → Q v H := by
    intro d S h F' ρ' env σ' H v le pre s r
    have h : AtC ⟨K, none, fl⟩ EX G Q E F ρ (if D.noX d && S.all Cell.noX then .ok d S else .bad) := h
    cases hc : (D.noX d && S.all Cell.noX) with
    | false => rw [hc] at h; exact (show False from h).elim
    | true =>
      rw [hc, if_pos rfl] at h
      obtain ⟨c1, c2⟩ := and2 hc
      exact h F' ρ' H v le pre (s.nil.low c2) (r.low c1)
  cases r with
  | ok a env S => cases a with
    | ret d => exact fun F' ρ' σ' H v le pre s r => key h le pre s r
    | nxt => exact fun F' ρ' σ' H le pre s => key (d := .non) h le pre s .non
    | brk => exact (show False from h).elim
    | cnt => exact (show False from h).elim
  | exc x env S => exact (show False from h).elim
  | bad => exact (show False from h).elim

/-! ### the defs of a program -/
structure DI where
  f : String
  st : Stmt
  N : List Str
  ps : List Str
  /-- called by keywords -/
  k : Bool
  fd : FDef
  /-- handed a function behind its arguments; called where an exception is handled; it makes lambdas -/
  tk : Bool := false
  hx : Bool := false
  lm : Bool := false
/-- a program: its defs; the classes that are raised, asked for, their fields, the classes of clauses -/
structure Pg where
  L : List DI
  xr : List String := []
  xc : List String := []
  xf : List String := []
  xh : List String := []
  rs : String → Option (List String) := fun _ => none
  sub : Sub := fun _ _ => false
  tr : Bool := false
def gOf (L : List DI) : Prog := fun f => (L.find? (·.f == f)).map (·.fd)
def arOf (L : List DI) : String → Option Nat := fun f => (L.find? (·.f == f)).bind fun i => if !i.tk && !i.hx then some i.ps.length else none
def arTOf (L : List DI) : String → Option Nat := fun f => (L.find? (·.f == f)).bind fun i => if i.tk && !i.hx then some i.ps.length else none
def kwOf (L : List DI) : String → Option (List Str) := fun f => (L.find? (·.f == f)).bind fun i => if i.k then some i.ps else none
def hotsOf (L : List DI) : List String := (L.filter (·.hx)).map (·.f)
def DI.mc (p : Pg) (i : DI) : MC := { N := i.N, sc := defScope i.st, fnP := fun _ => true, kw := kwOf p.L, ar := arOf p.L, hot := false, xc := p.xc, xf := p.xf, ex := false, th := if i.tk then some (i.ps.length - 1) else none, lm := i.lm && !i.tk, arT := arTOf p.L, hots := hotsOf p.L, rs := p.rs, xr := p.xr, xh := p.xh, tr := p.tr }
def DI.mcX (p : Pg) (i : DI) : MC := { N := i.N, sc := defScope i.st, fnP := fun _ => true, kw := fun _ => none, ar := fun _ => none, hot := true, xc := p.xc, xf := p.xf, ex := true, th := none, lm := false, arT := fun _ => none, hots := [], rs := fun _ => none, xr := p.xr, xh := [], tr := false }
def DI.ok (p : Pg) (i : DI) : Bool := if i.hx then C8.scC i.N i.ps (defScope i.st) && decide (i.ps.length = 1) && decide (i.N.length = i.fd.ns) && mSs (i.mcX p) i.fd.body (defBody i.st)
  else C8.scC i.N i.ps (defScope i.st) && decide (i.ps.length = i.fd.np) && decide (i.N.length = i.fd.ns) && mSs (i.mc p) i.fd.body (defBody i.st) && decide (i.ps.length ≤ i.N.length)
/-- .. as it stands behind the top -/
structure DefIn (K : PySem.W.Frag) (mg : Str → Option Value) (i : DI) : Prop where
  ex : ∃ a fdt, L2.Fun K (Str.ofString i.f) (Str.ofString i.f) i.st a fdt ∧ mg (Str.ofString i.f) = some (.ref a) ∧ Binds K fdt i.ps [] ∧
    (i.k = true → ∀ (s : Shared) (ws : List Value), K.In s.heap → ws.length = i.ps.length → BindsTo s fdt ⟨[], i.ps.zip ws⟩ (i.ps.zip ws))
/-- the code table of a def that makes lambdas -/
def LamIn (K : PySem.W.Frag) (mg : Str → Option Value) (base : Heap) (tb : List (Addr × Str)) (i : DI) : Prop := ∀ (a : Addr) (oc : Value) (od : Option Addr) (kV doc pm : Value) (an : Option Addr) (cdv ct : Value) (osl : Array (Option Value)),
  mg (Str.ofString i.f) = some (.ref a) → K.lookup a = some ⟨oc, od, .func (PySem.W.fnOf (Str.ofString i.f) (Str.ofString i.f) (defArgs i.st) (defBody i.st) (defScope i.st) .none kV doc pm an cdv ct), osl⟩ →
  ∃ c P, cdv = .ref c ∧ LamX.TabB base mg c P ∧ ∀ (L : Addr), (P, (envOfC (Str.ofString i.f) (defScope i.st) L a cdv).qual ++ "<lambda>") ∈ tb ∧ ∀ p ∈ tb, p.1 = P → p.2 = (envOfC (Str.ofString i.f) (defScope i.st) L a cdv).qual ++ "<lambda>"
/-- what is asked of the program's own errors -/
structure ErrsIn (K : PySem.W.Frag) (mg : Str → Option Value) (p : Pg) : Prop where
  err : p.tr = true → ErrX K mg p.sub p.xr p.xc p.xf p.xh
  rai : ∀ c fs, p.rs c = some fs → c ∈ p.xr ∧ ∃ D, RaiC K mg c fs D
  hot : (∃ i ∈ p.L, i.hx = true) → ErrX K mg p.sub p.xr p.xc p.xf p.xh
section
variable {P : Program} {wd : World} {K : PySem.W.Frag} {mg : Str → Option Value} {base : Heap} {p : Pg} {g : Glos} {w : Nat} {tb : List (Addr × Str)}
theorem find_at {L : List DI} {i : DI} (hf : L.find? (·.f == i.f) = some i) : gOf L i.f = some i.fd := by unfold gOf; rw [hf]; rfl
theorem fnd_eq {L : List DI} {nm : String} {j : DI} (z : L.find? (·.f == nm) = some j) : j.f = nm := by
  have := List.find?_some z
  exact beq_iff_eq.mp this
theorem ar_at {L : List DI} {nm : String} {k : Nat} (e : arOf L nm = some k) : ∃ j ∈ L, j.f = nm ∧ j.tk = false ∧ j.hx = false ∧ j.ps.length = k ∧ L.find? (·.f == nm) = some j := by
  unfold arOf at e
  obtain ⟨j, z, e⟩ := bind_some e
  by_cases h : (!j.tk && !j.hx) = true
  · rw [if_pos h] at e
    cases e
    obtain ⟨h1, h2⟩ := and2 h
    exact ⟨j, List.mem_of_find?_eq_some z, fnd_eq z, by simpa using h1, by simpa using h2, rfl, z⟩
  · rw [if_neg h] at e; cases e
theorem arT_at {L : List DI} {nm : String} {k : Nat} (e : arTOf L nm = some k) : ∃ j ∈ L, j.f = nm ∧ j.tk = true ∧ j.hx = false ∧ j.ps.length = k := by
  unfold arTOf at e
  obtain ⟨j, z, e⟩ := bind_some e
  by_cases h : (j.tk && !j.hx) = true
  · rw [if_pos h] at e
    cases e
    obtain ⟨h1, h2⟩ := and2 h
    exact ⟨j, List.mem_of_find?_eq_some z, fnd_eq z, h1, by simpa using h2, rfl⟩
  · rw [if_neg h] at e; cases e
abbrev ex0 (K : PySem.W.Frag) (mg : Str → Option Value) (p : Pg) := exD K mg p.xr
/-- a def's promise at a level -/
def Lev (P : Program) (wd : World) (K : PySem.W.Frag) (mg : Str → Option Value) (base : Heap) (tb : List (Addr × Str)) (p : Pg) (g : Glos) (w n : Nat) (i : DI) : Prop :=
  ∃ a fdt, L2.Fun K (Str.ofString i.f) (Str.ofString i.f) i.st a fdt ∧ mg (Str.ofString i.f) = some (.ref a) ∧ Binds K fdt i.ps [] ∧
    (i.k = true → ∀ (s : Shared) (ws : List Value), K.In s.heap → ws.length = i.ps.length → BindsTo s fdt ⟨[], i.ps.zip ws⟩ (i.ps.zip ws)) ∧
    ∀ fl : FL, fl.tb = tb → FnOk P wd K mg base (L2N.CX P wd) (8 * n) a fdt i.ps (spF ⟨K, none, fl⟩ ⟨ex0 K mg p, none, fl⟩ i.ps.length (callF (gOf p.L) g w p.sub n i.f))
def LevT (P : Program) (wd : World) (K : PySem.W.Frag) (mg : Str → Option Value) (base : Heap) (tb : List (Addr × Str)) (p : Pg) (g : Glos) (w n j : Nat) (i : DI) : Prop :=
  ∃ a fdt, mg (Str.ofString i.f) = some (.ref a) ∧ PySem.W.keepIn K (.ref a) = true ∧ Binds K fdt i.ps [] ∧ FnT P wd K mg base (ex0 K mg p) tb (8 * n + j + 3) j a fdt i.ps (callT (gOf p.L) g w p.sub (callF (gOf p.L) g w p.sub n) j i.f)
def LevX (P : Program) (wd : World) (K : PySem.W.Frag) (mg : Str → Option Value) (base : Heap) (p : Pg) (g : Glos) (w : Nat) (i : DI) : Prop :=
  ∃ a fdt, mg (Str.ofString i.f) = some (.ref a) ∧ PySem.W.keepIn K (.ref a) = true ∧ Binds K fdt i.ps [] ∧ ∀ fl : FL, FnP P wd K mg base (L2N.CX P wd) 1 a fdt i.ps (spX K mg p.xr ⟨ex0 K mg p, none, fl⟩ (callX (gOf p.L) g w p.sub i.f))
/-- what stands behind the top, for all defs -/
structure Top (K : PySem.W.Frag) (mg : Str → Option Value) (base : Heap) (tb : List (Addr × Str)) (p : Pg) (g : Glos) : Prop where
  hin : ∀ i ∈ p.L, DefIn K mg i
  hok : ∀ i ∈ p.L, i.ok p = true
  hnd : ∀ i ∈ p.L, p.L.find? (·.f == i.f) = some i
  glo : ∀ x d, g x = some d → ∃ u v, mg (Str.ofString x) = some u ∧ RelV v u ∧ ∀ xo fl F ρ, Rep ⟨K, xo, fl⟩ F ρ v d
  blt : ∀ b ∈ blts, mg (Str.ofString b) = none
  err : ErrsIn K mg p
  lam : ∀ i ∈ p.L, i.lm = true → i.tk = false → LamIn K mg base tb i
/-- the hot defs -/
theorem hot_ok (t : Top K mg base tb p g) (i : DI) (hi : i ∈ p.L) (hx : i.hx = true) : LevX P wd K mg base p g w i := by
  obtain ⟨a, fdt, h1, h2, h3, _⟩ := (t.hin i hi).ex
  refine ⟨a, fdt, h2, h1.kp, h3, fun fl => ?_⟩
  have er := t.err.hot ⟨i, hi, hx⟩
  have ok := t.hok i hi
  unfold DI.ok at ok
  rw [hx, if_pos rfl] at ok
  obtain ⟨o1, o2⟩ := and2 ok
  obtain ⟨o3, o4⟩ := and2 o1
  obtain ⟨o5, o6⟩ := and2 o3
  have S := C8.fnScope_by o5
  have o4 := of_decide_eq_true o4
  have o6 := of_decide_eq_true o6
  obtain ⟨oc, od, kV, doc, pm, an, cdv, ct, osl, rfl, lk, hcd⟩ := h1.ex
  refine fnP_of lk hcd S (fun a cls d vs H Q E h => by rw [h.1, o6]; rfl) fun A outer s H vs Q E q cls d hot hz hr h => ?_
  obtain ⟨rfl, F, ρ, G, St, kk, fs, C, sim, rep, rfl, hk, hkx, at1⟩ := h
  have hot' := hot
  obtain ⟨hh, ws, hd1, hd2⟩ := hot'
  let EXx : EXT := ⟨ex0 K mg p, some ⟨q.1, kk, d⟩, fl⟩
  let W : WX := fun cls d _ H => E cls d H
  have XFx : XS badC g ⟨w, p.sub⟩ 0 EXx (i.mcX p) W (L2H.cxH (L2N.CX P wd) P wd K mg base i.N (Str.ofString i.f) (defScope i.st) a cdv A outer s H E q) := {
    hN := rfl, nd := S.nd, hsc := rfl, hfn := rfl, calm := fun z => (by cases z), cool := cool_hot ⟨q, hot, List.mem_cons_self⟩
    units := by have := hr.un; show (A.deeper _).units + 65 < cLine; omega
    room := fun z => (by cases z), tk := L2N.takes_of rfl rfl rfl rfl, fns := fun z => (by cases z)
    glo := fun y dd e => by obtain ⟨u, v, a, b, c⟩ := t.glo y dd e; exact ⟨u, v, a, b, c _ _⟩
    blt := t.blt
    lamT := fun z => (by cases z), thT := fun _ z => (by cases z), hotT := fun _ z => absurd rfl z
    xcn := fun _ => er.asked
    exq := fun _ y hy => by
      cases hy
      obtain ⟨D, h1, h2, h3, h4⟩ := er.cls kk hkx
      have e := hk.symm.trans h1
      cases e
      exact ⟨q.2, C, List.mem_cons_self, hz, ⟨ws, hd1⟩, h2, h3, h4, fun c hc => by
        obtain ⟨D', h5⟩ := er.asked c hc
        exact ⟨D', h5, er.kit kk hkx c hc C D' hk h5⟩⟩
    po := passes_of rfl
    rai := fun z => (by cases z), tri := fun z => (by cases z) }
  refine ⟨_, soundSs XFx i.fd.body o2, ?_⟩
  have at1 : AtC ⟨K, none, fl⟩ ⟨ex0 K mg p, none, fl⟩ G Q E F ρ (match gOf p.L i.f with
    | none => .bad
    | some fd => lowR (endR (exSs badC g w p.sub fd.body (startE fd.ns [.exo kk fs]) St))) := at1
  rw [find_at (t.hnd i hi)] at at1
  exact ⟨F, ρ, G, startE i.fd.ns [.exo kk fs], St, (sim.up (xo := some ⟨q.1, kk, d⟩)).start (Reps.one rep) o4, AtC.low at1⟩
theorem hots_at (t : Top K mg base tb p g) {f : String} (hf : f ∈ hotsOf p.L) : ∃ i ∈ p.L, i.hx = true ∧ i.f = f := by
  unfold hotsOf at hf
  obtain ⟨i, h1, h2⟩ := List.mem_map.mp hf
  obtain ⟨h3, h4⟩ := List.mem_filter.mp h1
  exact ⟨i, h3, h4, h2⟩
/-- what a def's own code asks, ordinary or handed a function -/
theorem xs_of (t : Top K mg base tb p g) {n : Nat} (ih : ∀ i ∈ p.L, i.tk = false → i.hx = false → Lev P wd K mg base tb p g w n i) {i : DI} (hi : i ∈ p.L) (hx : i.hx = false) {C : Calls} (hC : C.fn = callF (gOf p.L) g w p.sub n) (hH : C.hot = callX (gOf p.L) g w p.sub)
    {A : Around} {outer : List PySem.Env} {s : Shared} {H : Hp} {E : L2.XK} {a : Addr} {cdv : Value} {fl : FL} (hfl : fl.tb = tb) (S : FnScope i.N i.ps (defScope i.st)) {r : Nat} (hr : Room r (A.deeper (envOfC (Str.ofString i.f) (defScope i.st) s.heap.objs.size a cdv))) (h4 : 8 * n ≤ r) (h2 : p.rs = (fun _ => none) ∧ p.tr = false ∨ 2 ≤ r)
    (hlam : (i.lm && !i.tk) = true → (∀ f k, arTOf p.L f = some k → FnTIn ⟨ex0 K mg p, none, fl⟩ (cxOf (L2N.CX P wd) P wd K mg base i.N (Str.ofString i.f) (defScope i.st) a cdv A outer s H E) (8 * n + 5) 2 (C.lam f) f k) ∧ 8 * n + 6 ≤ r ∧ ∃ c P', LamX.TabB base mg c P' ∧ cdv = .ref c ∧ (P', (envOfC (Str.ofString i.f) (defScope i.st) s.heap.objs.size a cdv).qual ++ "<lambda>") ∈ tb ∧ ∀ q ∈ tb, q.1 = P' → q.2 = (envOfC (Str.ofString i.f) (defScope i.st) s.heap.objs.size a cdv).qual ++ "<lambda>")
    (hth : i.tk = true → ∃ lam k, ThOk P wd K mg base ⟨ex0 K mg p, none, fl⟩ s H (frs outer) k lam C.th ∧ k + 1 ≤ r ∧ ∀ f np, arTOf p.L f = some np → ∃ c r' j, (∀ ds S, C.ps f ds S = c ds C.th S) ∧ FnTIn ⟨ex0 K mg p, none, fl⟩ (cxOf (L2N.CX P wd) P wd K mg base i.N (Str.ofString i.f) (defScope i.st) a cdv A outer s H E) r' j c f np ∧ r' ≤ r ∧ k + 1 + j ≤ r) :
    XS C g ⟨w, p.sub⟩ (8 * n) ⟨ex0 K mg p, none, fl⟩ (i.mc p) (fun cls d _ H => E cls d H) (cxOf (L2N.CX P wd) P wd K mg base i.N (Str.ofString i.f) (defScope i.st) a cdv A outer s H E) where
  hN := rfl
  nd := S.nd
  hsc := rfl
  hfn := rfl
  calm := fun _ => rfl
  cool := cool_calm rfl
  units := by have := hr.un; show (A.deeper _).units + 65 < cLine; omega
  room := fun _ => hr.mono h4
  tk := L2N.takes_of rfl rfl rfl rfl
  fns := fun _ nm k e => by
    obtain ⟨j, hj, rfl, j1, j2, j3, j4⟩ := ar_at (show arOf p.L nm = some k from e)
    obtain ⟨b, fdb, p1, p2, p3, p4, p5⟩ := ih j hj j1 j2
    rw [hC]
    refine ⟨b, fdb, j.ps, p2, p1.kp, p3, j3, by rw [← j3]; exact p5 fl hfl, fun ks q => ?_⟩
    have q : ((p.L.find? (·.f == j.f)).bind fun i => if i.k then some i.ps else none) = some ks := q
    rw [j4] at q
    have q : (if j.k = true then some j.ps else none) = some ks := q
    by_cases hk : j.k = true
    · rw [if_pos hk] at q
      cases q
      exact ⟨rfl, p4 hk⟩
    · rw [if_neg hk] at q; cases q
  glo := fun x d e => by obtain ⟨u, v, a, b, c⟩ := t.glo x d e; exact ⟨u, v, a, b, c _ _⟩
  blt := t.blt
  lamT := fun h => by
    obtain ⟨q1, q2, c, P', q3, q4, q5, q6⟩ := hlam h
    have hm : fl.tb = tb := hfl
    refine ⟨q1, hr.mono q2, hr.hd, rfl, c, P', q3, q4, ?_, ?_⟩
    · show _ ∈ fl.tb; rw [hm]; exact q5
    · show ∀ p ∈ fl.tb, _; rw [hm]; exact q6
  thT := fun j h => by
    have h : (if i.tk then some (i.ps.length - 1) else none) = some j := h
    by_cases ht : i.tk = true
    · obtain ⟨lam, k, q1, q2, q3⟩ := hth ht
      refine ⟨lam, k, q1, hr.mono q2, hr.hd, rfl, rfl, fun f np e => ?_⟩
      obtain ⟨c, r', j', z1, z2, z3, z4⟩ := q3 f np e
      exact ⟨c, r', j', z1, z2, hr.mono z3, hr.mono z4⟩
    · rw [if_neg ht] at h; cases h
  hotT := fun h => by cases h
  xcn := fun h => by cases h
  exq := fun h => by cases h
  po := passes_of rfl
  rai := fun _ c fs e => by
    have e : p.rs c = some fs := e
    rcases h2 with ⟨z, _⟩ | h2
    · rw [z] at e; cases e
    · obtain ⟨q1, q2⟩ := t.err.rai c fs e
      exact ⟨hr.mono h2, rfl, rfl, q1, q2⟩
  tri := fun h _ => by
    have h : p.tr = true := h
    rcases h2 with ⟨_, z⟩ | h2
    · rw [z] at h; cases h
    · refine ⟨rfl, rfl, hr.mono (by omega), t.err.err h, fun f hf => ?_, rfl, rfl⟩
      obtain ⟨j, hj, jx, rfl⟩ := hots_at t hf
      obtain ⟨b, fdb, p1, p2, p3, p4⟩ := hot_ok (P := P) (wd := wd) (w := w) t j hj jx
      rw [hH]
      exact ⟨b, fdb, j.ps, p1, p2, p3, p4 fl⟩
theorem room_max {a b : Nat} {A : Around} (h1 : Room a A) (h2 : Room b A) : Room (max a b) A := by
  by_cases h : a ≤ b
  · rw [Nat.max_eq_right h]; exact h2
  · rw [Nat.max_eq_left (by omega)]; exact h1
/-- defs that are handed a function -/
theorem levT (t : Top K mg base tb p g) {n : Nat} (ih : ∀ i ∈ p.L, i.tk = false → i.hx = false → Lev P wd K mg base tb p g w n i) : ∀ j, ∀ i ∈ p.L, i.tk = true → i.hx = false → LevT P wd K mg base tb p g w n j i := by
  intro j
  induction j with
  | zero =>
    intro i hi _ _
    obtain ⟨a, fdt, h1, h2, h3, _⟩ := (t.hin i hi).ex
    exact ⟨a, fdt, h2, h1.kp, h3, ⟨fun A outer s H args us vs lam T k fl F ρ G S ds Q E _ _ _ _ _ _ _ _ _ _ _ at1 => (show False from at1).elim⟩⟩
  | succ j jh =>
    intro i hi ht hx
    obtain ⟨a, fdt, h1, h2, h3, _⟩ := (t.hin i hi).ex
    refine ⟨a, fdt, h2, h1.kp, h3, ⟨fun A outer s H args us vs lam T k fl F ρ G S ds Q E hr hk e0 hb rv hl htb hth tok sim rd at1 => ?_⟩⟩
    have ok := t.hok i hi
    unfold DI.ok at ok
    rw [hx, if_neg (by simp)] at ok
    obtain ⟨o0, o7⟩ := and2 ok
    obtain ⟨o1, o2⟩ := and2 o0
    obtain ⟨o3, o4⟩ := and2 o1
    obtain ⟨o5, o6⟩ := and2 o3
    have Sc := C8.fnScope_by o5
    have o4 := of_decide_eq_true o4
    have o6 := of_decide_eq_true o6
    have o7 := of_decide_eq_true o7
    obtain ⟨oc, od, kV, doc, pm, an, cdv, ct, osl, rfl, lk, hcd⟩ := h1.ex
    have hd : ds.length + 1 = i.fd.np := by rw [← rd.length, hl, o6]
    have at1 : AtC ⟨K, none, fl⟩ ⟨ex0 K mg p, none, fl⟩ G Q E F ρ (match gOf p.L i.f with
      | none => .bad
      | some fd => if ds.length + 1 = fd.np then endR (exSs (lvlT (gOf p.L) g w p.sub (callF (gOf p.L) g w p.sub n) j T) g w p.sub fd.body (Pf.startT fd.ns ds) S) else .bad) := at1
    rw [find_at (t.hnd i hi)] at at1
    have at1 : AtC ⟨K, none, fl⟩ ⟨ex0 K mg p, none, fl⟩ G Q E F ρ (if ds.length + 1 = i.fd.np then endR (exSs (lvlT (gOf p.L) g w p.sub (callF (gOf p.L) g w p.sub n) j T) g w p.sub i.fd.body (Pf.startT i.fd.ns ds) S) else .bad) := at1
    rw [if_pos hd] at at1
    have r1 : Room (8 * n + j + 3 + 1) A := hr.mono (by omega)
    have r2 : Room (k + 1 + j + 1) A := hk.mono (by omega)
    have rm : Room (max (8 * n + j + 3) (k + 1 + j) + 1) A := by
      have := room_max r1 r2
      rw [show max (8 * n + j + 3 + 1) (k + 1 + j + 1) = max (8 * n + j + 3) (k + 1 + j) + 1 by omega] at this
      exact this
    refine LamX.run_ofS (CX := L2N.CX P wd) (N := i.N) (us := us ++ [.ref lam]) (vs := vs ++ [V.ref lam]) lk hcd Sc rm e0 hb (rv.append (.cons (show RelV (V.ref lam) (.ref lam) from rfl) .nil)) (by rw [List.length_append]; exact hl) fun hr' => ?_
    have XFx := xs_of (C := lvlT (gOf p.L) g w p.sub (callF (gOf p.L) g w p.sub n) j T) (E := E) (outer := outer) (s := s) (H := H) (a := a) (cdv := cdv) t ih hi hx rfl rfl htb Sc hr' (by omega) (.inr (by omega)) (fun h => by rw [ht] at h; simp at h) fun _ => ⟨lam, k, tok, by omega, fun f np e => ?_⟩
    · refine ⟨_, soundSs XFx i.fd.body o2, F, ρ, G, Pf.startT i.fd.ns ds, S, sim.startT rd o4 (by omega) hth, ?_⟩
      exact AtC.ends at1
    · obtain ⟨i2, j1, rfl, j2, j3, rfl⟩ := arT_at (show arTOf p.L f = some np from e)
      obtain ⟨a2, fd2, q1, q2, q3, q4⟩ := jh i2 j1 j2 j3
      exact ⟨_, 8 * n + j + 3, j, fun _ _ => rfl, ⟨a2, fd2, i2.ps, q1, q2, q3, rfl, by rw [← htb] at q4; exact q4⟩, by omega, by omega⟩
/-- THE RULE for all defs at once -/
theorem defs_ok (t : Top K mg base tb p g) : ∀ n, ∀ i ∈ p.L, i.tk = false → i.hx = false → Lev P wd K mg base tb p g w n i := by
  intro n
  induction n with
  | zero =>
    intro i hi _ _
    obtain ⟨a, fdt, h1, h2, h3, h4⟩ := (t.hin i hi).ex
    refine ⟨a, fdt, h1, h2, h3, h4, fun fl hfl => ⟨fun vs H Q E h => h.1, fun A outer s H args us vs Q E hr he hb hv h => ?_⟩⟩
    obtain ⟨_, _, _, _, _, _, _, _, h⟩ := h
    exact (show False from h).elim
  | succ n ih =>
    intro i hi ht hx
    obtain ⟨a, fdt, h1, h2, h3, h4⟩ := (t.hin i hi).ex
    refine ⟨a, fdt, h1, h2, h3, h4, fun fl hfl => ?_⟩
    have ok := t.hok i hi
    unfold DI.ok at ok
    rw [hx, if_neg (by simp)] at ok
    obtain ⟨o0, o7⟩ := and2 ok
    obtain ⟨o1, o2⟩ := and2 o0
    obtain ⟨o3, o4⟩ := and2 o1
    obtain ⟨o5, o6⟩ := and2 o3
    have Sc := C8.fnScope_by o5
    have o4 := of_decide_eq_true o4
    have o6 := of_decide_eq_true o6
    obtain ⟨oc, od, kV, doc, pm, an, cdv, ct, osl, rfl, lk, hcd⟩ := h1.ex
    refine fn_of (k := 8 * n + 7) lk hcd Sc (fun vs H Q E h => h.1) fun A outer s H vs Q E hr h => ?_
    obtain ⟨hl, F, ρ, G, St, ds, sim, r, at1⟩ := h
    have XFx := xs_of (C := lvl (gOf p.L) g w p.sub (callF (gOf p.L) g w p.sub n)) (E := E) (outer := outer) (s := s) (H := H) (a := a) (cdv := cdv) t ih hi hx rfl rfl hfl Sc hr (by omega) (.inr (by omega)) (fun h => ?_) (fun h => by rw [ht] at h; cases h)
    · refine ⟨_, soundSs XFx i.fd.body o2, ?_⟩
      have at1 : AtC ⟨K, none, fl⟩ ⟨ex0 K mg p, none, fl⟩ G Q E F ρ (match gOf p.L i.f with
        | none => .bad
        | some fd => if ds.length = fd.np then endR (exSs (lvl (gOf p.L) g w p.sub (callF (gOf p.L) g w p.sub n)) g w p.sub fd.body (startE fd.ns ds) St) else .bad) := at1
      rw [find_at (t.hnd i hi)] at at1
      have at1 : AtC ⟨K, none, fl⟩ ⟨ex0 K mg p, none, fl⟩ G Q E F ρ (if ds.length = i.fd.np then endR (exSs (lvl (gOf p.L) g w p.sub (callF (gOf p.L) g w p.sub n)) g w p.sub i.fd.body (startE i.fd.ns ds) St) else .bad) := at1
      rw [if_pos (by rw [← r.length, hl, o6])] at at1
      exact ⟨F, ρ, G, startE i.fd.ns ds, St, sim.start r o4, AtC.ends at1⟩
    · have hlm : i.lm = true := (and2 h).1
      refine ⟨fun f k e => ?_, by omega, ?_⟩
      · obtain ⟨i2, j1, rfl, j2, j3, rfl⟩ := arT_at e
        obtain ⟨a2, fd2, q1, q2, q3, q4⟩ := levT t ih 2 i2 j1 j2 j3
        exact ⟨a2, fd2, i2.ps, q1, q2, q3, rfl, by rw [← hfl] at q4; exact q4⟩
      · obtain ⟨c, P', q1, q2, q3⟩ := t.lam i hi hlm ht a oc od kV doc pm an cdv ct osl h2 lk
        exact ⟨c, P', q2, q1, (q3 _).1, (q3 _).2⟩
end
end Pf
/-! Pf, part O: what the top has written; the law's own head. -/
namespace Pf
open PySem PySem.Spec PyProof.Rows L2
theorem defIn_of {K : PySem.W.Frag} {mg : Str → Option Value} {i : DI} {f : Addr} {fdt : FuncData} (F : L2.Fun K (Str.ofString i.f) (Str.ofString i.f) i.st f fdt) (hm : mg (Str.ofString i.f) = some (.ref f)) (hb : Binds K fdt i.ps [])
    (hk : i.k = true → ∀ (s : Shared) (ws : List Value), K.In s.heap → ws.length = i.ps.length → BindsTo s fdt ⟨[], i.ps.zip ws⟩ (i.ps.zip ws)) : DefIn K mg i := ⟨f, fdt, F, hm, hb, hk⟩
/-- a global's value -/
def GloIn (K : PySem.W.Frag) (mg : Str → Option Value) (x : String) (d : D) : Prop := ∃ u v, mg (Str.ofString x) = some u ∧ RelV v u ∧ ∀ xo fl F ρ, Rep ⟨K, xo, fl⟩ F ρ v d
def flatRel : D → Value → Bool
  | .non, .none => true
  | .bl b, .bool c => b == c
  | .int i, .int j _ => i == j
  | .str s, .str x _ => decide (x = txt s) && okS s
  | _, _ => false
def flatRels : List D → List Value → Bool
  | [], [] => true
  | d :: ds, u :: us => flatRel d u && flatRels ds us
  | _, _ => false
theorem flat_of {K : PySem.W.Frag} {d : D} {u : Value} (h : flatRel d u = true) : ∃ v, RelV v u ∧ ∀ xo fl F ρ, Rep ⟨K, xo, fl⟩ F ρ v d := by
  unfold flatRel at h
  split at h
  · exact ⟨.non, rfl, fun _ _ _ _ => .non⟩
  · rename_i b c; cases (beq_iff_eq.mp h); exact ⟨.bl b, rfl, fun _ _ _ _ => .bl b⟩
  · rename_i b c t; cases (beq_iff_eq.mp h); exact ⟨.int b, ⟨t, rfl⟩, fun _ _ _ _ => .int b⟩
  · rename_i s x t
    obtain ⟨h1, h2⟩ := and2 h
    cases (of_decide_eq_true h1)
    exact ⟨.str (txt s), ⟨t, rfl⟩, fun _ _ _ _ => .str h2⟩
  · cases h
theorem flats_of {K : PySem.W.Frag} : ∀ {ds : List D} {us : List Value}, flatRels ds us = true → ∃ vs, Vals vs us ∧ (∀ xo fl F ρ, Reps ⟨K, xo, fl⟩ F ρ vs ds)
  | [], [], _ => ⟨[], .nil, fun _ _ _ _ => .nil⟩
  | d :: ds, u :: us, h => by
    have h : (flatRel d u && flatRels ds us) = true := h
    obtain ⟨h1, h2⟩ := and2 h
    obtain ⟨v, r1, r2⟩ := flat_of (K := K) h1
    obtain ⟨vs, r3, r4⟩ := flats_of (K := K) h2
    exact ⟨v :: vs, .cons r1 r3, fun xo fl F ρ => .cons (r2 xo fl F ρ) (r4 xo fl F ρ)⟩
  | [], _ :: _, h => by cases h
  | _ :: _, [], h => by cases h
theorem glo_flat {K : PySem.W.Frag} {mg : Str → Option Value} {x : String} {d : D} {u : Value} (a : mg (Str.ofString x) = some u) (h : flatRel d u = true) : GloIn K mg x d := by
  obtain ⟨v, r1, r2⟩ := flat_of (K := K) h
  exact ⟨u, v, a, r1, r2⟩
theorem vals_len {xs : List V} {us : List Value} (h : Vals xs us) : xs.length = us.length := by
  unfold Vals at h
  induction h with
  | nil => rfl
  | cons _ _ ih => rw [List.length_cons, List.length_cons, ih]
theorem glo_tup {K : PySem.W.Frag} {mg : Str → Option Value} {x : String} {ds : List D} {t : Addr} {od : Option Addr} {its : Array Value} {n : Nat} {sl : Array (Option Value)} (a : mg (Str.ofString x) = some (.ref t))
    (l : K.lookup t = some ⟨.type "tuple", od, .seq its n, sl⟩) (h : flatRels ds its.toList = true) (hs : its.size ≤ 16777216) : GloIn K mg x (.tup ds) := by
  obtain ⟨vs, r1, r2⟩ := flats_of (K := K) h
  have hl := vals_len r1
  have hs2 : vs.length ≤ 16777216 := by rw [hl]; simpa using hs
  exact ⟨.ref t, .ref t, a, rfl, fun xo fl F ρ => .tup (.inr ⟨_, its, n, l, rfl, rfl, by rw [size24]; exact hs, r1⟩) hs2 (r2 xo fl F ρ)⟩
/-- what is there ahead of the law's call, the tables of code left out -/
def noTb (H : Hp) : Hp := fun a => match H a with
  | some (.tbl _) => none
  | x => x
theorem noTb_le {H : Hp} : Le (noTb H) H := fun a o e => by
  unfold noTb at e
  split at e
  · cases e
  · exact e
theorem noTb_nt {H : Hp} {a : Addr} {o : HO} (e : noTb H a = some o) : NT o := fun ps z => by
  subst z
  unfold noTb at e
  split at e
  · cases e
  · rename_i h
    exact h ps e
theorem noTb_at {H : Hp} {a : Addr} {o : HO} (e : H a = some o) (n : NT o) : noTb H a = some o := by
  unfold noTb
  split
  · rename_i ps h
    rw [e] at h
    exact absurd (Option.some.inj h) (n ps)
  · exact e
theorem sql_noTb {K : PySem.W.Frag} {a : Addr} {H : Hp} {xs : List V} (h : SqL K H a xs) : SqL K (noTb H) a xs := by
  rcases h with (h | ⟨o, h⟩) | h
  · exact .inl (.inl (noTb_at h fun _ z => by cases z))
  · exact .inl (.inr ⟨o, noTb_at h fun _ z => by cases z⟩)
  · exact .inr h
/-- the promise of the law's def, at the script -/
theorem law_sp {K : PySem.W.Frag} {a : Addr} {ns : List Int} {H : Hp} {c : List D → Store → RC} {tb : List (Addr × Str)} {ex} (hS : SqL K H a (ns.map V.int)) (hl : ns.length ≤ 63) (hT : LamX.Tabs tb H) (h : ∃ S, c [.scr ns] [] = .ok (.bl true) S) : spF ⟨K, none, FL.z tb⟩ ⟨ex, none, FL.z tb⟩ 1 c [.ref a] H (fun v _ => v = .bl true) fun _ _ _ => False := by
  obtain ⟨S, e⟩ := h
  refine ⟨rfl, noTb H, [], fun _ => none, [], [.scr ns], ?_, .cons (.scr (sql_noTb hS) (by omega)) .nil, ?_⟩
  · exact ⟨noTb_le, fun _ _ e => (by cases e), fun _ _ e => (by cases e), fun _ h => (by cases h), rfl, List.nodup_nil, fun _ h => (by cases h), fun n a c e => (by simp at e), fun i sl e => (by simp at e), fun i j a ⟨⟨_, h⟩, _⟩ => (by simp at h), rfl, Flo.z hT (fun _ _ e => (by cases e)) fun _ _ e => noTb_nt e⟩
  · rw [e]
    intro F' ρ' H' v _ _ _ r
    cases r; rfl
theorem fun_same {K : PySem.W.Frag} {x q : Str} {st : Stmt} {f : Addr} {fd fd' : FuncData} (F : L2.Fun K x q st f fd) (F' : L2.Fun K x q st f fd') : fd = fd' := by
  obtain ⟨oc, od, kV, doc, pm, an, cdv, ct, osl, e1, e2, _⟩ := F.ex
  obtain ⟨oc', od', kV', doc', pm', an', cdv', ct', osl', e3, e4, _⟩ := F'.ex
  rw [e2] at e4
  injection e4 with e4
  injection e4 with _ _ e5 _
  injection e5
theorem law_F {P : Program} {wd : World} {K : PySem.W.Frag} {mg : Str → Option Value} {p : Pg} {g : Glos} {w n : Nat} {tb : List (Addr × Str)} {i : DI} {x : Str} {fa : Addr} {fd : FuncData} (hi : i ∈ p.L) (ht : i.tk = false) (hh : i.hx = false) (hx : i.ps = [x])
    (F : L2.Fun K (Str.ofString i.f) (Str.ofString i.f) i.st fa fd) (hmg : mg (Str.ofString i.f) = some (.ref fa)) {base : Heap} (h : ∀ j ∈ p.L, j.tk = false → j.hx = false → Lev P wd K mg base tb p g w n j) : FnOk P wd K mg base (L2N.CX P wd) (8 * n) fa fd [x] (spF ⟨K, none, FL.z tb⟩ ⟨ex0 K mg p, none, FL.z tb⟩ 1 (callF (gOf p.L) g w p.sub n i.f)) := by
  obtain ⟨a, fdt, F1, F2, _, _, F5⟩ := h i hi ht hh
  rw [F2] at hmg
  cases hmg
  have e := fun_same F1 F
  subst e
  have q := F5 (FL.z tb) rfl
  rw [hx] at q
  exact q
theorem no_excN {P : Program} {w : World} {H : Hp} {s : Shared} {e : Value} {s' : Shared} (h : L2N.CX P w [] H s (fun _ _ _ => False) e s') : False := by
  obtain ⟨_, _, _, _, _, _, _, _, _, _, _, _, z⟩ := h
  exact z.elim

/-! ### facts of lists -/
theorem all_nil {α : Type} {p : α → Prop} : ∀ x ∈ ([] : List α), p x := fun _ h => by cases h
theorem all_cons {α : Type} {p : α → Prop} {a : α} {l : List α} (h : p a) (t : ∀ x ∈ l, p x) : ∀ x ∈ a :: l, p x := fun x hx => by
  rcases List.mem_cons.mp hx with rfl | hx
  · exact h
  · exact t x hx
/-- the program's errors, from facts of lists of names and addresses -/
theorem errX_mk {K : PySem.W.Frag} {mg : Str → Option Value} {sub : Sub} {xf : List String} (ar ac ah : List (String × Addr)) (mr : ∀ p ∈ ar, mg (Str.ofString p.1) = some (.ref p.2)) (mc : ∀ p ∈ ac, mg (Str.ofString p.1) = some (.ref p.2)) (mh : ∀ p ∈ ah, mg (Str.ofString p.1) = some (.ref p.2))
    (k : ∀ p ∈ ar, ExcK K p.2 ∧ PySem.W.hasDictIn K p.2 = true ∧ ∀ f ∈ xf, PySem.W.findIn K (.ref p.2) (Str.ofString f) = some none) (kit : ∀ p ∈ ar, ∀ q ∈ ac, PySem.W.kitOne K (.ref p.2) (.ref q.2) = some (p.1 == q.1)) (exm : ∀ p ∈ ar, ∀ q ∈ ah, PySem.W.exmOne K (.ref p.2) (.ref q.2) = some (sub p.1 q.1)) :
    ErrX K mg sub (ar.map (·.1)) (ac.map (·.1)) xf (ah.map (·.1)) := by
  have at_ : ∀ {l : List (String × Addr)} {c : String}, c ∈ l.map (·.1) → ∃ p ∈ l, p.1 = c := fun h => by obtain ⟨p, h1, h2⟩ := List.mem_map.mp h; exact ⟨p, h1, h2⟩
  refine ⟨fun c hc => ?_, fun c hc => ?_, fun c hc c' hc' D D' h h' => ?_, fun c hc => ?_, fun c hc c' hc' D D' h h' => ?_⟩
  · obtain ⟨p, h1, rfl⟩ := at_ hc; exact ⟨p.2, mr p h1, k p h1⟩
  · obtain ⟨p, h1, rfl⟩ := at_ hc; exact ⟨p.2, mc p h1⟩
  · obtain ⟨p, h1, rfl⟩ := at_ hc
    obtain ⟨q, h2, rfl⟩ := at_ hc'
    rw [mr p h1] at h; cases h
    rw [mc q h2] at h'; cases h'
    exact kit p h1 q h2
  · obtain ⟨p, h1, rfl⟩ := at_ hc; exact ⟨p.2, mh p h1⟩
  · obtain ⟨p, h1, rfl⟩ := at_ hc
    obtain ⟨q, h2, rfl⟩ := at_ hc'
    rw [mr p h1] at h; cases h
    rw [mh q h2] at h'; cases h'
    exact exm p h1 q h2
theorem kit_b {K : PySem.W.Frag} {u v : Value} {b c : Bool} (h : PySem.W.kitOne K u v = some b) (e : c = b) : PySem.W.kitOne K u v = some c := by rw [h, e]
theorem exm_b {K : PySem.W.Frag} {u v : Value} {b c : Bool} (h : PySem.W.exmOne K u v = some b) (e : c = b) : PySem.W.exmOne K u v = some c := by rw [h, e]
theorem oex_cls {K : PySem.W.Frag} {C : Addr} (T : L2.OexC K C) : (PySem.W.clsIn K C).isSome = true := by
  obtain ⟨nm, q, N, bs, bm, sn, sub, ab, col, dd, k0, k1, k2, k3, k5, hC, _⟩ := T.cls
  unfold PySem.W.clsIn
  rw [hC] <;> rfl
/-- the code table of the law's own def -/
theorem lam_in {K : PySem.W.Frag} {mg : Str → Option Value} {base : Heap} {i : DI} {fa c P : Addr} {q : Str} (hmg : mg (Str.ofString i.f) = some (.ref fa)) {fd : FuncData} (F : L2.Fun K (Str.ofString i.f) (Str.ofString i.f) i.st fa fd) (hc : fd.code = .ref c) (TB : LamX.TabB base mg c P) (hq : ∀ (L : Addr) (cd : Value), (envOfC (Str.ofString i.f) (defScope i.st) L fa cd).qual ++ "<lambda>" = q) : LamIn K mg base [(P, q)] i := by
  intro a oc od kV doc pm an cdv ct osl h1 h2
  rw [hmg] at h1
  cases h1
  obtain ⟨oc', od', kV', doc', pm', an', cdv', ct', osl', e1, e2, _⟩ := F.ex
  rw [h2] at e2
  cases e2
  refine ⟨c, P, hc, TB, fun L => ⟨?_, fun p hp _ => ?_⟩⟩
  · rw [hq]; exact List.mem_singleton.mpr rfl
  · rw [List.mem_singleton.mp hp, hq]
end Pf
namespace Pf.K
open PySem PySem.Spec PyProof.Rows L2
def topS (i : Nat) : Stmt := PySem.Challenge.pw_namesheld_k15_names_and_numbers.main.body.getD i (.Pass ⟨0, 0, 0, 0⟩)
def lev : Nat := 12
def turnsW : Nat := 70
set_option maxHeartbeats 4000000
def fd_law : FDef := ⟨1, 12, [.asg (.name 1) (.call "_law_start" [.var 0] []),
    .fr (.name 2) .range1 [.int (20)] [.asg (.name 3) (.call "_law_bnear_name" [.var 1] []),
    .ife (.not (.call "_law_same" [.call "is_name" [.var 3] [], .call "_law_bis_name" [.var 3] []] [])) [.ret (some (.bl false))] [],
    .asg (.name 4) (.call "_law_pick" [.var 1, .lst [.non, .int (5), .bl true, .lst [.var 3], .tup [.var 3], .dic [], .lst [], .int (0)]] []),
    .ife (.not (.call "_law_same" [.call "is_name" [.var 4] [], .bl false] [])) [.ret (some (.bl false))] [],
    .asg (.name 5) (.call "_law_pick" [.var 1, .lst [.call "_law_below" [.var 1, .int (60)] [], .call "_law_below" [.var 1, .int (1000000)] [], .bin .mul (.int (26)) (.call "_law_below" [.var 1, .int (38461)] []), .int (999999), .int (25), .int (26), .int (259), .int (260)]] []),
    .asg (.name 6) (.call "_law_bplain_name" [.var 5] []),
    .ife (.not (.call "_law_same" [.lst [.call "plain_name" [.var 5] [], .call "name_number" [.var 6] [], .call "is_name" [.var 6] []], .lst [.var 6, .var 5, .bl true]] [])) [.ret (some (.bl false))] [],
    .asg (.name 7) (.call "_law_bplain_name" [.bin .add (.int (1000000)) (.call "_law_below" [.var 1, .bin .pow (.int (10)) (.int (9))] [])] []),
    .asg (.name 8) (.lst [.bin .add (.var 6) (.str [120]), .bin .add (.idx (.var 6) (.int (0))) (.str [48]), .bin .add (.bin .add (.idx (.var 6) (.int (0))) (.str [48])) (.slc (.var 6) (some (.int (1))) none), .bin .add (.idx (.var 6) (.int (0))) (.var 6), .var 7, .bin .add (.str [97]) (.bin .mul (.str [57]) (.int (11)))]),
    .asg (.name 9) (.comp (.var 3) (.name 3) .val [.var 8] (some (.call "_law_bis_name" [.var 3] [])) [3]),
    .ife (.not (.call "_law_same" [.comp (.call "name_number" [.var 3] []) (.name 3) .val [.var 9] none [3], .bin .mul (.lst [.non]) (.bf .len [.var 9])] [])) [.ret (some (.bl false))] [],
    .asg (.tup [10, 11]) (.tup [.call "_law_pick" [.var 1, .lst [.un .neg (.int (1)), .int (1000000), .non, .str [48], .bl true, .lst [.int (1)]]] [], .call "_law_pick" [.var 1, .lst [.non, .int (5), .str [], .str [65], .str [49, 97], .bin .mul (.str [97]) (.int (13)), .str [97, 32, 98], .lst [.var 6]]] []]),
    .ife (.not (.callT "_law_brefuses" [.str [110, 117, 109, 98, 101, 114], .var 10] (.call "plain_name" [.var 10] []))) [.ret (some (.bl false))] [],
    .ife (.not (.callT "_law_brefuses" [.str [110, 97, 109, 101], .var 11] (.call "name_number" [.var 11] []))) [.ret (some (.bl false))] []],
    .ret (some (.bl true))]⟩
def di_law : DI := { f := "law", st := topS 49, N := ["script", "stream", "turn", "word", "odd", "number", "due", "late", "others", "wrong", "bad", "strange"], ps := ["script"], k := false, fd := fd_law, lm := true }
def fd_law_start : FDef := ⟨1, 1, [.ret (some (.new (.lst [.new (.bf .list [.var 0]), .int (0), .int (0), .int (43)])))]⟩
def di_law_start : DI := { f := "_law_start", st := topS 38, N := ["script"], ps := ["script"], k := false, fd := fd_law_start }
def fd_law_bnear_name : FDef := ⟨1, 4, [.asg (.name 1) (.call "_law_bword" [.var 0, .int (12)] []),
    .asg (.name 2) (.call "_law_below" [.var 0, .bf .len [.var 1]] []),
    .asg (.name 3) (.call "_law_below" [.var 0, .int (7)] []),
    .ife (.cmp .eq (.var 3) (.int (0))) [.ret (some (.bin .add (.bin .add (.slc (.var 1) none (some (.var 2))) (.call "_law_pick" [.var 0, .lst [.str [65], .str [45], .str [32], .str [95], .str [10], .str [90], .str [46], .str []]] [])) (.slc (.var 1) (some (.bin .add (.var 2) (.int (1)))) none)))] [],
    .ife (.cmp .eq (.var 3) (.int (1))) [.ret (some (.bin .add (.call "_law_pick" [.var 0, .lst [.str [48], .str [57], .str [], .str [32]]] []) (.var 1)))] [],
    .ife (.cmp .eq (.var 3) (.int (2))) [.ret (some (.slc (.bin .mul (.var 1) (.int (13))) none (some (.call "_law_pick" [.var 0, .lst [.int (12), .int (13)]] []))))] [],
    .ret (some (.var 1))]⟩
def di_law_bnear_name : DI := { f := "_law_bnear_name", st := topS 47, N := ["stream", "word", "at", "way"], ps := ["stream"], k := false, fd := fd_law_bnear_name }
def fd_law_pick : FDef := ⟨2, 2, [.ret (some (.idx (.var 1) (.call "_law_below" [.var 0, .bf .len [.var 1]] [])))]⟩
def di_law_pick : DI := { f := "_law_pick", st := topS 40, N := ["stream", "some"], ps := ["stream", "some"], k := false, fd := fd_law_pick }
def fd_law_bplain_name : FDef := ⟨1, 1, [.ret (some (.bin .add (.idx (.str [97, 98, 99, 100, 101, 102, 103, 104, 105, 106, 107, 108, 109, 110, 111, 112, 113, 114, 115, 116, 117, 118, 119, 120, 121, 122]) (.bin .mod (.bf .int [.var 0]) (.int (26)))) (.ite (.cmp .gt (.var 0) (.int (25))) (.bf .str [.bin .fdiv (.var 0) (.int (26))]) (.str []))))]⟩
def di_law_bplain_name : DI := { f := "_law_bplain_name", st := topS 43, N := ["number"], ps := ["number"], k := false, fd := fd_law_bplain_name }
def fd_law_same : FDef := ⟨2, 4, [.ife (.isi (.var 1) [.list, .tuple] false) [.ife (.or (.cmp .ne (.isi (.var 0) [.list] true) (.isi (.var 1) [.list] true)) (.cmp .ne (.isi (.var 0) [.tuple] true) (.isi (.var 1) [.tuple] true))) [.ret (some (.bl false))] [],
    .ret (some (.and (.cmp .eq (.bf .len [.var 0]) (.bf .len [.var 1])) (.bf .all [.comp (.call "_law_same" [.var 2, .var 3] []) (.tup [2, 3]) .zip [.var 0, .var 1] none [2, 3]])))] [],
    .ife (.isi (.var 1) [.dict] true) [.nev] [],
    .ife (.isi (.var 1) [.int] true) [.ret (some (.and (.isi (.var 0) [.int] true) (.and (.cmp .eq (.isi (.var 0) [.bool] true) (.isi (.var 1) [.bool] true)) (.cmp .eq (.var 0) (.var 1)))))] [],
    .ife (.cmp .is (.var 1) (.non)) [.ret (some (.cmp .is (.var 0) (.non)))] [],
    .ife (.isi (.var 1) [.str] true) [.ret (some (.and (.isi (.var 0) [.str] true) (.cmp .eq (.var 0) (.var 1))))] [],
    .ret (some (.and (.not (.isi (.var 0) [.int, .str, .list, .tuple, .dict] false)) (.cmp .eq (.var 0) (.var 1))))]⟩
def di_law_same : DI := { f := "_law_same", st := topS 41, N := ["found", "due", "x", "y"], ps := ["found", "due"], k := false, fd := fd_law_same }
def fd_law_brefuses : FDef := ⟨3, 4, [.asg (.name 3) (.callP "_law_braised" [] 2),
    .ret (some (.and (.cmp .isnot (.var 3) (.non)) (.and (.cmp .eq (.idx (.var 3) (.int (0))) (.var 0)) (.call "_law_same" [.idx (.var 3) (.int (1)), .var 1] []))))]⟩
def di_law_brefuses : DI := { f := "_law_brefuses", st := topS 46, N := ["word", "thing", "call", "found"], ps := ["word", "thing", "call"], k := false, fd := fd_law_brefuses, tk := true }
def fd_is_name : FDef := ⟨1, 2, [.ife (.or (.not (.isi (.var 0) [.str] true)) (.or (.not (.cmp2 .le .le (.int (1)) (.bf .len [.var 0]) (.int (12)))) (.cmp .notin (.idx (.var 0) (.int (0))) (.glo "LETTERS")))) [.ret (some (.bl false))] [],
    .ret (some (.bf .all [.comp (.or (.cmp .isin (.var 1) (.glo "LETTERS")) (.cmp .isin (.var 1) (.glo "FIGURES"))) (.name 1) .val [.var 0] none [1]]))]⟩
def di_is_name : DI := { f := "is_name", st := topS 32, N := ["thing", "sign"], ps := ["thing"], k := false, fd := fd_is_name }
def fd_law_bis_name : FDef := ⟨1, 4, [.asg (.tup [1, 2]) (.tup [.str [97, 98, 99, 100, 101, 102, 103, 104, 105, 106, 107, 108, 109, 110, 111, 112, 113, 114, 115, 116, 117, 118, 119, 120, 121, 122], .str [48, 49, 50, 51, 52, 53, 54, 55, 56, 57]]),
    .ife (.or (.not (.cmp2 .le .le (.int (1)) (.bf .len [.var 0]) (.int (12)))) (.cmp .notin (.idx (.var 0) (.int (0))) (.var 1))) [.ret (some (.bl false))] [],
    .ret (some (.cmp .eq (.comp (.var 3) (.name 3) .val [.var 0] (some (.cmp .notin (.var 3) (.bin .add (.var 1) (.var 2)))) [3]) (.lst [])))]⟩
def di_law_bis_name : DI := { f := "_law_bis_name", st := topS 48, N := ["word", "letters", "figures", "sign"], ps := ["word"], k := false, fd := fd_law_bis_name }
def fd_law_below : FDef := ⟨2, 5, [.put (.var 0) (.int (2)) (.bin .add (.idx (.var 0) (.int (2))) (.int (1))),
    .whl (.and (.cmp .eq (.idx (.var 0) (.int (1))) (.int (0))) (.cmp .ne (.idx (.var 0) (.int (0))) (.lst []))) [.asg (.name 3) (.mut .popAt (.idx (.var 0) (.int (0))) [.int (0)]),
    .put (.var 0) (.int (3)) (.bin .mod (.bf .int [.bin .add (.bin .add (.bin .mul (.idx (.var 0) (.int (3))) (.int (69031))) (.var 3)) (.int (13))]) (.int (2147483647))),
    .put (.var 0) (.int (1)) (.ite (.cmp .ge (.var 3) (.bin .pow (.int (10)) (.int (18)))) (.var 3) (.int (0)))],
    .ife (.cmp .gt (.idx (.var 0) (.int (1))) (.int (0))) [.asg (.name 4) (.bin .mod (.bf .int [.idx (.var 0) (.int (1))]) (.var 1)),
    .put (.var 0) (.int (1)) (.bin .fdiv (.idx (.var 0) (.int (1))) (.var 1)),
    .ret (some (.var 4))] [],
    .asg (.name 2) (.bin .mod (.bf .int [.bin .pow (.bin .add (.bin .add (.idx (.var 0) (.int (3))) (.bin .mul (.int (9049)) (.idx (.var 0) (.int (2))))) (.int (130073))) (.int (5))]) (.int (2147483629))),
    .ret (some (.bin .mod (.bin .mod (.bf .int [.bin .pow (.bin .add (.bin .add (.bin .mul (.var 2) (.int (44089))) (.bin .mul (.int (60077)) (.idx (.var 0) (.int (2))))) (.int (47))) (.int (3))]) (.int (1000000007))) (.var 1)))]⟩
def di_law_below : DI := { f := "_law_below", st := topS 39, N := ["stream", "many", "mixed", "cell", "digit"], ps := ["stream", "many"], k := false, fd := fd_law_below }
def fd_plain_name : FDef := ⟨1, 1, [.ife (.or (.not (.call "is_integer" [.var 0] [])) (.not (.cmp2 .le .le (.int (0)) (.var 0) (.glo "MOST_NUMBER")))) [.rai "BadNumber" ["thing"] [.var 0]] [],
    .ret (some (.call "plain_of" [.var 0] []))]⟩
def di_plain_name : DI := { f := "plain_name", st := topS 34, N := ["number"], ps := ["number"], k := false, fd := fd_plain_name }
def fd_name_number : FDef := ⟨1, 1, [.ife (.not (.call "is_name" [.var 0] [])) [.rai "BadName" ["thing"] [.var 0]] [],
    .ret (some (.call "number_of" [.var 0] []))]⟩
def di_name_number : DI := { f := "name_number", st := topS 36, N := ["name"], ps := ["name"], k := false, fd := fd_name_number }
def fd_law_bword : FDef := ⟨2, 6, [.asg (.tup [3, 4]) (.tup [.str [97, 98, 99, 100, 101, 102, 103, 104, 105, 106, 107, 108, 109, 110, 111, 112, 113, 114, 115, 116, 117, 118, 119, 120, 121, 122], .str [48, 49, 50, 51, 52, 53, 54, 55, 56, 57]]),
    .asg (.name 2) (.bin .add (.int (1)) (.call "_law_below" [.var 0, .call "_law_pick" [.var 0, .lst [.int (2), .var 1]] []] [])),
    .ret (some (.bin .add (.call "_law_pick" [.var 0, .bf .list [.var 3]] []) (.mth .join (.str []) [.comp (.call "_law_pick" [.var 0, .bf .list [.bin .add (.var 3) (.var 4)]] []) (.name 5) .range1 [.bin .sub (.var 2) (.int (1))] none [5]])))]⟩
def di_law_bword : DI := { f := "_law_bword", st := topS 42, N := ["stream", "most", "size", "letters", "figures", "at"], ps := ["stream", "most"], k := false, fd := fd_law_bword }
def fd_law_braised : FDef := ⟨1, 3, [.asg (.name 1) (.non),
    .tri [.ex (.thk 0)] [.mk "HeldError" (some 2) [.asg (.name 1) (.callH "_law_bnamed" [.var 2])]],
    .ret (some (.var 1))]⟩
def di_law_braised : DI := { f := "_law_braised", st := topS 45, N := ["call", "found", "e"], ps := ["call"], k := false, fd := fd_law_braised, tk := true }
def fd_plain_of : FDef := ⟨1, 2, [.asg (.name 1) (.bin .fdiv (.var 0) (.int (26))),
    .ret (some (.bin .add (.idx (.glo "LETTERS") (.bin .mod (.var 0) (.int (26)))) (.ite (.cmp .gt (.var 1) (.int (0))) (.bf .str [.var 1]) (.str []))))]⟩
def di_plain_of : DI := { f := "plain_of", st := topS 33, N := ["number", "rest"], ps := ["number"], k := false, fd := fd_plain_of }
def fd_is_integer : FDef := ⟨1, 1, [.ret (some (.and (.isi (.var 0) [.int] true) (.not (.isi (.var 0) [.bool] true))))]⟩
def di_is_integer : DI := { f := "is_integer", st := topS 27, N := ["thing"], ps := ["thing"], k := false, fd := fd_is_integer }
def fd_number_of : FDef := ⟨1, 4, [.asg (.name 1) (.slc (.var 0) (some (.int (1))) none),
    .ife (.and (.cmp .ne (.var 1) (.str [])) (.or (.cmp .eq (.idx (.var 1) (.int (0))) (.str [48])) (.not (.bf .all [.comp (.cmp .isin (.var 3) (.glo "FIGURES")) (.name 3) .val [.var 1] none [3]])))) [.ret (some (.non))] [],
    .asg (.name 2) (.bin .add (.bin .mul (.int (26)) (.bf .int [.bin .add (.str [48]) (.var 1)])) (.mth .index (.glo "LETTERS") [.idx (.var 0) (.int (0))])),
    .ret (some (.ite (.cmp .le (.var 2) (.glo "MOST_NUMBER")) (.var 2) (.non)))]⟩
def di_number_of : DI := { f := "number_of", st := topS 35, N := ["name", "figures", "number", "sign"], ps := ["name"], k := false, fd := fd_number_of }
def fd_law_bnamed : FDef := ⟨1, 6, [.asg (.name 1) (.lst [.tup [.isx (.var 0) "BadCore", .str [99, 111, 114, 101]], .tup [.isx (.var 0) "BadRow", .str [114, 111, 119]], .tup [.isx (.var 0) "BadNames", .str [110, 97, 109, 101, 115]]]),
    .asg (.name 1) (.bin .add (.var 1) (.lst [.tup [.isx (.var 0) "BadNumber", .str [110, 117, 109, 98, 101, 114]], .tup [.isx (.var 0) "BadName", .str [110, 97, 109, 101]], .tup [.isx (.var 0) "BadOther", .str [111, 116, 104, 101, 114]]])),
    .asg (.name 1) (.bin .add (.var 1) (.lst [.tup [.isx (.var 0) "BadIns", .str [105, 110, 115]], .tup [.isx (.var 0) "BadOuts", .str [111, 117, 116, 115]], .tup [.isx (.var 0) "BadSizes", .str [115, 105, 122, 101, 115]]])),
    .asg (.name 1) (.bin .add (.var 1) (.lst [.tup [.isx (.var 0) "BadSteps", .str [115, 116, 101, 112, 115]], .tup [.isx (.var 0) "BadEnds", .str [101, 110, 100, 115]], .tup [.isx (.var 0) "BadMany", .str [109, 97, 110, 121]]])),
    .asg (.name 1) (.bin .add (.var 1) (.lst [.tup [.isx (.var 0) "BadLength", .str [108, 101, 110, 103, 116, 104]], .tup [.isx (.var 0) "BadOrder", .str [111, 114, 100, 101, 114]], .tup [.isx (.var 0) "BadRule", .str [114, 117, 108, 101]]])),
    .asg (.name 1) (.bin .add (.var 1) (.lst [.tup [.isx (.var 0) "BadSecond", .str [115, 101, 99, 111, 110, 100]], .tup [.isx (.var 0) "BadAt", .str [97, 116]], .tup [.isx (.var 0) "BadFirst", .str [102, 105, 114, 115, 116]]])),
    .asg (.name 1) (.bin .add (.var 1) (.lst [.tup [.isx (.var 0) "BadLast", .str [108, 97, 115, 116]], .tup [.isx (.var 0) "BadLoaded", .str [108, 111, 97, 100, 101, 100]]])),
    .asg (.name 2) (.comp (.var 5) (.tupT [4, 5]) .vlist [.var 1] (some (.var 4)) [4, 5]),
    .asg (.name 3) (.lst [.tup [.isx (.var 0) "TooMany", .str [116, 111, 111, 32, 109, 97, 110, 121]], .tup [.isx (.var 0) "Full", .str [102, 117, 108, 108]], .tup [.isx (.var 0) "NoBack", .str [98, 97, 99, 107]], .tup [.isx (.var 0) "NoAgain", .str [97, 103, 97, 105, 110]]]),
    .asg (.name 2) (.bin .add (.var 2) (.comp (.var 5) (.tupT [4, 5]) .vlist [.var 3] (some (.var 4)) [4, 5])),
    .ife (.cmp .ne (.bf .len [.var 2]) (.int (1))) [.ret (some (.tup [.str [117, 110, 108, 105, 107, 101], .var 2]))] [],
    .ife (.cmp .isin (.idx (.var 2) (.int (0))) (.tup [.str [116, 111, 111, 32, 109, 97, 110, 121], .str [102, 117, 108, 108]])) [.ret (some (.tup [.idx (.var 2) (.int (0)), .fld (.var 0) "many"]))] [],
    .ret (some (.ite (.cmp .isin (.idx (.var 2) (.int (0))) (.tup [.str [98, 97, 99, 107], .str [97, 103, 97, 105, 110]])) (.tup [.idx (.var 2) (.int (0)), .non]) (.tup [.idx (.var 2) (.int (0)), .fld (.var 0) "thing"])))]⟩
def di_law_bnamed : DI := { f := "_law_bnamed", st := topS 44, N := ["e", "things", "words", "others", "right", "word"], ps := ["e"], k := false, fd := fd_law_bnamed, hx := true }
def defs : List DI := [di_law, di_law_start, di_law_bnear_name, di_law_pick, di_law_bplain_name, di_law_same, di_law_brefuses, di_is_name, di_law_bis_name, di_law_below, di_plain_name, di_name_number, di_law_bword, di_law_braised, di_plain_of, di_is_integer, di_number_of, di_law_bnamed]
def subs : List (String × String) := [("BadNumber", "HeldError"), ("BadName", "HeldError")]
def pg : Pg := { L := defs, xr := ["BadNumber", "BadName"], xc := ["BadCore", "BadRow", "BadNames", "BadNumber", "BadName", "BadOther", "BadIns", "BadOuts", "BadSizes", "BadSteps", "BadEnds", "BadMany", "BadLength", "BadOrder", "BadRule", "BadSecond", "BadAt", "BadFirst", "BadLast", "BadLoaded", "TooMany", "Full", "NoBack", "NoAgain"], xf := ["many", "thing"], xh := ["HeldError"], sub := fun c h => subs.contains (c, h), tr := true, rs := fun c => match c with
  | "BadNumber" => some ["thing"]
  | "BadName" => some ["thing"]
  | _ => none }
def glos : Glos := fun x => match x with
  | "LETTERS" => some (.str [97, 98, 99, 100, 101, 102, 103, 104, 105, 106, 107, 108, 109, 110, 111, 112, 113, 114, 115, 116, 117, 118, 119, 120, 121, 122])
  | "FIGURES" => some (.str [48, 49, 50, 51, 52, 53, 54, 55, 56, 57])
  | "MOST_NUMBER" => some (.int (999999))
  | _ => none
end Pf.K
/-! Pf, part Q: evaluating runs by simp. Plain Lean. -/
namespace Pf
section
variable {α β : Type} {env e : Env} {S : Store} {d : D} {xs : List D} {kvs : List (D × D)} {b : Bool} {i : Nat} {s : List Nat} {n : Int}
@[simp] theorem ar_val : (R.ok (.val d) e S).ar = .ok (.d d) e S := rfl
@[simp] theorem ar_lst : (R.ok (.new (.lst xs)) e S).ar = .ok (.d (.lst xs)) e S := rfl
@[simp] theorem ar_dic : (R.ok (.new (.dic kvs)) e S).ar = .ok (.d (.dic kvs)) e S := rfl
@[simp] theorem ar_hdl : (R.ok (.hdl i) e S).ar = .ok (.h i) e S := rfl
@[simp] theorem ar_bad : (R.bad : R Out).ar = .bad := rfl
@[simp] theorem fz_val : (R.ok (.val d) e S).fz = .ok d e S := rfl
@[simp] theorem fz_lst : (R.ok (.new (.lst xs)) e S).fz = .ok (.lst xs) e S := rfl
@[simp] theorem fz_dic : (R.ok (.new (.dic kvs)) e S).fz = .ok (.dic kvs) e S := rfl
@[simp] theorem fz_bad : (R.bad : R Out).fz = .bad := rfl
@[simp] theorem bl_bl : (R.ok (.val (.bl b)) e S).bl = .ok b e S := rfl
@[simp] theorem bl_bad : (R.bad : R Out).bl = .bad := rfl
@[simp] theorem vw_non : vw env S (.d .non) = some .non := rfl
@[simp] theorem vw_bl : vw env S (.d (.bl b)) = some (.bl b) := rfl
@[simp] theorem vw_int : vw env S (.d (.int n)) = some (.int n) := rfl
@[simp] theorem vw_str : vw env S (.d (.str s)) = some (.str s) := rfl
@[simp] theorem vw_lst : vw env S (.d (.lst xs)) = some (.lst xs) := rfl
@[simp] theorem vw_tup : vw env S (.d (.tup xs)) = some (.tup xs) := rfl
@[simp] theorem vw_dic : vw env S (.d (.dic kvs)) = some (.dic kvs) := rfl
@[simp] theorem vw_scr {ns : List Int} : vw env S (.d (.scr ns)) = some (.scr ns) := rfl
@[simp] theorem vw_loc : vw env S (.d (.loc i)) = (S[i]?).bind Cell.vw := by
  show (match S[i]? with | some c => c.vw | none => none) = _
  cases S[i]? <;> rfl
@[simp] theorem cvw_lst : (Cell.lst xs).vw = some (.lst xs) := rfl
@[simp] theorem vws_nil : vws env S [] = some [] := rfl
@[simp] theorem vws_cons {a : Ar} {as : List Ar} : vws env S (a :: as) = (vw env S a).bind fun d => (vws env S as).map (d :: ·) := by
  show (match vw env S a, vws env S as with | some d, some ds => some (d :: ds) | _, _ => none) = _
  cases vw env S a <;> cases vws env S as <;> rfl
@[simp] theorem cellAt_loc : cellAt env S (.d (.loc i)) = S[i]? := rfl
@[simp] theorem cellPut_loc {c : Cell} : cellPut env S (.d (.loc i)) c = (env, S.set i c) := rfl
@[simp] theorem rc_exc {x : Exn} : (RC.exc x S).r e = .exc x e S := rfl
@[simp] theorem rrc_ok : (R.ok d e S).rc = .ok d S := rfl
@[simp] theorem rrc_exc {x : Exn} : (R.exc x e S : R D).rc = .exc x S := rfl
@[simp] theorem fz_exc {x : Exn} : (R.exc x e S : R Out).fz = .exc x e S := rfl
@[simp] theorem ar_exc {x : Exn} : (R.exc x e S : R Out).ar = .exc x e S := rfl
@[simp] theorem bl_exc {x : Exn} : (R.exc x e S : R Out).bl = .exc x e S := rfl
@[simp] theorem endR_exc {x : Exn} : endR (.exc x e S) = .exc x S := rfl
@[simp] theorem rc_ok : (RC.ok d S).r e = .ok (.val d) e S := rfl
@[simp] theorem nox_ok' {a : α} : (R.ok a e S).nox = .ok a e S := rfl
@[simp] theorem endR_ret : endR (.ok (.ret d) e S) = .ok d S := rfl
@[simp] theorem endR_nxt : endR (.ok .nxt e S) = .ok .non S := rfl
end
/-! one construct each (a comprehension has lemmas of its own) -/
section
variable {C : Calls} {g : Glos} {w : Nat} {sub : Sub} {env : Env} {S : Store} {a b c r : Ex} {as : List Ex}
@[simp] theorem ev_int {i : Int} : evO C g (.int i) env S = .ok (.val (.int i)) env S := rfl
@[simp] theorem ev_str {s : List Nat} : evO C g (.str s) env S = .ok (.val (.str s)) env S := rfl
@[simp] theorem ev_bl {b : Bool} : evO C g (.bl b) env S = .ok (.val (.bl b)) env S := rfl
@[simp] theorem ev_non : evO C g .non env S = .ok (.val .non) env S := rfl
@[simp] theorem ev_var {i : Nat} : evO C g (.var i) env S = match rd env i with | some (d, env') => .ok (.val d) env' S | none => .bad := rfl
@[simp] theorem ev_hv {i : Nat} : evO C g (.hv i) env S = match env[i]? with | some (.lst _) => .ok (.hdl i) env S | some (.dic _) => .ok (.hdl i) env S | some (.dat d) => .ok (.val d) env S | _ => .bad := rfl
@[simp] theorem ev_glo {x : String} : evO C g (.glo x) env S = ofO ((g x).map .val) env S := rfl
/-! what comes next, by name (so that simp does not look into it ahead of its time) -/
def kBin2 (o : BOp) (x y : Ar) (env : Env) (S : Store) : R Out := ofO ((vw env S x).bind fun u => (vw env S y).bind fun v => binF o u v) env S
def kBin (C : Calls) (g : Glos) (o : BOp) (b : Ex) (x : Ar) (env : Env) (S : Store) : R Out := (evO C g b env S).ar.bind (kBin2 o x)
def kUn (o : UOp) (x : Ar) (env : Env) (S : Store) : R Out := ofO ((vw env S x).bind (unF o)) env S
def kCmp2 (o : COp) (x y : Ar) (env : Env) (S : Store) : R Out := ofO ((vw env S x).bind fun u => (vw env S y).bind fun v => (cmpF o u v).map fun r => .val (.bl r)) env S
def kCmp (C : Calls) (g : Glos) (o : COp) (b : Ex) (x : Ar) (env : Env) (S : Store) : R Out := (evO C g b env S).ar.bind (kCmp2 o x)
def kD3 (C : Calls) (g : Glos) (p : COp) (c : Ex) (y : Ar) (r : Bool) (env : Env) (S : Store) : R Out := if r then (evO C g c env S).ar.bind (kCmp2 p y) else .ok (.val (.bl false)) env S
def kD2 (C : Calls) (g : Glos) (o p : COp) (c : Ex) (x y : Ar) (env : Env) (S : Store) : R Out := (ofO ((vw env S x).bind fun u => (vw env S y).bind fun v => cmpF o u v) env S).bind (kD3 C g p c y)
def kD1 (C : Calls) (g : Glos) (o p : COp) (b c : Ex) (x : Ar) (env : Env) (S : Store) : R Out := (evO C g b env S).ar.bind (kD2 C g o p c x)
def kAnd (C : Calls) (g : Glos) (b : Ex) (r : Bool) (env : Env) (S : Store) : R Out := if r then evO C g b env S else .ok (.val (.bl false)) env S
def kOr (C : Calls) (g : Glos) (b : Ex) (r : Bool) (env : Env) (S : Store) : R Out := if r then .ok (.val (.bl true)) env S else evO C g b env S
def kNot (r : Bool) (env : Env) (S : Store) : R Out := .ok (.val (.bl (!r))) env S
def kIte (C : Calls) (g : Glos) (a b : Ex) (r : Bool) (env : Env) (S : Store) : R Out := if r then evO C g a env S else evO C g b env S
def kLst (ds : List D) (env : Env) (S : Store) : R Out := .ok (.new (.lst ds)) env S
def kTup (ds : List D) (env : Env) (S : Store) : R Out := .ok (.val (.tup ds)) env S
def kDic (ds : List D) (env : Env) (S : Store) : R Out := match pairD ds with
    | some kvs => if keysOk kvs then .ok (.new (.dic kvs)) env S else .bad
    | none => .bad
def kIdx2 (x y : Ar) (env : Env) (S : Store) : R Out := ofO ((vw env S x).bind fun u => (vw env S y).bind fun v => (idxF u v).map .val) env S
def kIdx (C : Calls) (g : Glos) (b : Ex) (x : Ar) (env : Env) (S : Store) : R Out := (evO C g b env S).ar.bind (kIdx2 x)
def kSlc3 (x : Ar) (l h : Option Int) (env : Env) (S : Store) : R Out := ofO ((vw env S x).bind fun u => slcF u l h) env S
def kSlc2 (C : Calls) (g : Glos) (hi : Option Ex) (x : Ar) (l : Option Int) (env : Env) (S : Store) : R Out := (evP C g hi env S).bind (kSlc3 x l)
def kSlc (C : Calls) (g : Glos) (lo hi : Option Ex) (x : Ar) (env : Env) (S : Store) : R Out := (evP C g lo env S).bind (kSlc2 C g hi x)
def kBf (f : Bf) (xs : List Ar) (env : Env) (S : Store) : R Out := ofO ((vws env S xs).bind (bfF f)) env S
def kMth2 (m : Mt) (x : Ar) (xs : List Ar) (env : Env) (S : Store) : R Out := ofO ((vw env S x).bind fun u => (vws env S xs).bind (mtF m u)) env S
def kMth (C : Calls) (g : Glos) (m : Mt) (as : List Ex) (x : Ar) (env : Env) (S : Store) : R Out := if mtRecv m (vw env S x) then (evAs C g as env S).bind (kMth2 m x) else .bad
def kMut2 (m : Mu) (x : Ar) (ds : List D) (env : Env) (S : Store) : R Out := match (cellAt env S x).bind fun c => muF m c ds with
    | some (c, d) => .ok (.val d) (cellPut env S x c).1 (cellPut env S x c).2
    | none => .bad
def kMut (C : Calls) (g : Glos) (m : Mu) (as : List Ex) (x : Ar) (env : Env) (S : Store) : R Out := if isLst (cellAt env S x) then (evDs C g as env S).bind (kMut2 m x) else .bad
def kIsi (ts : List Ty) (x : Ar) (env : Env) (S : Store) : R Out := ofO ((vw env S x).bind fun u => (isAny u ts).map fun r => .val (.bl r)) env S
def kCall (C : Calls) (f : String) (ds : List D) (env : Env) (S : Store) : R Out := (C.fn f ds S).r env
def kNew (o : Out) (env : Env) (S : Store) : R Out := match o with
    | .new (.lst xs) => .ok (.val (.loc S.length)) env (S ++ [.lst xs])
    | _ => .bad
def kP (d : D) (env : Env) (S : Store) : R (Option Int) := ofO ((intOf d).map some) env S
def kDs2 (d : D) (ds : List D) (env : Env) (S : Store) : R (List D) := .ok (d :: ds) env S
def kDs (C : Calls) (g : Glos) (as : List Ex) (d : D) (env : Env) (S : Store) : R (List D) := (evDs C g as env S).bind (kDs2 d)
def kAs2 (d : Ar) (ds : List Ar) (env : Env) (S : Store) : R (List Ar) := .ok (d :: ds) env S
def kAs (C : Calls) (g : Glos) (as : List Ex) (d : Ar) (env : Env) (S : Store) : R (List Ar) := (evAs C g as env S).bind (kAs2 d)
def sEx (_ : D) (env : Env) (S : Store) : R Fl := .ok .nxt env S
def sAsg (t : Tg) (d : D) (env : Env) (S : Store) : R Fl := match bindTg t d env with
    | some e => .ok .nxt e S
    | none => .bad
def sOwn (i : Nat) (o : Out) (env : Env) (S : Store) : R Fl := match o with
    | .new (.lst xs) => .ok .nxt (env.set i (.lst xs)) S
    | _ => .bad
def sPut3 (d : D) (x : Ar) (kd : D) (env : Env) (S : Store) : R Fl := match (cellAt env S x).bind fun c => putF c kd d with
    | some c => .ok .nxt (cellPut env S x c).1 (cellPut env S x c).2
    | none => .bad
def sPut2 (C : Calls) (g : Glos) (b : Ex) (d : D) (x : Ar) (env : Env) (S : Store) : R Fl := (evO C g b env S).fz.bind (sPut3 d x)
def sPut (C : Calls) (g : Glos) (a b : Ex) (d : D) (env : Env) (S : Store) : R Fl := (evO C g a env S).ar.bind (sPut2 C g b d)
def sRet (d : D) (env : Env) (S : Store) : R Fl := .ok (.ret d) env S
def sIfe (C : Calls) (g : Glos) (w : Nat) (sub : Sub) (ss tt : List Stm) (r : Bool) (env : Env) (S : Store) : R Fl := if r then exSs C g w sub ss env S else exSs C g w sub tt env S
variable {x y : Ar} {d : D} {ds : List D} {xs : List Ar} {t : Tg} {k : Itk} {ss tt : List Stm} {s : Stm}
@[simp] theorem kBin2_eq {o : BOp} : kBin2 o x y env S = ofO ((vw env S x).bind fun u => (vw env S y).bind fun v => binF o u v) env S := rfl
@[simp] theorem kBin_eq {o : BOp} : kBin C g o b x env S = (evO C g b env S).ar.bind (kBin2 o x) := rfl
@[simp] theorem kUn_eq {o : UOp} : kUn o x env S = ofO ((vw env S x).bind (unF o)) env S := rfl
@[simp] theorem kCmp2_eq {o : COp} : kCmp2 o x y env S = ofO ((vw env S x).bind fun u => (vw env S y).bind fun v => (cmpF o u v).map fun r => .val (.bl r)) env S := rfl
@[simp] theorem kCmp_eq {o : COp} : kCmp C g o b x env S = (evO C g b env S).ar.bind (kCmp2 o x) := rfl
@[simp] theorem kD3_eq {p : COp} {r : Bool} : kD3 C g p c y r env S = if r then (evO C g c env S).ar.bind (kCmp2 p y) else .ok (.val (.bl false)) env S := rfl
@[simp] theorem kD2_eq {o p : COp} : kD2 C g o p c x y env S = (ofO ((vw env S x).bind fun u => (vw env S y).bind fun v => cmpF o u v) env S).bind (kD3 C g p c y) := rfl
@[simp] theorem kD1_eq {o p : COp} : kD1 C g o p b c x env S = (evO C g b env S).ar.bind (kD2 C g o p c x) := rfl
@[simp] theorem kAnd_eq {r : Bool} : kAnd C g b r env S = if r then evO C g b env S else .ok (.val (.bl false)) env S := rfl
@[simp] theorem kOr_eq {r : Bool} : kOr C g b r env S = if r then .ok (.val (.bl true)) env S else evO C g b env S := rfl
@[simp] theorem kNot_eq {r : Bool} : kNot r env S = .ok (.val (.bl (!r))) env S := rfl
@[simp] theorem kIte_eq {r : Bool} : kIte C g a b r env S = if r then evO C g a env S else evO C g b env S := rfl
@[simp] theorem kLst_eq : kLst ds env S = .ok (.new (.lst ds)) env S := rfl
@[simp] theorem kTup_eq : kTup ds env S = .ok (.val (.tup ds)) env S := rfl
@[simp] theorem kDic_eq : kDic ds env S = match pairD ds with
    | some kvs => if keysOk kvs then .ok (.new (.dic kvs)) env S else .bad
    | none => .bad := rfl
@[simp] theorem kIdx2_eq : kIdx2 x y env S = ofO ((vw env S x).bind fun u => (vw env S y).bind fun v => (idxF u v).map .val) env S := rfl
@[simp] theorem kIdx_eq : kIdx C g b x env S = (evO C g b env S).ar.bind (kIdx2 x) := rfl
@[simp] theorem kSlc3_eq {l h : Option Int} : kSlc3 x l h env S = ofO ((vw env S x).bind fun u => slcF u l h) env S := rfl
@[simp] theorem kSlc2_eq {hi : Option Ex} {l : Option Int} : kSlc2 C g hi x l env S = (evP C g hi env S).bind (kSlc3 x l) := rfl
@[simp] theorem kSlc_eq {lo hi : Option Ex} : kSlc C g lo hi x env S = (evP C g lo env S).bind (kSlc2 C g hi x) := rfl
@[simp] theorem kBf_eq {f : Bf} : kBf f xs env S = ofO ((vws env S xs).bind (bfF f)) env S := rfl
@[simp] theorem kMth2_eq {m : Mt} : kMth2 m x xs env S = ofO ((vw env S x).bind fun u => (vws env S xs).bind (mtF m u)) env S := rfl
@[simp] theorem kMth_eq {m : Mt} : kMth C g m as x env S = if mtRecv m (vw env S x) then (evAs C g as env S).bind (kMth2 m x) else .bad := rfl
@[simp] theorem kMut2_eq {m : Mu} : kMut2 m x ds env S = match (cellAt env S x).bind fun c => muF m c ds with
    | some (c, d) => .ok (.val d) (cellPut env S x c).1 (cellPut env S x c).2
    | none => .bad := rfl
@[simp] theorem kMut_eq {m : Mu} : kMut C g m as x env S = if isLst (cellAt env S x) then (evDs C g as env S).bind (kMut2 m x) else .bad := rfl
@[simp] theorem kIsi_eq {ts : List Ty} : kIsi ts x env S = ofO ((vw env S x).bind fun u => (isAny u ts).map fun r => .val (.bl r)) env S := rfl
@[simp] theorem kCall_eq {f : String} : kCall C f ds env S = (C.fn f ds S).r env := rfl
@[simp] theorem kNew_eq {zs : List D} : kNew (.new (.lst zs)) env S = .ok (.val (.loc S.length)) env (S ++ [.lst zs]) := rfl
@[simp] theorem kP_eq : kP d env S = ofO ((intOf d).map some) env S := rfl
@[simp] theorem kDs2_eq : kDs2 d ds env S = .ok (d :: ds) env S := rfl
@[simp] theorem kDs_eq : kDs C g as d env S = (evDs C g as env S).bind (kDs2 d) := rfl
@[simp] theorem kAs2_eq : kAs2 x xs env S = .ok (x :: xs) env S := rfl
@[simp] theorem kAs_eq : kAs C g as x env S = (evAs C g as env S).bind (kAs2 x) := rfl
@[simp] theorem sEx_eq : sEx d env S = .ok .nxt env S := rfl
@[simp] theorem sAsg_name {i : Nat} : sAsg (.name i) d env S = .ok .nxt (env.set i (.dat d)) S := rfl
@[simp] theorem sAsg_tup {is : List Nat} : sAsg (.tup is) d env S = match bindTg (.tup is) d env with
    | some e => .ok .nxt e S
    | none => .bad := rfl
@[simp] theorem sOwn_eq {i : Nat} {zs : List D} : sOwn i (.new (.lst zs)) env S = .ok .nxt (env.set i (.lst zs)) S := rfl
@[simp] theorem sPut3_eq {kd : D} : sPut3 d x kd env S = match (cellAt env S x).bind fun c => putF c kd d with
    | some c => .ok .nxt (cellPut env S x c).1 (cellPut env S x c).2
    | none => .bad := rfl
@[simp] theorem sPut2_eq : sPut2 C g b d x env S = (evO C g b env S).fz.bind (sPut3 d x) := rfl
@[simp] theorem sPut_eq : sPut C g a b d env S = (evO C g a env S).ar.bind (sPut2 C g b d) := rfl
@[simp] theorem sRet_eq : sRet d env S = .ok (.ret d) env S := rfl
@[simp] theorem sIfe_eq {r : Bool} : sIfe C g w sub ss tt r env S = if r then exSs C g w sub ss env S else exSs C g w sub tt env S := rfl
@[simp] theorem ev_bin {o : BOp} : evO C g (.bin o a b) env S = (evO C g a env S).ar.bind (kBin C g o b) := rfl
@[simp] theorem ev_un {o : UOp} : evO C g (.un o a) env S = (evO C g a env S).ar.bind (kUn o) := rfl
@[simp] theorem ev_cmp {o : COp} : evO C g (.cmp o a b) env S = (evO C g a env S).ar.bind (kCmp C g o b) := rfl
@[simp] theorem ev_cmp2 {o p : COp} : evO C g (.cmp2 o p a b c) env S = (evO C g a env S).ar.bind (kD1 C g o p b c) := rfl
@[simp] theorem ev_and : evO C g (.and a b) env S = (evO C g a env S).bl.bind (kAnd C g b) := rfl
@[simp] theorem ev_or : evO C g (.or a b) env S = (evO C g a env S).bl.bind (kOr C g b) := rfl
@[simp] theorem ev_not : evO C g (.not a) env S = (evO C g a env S).bl.bind kNot := rfl
@[simp] theorem ev_ite : evO C g (.ite c a b) env S = (evO C g c env S).bl.bind (kIte C g a b) := rfl
@[simp] theorem ev_lst : evO C g (.lst as) env S = (evDs C g as env S).bind kLst := rfl
@[simp] theorem ev_tup : evO C g (.tup as) env S = (evDs C g as env S).bind kTup := rfl
@[simp] theorem ev_dic : evO C g (.dic as) env S = (evDs C g as env S).nox.bind kDic := rfl
@[simp] theorem ev_idx : evO C g (.idx a b) env S = (evO C g a env S).ar.bind (kIdx C g b) := rfl
@[simp] theorem ev_slc {lo hi : Option Ex} : evO C g (.slc a lo hi) env S = (evO C g a env S).ar.bind (kSlc C g lo hi) := rfl
@[simp] theorem ev_bf {f : Bf} : evO C g (.bf f as) env S = (evAs C g as env S).bind (kBf f) := rfl
@[simp] theorem ev_mth {m : Mt} : evO C g (.mth m r as) env S = (evO C g r env S).ar.bind (kMth C g m as) := rfl
@[simp] theorem ev_mut {m : Mu} : evO C g (.mut m r as) env S = (evO C g r env S).ar.bind (kMut C g m as) := rfl
@[simp] theorem ev_isi {ts : List Ty} {o : Bool} : evO C g (.isi a ts o) env S = (evO C g a env S).ar.bind (kIsi ts) := rfl
@[simp] theorem ev_call {f : String} {ks : List String} : evO C g (.call f as ks) env S = (evDs C g as env S).bind (kCall C f) := rfl
@[simp] theorem ev_new : evO C g (.new a) env S = (evO C g a env S).bind kNew := by
  show (evO C g a env S).bind _ = _
  congr 1
def kCallP (C : Calls) (f : String) (i : Nat) (ds : List D) (env : Env) (S : Store) : R Out := if isThk env i then (C.ps f ds S).r env else .bad
def kCallT (C : Calls) (g : Glos) (f : String) (b : Ex) (ds : List D) (env : Env) (S : Store) : R Out := (C.lam f ds (fun S => (evO C g b (env.map Sl.thin) S).fz.rc) S).r env
def kCallH (C : Calls) (f : String) (ds : List D) (env : Env) (S : Store) : R Out := if exoArg ds && S.all Cell.noX then (C.hot f ds S).r env else .bad
def kIsx (c : String) (x : Ar) (env : Env) (S : Store) : R Out := ofO ((vw env S x).bind fun u => exIs u c) env S
def kFld (f : String) (x : Ar) (env : Env) (S : Store) : R Out := ofO ((vw env S x).bind fun u => exFld u f) env S
@[simp] theorem kCallP_eq {f : String} {i : Nat} : kCallP C f i ds env S = if isThk env i then (C.ps f ds S).r env else .bad := rfl
@[simp] theorem kCallT_eq {f : String} : kCallT C g f b ds env S = (C.lam f ds (fun S => (evO C g b (env.map Sl.thin) S).fz.rc) S).r env := rfl
@[simp] theorem kCallH_eq {f : String} : kCallH C f ds env S = if exoArg ds && S.all Cell.noX then (C.hot f ds S).r env else .bad := rfl
@[simp] theorem kIsx_eq {c : String} : kIsx c x env S = ofO ((vw env S x).bind fun u => exIs u c) env S := rfl
@[simp] theorem kFld_eq {f : String} : kFld f x env S = ofO ((vw env S x).bind fun u => exFld u f) env S := rfl
@[simp] theorem ev_thk {i : Nat} : evO C g (.thk i) env S = if isThk env i then (C.th S).r env else .bad := rfl
@[simp] theorem ev_callP {f : String} {i : Nat} : evO C g (.callP f as i) env S = (evDs C g as env S).bind (kCallP C f i) := rfl
@[simp] theorem ev_callT {f : String} : evO C g (.callT f as b) env S = (evDs C g as env S).bind (kCallT C g f b) := rfl
@[simp] theorem ev_callH {f : String} : evO C g (.callH f as) env S = (evDs C g as env S).bind (kCallH C f) := rfl
@[simp] theorem ev_isx {c : String} : evO C g (.isx a c) env S = (evO C g a env S).ar.bind (kIsx c) := rfl
@[simp] theorem ev_fld {f : String} : evO C g (.fld a f) env S = (evO C g a env S).ar.bind (kFld f) := rfl
@[simp] theorem ec_none : evC C g none env S = .ok true env S := rfl
@[simp] theorem ec_some : evC C g (some a) env S = (evO C g a env S).bl := rfl
@[simp] theorem ep_none : evP C g none env S = .ok none env S := rfl
@[simp] theorem ep_some : evP C g (some a) env S = (evO C g a env S).fz.bind kP := rfl
@[simp] theorem eds_nil : evDs C g [] env S = .ok [] env S := rfl
@[simp] theorem eds_cons : evDs C g (a :: as) env S = (evO C g a env S).fz.bind (kDs C g as) := rfl
@[simp] theorem eas_nil : evAs C g [] env S = .ok [] env S := rfl
@[simp] theorem eas_cons : evAs C g (a :: as) env S = (evO C g a env S).ar.bind (kAs C g as) := rfl
@[simp] theorem xs_ex : exS C g w sub (.ex a) env S = (evO C g a env S).fz.bind sEx := rfl
@[simp] theorem xs_asg : exS C g w sub (.asg t a) env S = (evO C g a env S).fz.bind (sAsg t) := by
  show (evO C g a env S).fz.bind _ = _
  congr 1
  funext d e S
  unfold sAsg
  cases bindTg t d e <;> rfl
@[simp] theorem xs_own {i : Nat} : exS C g w sub (.own i a) env S = (evO C g a env S).bind (sOwn i) := rfl
@[simp] theorem xs_put : exS C g w sub (.put a b c) env S = (evO C g c env S).fz.bind (sPut C g a b) := rfl
@[simp] theorem xs_ret0 : exS C g w sub (.ret none) env S = .ok (.ret .non) env S := rfl
@[simp] theorem xs_ret : exS C g w sub (.ret (some a)) env S = (evO C g a env S).fz.bind sRet := rfl
@[simp] theorem xs_ife : exS C g w sub (.ife a ss tt) env S = (evO C g a env S).bl.bind (sIfe C g w sub ss tt) := rfl
def sRai (c : String) (fs : List String) (ds : List D) (env : Env) (S : Store) : R Fl := if ds.length = fs.length then .exc ⟨c, (fs.zip ds).reverse⟩ env S else .bad
@[simp] theorem sRai_eq {c : String} {fs : List String} : sRai c fs ds env S = if ds.length = fs.length then .exc ⟨c, (fs.zip ds).reverse⟩ env S else .bad := rfl
@[simp] theorem xs_rai {c : String} {fs : List String} : exS C g w sub (.rai c fs as) env S = (evDs C g as env S).nox.bind (sRai c fs) := rfl
/-- what the clauses make of a run -/
def met (C : Calls) (g : Glos) (w : Nat) (sub : Sub) (hs : List Hd) : R Fl → R Fl
  | .exc x env S => exHs C g w sub hs x env S
  | r => r
@[simp] theorem met_ok {hs : List Hd} {fl : Fl} {e : Env} : met C g w sub hs (.ok fl e S) = .ok fl e S := rfl
@[simp] theorem met_exc {hs : List Hd} {x : Exn} {e : Env} : met C g w sub hs (.exc x e S) = exHs C g w sub hs x e S := rfl
theorem xs_tri {hs : List Hd} : exS C g w sub (.tri ss hs) env S = met C g w sub hs (exSs C g w sub ss env S) := rfl
@[simp] theorem exHs_nil {x : Exn} : exHs C g w sub [] x env S = .exc x env S := rfl
theorem exHs_cons {x : Exn} {h : Hd} {hs : List Hd} : exHs C g w sub (h :: hs) x env S = match exH C g w sub h x env S with
    | some r => r
    | none => exHs C g w sub hs x env S := rfl
theorem exH_mk {x : Exn} {c : String} {v : Option Nat} : exH C g w sub (.mk c v ss) x env S = if sub x.cls c then some (lowF v (exSs C g w sub ss (asEnv v x env) S)) else none := rfl
@[simp] theorem xs_brk : exS C g w sub .brk env S = .ok .brk env S := rfl
@[simp] theorem xs_cnt : exS C g w sub .cnt env S = .ok .cnt env S := rfl
@[simp] theorem xs_pass : exS C g w sub .pass env S = .ok .nxt env S := rfl
/-- the statements after one -/
def after (C : Calls) (g : Glos) (w : Nat) (sub : Sub) (ss : List Stm) (fl : Fl) (env : Env) (S : Store) : R Fl := match fl with
  | .nxt => exSs C g w sub ss env S
  | .brk => .ok .brk env S
  | .cnt => .ok .cnt env S
  | .ret d => .ok (.ret d) env S
@[simp] theorem xss_nil : exSs C g w sub [] env S = .ok .nxt env S := rfl
@[simp] theorem xss_cons : exSs C g w sub (s :: ss) env S = (exS C g w sub s env S).bind (after C g w sub ss) := rfl
@[simp] theorem after_nxt : after C g w sub ss .nxt env S = exSs C g w sub ss env S := rfl
@[simp] theorem after_brk : after C g w sub ss .brk env S = .ok .brk env S := rfl
@[simp] theorem after_cnt : after C g w sub ss .cnt env S = .ok .cnt env S := rfl
@[simp] theorem after_ret {d : D} : after C g w sub ss (.ret d) env S = .ok (.ret d) env S := rfl
@[simp] theorem bind_name {i : Nat} {d : D} : bindTg (.name i) d env = some (env.set i (.dat d)) := rfl
end
/-! the pure ones -/
section
variable {C : Calls} {g : Glos} {w : Nat} {sub : Sub}
theorem turns_pure {f : D → Env → Store → R (Option D)} {i : Nat} {p : D → Option D} {S : Store} : ∀ {xs : List D} {env : Env}, (∀ x ∈ xs, ∀ e : Env, (∃ d, e = env.set i d) → f x e S = .ok (p x) (env.set i (.dat x)) S) → ∃ e', turns f xs env S = .ok (xs.filterMap p) e' S ∧ (e' = env ∨ ∃ d, e' = env.set i d)
  | [], env, _ => ⟨env, rfl, .inl rfl⟩
  | x :: xs, env, h => by
    by_cases hi : i < env.length
    · have h1 : f x env S = .ok (p x) (env.set i (.dat x)) S := h x List.mem_cons_self env ⟨env[i], by simp⟩
      have h2 : ∀ y ∈ xs, ∀ e : Env, (∃ d, e = (env.set i (.dat x)).set i d) → f y e S = .ok (p y) ((env.set i (.dat x)).set i (.dat y)) S := fun y hy e ⟨d, he⟩ => by
        rw [List.set_set] at he ⊢
        exact h y (List.mem_cons_of_mem _ hy) e ⟨d, he⟩
      obtain ⟨e', q1, q2⟩ := turns_pure h2
      have q2 : e' = env ∨ ∃ d, e' = env.set i d := by
        rcases q2 with rfl | ⟨d, rfl⟩
        · exact .inr ⟨_, rfl⟩
        · exact .inr ⟨d, by rw [List.set_set]⟩
      refine ⟨e', ?_, q2⟩
      show (f x env S).bind _ = _
      rw [h1, R.bind_ok, q1, R.bind_ok, List.filterMap_cons]
      cases p x <;> rfl
    · have he : ∀ d : Sl, env.set i d = env := fun d => List.set_eq_of_length_le (by omega)
      have h1 : f x env S = .ok (p x) env S := by
        have := h x List.mem_cons_self env ⟨.no, (he _).symm⟩
        rwa [he] at this
      obtain ⟨e', q1, q2⟩ := turns_pure (xs := xs) (env := env) fun y hy e z => h y (List.mem_cons_of_mem _ hy) e z
      refine ⟨e', ?_, q2⟩
      show (f x env S).bind _ = _
      rw [h1, R.bind_ok, q1, R.bind_ok, List.filterMap_cons]
      cases p x <;> rfl
theorem back_one {env e' : Env} {i : Nat} (h : e' = env ∨ ∃ d, e' = env.set i d) (hi : i < env.length) : backE env e' [i] = env := by
  have key : env.set i (env.getD i .no) = env := by
    rw [List.getD_eq_getElem?_getD, List.getElem?_eq_getElem hi]; simp
  show e'.set i (env.getD i .no) = env
  rcases h with rfl | ⟨d, rfl⟩
  · exact key
  · rw [List.set_set]; exact key
/-- a comprehension over one name that leaves the store alone -/
theorem comp_pure {elt it : Ex} {k : Itk} {i : Nat} {cond : Option Ex} {env : Env} {S0 S : Store} {d : D} {ds : List D} {p : D → Option D}
    (h1 : evDs C g [it] env S0 = .ok [d] env S) (h2 : itF k [d] = some ds) (hi : i < env.length) (hp : plainSl env i = true)
    (h : ∀ x ∈ ds, (evC C g cond (env.set i (.dat x)) S).bind (fun r e S => if r then (evO C g elt e S).fz.bind fun y e S => .ok (some y) e S else .ok none e S) = .ok (p x) (env.set i (.dat x)) S) :
    evO C g (.comp elt (.name i) k [it] cond [i]) env S0 = .ok (.new (.lst (ds.filterMap p))) env S := by
  have h0 : evO C g (.comp elt (.name i) k [it] cond [i]) env S0 = ((evDs C g [it] env S0).bind fun xs env S => match itF k xs with
    | none => .bad
    | some ds => if [i].all (plainSl env) then (turns (compF C g elt (.name i) cond [i]) ds env S).nox.bind fun ys env' S => .ok (.new (.lst ys)) (backE env env' [i]) S else .bad) := rfl
  have hp' : [i].all (plainSl env) = true := by rw [List.all_cons, hp]; rfl
  obtain ⟨e', q1, q2⟩ := turns_pure (f := compF C g elt (.name i) cond [i]) (i := i) (p := p) (S := S) (xs := ds) (env := env) fun x hx e ⟨dd, he⟩ => by
    have : bindTg (.name i) x (wipeE e [i]) = some (env.set i (.dat x)) := by
      rw [he]
      show some ((((env.set i dd)).set i .no).set i (.dat x)) = _
      rw [List.set_set, List.set_set]
    unfold compF
    rw [this]
    exact h x hx
  rw [h0, h1, R.bind_ok, h2]
  show (if [i].all (plainSl env) then (turns (compF C g elt (.name i) cond [i]) ds env S).nox.bind fun ys env' S => R.ok (Out.new (.lst ys)) (backE env env' [i]) S else .bad) = _
  rw [if_pos hp']
  rw [q1]
  show R.ok _ (backE env e' [i]) S = _
  rw [back_one q2 hi]
theorem turns_state {f : D → Env → Store → R (Option D)} {i : Nat} {P : D → Prop} {J : Nat → Store → Prop} {N : Nat} : ∀ {xs : List D} {env : Env} {S : Store} {k : Nat}, k + xs.length ≤ N → J k S →
    (∀ x ∈ xs, ∀ e k S, k < N → (∃ d, e = env.set i d) → J k S → ∃ y S', f x e S = .ok (some y) (env.set i (.dat x)) S' ∧ P y ∧ J (k + 1) S') →
    ∃ ys e' S', turns f xs env S = .ok ys e' S' ∧ ys.length = xs.length ∧ (∀ y ∈ ys, P y) ∧ J (k + xs.length) S' ∧ (e' = env ∨ ∃ d, e' = env.set i d)
  | [], env, S, k, _, j, _ => ⟨[], env, S, rfl, rfl, fun _ h => (by cases h), j, .inl rfl⟩
  | x :: xs, env, S, k, hN, j, h => by
    rw [List.length_cons] at hN
    have he0 : ∃ d, env = env.set i d := by
      by_cases hi : i < env.length
      · exact ⟨env[i], by simp⟩
      · exact ⟨.no, (List.set_eq_of_length_le (by omega)).symm⟩
    obtain ⟨y, S1, h1, hy, j1⟩ := h x List.mem_cons_self env k S (by omega) he0 j
    obtain ⟨ys, e', S2, q1, q2, q3, q4, q5⟩ := turns_state (i := i) (N := N) (P := P) (J := J) (f := f) (xs := xs) (env := env.set i (.dat x)) (k := k + 1) (by omega) j1 fun z hz e k' S' hk ⟨d, he⟩ j' => by
      rw [List.set_set] at he ⊢
      exact h z (List.mem_cons_of_mem _ hz) e k' S' hk ⟨d, he⟩ j'
    refine ⟨y :: ys, e', S2, ?_, by rw [List.length_cons, List.length_cons, q2], fun z hz => ?_, by rw [List.length_cons, show k + (xs.length + 1) = k + 1 + xs.length from by omega]; exact q4, ?_⟩
    · show (f x env S).bind _ = _
      rw [h1, R.bind_ok, q1]; rfl
    · rcases List.mem_cons.mp hz with rfl | hz
      · exact hy
      · exact q3 z hz
    · rcases q5 with rfl | ⟨d, rfl⟩
      · exact .inr ⟨_, rfl⟩
      · exact .inr ⟨d, by rw [List.set_set]⟩
/-- a comprehension over one name, each element of which changes the store -/
theorem comp_state {elt it : Ex} {kk : Itk} {i : Nat} {env : Env} {S0 S : Store} {d : D} {ds : List D} {P : D → Prop} {J : Nat → Store → Prop} {N k : Nat}
    (h1 : evDs C g [it] env S0 = .ok [d] env S) (h2 : itF kk [d] = some ds) (hi : i < env.length) (hp : plainSl env i = true) (hN : k + ds.length ≤ N) (j : J k S)
    (h : ∀ x ∈ ds, ∀ k S, k < N → J k S → ∃ y S', (evO C g elt (env.set i (.dat x)) S).fz = .ok y (env.set i (.dat x)) S' ∧ P y ∧ J (k + 1) S') :
    ∃ ys S', evO C g (.comp elt (.name i) kk [it] none [i]) env S0 = .ok (.new (.lst ys)) env S' ∧ ys.length = ds.length ∧ (∀ y ∈ ys, P y) ∧ J (k + ds.length) S' := by
  have h0 : evO C g (.comp elt (.name i) kk [it] none [i]) env S0 = ((evDs C g [it] env S0).bind fun xs env S => match itF kk xs with
    | none => .bad
    | some ds => if [i].all (plainSl env) then (turns (compF C g elt (.name i) none [i]) ds env S).nox.bind fun ys env' S => .ok (.new (.lst ys)) (backE env env' [i]) S else .bad) := rfl
  have hp' : [i].all (plainSl env) = true := by rw [List.all_cons, hp]; rfl
  obtain ⟨ys, e', S', q1, q2, q3, q4, q5⟩ := turns_state (f := compF C g elt (.name i) none [i]) (i := i) (P := P) (J := J) (N := N) (xs := ds) (env := env) hN j fun x hx e k S hk ⟨dd, he⟩ jj => by
    have e1 : bindTg (.name i) x (wipeE e [i]) = some (env.set i (.dat x)) := by
      rw [he]
      show some ((((env.set i dd)).set i .no).set i (.dat x)) = _
      rw [List.set_set, List.set_set]
    obtain ⟨y, S', z1, z2, z3⟩ := h x hx k S hk jj
    refine ⟨y, S', ?_, z2, z3⟩
    unfold compF
    rw [e1]
    show ((R.ok true (env.set i (.dat x)) S).bind _) = _
    rw [R.bind_ok, if_pos rfl, z1]; rfl
  refine ⟨ys, S', ?_, q2, q3, q4⟩
  rw [h0, h1, R.bind_ok, h2]
  show (if [i].all (plainSl env) then (turns (compF C g elt (.name i) none [i]) ds env S).nox.bind fun ys env' S => R.ok (Out.new (.lst ys)) (backE env env' [i]) S else .bad) = _
  rw [if_pos hp', q1]
  show R.ok _ (backE env e' [i]) S' = _
  rw [back_one q5 hi]
end
end Pf
namespace Pf.K
def Cn (n : Nat) : String → List D → Store → RC := callF (gOf pg.L) glos turnsW pg.sub n
def CC (n : Nat) : Calls := lvl (gOf pg.L) glos turnsW pg.sub (Cn n)
@[simp] theorem CC_fn {n : Nat} : (CC n).fn = Cn n := rfl
theorem call_of {f : String} {fd : FDef} {ds : List D} {S : Store} {n : Nat} (h : gOf pg.L f = some fd) (hl : ds.length = fd.np) : Cn (n + 1) f ds S = endR (exSs (CC n) glos turnsW pg.sub fd.body (startE fd.ns ds) S) := by
  show (match gOf pg.L f with
      | none => RC.bad
      | some fd => if ds.length = fd.np then endR (exSs (CC n) glos turnsW pg.sub fd.body (startE fd.ns ds) S) else .bad) = _
  rw [h]; exact if_pos hl
theorem g_law : gOf pg.L "law" = some fd_law := rfl
theorem g_start : gOf pg.L "_law_start" = some fd_law_start := rfl
theorem g_below : gOf pg.L "_law_below" = some fd_law_below := rfl
theorem g_pick : gOf pg.L "_law_pick" = some fd_law_pick := rfl
theorem g_same : gOf pg.L "_law_same" = some fd_law_same := rfl
theorem g_refuses : gOf pg.L "_law_brefuses" = some fd_law_brefuses := rfl
theorem g_raised : gOf pg.L "_law_braised" = some fd_law_braised := rfl
theorem g_named : gOf pg.L "_law_bnamed" = some fd_law_bnamed := rfl
/-! ### the stream -/
theorem at0 {α : Type} {c : α} {t : List α} : L2.atI (c :: t) 0 = some c := L2.atI_nat (j := 0) rfl
theorem at1 {α : Type} {a b : α} {t : List α} : L2.atI (a :: b :: t) 1 = some b := L2.atI_nat (j := 1) rfl
theorem at2 {α : Type} {a b c : α} {t : List α} : L2.atI (a :: b :: c :: t) 2 = some c := L2.atI_nat (j := 2) rfl
theorem at3 {α : Type} {a b c d : α} {t : List α} : L2.atI (a :: b :: c :: d :: t) 3 = some d := L2.atI_nat (j := 3) rfl
theorem ix1 : L2.ixN 4 1 = some 1 := rfl
theorem ix2 : L2.ixN 4 2 = some 2 := rfl
theorem ix3 : L2.ixN 4 3 = some 3 := rfl
theorem seq0 {n : Nat} : PySem.seqIndex? 0 (n + 1) = some 0 := by
  unfold PySem.seqIndex?; simp
def St (cs : List Int) (a c m : Int) : Store := [.lst (cs.map .int), .lst [.loc 0, .int a, .int c, .int m]]
def Inv (k : Nat) (S : Store) : Prop := ∃ (cs : List Int) (a c m : Int), S = St cs a c m ∧ cs.length ≤ 63 ∧ 0 ≤ a ∧ 0 ≤ c ∧ c ≤ k ∧ 0 ≤ m ∧ m < 2147483647
theorem Inv.mono {k j : Nat} {S : Store} (h : Inv k S) (hk : k ≤ j) : Inv j S := by
  obtain ⟨cs, a, c, m, p0, p1, p2, p3, p4, p5, p6⟩ := h
  exact ⟨cs, a, c, m, p0, p1, p2, p3, by omega, p5, p6⟩
theorem noXs_int : ∀ s : List Int, D.noXs (s.map .int) = true
  | [] => rfl
  | z :: s => by show (D.noX (.int z) && D.noXs _) = true; rw [noXs_int s]; rfl
theorem Inv.noX {k : Nat} {S : Store} (h : Inv k S) : S.all Cell.noX = true := by
  obtain ⟨cs, a, c, m, rfl, _⟩ := h
  show (D.noXs (cs.map .int) && (D.noXs [.loc 0, .int a, .int c, .int m] && true)) = true
  rw [noXs_int]; rfl
theorem pls_int : ∀ s : List Int, D.pls (s.map .int) = true
  | [] => rfl
  | z :: s => by show (D.pl (.int z) && D.pls _) = true; rw [pls_int s]; rfl
theorem pls_str : ∀ s : List Nat, D.pls (s.map fun z => D.str [z]) = true
  | [] => rfl
  | z :: s => by show (D.pl (.str [z]) && D.pls _) = true; rw [pls_str s]; rfl
theorem eqD_nil {xs : List D} (h : D.pls xs = true) : eqD (.lst xs) (.lst []) = some xs.isEmpty := by
  unfold eqD
  have e1 : (D.lst xs).pl = true := h
  have e2 : (D.lst []).pl = true := rfl
  have e3 : decide (min (D.lst xs).depth (D.lst []).depth ≤ 64) = true := by
    have : (D.lst []).depth = 1 := rfl
    rw [this]; exact decide_eq_true (by omega)
  rw [e1, e2, e3]
  show some (D.eqbs xs []) = _
  cases xs <;> rfl
theorem eq_nil {xs : List D} (h : D.pls xs = true) : cmpF .eq (.lst xs) (.lst []) = some xs.isEmpty := eqD_nil h
theorem ne_nil {xs : List D} (h : D.pls xs = true) : cmpF .ne (.lst xs) (.lst []) = some (!xs.isEmpty) := by
  show (eqD _ _).map _ = _
  rw [eqD_nil h]; rfl
abbrev bEnv (many : Int) (e2 e3 : Sl) : Env := [.dat (.loc 1), .dat (.int many), e2, e3, .no]
abbrev wCond : Ex := .and (.cmp .eq (.idx (.var 0) (.int (1))) (.int (0))) (.cmp .ne (.idx (.var 0) (.int (0))) (.lst []))
abbrev wBody : List Stm := [.asg (.name 3) (.mut .popAt (.idx (.var 0) (.int (0))) [.int (0)]),
    .put (.var 0) (.int (3)) (.bin .mod (.bf .int [.bin .add (.bin .add (.bin .mul (.idx (.var 0) (.int (3))) (.int (69031))) (.var 3)) (.int (13))]) (.int (2147483647))),
    .put (.var 0) (.int (1)) (.ite (.cmp .ge (.var 3) (.bin .pow (.int (10)) (.int (18)))) (.var 3) (.int (0)))]
section
variable {C : Calls} {cs : List Int} {a c m many x : Int} {e2 e3 : Sl}
theorem eqI {i j : Int} : eqD (.int i) (.int j) = some (i == j) := rfl
theorem cond_run : (evO C glos wCond (bEnv many e2 e3) (St cs a c m)).bl = .ok (a == 0 && !cs.isEmpty) (bEnv many e2 e3) (St cs a c m) := by
  have h := ne_nil (pls_int cs)
  by_cases ha : a = 0
  · subst ha
    simp only [cmpF] at h
    simp [wCond, bEnv, St, rd, idxF, at0, at1, cmpF, eqI, -List.map_eq_nil_iff]
    rw [show eqD (D.lst (List.map D.int cs)) (D.lst []) = _ from eqD_nil (pls_int cs)]
    simp
  · have : (a == 0) = false := beq_false_of_ne ha
    simp [wCond, bEnv, St, rd, idxF, at1, cmpF, eqI, this]
theorem body_run : exSs C glos turnsW pg.sub wBody (bEnv many e2 e3) (St (x :: cs) a c m) = .ok .nxt (bEnv many e2 (.dat (.int x))) (St cs (if 10 ^ 18 ≤ x then x else 0) c ((m * 69031 + x + 13) % 2147483647)) := by
  by_cases hx : (1000000000000000000 : Int) ≤ x
  · simp [wBody, bEnv, St, rd, idxF, at0, at1, at3, isLst, muF, mu1, seq0, binF, bfF, bf1, putF, ix1, ix3, cmpF, hx]
  · simp [wBody, bEnv, St, rd, idxF, at0, at1, at3, isLst, muF, mu1, seq0, binF, bfF, bf1, putF, ix1, ix3, cmpF, hx]
theorem loop_run {e2 : Sl} : ∀ (fuel : Nat) (cs : List Int) {a m : Int} {e3 : Sl}, cs.length < fuel → 0 ≤ a → 0 ≤ m → m < 2147483647 →
    ∃ cs' a' m' e3', loopW (fun env S => (evO C glos wCond env S).bl) (fun env S => exSs C glos turnsW pg.sub wBody env S) fuel (bEnv many e2 e3) (St cs a c m) = .ok .nxt (bEnv many e2 e3') (St cs' a' c m') ∧ cs'.length ≤ cs.length ∧ 0 ≤ a' ∧ 0 ≤ m' ∧ m' < 2147483647
  | 0, cs, _, _, _, h, _, _, _ => absurd h (Nat.not_lt_zero _)
  | n + 1, cs, a, m, e3, h, ha, hm, hm2 => by
    show ∃ cs' a' m' e3', ((evO C glos wCond (bEnv many e2 e3) (St cs a c m)).bl.bind fun b env S => if b then (exSs C glos turnsW pg.sub wBody env S).bind fun fl env S => match fl with
      | .nxt | .cnt => loopW (fun env S => (evO C glos wCond env S).bl) (fun env S => exSs C glos turnsW pg.sub wBody env S) n env S
      | .brk => .ok .nxt env S
      | .ret d => .ok (.ret d) env S else .ok .nxt env S) = _ ∧ _
    rw [cond_run, R.bind_ok]
    by_cases hb : (a == 0 && !cs.isEmpty) = true
    · cases cs with
      | nil => simp at hb
      | cons x cs =>
        rw [if_pos hb, body_run, R.bind_ok]
        have h1 : cs.length < n := by simpa using h
        obtain ⟨cs', a', m', e3', q1, q2, q3, q4, q5⟩ := loop_run n cs (a := if 10 ^ 18 ≤ x then x else 0) (m := (m * 69031 + x + 13) % 2147483647) (e3 := .dat (.int x)) h1 (by split <;> omega) (by omega) (by omega)
        exact ⟨cs', a', m', e3', q1, by simp; omega, q3, q4, q5⟩
    · rw [if_neg hb]
      exact ⟨cs, a, m, e3, rfl, Nat.le_refl _, ha, hm, hm2⟩
end
theorem below_ok {n k : Nat} {S : Store} {many : Int} (h : Inv k S) (hk : k ≤ 1000000) (h0 : 0 < many) (h1 : many < 1073741824) : ∃ r S', Cn (n + 1) "_law_below" [.loc 1, .int many] S = .ok (.int r) S' ∧ 0 ≤ r ∧ r < many ∧ Inv (k + 1) S' := by
  obtain ⟨cs, a, c, m, rfl, hl, ha, hc, hc2, hm, hm2⟩ := h
  rw [call_of g_below rfl]
  obtain ⟨cs', a', m', e3', q1, q2, q3, q4, q5⟩ := loop_run (C := CC n) (many := many) (c := c + 1) (e2 := .no) 70 cs (a := a) (m := m) (e3 := .no) (by omega) ha hm hm2
  have w0 : exS (CC n) glos turnsW pg.sub (.whl wCond wBody) (bEnv many .no .no) (St cs a (c + 1) m) = .ok .nxt (bEnv many .no e3') (St cs' a' (c + 1) m') := q1
  have s0 : exS (CC n) glos turnsW pg.sub (.put (.var 0) (.int (2)) (.bin .add (.idx (.var 0) (.int (2))) (.int (1)))) (bEnv many .no .no) (St cs a c m) = .ok .nxt (bEnv many .no .no) (St cs a (c + 1) m) := by
    simp [bEnv, St, rd, idxF, at2, binF, putF, ix2]
  show ∃ r S', endR (exSs (CC n) glos turnsW pg.sub fd_law_below.body (bEnv many .no .no) (St cs a c m)) = _ ∧ _
  simp only [fd_law_below, xss_cons, s0, R.bind_ok, after_nxt]
  rw [show exS (CC n) glos turnsW pg.sub (.whl _ _) (bEnv many .no .no) (St cs a (c + 1) m) = _ from w0]
  simp only [R.bind_ok, after_nxt, xss_cons]
  by_cases hp : 0 < a'
  · refine ⟨a' % many, St cs' (a' / many) (c + 1) m', ?_, Int.emod_nonneg _ (by omega), Int.emod_lt_of_pos _ h0, cs', a' / many, c + 1, m', rfl, by omega, Int.ediv_nonneg q3 (by omega), by omega, by omega, q4, q5⟩
    simp [bEnv, St, rd, idxF, at1, cmpF, hp, bfF, bf1, binF, h0, h1, putF, ix1]
  · have p5 : (m' + 9049 * (c + 1) + 130073).natAbs < 18446744073709551616 := by omega
    have hmx : 0 ≤ (m' + 9049 * (c + 1) + 130073) ^ 5 % 2147483629 ∧ (m' + 9049 * (c + 1) + 130073) ^ 5 % 2147483629 < 2147483629 := ⟨Int.emod_nonneg _ (by decide), Int.emod_lt_of_pos _ (by decide)⟩
    have p3 : ((m' + 9049 * (c + 1) + 130073) ^ 5 % 2147483629 * 44089 + 60077 * (c + 1) + 47).natAbs < 18446744073709551616 := by
      generalize (m' + 9049 * (c + 1) + 130073) ^ 5 % 2147483629 = z at hmx ⊢
      omega
    refine ⟨((m' + 9049 * (c + 1) + 130073) ^ 5 % 2147483629 * 44089 + 60077 * (c + 1) + 47) ^ 3 % 1000000007 % many, St cs' a' (c + 1) m', ?_, Int.emod_nonneg _ (by omega), Int.emod_lt_of_pos _ h0, cs', a', c + 1, m', rfl, by omega, q3, by omega, by omega, q4, q5⟩
    simp [bEnv, St, rd, idxF, at1, at2, at3, cmpF, hp, bfF, bf1, binF, h0, h1, p5, p3]
/-- .. as a Nat -/
theorem below_nat {n k : Nat} {S : Store} {many : Nat} (h : Inv k S) (hk : k ≤ 1000000) (h0 : 0 < many) (h1 : many < 1073741824) : ∃ (r : Nat) (S' : Store), Cn (n + 1) "_law_below" [.loc 1, .int (many : Int)] S = .ok (.int (r : Int)) S' ∧ r < many ∧ Inv (k + 1) S' := by
  obtain ⟨r, S', q1, q2, q3, q4⟩ := below_ok (n := n) (many := (many : Int)) h hk (by omega) (by omega)
  obtain ⟨i, rfl⟩ := Int.eq_ofNat_of_zero_le q2
  exact ⟨i, S', q1, by omega, q4⟩
theorem pick_ok {n k : Nat} {S : Store} {xs : List D} (h : Inv k S) (hk : k ≤ 1000000) (h0 : xs ≠ []) (h1 : xs.length < 1000000) : ∃ x S', Cn (n + 2) "_law_pick" [.loc 1, .lst xs] S = .ok x S' ∧ x ∈ xs ∧ Inv (k + 1) S' := by
  have hl : 0 < xs.length := List.length_pos_iff.mpr h0
  obtain ⟨i, S', q1, hi, q4⟩ := below_nat (n := n) (many := xs.length) h hk (by omega) (by omega)
  refine ⟨xs[i], S', ?_, List.getElem_mem hi, q4⟩
  rw [call_of g_pick rfl]
  have e : L2.atI xs (i : Int) = some xs[i] := L2.atI_nat (List.getElem?_eq_getElem hi)
  simp [fd_law_pick, startE, rd, bfF, bf1, q1, idxF, e]
theorem start_run {n : Nat} {ns : List Int} : Cn (n + 1) "_law_start" [.scr ns] [] = .ok (.loc 1) (St ns 0 0 43) := by
  rw [call_of g_start rfl]
  simp [fd_law_start, startE, rd, bfF, bf1, St]
end Pf.K
namespace Pf.K
/-! ### _law_same of a thing with itself -/
theorem pls_mem : ∀ {xs : List D}, D.pls xs = true → ∀ x ∈ xs, x.pl = true
  | y :: ys, h, x, hx => by
    have h : (y.pl && D.pls ys) = true := h
    rw [Bool.and_eq_true] at h
    rcases List.mem_cons.mp hx with rfl | hx
    · exact h.1
    · exact pls_mem h.2 x hx
theorem depths_mem : ∀ {xs : List D}, ∀ x ∈ xs, x.depth ≤ D.depths xs
  | y :: ys, x, hx => by
    show x.depth ≤ max y.depth (D.depths ys)
    rcases List.mem_cons.mp hx with rfl | hx
    · omega
    · have := depths_mem (xs := ys) x hx; omega
theorem zip_self : ∀ {xs : List D}, ∀ p ∈ xs.zip xs, p.1 = p.2 ∧ p.1 ∈ xs
  | y :: ys, p, hp => by
    rw [List.zip_cons_cons] at hp
    rcases List.mem_cons.mp hp with rfl | hp
    · exact ⟨rfl, List.mem_cons_self⟩
    · exact ⟨(zip_self p hp).1, List.mem_cons_of_mem _ (zip_self p hp).2⟩
theorem zip_len : ∀ xs : List D, (xs.zip xs).length = xs.length := fun xs => by simp
abbrev sameE : Ex := .call "_law_same" [.var 2, .var 3] []
theorem same_turns {C : Calls} {d0 d1 : D} {S : Store} : ∀ (ps : List (D × D)) (a b : Sl), (∀ p ∈ ps, C.fn "_law_same" [p.1, p.2] S = .ok (.bl true) S) →
    ∃ a' b', turns (compF C glos sameE (.tup [2, 3]) none [2, 3]) (ps.map fun p => .tup [p.1, p.2]) [.dat d0, .dat d1, a, b] S = .ok (ps.map fun _ => .bl true) [.dat d0, .dat d1, a', b'] S
  | [], a, b, _ => ⟨a, b, rfl⟩
  | p :: ps, a, b, h => by
    obtain ⟨a', b', q⟩ := same_turns (C := C) (d0 := d0) (d1 := d1) (S := S) ps (.dat p.1) (.dat p.2) fun r hr => h r (List.mem_cons_of_mem _ hr)
    refine ⟨a', b', ?_⟩
    have h1 := h p List.mem_cons_self
    have e : compF C glos sameE (.tup [2, 3]) none [2, 3] (.tup [p.1, p.2]) [.dat d0, .dat d1, a, b] S = .ok (some (.bl true)) [.dat d0, .dat d1, .dat p.1, .dat p.2] S := by
      simp [compF, bindTg, setNames, wipeE, rd, h1]
    rw [List.map_cons, List.map_cons]
    show (compF C glos sameE (.tup [2, 3]) none [2, 3] (.tup [p.1, p.2]) [.dat d0, .dat d1, a, b] S).bind _ = _
    rw [e, R.bind_ok, q]; rfl
theorem same_comp {C : Calls} {d0 d1 : D} {ps : List (D × D)} {S : Store} (hi : itF .zip [d0, d1] = some (ps.map fun p => .tup [p.1, p.2])) (h : ∀ p ∈ ps, C.fn "_law_same" [p.1, p.2] S = .ok (.bl true) S) :
    evO C glos (.comp sameE (.tup [2, 3]) .zip [.var 0, .var 1] none [2, 3]) [.dat d0, .dat d1, .no, .no] S = .ok (.new (.lst (ps.map fun _ => .bl true))) [.dat d0, .dat d1, .no, .no] S := by
  have h0 : evO C glos (.comp sameE (.tup [2, 3]) .zip [.var 0, .var 1] none [2, 3]) [.dat d0, .dat d1, .no, .no] S = ((evDs C glos [.var 0, .var 1] [.dat d0, .dat d1, .no, .no] S).bind fun xs env S => match itF .zip xs with
    | none => .bad
    | some ds => if [2, 3].all (plainSl env) then (turns (compF C glos sameE (.tup [2, 3]) none [2, 3]) ds env S).nox.bind fun ys env' S => .ok (.new (.lst ys)) (backE env env' [2, 3]) S else .bad) := rfl
  obtain ⟨a', b', q⟩ := same_turns (C := C) (d0 := d0) (d1 := d1) (S := S) ps .no .no h
  have h1 : evDs C glos [.var 0, .var 1] [.dat d0, .dat d1, .no, .no] S = .ok [d0, d1] [.dat d0, .dat d1, .no, .no] S := by simp [rd]
  rw [h0, h1, R.bind_ok, hi]
  show (if true then _ else _) = _
  rw [if_pos rfl, q]
  rfl
theorem all_true : ∀ ps : List (D × D), bf1 .all (.lst (ps.map fun _ => .bl true)) = some (.val (.bl true)) := fun ps => by
  have e : listOf? blOf (ps.map fun _ => D.bl true) = some (ps.map fun _ => true) := by
    induction ps with
    | nil => rfl
    | cons p ps ih => simp [listOf?, blOf, ih]
  show (listOf? blOf _).map _ = _
  rw [e]
  simp
theorem eqB {a b : Bool} : eqD (.bl a) (.bl b) = some (a == b) := rfl
theorem eqS {a b : List Nat} : eqD (.str a) (.str b) = some (a == b) := rfl
theorem isLstT {xs : List D} : isAny (.lst xs) [.list, .tuple] = some true := rfl
theorem isTupT {xs : List D} : isAny (.tup xs) [.list, .tuple] = some true := rfl
theorem same_seq {n : Nat} {d : D} {ps : List (D × D)} {S : Store} {l : Nat} (ht : isAny d [.list, .tuple] = some true) (hl : ∃ b, isAny d [.list] = some b) (hu : ∃ b, isAny d [.tuple] = some b) (hv : vw [.dat d, .dat d, .no, .no] S (.d d) = some d) (hn : bf1 .len d = some (.val (.int l)))
    (hi : itF .zip [d, d] = some (ps.map fun p => .tup [p.1, p.2])) (h : ∀ p ∈ ps, Cn n "_law_same" [p.1, p.2] S = .ok (.bl true) S) : Cn (n + 1) "_law_same" [d, d] S = .ok (.bl true) S := by
  rw [call_of g_same rfl]
  obtain ⟨b1, hl⟩ := hl
  obtain ⟨b2, hu⟩ := hu
  have hc := same_comp (C := CC n) (d0 := d) (d1 := d) (ps := ps) (S := S) hi h
  have e : startE fd_law_same.ns [d, d] = [.dat d, .dat d, .no, .no] := rfl
  rw [e]
  simp only [fd_law_same]
  simp [rd, ht, hl, hu, hv, cmpF, eqB, eqI, bfF, hn]
  rw [hc]
  simp [bfF, all_true]
theorem same_refl : ∀ (n : Nat) (d : D) (S : Store), d.pl = true → d.depth < n → Cn n "_law_same" [d, d] S = .ok (.bl true) S
  | 0, _, _, _, h => absurd h (Nat.not_lt_zero _)
  | n + 1, d, S, hp, hd => by
    cases d with
    | non => rfl
    | bl b =>
      rw [call_of g_same rfl]
      simp [fd_law_same, startE, rd, isAny, isTy, cmpF, isF, eqB]
    | int i =>
      rw [call_of g_same rfl]
      simp [fd_law_same, startE, rd, isAny, isTy, cmpF, isF, eqB, eqI]
    | str s =>
      rw [call_of g_same rfl]
      simp [fd_law_same, startE, rd, isAny, isTy, cmpF, isF, eqB, eqS]
    | lst xs =>
      refine same_seq (l := xs.length) (ps := xs.zip xs) rfl ⟨_, rfl⟩ ⟨_, rfl⟩ rfl rfl rfl fun p hp2 => ?_
      obtain ⟨e1, e2⟩ := zip_self p hp2
      rw [← e1]
      have hdp : D.depths xs + 1 < n + 1 := hd
      have := depths_mem (xs := xs) p.1 e2
      exact same_refl n p.1 S (pls_mem hp _ e2) (by omega)
    | tup xs =>
      refine same_seq (l := xs.length) (ps := xs.zip xs) rfl ⟨_, rfl⟩ ⟨_, rfl⟩ rfl rfl rfl fun p hp2 => ?_
      obtain ⟨e1, e2⟩ := zip_self p hp2
      rw [← e1]
      have hdp : D.depths xs + 1 < n + 1 := hd
      have := depths_mem (xs := xs) p.1 e2
      exact same_refl n p.1 S (pls_mem hp _ e2) (by omega)
    | dic _ => exact absurd hp (fun h => by cases h)
    | scr _ => exact absurd hp (fun h => by cases h)
    | loc _ => exact absurd hp (fun h => by cases h)
    | fn _ => exact absurd hp (fun h => by cases h)
    | exo _ _ => exact absurd hp (fun h => by cases h)
/-! ### what is refused -/
/-- what _law_bnamed tells of an exception -/
theorem named_number {v : D} {S : Store} (hv : v.noX = true) (hS : S.all Cell.noX = true) : callX (gOf pg.L) glos turnsW pg.sub "_law_bnamed" [.exo "BadNumber" [("thing", v)]] S = .ok (.tup [.str [110, 117, 109, 98, 101, 114], v]) S := by
  have e : endR (exSs badC glos turnsW pg.sub fd_law_bnamed.body (startE fd_law_bnamed.ns [.exo "BadNumber" [("thing", v)]]) S) = .ok (.tup [.str [110, 117, 109, 98, 101, 114], v]) S := by kernel_rfl
  show lowR (endR (exSs badC glos turnsW pg.sub fd_law_bnamed.body (startE fd_law_bnamed.ns [.exo "BadNumber" [("thing", v)]]) S)) = _
  rw [e]
  show (if (true && (v.noX && true)) && S.all Cell.noX then _ else _) = _
  rw [hv, hS]; rfl
theorem named_name {v : D} {S : Store} (hv : v.noX = true) (hS : S.all Cell.noX = true) : callX (gOf pg.L) glos turnsW pg.sub "_law_bnamed" [.exo "BadName" [("thing", v)]] S = .ok (.tup [.str [110, 97, 109, 101], v]) S := by
  have e : endR (exSs badC glos turnsW pg.sub fd_law_bnamed.body (startE fd_law_bnamed.ns [.exo "BadName" [("thing", v)]]) S) = .ok (.tup [.str [110, 97, 109, 101], v]) S := by kernel_rfl
  show lowR (endR (exSs badC glos turnsW pg.sub fd_law_bnamed.body (startE fd_law_bnamed.ns [.exo "BadName" [("thing", v)]]) S)) = _
  rw [e]
  show (if (true && (v.noX && true)) && S.all Cell.noX then _ else _) = _
  rw [hv, hS]; rfl
end Pf.K
namespace Pf.K
def CT (n : Nat) (j : Nat) (T : Store → RC) : Calls := lvlT (gOf pg.L) glos turnsW pg.sub (Cn n) j T
@[simp] theorem CT_fn {n j : Nat} {T : Store → RC} : (CT n j T).fn = Cn n := rfl
@[simp] theorem CT_th {n j : Nat} {T : Store → RC} : (CT n j T).th = T := rfl
theorem CT_hot {n j : Nat} {T : Store → RC} : (CT n j T).hot = callX (gOf pg.L) glos turnsW pg.sub := rfl
theorem callT_of {f : String} {fd : FDef} {ds : List D} {S : Store} {n j : Nat} {T : Store → RC} (h : gOf pg.L f = some fd) (hl : ds.length + 1 = fd.np) : callT (gOf pg.L) glos turnsW pg.sub (Cn n) (j + 1) f ds T S = endR (exSs (CT n j T) glos turnsW pg.sub fd.body (startT fd.ns ds) S) := by
  rw [callT_succ, h]; exact if_pos hl
section
variable {n : Nat} {cls : String} {w : List Nat} {v : D} {S : Store} {T : Store → RC}
theorem raised_ok (hT : T S = .exc ⟨cls, [("thing", v)]⟩ S) (hs : pg.sub cls "HeldError" = true) (hv : v.noX = true) (hS : S.all Cell.noX = true)
    (hn : callX (gOf pg.L) glos turnsW pg.sub "_law_bnamed" [.exo cls [("thing", v)]] S = .ok (.tup [.str w, v]) S) :
    callT (gOf pg.L) glos turnsW pg.sub (Cn n) 1 "_law_braised" [] T S = .ok (.tup [.str w, v]) S := by
  rw [callT_of g_raised rfl]
  have e0 : startT fd_law_braised.ns [] = [.thk, .no, .no] := rfl
  have ht : exSs (CT n 0 T) glos turnsW pg.sub [.ex (.thk 0)] [.thk, .dat .non, .no] S = .exc ⟨cls, [("thing", v)]⟩ [.thk, .dat .non, .no] S := by
    simp [isThk, hT]
  have hh : (CT n 0 T).hot "_law_bnamed" [.exo cls [("thing", v)]] S = .ok (.tup [.str w, v]) S := by rw [CT_hot]; exact hn
  have hb : exSs (CT n 0 T) glos turnsW pg.sub [.asg (.name 1) (.callH "_law_bnamed" [.var 2])] (asEnv (some 2) ⟨cls, [("thing", v)]⟩ [.thk, .dat .non, .no]) S = .ok .nxt [.thk, .dat (.tup [.str w, v]), .dat (.exo cls [("thing", v)])] S := by
    simp only [asEnv, List.set_cons_succ, List.set_cons_zero, xss_cons, xss_nil, xs_asg, ev_callH, eds_cons, eds_nil, ev_var]
    simp [rd, exoArg, hS, hh]
  have hl : lowF (some 2) (.ok .nxt [.thk, .dat (.tup [.str w, v]), .dat (.exo cls [("thing", v)])] S) = .ok .nxt [.thk, .dat (.tup [.str w, v]), .no] S := by
    show (if true && (true && ((true && (v.noX && true)) && (true && true))) && S.all Cell.noX then _ else _) = _
    rw [hv, hS]; rfl
  rw [e0]
  simp only [fd_law_braised, xss_cons, xss_nil, xs_tri]
  rw [show (exS (CT n 0 T) glos turnsW pg.sub (.asg (.name 1) .non) [.thk, .no, .no] S) = .ok .nxt [.thk, .dat .non, .no] S from rfl, R.bind_ok, after_nxt, xss_cons, xs_tri, ht, met_exc, exHs_cons, exH_mk, hs, if_pos rfl, hb, hl]
  simp [rd]
theorem refuses_ok (hT : T S = .exc ⟨cls, [("thing", v)]⟩ S) (hs : pg.sub cls "HeldError" = true) (hv : v.noX = true) (hS : S.all Cell.noX = true)
    (hn : callX (gOf pg.L) glos turnsW pg.sub "_law_bnamed" [.exo cls [("thing", v)]] S = .ok (.tup [.str w, v]) S) (hp : v.pl = true) (hd : v.depth < n) :
    (CC n).lam "_law_brefuses" [.str w, v] T S = .ok (.bl true) S := by
  show callT (gOf pg.L) glos turnsW pg.sub (Cn n) 2 "_law_brefuses" [.str w, v] T S = _
  rw [callT_of g_refuses rfl]
  have e0 : startT fd_law_brefuses.ns [.str w, v] = [.dat (.str w), .dat v, .thk, .no] := rfl
  have hr : (CT n 1 T).ps "_law_braised" [] S = .ok (.tup [.str w, v]) S := raised_ok hT hs hv hS hn
  have hq := same_refl n v S hp hd
  rw [e0]
  simp [fd_law_brefuses, rd, isThk, hr, cmpF, isF, idxF, at0, at1, eqS, hq]
end
end Pf.K
namespace Pf.K
/-! ### names and numbers -/
def letters : List Nat := [97, 98, 99, 100, 101, 102, 103, 104, 105, 106, 107, 108, 109, 110, 111, 112, 113, 114, 115, 116, 117, 118, 119, 120, 121, 122]
def figures : List Nat := [48, 49, 50, 51, 52, 53, 54, 55, 56, 57]
def signs : List Nat := letters ++ figures
theorem lit_l : ([97, 98, 99, 100, 101, 102, 103, 104, 105, 106, 107, 108, 109, 110, 111, 112, 113, 114, 115, 116, 117, 118, 119, 120, 121, 122] : List Nat) = letters := rfl
theorem lit_f : ([48, 49, 50, 51, 52, 53, 54, 55, 56, 57] : List Nat) = figures := rfl
theorem glo_l : glos "LETTERS" = some (.str letters) := rfl
theorem glo_f : glos "FIGURES" = some (.str figures) := rfl
theorem glo_m : glos "MOST_NUMBER" = some (.int 999999) := rfl
theorem g_is_name : gOf pg.L "is_name" = some fd_is_name := rfl
theorem g_bis_name : gOf pg.L "_law_bis_name" = some fd_law_bis_name := rfl
theorem g_plain_of : gOf pg.L "plain_of" = some fd_plain_of := rfl
theorem g_plain_name : gOf pg.L "plain_name" = some fd_plain_name := rfl
theorem g_bplain : gOf pg.L "_law_bplain_name" = some fd_law_bplain_name := rfl
theorem g_number_of : gOf pg.L "number_of" = some fd_number_of := rfl
theorem g_name_number : gOf pg.L "name_number" = some fd_name_number := rfl
def nameOk (s : List Nat) : Bool := match s with
  | [] => false
  | c :: t => decide ((t.length : Int) + 1 ≤ 12) && decide (c ∈ letters) && (c :: t).all fun z => decide (z ∈ signs)
theorem mem_signs {z : Nat} : decide (z ∈ signs) = (decide (z ∈ letters) || decide (z ∈ figures)) := by
  unfold signs
  rw [Bool.eq_iff_iff]; simp
theorem map_str (s : List Nat) (f : Nat → D) (p : D → Option D) (h : ∀ z, p (.str [z]) = some (f z)) : (s.map fun c => D.str [c]).filterMap p = s.map f := by
  induction s with
  | nil => rfl
  | cons z s ih => rw [List.map_cons, List.filterMap_cons, h, List.map_cons, ih]
theorem all_bl (s : List Nat) (f : Nat → Bool) : bf1 .all (.lst (s.map fun z => .bl (f z))) = some (.val (.bl (s.all f))) := by
  have e : listOf? blOf (s.map fun z => D.bl (f z)) = some (s.map f) := by
    induction s with
    | nil => rfl
    | cons p ps ih => simp [listOf?, blOf, ih]
  show (listOf? blOf _).map _ = _
  rw [e, Option.map_some, List.all_map]; rfl
theorem rd_set {env : Env} {j : Nat} {d : D} (hj : j < env.length) : rd (env.set j (.dat d)) j = some (d, env.set j (.dat d)) := by unfold rd; rw [List.getElem?_set_self hj]
/-- a list of answers over a text's signs -/
theorem bl_comp {C : Calls} {env : Env} {S : Store} {i j : Nat} {s : List Nat} {e : Ex} {f : Nat → Bool} (hs : env[i]? = some (.dat (.str s))) (hj : j < env.length) (hp : plainSl env j = true)
    (he : ∀ z, (evO C glos e (env.set j (.dat (.str [z]))) S).fz = .ok (.bl (f z)) (env.set j (.dat (.str [z]))) S) :
    evO C glos (.comp e (.name j) .val [.var i] none [j]) env S = .ok (.new (.lst (s.map fun z => .bl (f z)))) env S := by
  have hr : rd env i = some (.str s, env) := by unfold rd; rw [hs]
  rw [comp_pure (ds := s.map fun c => .str [c]) (d := .str s) (p := fun d => match d with | .str [z] => some (.bl (f z)) | _ => none) ?_ ?_ hj hp ?_]
  · rw [map_str s (fun z => .bl (f z)) _ fun z => rfl]
  · simp [hr]
  · rfl
  · intro x hx
    obtain ⟨z, _, rfl⟩ := List.mem_map.mp hx
    simp [he]
theorem in_sign (c : Nat) (z : List Nat) : isInF (.str [c]) (.str z) = some (decide (c ∈ z)) := rfl
theorem is_name_str {n S s} : Cn (n + 1) "is_name" [.str s] S = .ok (.bl (nameOk s)) S := by
  rw [call_of g_is_name rfl]
  cases s with
  | nil => rfl
  | cons c t =>
    have hc := bl_comp (C := CC n) (env := [.dat (.str (c :: t)), .no]) (S := S) (i := 0) (j := 1) (s := c :: t) (f := fun z => decide (z ∈ signs)) (e := .or (.cmp .isin (.var 1) (.glo "LETTERS")) (.cmp .isin (.var 1) (.glo "FIGURES"))) rfl (by simp) rfl (fun z => by
      rw [mem_signs]
      by_cases h1 : z ∈ letters <;> simp [rd, glo_l, glo_f, cmpF, in_sign, h1])
    have h0 : (1 : Int) ≤ (t.length : Int) + 1 := by omega
    have e0 : startE fd_is_name.ns [.str (c :: t)] = [.dat (.str (c :: t)), .no] := rfl
    rw [e0]
    by_cases h1 : (t.length : Int) + 1 ≤ 12
    · by_cases h2 : c ∈ letters
      · simp only [fd_is_name]
        simp [rd, isAny, isTy, bfF, bf1, cmpF, nameOk, h0, h1, h2, glo_l, in_sign, idxF, at0]
        rw [hc]
        have := all_bl (c :: t) (fun z => decide (z ∈ signs))
        simp only [bf1] at this
        simp only [ar_lst, R.bind_ok, kAs_eq, eas_nil, kAs2_eq, kBf_eq, vws_cons, vw_lst, vws_nil, Option.bind_some, Option.map_some, bfF, bf1, this, ofO_some, fz_val, sRet_eq]
        simp [h2]
      · simp [fd_is_name, rd, isAny, isTy, bfF, bf1, cmpF, nameOk, h0, h1, h2, glo_l, in_sign, idxF, at0]
    · simp [fd_is_name, rd, isAny, isTy, bfF, bf1, cmpF, nameOk, h0, h1]
/-- the filter over a text's signs -/
theorem sign_comp {C : Calls} {env : Env} {S : Store} {i j : Nat} {s : List Nat} {e1 : Ex} (hs : env[i]? = some (.dat (.str s))) (hj : j < env.length) (hp : plainSl env j = true)
    (h1 : ∀ d, evO C glos e1 (env.set j d) S = .ok (.val (.str signs)) (env.set j d) S) :
    evO C glos (.comp (.var j) (.name j) .val [.var i] (some (.cmp .notin (.var j) e1)) [j]) env S = .ok (.new (.lst ((s.filter fun z => !decide (z ∈ signs)).map fun z => .str [z]))) env S := by
  have hr : rd env i = some (.str s, env) := by unfold rd; rw [hs]
  rw [comp_pure (ds := s.map fun c => .str [c]) (d := .str s) (p := fun d => match d with | .str [z] => if z ∈ signs then none else some (.str [z]) | _ => none) ?_ ?_ hj hp ?_]
  · congr 3
    clear hs hr
    induction s with
    | nil => rfl
    | cons z s ih =>
      by_cases hz : z ∈ signs
      · simp [hz, ih]
      · simp [hz, ih]
  · simp [hr]
  · rfl
  · intro x hx
    obtain ⟨z, _, rfl⟩ := List.mem_map.mp hx
    have hr2 := rd_set (d := .str [z]) hj
    by_cases hz : z ∈ signs
    · simp [hr2, h1, cmpF, isInF, hz]
    · simp [hr2, h1, cmpF, isInF, hz]
theorem none_bad (s : List Nat) : ((s.filter fun z => !decide (z ∈ signs)).map fun z => D.str [z]).isEmpty = s.all (fun z => decide (z ∈ signs)) := by
  rw [List.isEmpty_map]
  induction s with
  | nil => rfl
  | cons z s ih =>
    by_cases hz : z ∈ signs
    · simp [hz, ih]
    · simp [hz]
theorem bin_signs : binF .add (.str letters) (.str figures) = some (.val (.str signs)) := rfl
theorem bis_name_str {n S s} : Cn (n + 1) "_law_bis_name" [.str s] S = .ok (.bl (nameOk s)) S := by
  rw [call_of g_bis_name rfl]
  cases s with
  | nil => rfl
  | cons c t =>
    have hc := sign_comp (C := CC n) (env := [.dat (.str (c :: t)), .dat (.str letters), .dat (.str figures), .no]) (S := S) (i := 0) (j := 3) (s := c :: t) (e1 := .bin .add (.var 1) (.var 2)) rfl (by simp) rfl (fun d => by simp [rd, bin_signs])
    have h0 : (1 : Int) ≤ (t.length : Int) + 1 := by omega
    have e0 : startE fd_law_bis_name.ns [.str (c :: t)] = [.dat (.str (c :: t)), .no, .no, .no] := rfl
    rw [e0]
    by_cases h1 : (t.length : Int) + 1 ≤ 12
    · by_cases h2 : c ∈ letters
      · simp only [fd_law_bis_name, lit_l, lit_f]
        simp [rd, bindTg, setNames, bfF, bf1, cmpF, nameOk, h0, h1, h2, in_sign, idxF, at0, -ev_bin]
        rw [hc]
        have := eqD_nil (pls_str ((c :: t).filter fun z => !decide (z ∈ signs)))
        rw [none_bad] at this
        simp only [ar_lst, R.bind_ok, ev_lst, kCmp_eq, eds_nil, kLst_eq, kCmp2_eq, vw_lst, Option.bind_some, cmpF, this, Option.map_some, ofO_some, fz_val, sRet_eq]
        simp [h2]
      · simp [fd_law_bis_name, lit_l, lit_f, rd, bindTg, setNames, bfF, bf1, cmpF, nameOk, h0, h1, h2, in_sign, idxF, at0]
    · simp [fd_law_bis_name, lit_l, lit_f, rd, bindTg, setNames, bfF, bf1, cmpF, nameOk, h0, h1]
/-! the plain name of a number -/
def tailS (q : Nat) : List Nat := if 0 < q / 26 then TL.numL (q / 26) else []
def headS (q : Nat) : Nat := letters.getD (q % 26) 0
def plainS (q : Nat) : List Nat := headS q :: tailS q
theorem big_pow : (2 : Int) ^ 63 ≤ 2 ^ 1000 := by
  have h : ((2 ^ 63 : Nat) : Int) ≤ ((2 ^ 1000 : Nat) : Int) := Int.ofNat_le.mpr (Nat.pow_le_pow_right (by decide) (by decide))
  rwa [Int.natCast_pow, Int.natCast_pow] at h
theorem str_num {m : Nat} (h : m < 2 ^ 63) : bf1 .str (.int (m : Int)) = some (.val (.str (TL.numL m))) := by
  have h2 : (m : Int) < 2 ^ 1000 := Int.lt_of_lt_of_le (b := 2 ^ 63) (by omega) big_pow
  have h1 : (0 : Int) ≤ (m : Int) := by omega
  simp only [bf1, h1, h2, and_self, if_true, Int.toNat_natCast]
theorem at_head (q : Nat) : L2.atI letters ((q % 26 : Nat) : Int) = some (headS q) := by
  have h : q % 26 < letters.length := Nat.mod_lt q (by decide)
  rw [L2.atI_nat (List.getElem?_eq_getElem h)]
  unfold headS
  rw [List.getD_eq_getElem?_getD, List.getElem?_eq_getElem h]; rfl
theorem numL_len19 {m : Nat} (h : m < 2 ^ 63) : (TL.numL m).length ≤ 19 := TL.numL_len (by decide) (Nat.lt_of_lt_of_le h (by decide))
theorem bin_ss {a b : List Nat} (h : a.length + b.length ≤ 16777216) : binF .add (.str a) (.str b) = some (.val (.str (a ++ b))) := if_pos h
theorem bplain_ok {n S} {q : Nat} (h : q < 2 ^ 63) : Cn (n + 1) "_law_bplain_name" [.int (q : Int)] S = .ok (.str (plainS q)) S := by
  rw [call_of g_bplain rfl]
  have e0 : startE fd_law_bplain_name.ns [.int (q : Int)] = [.dat (.int (q : Int))] := rfl
  have e1 : (q : Int) / 26 = ((q / 26 : Nat) : Int) := by omega
  have e2 : (q : Int) % 26 = ((q % 26 : Nat) : Int) := by omega
  have hl := numL_len19 (m := q / 26) (by omega)
  have hs := str_num (m := q / 26) (by omega)
  have hm : binF .mod (.int (q : Int)) (.int 26) = some (.val (.int ((q % 26 : Nat) : Int))) := by rw [← e2]; simp [binF]
  have hd : binF .fdiv (.int (q : Int)) (.int 26) = some (.val (.int ((q / 26 : Nat) : Int))) := by rw [← e1]; simp [binF]
  have hix : idxF (.str letters) (.int ((q % 26 : Nat) : Int)) = some (.str [headS q]) := by
    show (L2.atI letters _).map _ = _
    rw [at_head]; rfl
  have hbi : bf1 .int (.int (q : Int)) = some (.val (.int (q : Int))) := rfl
  rw [e0]
  by_cases h2 : 25 < q
  · have h3 : (25 : Int) < (q : Int) := by omega
    have hb := bin_ss (a := [headS q]) (b := TL.numL (q / 26)) (by simp; omega)
    have et : plainS q = [headS q] ++ TL.numL (q / 26) := by
      unfold plainS tailS; rw [if_pos (by omega)]; rfl
    rw [et]
    simp only [fd_law_bplain_name, lit_l]
    simp (config := {implicitDefEqProofs := false}) only [xss_cons, xs_ret, ev_bin, ev_idx, ev_str, ar_val, R.bind_ok, kIdx_eq, ev_bf, eas_cons, ev_var, rd, List.getElem?_cons_zero, kAs_eq, eas_nil, kAs2_eq, kBf_eq, vws_cons, vws_nil, vw_int, Option.bind_some, Option.map_some, bfF, hbi, ofO_some, kBin_eq, ev_int, kBin2_eq, hm, kIdx2_eq, vw_str, hix, ev_ite, ev_cmp, kCmp_eq, kCmp2_eq, cmpF, decide_eq_true h3, bl_bl, kIte_eq, if_true, hd, hs, hb, fz_val, sRet_eq, after_ret, endR_ret]
  · have h3 : ¬ (25 : Int) < (q : Int) := by omega
    have hb := bin_ss (a := [headS q]) (b := []) (by simp)
    have et : plainS q = [headS q] ++ [] := by
      unfold plainS tailS; rw [if_neg (by omega)]; rfl
    rw [et]
    simp only [fd_law_bplain_name, lit_l]
    simp (config := {implicitDefEqProofs := false}) only [xss_cons, xs_ret, ev_bin, ev_idx, ev_str, ar_val, R.bind_ok, kIdx_eq, ev_bf, eas_cons, ev_var, rd, List.getElem?_cons_zero, kAs_eq, eas_nil, kAs2_eq, kBf_eq, vws_cons, vws_nil, vw_int, Option.bind_some, Option.map_some, bfF, hbi, ofO_some, kBin_eq, ev_int, kBin2_eq, hm, kIdx2_eq, vw_str, hix, ev_ite, ev_cmp, kCmp_eq, kCmp2_eq, cmpF, decide_eq_false h3, bl_bl, kIte_eq, Bool.false_eq_true, if_false, hb, fz_val, sRet_eq, after_ret, endR_ret]
theorem plain_of_ok {n S} {q : Nat} (h : q < 2 ^ 63) : Cn (n + 1) "plain_of" [.int (q : Int)] S = .ok (.str (plainS q)) S := by
  rw [call_of g_plain_of rfl]
  have e0 : startE fd_plain_of.ns [.int (q : Int)] = [.dat (.int (q : Int)), .no] := rfl
  have e1 : (q : Int) / 26 = ((q / 26 : Nat) : Int) := by omega
  have e2 : (q : Int) % 26 = ((q % 26 : Nat) : Int) := by omega
  have hl := numL_len19 (m := q / 26) (by omega)
  have hs := str_num (m := q / 26) (by omega)
  have hm : binF .mod (.int (q : Int)) (.int 26) = some (.val (.int ((q % 26 : Nat) : Int))) := by rw [← e2]; simp [binF]
  have hd : binF .fdiv (.int (q : Int)) (.int 26) = some (.val (.int ((q / 26 : Nat) : Int))) := by rw [← e1]; simp [binF]
  have hix : idxF (.str letters) (.int ((q % 26 : Nat) : Int)) = some (.str [headS q]) := by
    show (L2.atI letters _).map _ = _
    rw [at_head]; rfl
  rw [e0]
  by_cases h2 : 0 < q / 26
  · have h3 : (0 : Int) < ((q / 26 : Nat) : Int) := by omega
    have hb := bin_ss (a := [headS q]) (b := TL.numL (q / 26)) (by simp; omega)
    have et : plainS q = [headS q] ++ TL.numL (q / 26) := by
      unfold plainS tailS; rw [if_pos h2]; rfl
    rw [et]
    simp only [fd_plain_of]
    simp (config := {implicitDefEqProofs := false}) only [xss_cons, xs_asg, xs_ret, ev_bin, ev_idx, ev_glo, glo_l, ev_str, ar_val, R.bind_ok, kIdx_eq, ev_bf, eas_cons, ev_var, rd, List.getElem?_cons_zero, List.getElem?_cons_succ, kAs_eq, eas_nil, kAs2_eq, kBf_eq, vws_cons, vws_nil, vw_int, Option.bind_some, Option.map_some, bfF, ofO_some, kBin_eq, ev_int, kBin2_eq, hm, kIdx2_eq, vw_str, hix, ev_ite, ev_cmp, kCmp_eq, kCmp2_eq, cmpF, decide_eq_true h3, bl_bl, kIte_eq, if_true, hd, hs, hb, fz_val, sAsg_name, List.set_cons_succ, List.set_cons_zero, after_nxt, sRet_eq, after_ret, endR_ret]
  · have h3 : ¬ (0 : Int) < ((q / 26 : Nat) : Int) := by omega
    have hb := bin_ss (a := [headS q]) (b := []) (by simp)
    have et : plainS q = [headS q] ++ [] := by
      unfold plainS tailS; rw [if_neg h2]; rfl
    rw [et]
    simp only [fd_plain_of]
    simp (config := {implicitDefEqProofs := false}) only [xss_cons, xs_asg, xs_ret, ev_bin, ev_idx, ev_glo, glo_l, ev_str, ar_val, R.bind_ok, kIdx_eq, ev_bf, eas_cons, ev_var, rd, List.getElem?_cons_zero, List.getElem?_cons_succ, kAs_eq, eas_nil, kAs2_eq, kBf_eq, vws_cons, vws_nil, vw_int, Option.bind_some, Option.map_some, bfF, ofO_some, kBin_eq, ev_int, kBin2_eq, hm, kIdx2_eq, vw_str, hix, ev_ite, ev_cmp, kCmp_eq, kCmp2_eq, cmpF, decide_eq_false h3, bl_bl, kIte_eq, Bool.false_eq_true, if_false, hd, hb, fz_val, sAsg_name, List.set_cons_succ, List.set_cons_zero, after_nxt, sRet_eq, after_ret, endR_ret]
theorem is_int_ok {n S} {q : Int} : Cn (n + 1) "is_integer" [.int q] S = .ok (.bl true) S := rfl
theorem plain_name_ok {n S} {q : Nat} (h : q ≤ 999999) : Cn (n + 2) "plain_name" [.int (q : Int)] S = .ok (.str (plainS q)) S := by
  rw [call_of g_plain_name rfl]
  have h1 : (0 : Int) ≤ (q : Int) := by omega
  have h2 : (q : Int) ≤ 999999 := by omega
  simp [fd_plain_name, startE, rd, is_int_ok, cmpF, h1, h2, glo_m, plain_of_ok (show q < 2 ^ 63 by omega)]
end Pf.K
namespace Pf.K
theorem cut_len (xs : List Nat) (lo hi : Option Int) : (cut xs lo hi).length ≤ xs.length := by
  unfold cut
  rw [List.length_take, List.length_drop]; omega
theorem cut1 (c : Nat) (t : List Nat) : cut (c :: t) (some 1) none = t := by
  have e : HT.sIx (c :: t).length 0 (some ((1 : Nat) : Int)) = min 1 (c :: t).length := HT.sIx_nat (c :: t).length 0 1
  have e0 : HT.sIx (c :: t).length (c :: t).length none = (c :: t).length := HT.sIx_none ..
  show ((c :: t).drop (HT.sIx (c :: t).length 0 (some ((1 : Nat) : Int)))).take (HT.sIx (c :: t).length (c :: t).length none - HT.sIx (c :: t).length 0 (some ((1 : Nat) : Int))) = t
  rw [e, e0, show min 1 (c :: t).length = 1 by rw [List.length_cons]; omega, List.length_cons]
  show t.take (t.length + 1 - 1) = t
  exact List.take_of_length_le (by omega)
def figsOk (t : List Nat) : Bool := t.all fun z => decide (z ∈ figures)
theorem mem_fig {z : Nat} : z ∈ figures ↔ 48 ≤ z ∧ z ≤ 57 := by
  simp only [figures, List.mem_cons, List.not_mem_nil, or_false]
  omega
theorem figs_digits {t : List Nat} (h : figsOk t = true) : (48 :: t).all (fun c => decide (48 ≤ c) && decide (c ≤ 57)) = true := by
  unfold figsOk at h
  rw [List.all_eq_true] at h ⊢
  intro x hx
  rcases List.mem_cons.mp hx with rfl | hx
  · rfl
  · have := mem_fig.mp (of_decide_eq_true (h x hx))
    simp [this]
theorem fig_comp {C : Calls} {s t : List Nat} {S : Store} : evO C glos (.comp (.cmp .isin (.var 3) (.glo "FIGURES")) (.name 3) .val [.var 1] none [3]) [.dat (.str s), .dat (.str t), .no, .no] S = .ok (.new (.lst (t.map fun z => .bl (decide (z ∈ figures))))) [.dat (.str s), .dat (.str t), .no, .no] S :=
  bl_comp rfl (by simp) rfl fun z => by simp [rd, glo_f, cmpF, in_sign]
abbrev nE (s t : List Nat) : Env := [.dat (.str s), .dat (.str t), .no, .no]
def nIf : Stm := fd_number_of.body.getD 1 .pass
theorem nIf_eq : nIf = .ife (.and (.cmp .ne (.var 1) (.str [])) (.or (.cmp .eq (.idx (.var 1) (.int (0))) (.str [48])) (.not (.bf .all [.comp (.cmp .isin (.var 3) (.glo "FIGURES")) (.name 3) .val [.var 1] none [3]])))) [.ret (some (.non))] [] := rfl
theorem all_figs (t : List Nat) : bf1 .all (.lst (t.map fun z => .bl (decide (z ∈ figures)))) = some (.val (.bl (figsOk t))) := all_bl t _
theorem ne_nil_str (t : List Nat) : cmpF .ne (.str t) (.str []) = some (!t.isEmpty) := by
  show (eqD (.str t) (.str [])).map (fun b => !b) = some (!t.isEmpty)
  rw [eqS]
  cases t <;> rfl
/-- the test of the figures -/
def badF (t : List Nat) : Bool := !t.isEmpty && (t.head? == some 48 || !figsOk t)
theorem nIf_run {C : Calls} {c : Nat} {t : List Nat} {S : Store} : exS C glos turnsW pg.sub nIf (nE (c :: t) t) S = if badF t then .ok (.ret .non) (nE (c :: t) t) S else .ok .nxt (nE (c :: t) t) S := by
  rw [nIf_eq]
  cases t with
  | nil => simp [rd, cmpF, eqS, badF]
  | cons a t =>
    have hr : rd (nE (c :: a :: t) (a :: t)) 1 = some (.str (a :: t), nE (c :: a :: t) (a :: t)) := rfl
    have hcomp := fig_comp (C := C) (s := c :: a :: t) (t := a :: t) (S := S)
    have hne := ne_nil_str (a :: t)
    have hall := all_figs (a :: t)
    have hix : idxF (.str (a :: t)) (.int 0) = some (.str [a]) := by
      show (L2.atI (a :: t) 0).map _ = _
      rw [at0]; rfl
    have heq : cmpF .eq (.str [a]) (.str [48]) = some (a == 48) := by
      show eqD _ _ = _
      rw [eqS]; simp
    by_cases h48 : a = 48
    · have hb : badF (a :: t) = true := by subst h48; rfl
      rw [hb, if_pos rfl]
      have e48 : (a == 48) = true := by rw [h48]; rfl
      simp only [xs_ife, ev_and, ev_cmp, ev_var, hr, ar_val, R.bind_ok, kCmp_eq, ev_str, kCmp2_eq, vw_str, Option.bind_some, hne, Option.map_some, ofO_some, bl_bl, List.isEmpty_cons, Bool.not_false, kAnd_eq, if_true, ev_or, ev_idx, kIdx_eq, ev_int, kIdx2_eq, vw_int, hix, heq, kOr_eq, e48, sIfe_eq, xss_cons, xs_ret, ev_non, fz_val, sRet_eq, after_ret]
    · have e48 : (a == 48) = false := beq_false_of_ne h48
      have hb : badF (a :: t) = !figsOk (a :: t) := by
        show (true && ((some a == some 48) || _)) = _
        have : (some a == some 48) = false := by
          show (a == 48) = false
          exact e48
        rw [this]; rfl
      rw [hb]
      simp only [xs_ife, ev_and, ev_cmp, ev_var, hr, ar_val, R.bind_ok, kCmp_eq, ev_str, kCmp2_eq, vw_str, Option.bind_some, hne, Option.map_some, ofO_some, bl_bl, List.isEmpty_cons, Bool.not_false, kAnd_eq, if_true, ev_or, ev_idx, kIdx_eq, ev_int, kIdx2_eq, vw_int, hix, heq, kOr_eq, e48, Bool.false_eq_true, if_false, ev_not, ev_bf, eas_cons, eas_nil]
      rw [hcomp]
      simp only [ar_lst, R.bind_ok, kAs_eq, eas_nil, kAs2_eq, kBf_eq, vws_cons, vws_nil, vw_lst, Option.bind_some, Option.map_some, bfF, hall, ofO_some, bl_bl, kNot_eq, sIfe_eq]
      cases figsOk (a :: t) <;> simp
theorem number_bad {n S} {c : Nat} {t : List Nat} (h : badF t = true) : Cn (n + 1) "number_of" [.str (c :: t)] S = .ok .non S := by
  rw [call_of g_number_of rfl]
  have e0 : startE fd_number_of.ns [.str (c :: t)] = [.dat (.str (c :: t)), .no, .no, .no] := rfl
  have h1 : exS (CC n) glos turnsW pg.sub (.asg (.name 1) (.slc (.var 0) (some (.int (1))) none)) [.dat (.str (c :: t)), .no, .no, .no] S = .ok .nxt (nE (c :: t) t) S := by
    simp [rd, intOf, slcF, cut1]
  have h2 := nIf_run (C := CC n) (c := c) (t := t) (S := S)
  rw [if_pos h] at h2
  rw [e0, show fd_number_of.body = (.asg (.name 1) (.slc (.var 0) (some (.int (1))) none)) :: nIf :: fd_number_of.body.drop 2 from rfl, xss_cons, h1, R.bind_ok, after_nxt, xss_cons, h2, R.bind_ok, after_ret, endR_ret]
theorem number_ok {n S} {c : Nat} {t : List Nat} (h : badF t = false) (hc : c ∈ letters) (hl : t.length ≤ 600) (hf : figsOk t = true) :
    Cn (n + 1) "number_of" [.str (c :: t)] S = .ok (if 26 * PySem.NumText.digitsVal t + letters.idxOf c ≤ 999999 then .int ((26 * PySem.NumText.digitsVal t + letters.idxOf c : Nat) : Int) else .non) S := by
  rw [call_of g_number_of rfl]
  have e0 : startE fd_number_of.ns [.str (c :: t)] = [.dat (.str (c :: t)), .no, .no, .no] := rfl
  have h1 : exS (CC n) glos turnsW pg.sub (.asg (.name 1) (.slc (.var 0) (some (.int (1))) none)) [.dat (.str (c :: t)), .no, .no, .no] S = .ok .nxt (nE (c :: t) t) S := by
    simp [rd, intOf, slcF, cut1]
  have h2 := nIf_run (C := CC n) (c := c) (t := t) (S := S)
  rw [h, if_neg (by decide)] at h2
  rw [e0, show fd_number_of.body = (.asg (.name 1) (.slc (.var 0) (some (.int (1))) none)) :: nIf :: fd_number_of.body.drop 2 from rfl, xss_cons, h1, R.bind_ok, after_nxt, xss_cons, h2, R.bind_ok, after_nxt]
  have hadd : binF .add (.str [48]) (.str t) = some (.val (.str (48 :: t))) := bin_ss (by simp; omega)
  have hbi : bf1 .int (.str (48 :: t)) = some (.val (.int ((PySem.NumText.digitsVal t : Nat) : Int))) := by
    show (if (48 :: t) ≠ [] ∧ (48 :: t).length ≤ 640 ∧ (48 :: t).all (fun c => decide (48 ≤ c) && decide (c ≤ 57)) = true then some (Out.val (.int ((PySem.NumText.digitsVal (48 :: t) : Nat) : Int))) else none) = _
    rw [if_pos ⟨by simp, by simp; omega, figs_digits hf⟩]; rfl
  have hmul : binF .mul (.int 26) (.int ((PySem.NumText.digitsVal t : Nat) : Int)) = some (.val (.int (26 * ((PySem.NumText.digitsVal t : Nat) : Int)))) := by simp [binF]
  have hidx : mt1 .index (.str letters) (.str [c]) = some (.val (.int ((letters.idxOf c : Nat) : Int))) := if_pos hc
  have hix : idxF (.str (c :: t)) (.int 0) = some (.str [c]) := by
    show (L2.atI (c :: t) 0).map _ = _
    rw [at0]; rfl
  have hsum : binF .add (.int (26 * ((PySem.NumText.digitsVal t : Nat) : Int))) (.int ((letters.idxOf c : Nat) : Int)) = some (.val (.int ((26 * PySem.NumText.digitsVal t + letters.idxOf c : Nat) : Int))) := by
    show some (Out.val (.int (26 * ((PySem.NumText.digitsVal t : Nat) : Int) + ((letters.idxOf c : Nat) : Int)))) = _
    rw [show 26 * ((PySem.NumText.digitsVal t : Nat) : Int) + ((letters.idxOf c : Nat) : Int) = ((26 * PySem.NumText.digitsVal t + letters.idxOf c : Nat) : Int) from by omega]
  rw [show fd_number_of.body.drop 2 = [.asg (.name 2) (.bin .add (.bin .mul (.int (26)) (.bf .int [.bin .add (.str [48]) (.var 1)])) (.mth .index (.glo "LETTERS") [.idx (.var 0) (.int (0))])),
    .ret (some (.ite (.cmp .le (.var 2) (.glo "MOST_NUMBER")) (.var 2) (.non)))] from rfl]
  have hr0 : ∀ e2, rd [.dat (.str (c :: t)), .dat (.str t), e2, .no] 0 = some (.str (c :: t), [.dat (.str (c :: t)), .dat (.str t), e2, .no]) := fun _ => rfl
  have hr1 : ∀ e2, rd [.dat (.str (c :: t)), .dat (.str t), e2, .no] 1 = some (.str t, [.dat (.str (c :: t)), .dat (.str t), e2, .no]) := fun _ => rfl
  generalize hv : 26 * PySem.NumText.digitsVal t + letters.idxOf c = v at *
  have h3 : exS (CC n) glos turnsW pg.sub (.asg (.name 2) (.bin .add (.bin .mul (.int (26)) (.bf .int [.bin .add (.str [48]) (.var 1)])) (.mth .index (.glo "LETTERS") [.idx (.var 0) (.int (0))]))) (nE (c :: t) t) S = .ok .nxt [.dat (.str (c :: t)), .dat (.str t), .dat (.int (v : Int)), .no] S := by
    simp (config := {implicitDefEqProofs := false}) only [xs_asg, ev_bin, ev_int, ar_val, R.bind_ok, kBin_eq, ev_bf, eas_cons, ev_str, ev_var, hr0, hr1, kBin2_eq, vw_str, Option.bind_some, hadd, ofO_some, kAs_eq, eas_nil, kAs2_eq, kBf_eq, vws_cons, vws_nil, Option.map_some, bfF, hbi, vw_int, hmul, ev_mth, ev_glo, glo_l, kMth_eq, mtRecv, if_true, ev_idx, kIdx_eq, kIdx2_eq, hix, kMth2_eq, mtF, hidx, hsum, fz_val, sAsg_name]
    rfl
  rw [xss_cons, h3, R.bind_ok, after_nxt]
  have hr2 : rd [.dat (.str (c :: t)), .dat (.str t), .dat (.int (v : Int)), .no] 2 = some (.int (v : Int), [.dat (.str (c :: t)), .dat (.str t), .dat (.int (v : Int)), .no]) := rfl
  by_cases hvv : v ≤ 999999
  · have h4 : (v : Int) ≤ 999999 := by omega
    rw [if_pos hvv]
    simp only [xss_cons, xs_ret, ev_ite, ev_cmp, ev_var, hr2, ar_val, R.bind_ok, kCmp_eq, ev_glo, glo_m, Option.map_some, ofO_some, kCmp2_eq, vw_int, Option.bind_some, cmpF, decide_eq_true h4, bl_bl, kIte_eq, if_true, fz_val, sRet_eq, after_ret, endR_ret]
  · have h4 : ¬ (v : Int) ≤ 999999 := by omega
    rw [if_neg hvv]
    simp only [xss_cons, xs_ret, ev_ite, ev_cmp, ev_var, hr2, ar_val, R.bind_ok, kCmp_eq, ev_glo, glo_m, Option.map_some, ofO_some, kCmp2_eq, vw_int, Option.bind_some, cmpF, decide_eq_false h4, bl_bl, kIte_eq, Bool.false_eq_true, if_false, ev_non, fz_val, sRet_eq, after_ret, endR_ret]
end Pf.K
namespace Pf.K
theorem head_facts : ∀ i < 26, letters.idxOf (letters.getD i 0) = i ∧ letters.getD i 0 ∈ letters := by decide
theorem head_in (q : Nat) : headS q ∈ letters := (head_facts (q % 26) (Nat.mod_lt q (by decide))).2
theorem head_idx (q : Nat) : letters.idxOf (headS q) = q % 26 := (head_facts (q % 26) (Nat.mod_lt q (by decide))).1
theorem letter_not_fig : ∀ c ∈ letters, c ∉ figures := by decide
theorem numL_figs (m : Nat) : figsOk (TL.numL m) = true := by
  unfold figsOk
  rw [List.all_eq_true]
  intro x hx
  have := TL.numL_digits m x hx
  exact decide_eq_true (mem_fig.mpr (by omega))
theorem numL_first {m : Nat} (h : 0 < m) : ∃ c r, TL.numL m = c :: r ∧ c ≠ 48 := by
  induction m using Nat.strongRecOn with
  | _ m ih =>
    by_cases h1 : m < 10
    · exact ⟨48 + m, [], TL.numL_lt h1, by omega⟩
    · obtain ⟨c, r, e, hc⟩ := ih (m / 10) (by omega) (by omega)
      refine ⟨c, r ++ [48 + m % 10], ?_, hc⟩
      rw [TL.numL_step (by omega), e]; rfl
theorem tail_figs (q : Nat) : figsOk (tailS q) = true := by
  unfold tailS
  split
  · exact numL_figs _
  · rfl
theorem tail_good (q : Nat) : badF (tailS q) = false := by
  unfold badF
  rw [tail_figs]
  unfold tailS
  split
  · rename_i h
    obtain ⟨c, r, e, hc⟩ := numL_first h
    rw [e]
    show (true && ((c == 48) || false)) = false
    rw [beq_false_of_ne hc]; rfl
  · rfl
theorem tail_val (q : Nat) : PySem.NumText.digitsVal (tailS q) = q / 26 := by
  unfold tailS
  split
  · exact TL.numL_val _
  · rename_i h
    have : q / 26 = 0 := by omega
    rw [this]; rfl
theorem tail_len {q : Nat} (h : q < 2 ^ 63) : (tailS q).length ≤ 19 := by
  unfold tailS
  split
  · exact numL_len19 (by omega)
  · exact Nat.zero_le _
theorem tail_len5 {q : Nat} (h : q ≤ 999999) : (tailS q).length ≤ 5 := by
  unfold tailS
  split
  · exact TL.numL_len (by decide) (show q / 26 < 10 ^ 5 by omega)
  · exact Nat.zero_le _
theorem number_plain {n S} {q : Nat} (h : q < 2 ^ 63) : Cn (n + 1) "number_of" [.str (plainS q)] S = .ok (if q ≤ 999999 then .int (q : Int) else .non) S := by
  have e := number_ok (n := n) (S := S) (c := headS q) (tail_good q) (head_in q) (by have := tail_len h; omega) (tail_figs q)
  rw [tail_val, head_idx, show 26 * (q / 26) + q % 26 = q from by omega] at e
  exact e
theorem name_plain {q : Nat} (h : q ≤ 999999) : nameOk (plainS q) = true := by
  show (decide (((tailS q).length : Int) + 1 ≤ 12) && decide (headS q ∈ letters) && (headS q :: tailS q).all fun z => decide (z ∈ signs)) = true
  have h1 := tail_len5 h
  rw [decide_eq_true (show ((tailS q).length : Int) + 1 ≤ 12 by omega), decide_eq_true (head_in q)]
  show ((headS q :: tailS q).all fun z => decide (z ∈ signs)) = true
  rw [List.all_eq_true]
  intro x hx
  rw [mem_signs]
  rcases List.mem_cons.mp hx with rfl | hx
  · rw [decide_eq_true (head_in q)]; rfl
  · have := tail_figs q
    unfold figsOk at this
    rw [List.all_eq_true] at this
    rw [this x hx, Bool.or_true]
theorem name_number_ok {n S} {s : List Nat} {d : D} (h : nameOk s = true) (hn : Cn (n + 1) "number_of" [.str s] S = .ok d S) : Cn (n + 2) "name_number" [.str s] S = .ok d S := by
  rw [call_of g_name_number rfl]
  simp [fd_name_number, startE, rd, is_name_str, h, hn]
theorem name_number_bad {n S} {s : List Nat} (h : nameOk s = false) : Cn (n + 2) "name_number" [.str s] S = .exc ⟨"BadName", [("thing", .str s)]⟩ S := by
  rw [call_of g_name_number rfl]
  simp [fd_name_number, startE, rd, is_name_str, h]
theorem name_number_not {n S} {d : D} (h : isAny d [.str] = some false) (hv : vw [.dat d, .no] S (.d d) = some d) (hv2 : rd [.dat d] 0 = some (d, [.dat d])) : Cn (n + 2) "name_number" [d] S = .exc ⟨"BadName", [("thing", d)]⟩ S := by
  have h1 : Cn (n + 1) "is_name" [d] S = .ok (.bl false) S := by
    rw [call_of g_is_name rfl]
    simp [fd_is_name, startE, rd, h, hv]
  rw [call_of g_name_number rfl]
  simp [fd_name_number, startE, rd, h1]
/-! the six others -/
def NN (s : List Nat) : Prop := ∀ n S, Cn (n + 1) "number_of" [.str s] S = .ok .non S
theorem nn_bad {c : Nat} {t : List Nat} (h : badF t = true) : NN (c :: t) := fun n S => number_bad h
theorem bad_not {t : List Nat} {x : Nat} (hx : x ∈ t) (h : x ∉ figures) : badF t = true := by
  have hf : figsOk t = false := by
    unfold figsOk
    rw [List.all_eq_false]
    exact ⟨x, hx, by simpa using h⟩
  cases t with
  | nil => cases hx
  | cons a t =>
    unfold badF
    rw [hf]
    show (true && (_ || true)) = true
    rw [Bool.or_true]; rfl
theorem bad_x (q : Nat) : badF (tailS q ++ [120]) = true := bad_not (x := 120) (List.mem_append_right _ List.mem_cons_self) (by decide)
theorem nn1 (q : Nat) : NN (plainS q ++ [120]) := by
  have e : plainS q ++ [120] = headS q :: (tailS q ++ [120]) := rfl
  rw [e]
  exact nn_bad (bad_x q)
theorem nn2 (q : Nat) : NN [headS q, 48] := nn_bad rfl
theorem nn3 (q : Nat) : NN (headS q :: 48 :: tailS q) := nn_bad rfl
theorem nn4 (q : Nat) : NN (headS q :: plainS q) := nn_bad (bad_not (x := headS q) (by simp [plainS]) (letter_not_fig _ (head_in q)))
theorem nn5 {q : Nat} (h : 999999 < q) (h2 : q < 2 ^ 63) : NN (plainS q) := fun n S => by
  rw [number_plain h2, if_neg (by omega)]
theorem big9 : PySem.NumText.digitsVal [57, 57, 57, 57, 57, 57, 57, 57, 57, 57, 57] = 99999999999 := by decide +kernel
theorem nn6 : NN [97, 57, 57, 57, 57, 57, 57, 57, 57, 57, 57, 57] := fun n S => by
  have h := number_ok (n := n) (S := S) (c := 97) (t := [57, 57, 57, 57, 57, 57, 57, 57, 57, 57, 57]) (by decide +kernel) (by decide) (by decide) (by decide +kernel)
  rw [big9, if_neg (by omega)] at h
  exact h
end Pf.K
namespace Pf.K
theorem g_bword : gOf pg.L "_law_bword" = some fd_law_bword := rfl
theorem g_near : gOf pg.L "_law_bnear_name" = some fd_law_bnear_name := rfl
theorem strs_of : ∀ {ys : List D}, (∀ y ∈ ys, ∃ c : Nat, y = .str [c]) → ∃ w : List Nat, listOf? strOf ys = some (w.map fun c => [c]) ∧ w.length = ys.length
  | [], _ => ⟨[], rfl, rfl⟩
  | y :: ys, h => by
    obtain ⟨c, rfl⟩ := h y List.mem_cons_self
    obtain ⟨w, q1, q2⟩ := strs_of fun z hz => h z (List.mem_cons_of_mem _ hz)
    exact ⟨c :: w, by simp [listOf?, strOf, q1], by rw [List.length_cons, List.length_cons, q2]⟩
theorem join_one : ∀ w : List Nat, TL.joinL [] (w.map fun c => [c]) = w
  | [] => rfl
  | [c] => rfl
  | c :: d :: w => by
    show [c] ++ ([] ++ TL.joinL [] ((d :: w).map fun c => [c])) = _
    rw [join_one (d :: w)]; rfl
theorem sum_one : ∀ w : List Nat, ((w.map fun c => [c]).map List.length).sum = w.length
  | [] => rfl
  | c :: w => by
    have := sum_one w
    simp at this ⊢
    omega
theorem join_ok {ys : List D} {w : List Nat} (h : listOf? strOf ys = some (w.map fun c => [c])) (hl : w.length ≤ 16777216) : mt1 .join (.str []) (.lst ys) = some (.val (.str w)) := by
  show ((listOf? strOf ys).bind fun ss => if (ss.map List.length).sum + ss.length * 0 ≤ 16777216 then some (Out.val (.str (TL.joinL [] ss))) else none) = _
  rw [h]
  show (if ((w.map fun c => [c]).map List.length).sum + (w.map fun c => [c]).length * 0 ≤ 16777216 then some (Out.val (.str (TL.joinL [] (w.map fun c => [c])))) else none) = _
  rw [sum_one, join_one, if_pos (by omega)]
section
variable {n k : Nat} {S : Store}
abbrev wE (e2 : Sl) : Env := [.dat (.loc 1), .dat (.int 12), e2, .dat (.str letters), .dat (.str figures), .no]
abbrev cP : Ex := .comp (.call "_law_pick" [.var 0, .bf .list [.bin .add (.var 3) (.var 4)]] []) (.name 5) .range1 [.bin .sub (.var 2) (.int (1))] none [5]
theorem cP_run {r : Nat} (h : Inv k S) (hk : k + 100 ≤ 1000000) (hr : r < 20) : ∃ (w : List Nat) (S' : Store) (ys : List D), evO (CC (n + 2)) glos cP (wE (.dat (.int ((r : Int) + 1)))) S = .ok (.new (.lst ys)) (wE (.dat (.int ((r : Int) + 1)))) S' ∧ listOf? strOf ys = some (w.map fun c => [c]) ∧ w.length = r ∧ Inv (k + r) S' := by
  have hit : itF .range1 [D.int r] = some ((List.range r).map fun (k : Nat) => .int k) := by
    show (if -(2 ^ 62) ≤ (r : Int) ∧ (r : Int) ≤ 16777216 then some ((List.range (Int.toNat r)).map fun (k : Nat) => D.int k) else none) = _
    rw [if_pos (by omega)]; rfl
  obtain ⟨ys, S', q1, q2, q3, q4⟩ := comp_state (C := CC (n + 2)) (g := glos) (elt := .call "_law_pick" [.var 0, .bf .list [.bin .add (.var 3) (.var 4)]] []) (it := .bin .sub (.var 2) (.int (1))) (kk := .range1) (i := 5) (env := wE (.dat (.int ((r : Int) + 1)))) (S0 := S) (S := S) (d := .int r) (P := fun y => ∃ c : Nat, y = .str [c]) (J := Inv) (N := 1000000) (k := k) (by simp [wE, rd, binF]) hit (by simp [wE]) rfl (by simp; omega) h (fun x hx k S hk j => by
    obtain ⟨y, S', z1, z2, z3⟩ := pick_ok (n := n) (xs := signs.map fun c => .str [c]) j (by omega) (by decide) (by decide)
    obtain ⟨c, hc, rfl⟩ := List.mem_map.mp z2
    refine ⟨.str [c], S', ?_, ⟨c, rfl⟩, z3⟩
    simp [wE, rd, bfF, bf1, bin_signs, z1])
  obtain ⟨w, p1, p2⟩ := strs_of q3
  refine ⟨w, S', ys, q1, p1, ?_, ?_⟩
  · rw [p2, q2]; simp
  · have : ((List.range r).map fun (k : Nat) => D.int k).length = r := by simp
    rw [this] at q4; exact q4
theorem bword_ok (h : Inv k S) (hk : k + 200 ≤ 1000000) : ∃ (w : List Nat) (S' : Store), Cn (n + 3) "_law_bword" [.loc 1, .int 12] S = .ok (.str w) S' ∧ 0 < w.length ∧ w.length ≤ 12 ∧ Inv (k + 20) S' := by
  rw [call_of g_bword rfl]
  obtain ⟨x, S1, q1, hx, i1⟩ := pick_ok (n := n) (xs := [.int 2, .int 12]) h (by omega) (by decide) (by decide)
  have hx : ∃ m : Nat, x = .int (m : Int) ∧ 0 < m ∧ m ≤ 12 := by
    simp only [List.mem_cons, List.not_mem_nil, or_false] at hx
    rcases hx with rfl | rfl
    · exact ⟨2, rfl, by decide, by decide⟩
    · exact ⟨12, rfl, by decide, by decide⟩
  obtain ⟨m, rfl, hm1, hm2⟩ := hx
  obtain ⟨r, S2, q2, hr, i2⟩ := below_nat (n := n + 1) (many := m) i1 (by omega) hm1 (by omega)
  obtain ⟨y, S3, q3, hy, i3⟩ := pick_ok (n := n) (xs := letters.map fun c => .str [c]) i2 (by omega) (by decide) (by decide)
  obtain ⟨c, hc, rfl⟩ := List.mem_map.mp hy
  obtain ⟨w, S4, ys, q4, p1, p2, i4⟩ := cP_run (n := n) (r := r) i3 (by omega) (by omega)
  refine ⟨c :: w, S4, ?_, by simp, by rw [List.length_cons]; omega, i4.mono (by omega)⟩
  have e0 : startE fd_law_bword.ns [.loc 1, .int 12] = [.dat (.loc 1), .dat (.int 12), .no, .no, .no, .no] := rfl
  have hj := join_ok p1 (by omega)
  have hb : binF .add (.str [c]) (.str w) = some (.val (.str (c :: w))) := if_pos (show 1 + w.length ≤ 16777216 by omega)
  have h1 : exS (CC (n + 2)) glos turnsW pg.sub (.asg (.tup [3, 4]) (.tup [.str letters, .str figures])) [.dat (.loc 1), .dat (.int 12), .no, .no, .no, .no] S = .ok .nxt (wE .no) S := by
    simp [bindTg, setNames]
  have h2 : exS (CC (n + 2)) glos turnsW pg.sub (.asg (.name 2) (.bin .add (.int (1)) (.call "_law_below" [.var 0, .call "_law_pick" [.var 0, .lst [.int (2), .var 1]] []] []))) (wE .no) S = .ok .nxt (wE (.dat (.int ((r : Int) + 1)))) S2 := by
    simp [wE, rd, q1, q2, binF, Int.add_comm]
  have hv : evO (CC (n + 2)) glos (.call "_law_pick" [.var 0, .bf .list [.var 3]] []) (wE (.dat (.int ((r : Int) + 1)))) S2 = .ok (.val (.str [c])) (wE (.dat (.int ((r : Int) + 1)))) S3 := by
    simp [wE, rd, bfF, bf1, q3]
  rw [e0]
  simp only [fd_law_bword, lit_l, lit_f]
  rw [xss_cons, h1, R.bind_ok, after_nxt, xss_cons, h2, R.bind_ok, after_nxt, xss_cons]
  simp only [xs_ret, ev_bin, ev_mth, hv, ev_str, eas_cons, eas_nil, q4, R.bind_ok, ar_val, ar_lst, vw_str, mtRecv, if_true, vws_cons, vws_nil, vw_lst, Option.bind_some, Option.map_some, mtF, hj, ofO_some, hb, fz_val, kBin_eq, kBin2_eq, kMth_eq, kMth2_eq, kAs_eq, kAs2_eq, sRet_eq, after_ret, endR_ret]
def oddSigns : List D := [.str [65], .str [45], .str [32], .str [95], .str [10], .str [90], .str [46], .str []]
theorem near_ok (h : Inv k S) (hk : k + 300 ≤ 1000000) : ∃ (s : List Nat) (S' : Store), Cn (n + 4) "_law_bnear_name" [.loc 1] S = .ok (.str s) S' ∧ Inv (k + 30) S' := by
  rw [call_of g_near rfl]
  obtain ⟨w, S1, q1, hw0, hw, i1⟩ := bword_ok (n := n) h (by omega)
  obtain ⟨a, S2, q2, ha, i2⟩ := below_nat (n := n + 2) (many := w.length) i1 (by omega) hw0 (by omega)
  obtain ⟨y, S3, q3, hy, i3⟩ := below_nat (n := n + 2) (many := 7) i2 (by omega) (by decide) (by decide)
  have e0 : startE fd_law_bnear_name.ns [.loc 1] = [.dat (.loc 1), .no, .no, .no] := rfl
  have q3 : Cn (n + 3) "_law_below" [.loc 1, .int 7] S2 = .ok (.int (y : Int)) S3 := q3
  rw [e0]
  have l1 : (cut w none (some (a : Int))).length ≤ 12 := Nat.le_trans (cut_len ..) hw
  have l2 : (cut w (some ((a : Int) + 1)) none).length ≤ 12 := Nat.le_trans (cut_len ..) hw
  by_cases y0 : y = 0
  · obtain ⟨x, S4, q4, hx, i4⟩ := pick_ok (n := n + 1) (xs := [.str [65], .str [45], .str [32], .str [95], .str [10], .str [90], .str [46], .str []]) i3 (by omega) (by decide) (by decide)
    have hx : ∃ z : List Nat, x = .str z ∧ z.length ≤ 1 := by
      simp only [List.mem_cons, List.not_mem_nil, or_false] at hx
      rcases hx with rfl | rfl | rfl | rfl | rfl | rfl | rfl | rfl <;> exact ⟨_, rfl, by decide⟩
    obtain ⟨z, rfl, hz⟩ := hx
    refine ⟨cut w none (some (a : Int)) ++ z ++ cut w (some ((a : Int) + 1)) none, S4, ?_, i4.mono (by omega)⟩
    have b1 := bin_ss (a := cut w none (some (a : Int))) (b := z) (by omega)
    have b2 := bin_ss (a := cut w none (some (a : Int)) ++ z) (b := cut w (some ((a : Int) + 1)) none) (by rw [List.length_append]; omega)
    have b3 : binF .add (.int (a : Int)) (.int 1) = some (.val (.int ((a : Int) + 1))) := rfl
    subst y0
    simp only [fd_law_bnear_name]
    have q3 : Cn (n + 3) "_law_below" [.loc 1, .int 7] S2 = .ok (.int 0) S3 := q3
    simp [rd, q1, q2, q3, bfF, bf1, cmpF, eqI, q4, slcF, intOf, b1, b2, b3, -List.append_assoc]
  · by_cases y1 : y = 1
    · obtain ⟨x, S4, q4, hx, i4⟩ := pick_ok (n := n + 1) (xs := [.str [48], .str [57], .str [], .str [32]]) i3 (by omega) (by decide) (by decide)
      have hx : ∃ z : List Nat, x = .str z ∧ z.length ≤ 1 := by
        simp only [List.mem_cons, List.not_mem_nil, or_false] at hx
        rcases hx with rfl | rfl | rfl | rfl <;> exact ⟨_, rfl, by decide⟩
      obtain ⟨z, rfl, hz⟩ := hx
      have b1 := bin_ss (a := z) (b := w) (by omega)
      refine ⟨z ++ w, S4, ?_, i4.mono (by omega)⟩
      subst y1
      have q3 : Cn (n + 3) "_law_below" [.loc 1, .int 7] S2 = .ok (.int 1) S3 := q3
      simp only [fd_law_bnear_name]
      simp [rd, q1, q2, q3, bfF, bf1, cmpF, eqI, q4, b1]
    · by_cases y2 : y = 2
      · obtain ⟨x, S4, q4, hx, i4⟩ := pick_ok (n := n + 1) (xs := [.int 12, .int 13]) i3 (by omega) (by decide) (by decide)
        have hx : ∃ z : Int, x = .int z := by
          simp only [List.mem_cons, List.not_mem_nil, or_false] at hx
          rcases hx with rfl | rfl <;> exact ⟨_, rfl⟩
        obtain ⟨z, rfl⟩ := hx
        have b1 : binF .mul (.str w) (.int 13) = some (.val (.str (List.replicate 13 w).flatten)) := if_pos ⟨by decide, by decide, show w.length * 13 ≤ 16777216 by omega⟩
        refine ⟨cut (List.replicate 13 w).flatten none (some z), S4, ?_, i4.mono (by omega)⟩
        subst y2
        have q3 : Cn (n + 3) "_law_below" [.loc 1, .int 7] S2 = .ok (.int 2) S3 := q3
        simp only [fd_law_bnear_name]
        simp [rd, q1, q2, q3, bfF, bf1, cmpF, eqI, q4, b1, slcF, intOf]
      · refine ⟨w, S3, ?_, i3.mono (by omega)⟩
        have z0 : ¬ (y : Int) = 0 := by omega
        have z1 : ¬ (y : Int) = 1 := by omega
        have z2 : ¬ (y : Int) = 2 := by omega
        simp only [fd_law_bnear_name]
        simp [rd, q1, q2, q3, bfF, bf1, cmpF, eqI, y0, y1, y2, z0, z1, z2]
end
end Pf.K
namespace Pf.K
theorem loopF_inv {f : D → Env → Store → R Fl} {I : Nat → Env → Store → Prop} {N : Nat} : ∀ (ds : List D) (i : Nat) (env : Env) (S : Store), i + ds.length ≤ N → I i env S → (∀ i x env S, i < N → I i env S → x ∈ ds → ∃ env' S', f x env S = .ok .nxt env' S' ∧ I (i + 1) env' S') → ∃ env' S', loopF f ds env S = .ok .nxt env' S' ∧ I (i + ds.length) env' S'
  | [], i, env, S, _, h, _ => ⟨env, S, rfl, h⟩
  | x :: xs, i, env, S, hN, h, hf => by
    rw [List.length_cons] at hN
    obtain ⟨env1, S1, e1, h1⟩ := hf i x env S (by omega) h List.mem_cons_self
    obtain ⟨env2, S2, e2, h2⟩ := loopF_inv xs (i + 1) env1 S1 (by omega) h1 fun i y env S hl hI hy => hf i y env S hl hI (List.mem_cons_of_mem _ hy)
    refine ⟨env2, S2, ?_, by rw [List.length_cons, show i + (xs.length + 1) = i + 1 + xs.length from by omega]; exact h2⟩
    show (f x env S).bind _ = _
    rw [e1]; exact e2
theorem for_eq {C : Calls} {w : Nat} {t : Tg} {k : Itk} {it : Ex} {b : List Stm} {env : Env} {S : Store} {d : D} {ds : List D} (h1 : evDs C glos [it] env S = .ok [d] env S) (h2 : itF k [d] = some ds) : exS C glos w pg.sub (.fr t k [it] b) env S = loopF (fun d env S => match bindTg t d env with | none => .bad | some env => exSs C glos w pg.sub b env S) ds env S := by
  show (evDs C glos [it] env S).bind _ = _
  rw [h1, R.bind_ok, h2] <;> rfl
abbrev lE (ns : List Int) (e2 e3 e4 e5 e6 e7 e8 e9 e10 e11 : Sl) : Env := [.dat (.scr ns), .dat (.loc 1), e2, e3, e4, e5, e6, e7, e8, e9, e10, e11]
def sT : Stm := fd_law.body.getD 1 .pass
def tb (i : Nat) : Stm := match sT with
  | .fr _ _ _ b => b.getD i .pass
  | _ => .pass
theorem sT_eq : sT = .fr (.name 2) .range1 [.int (20)] [tb 0, tb 1, tb 2, tb 3, tb 4, tb 5, tb 6, tb 7, tb 8, tb 9, tb 10, tb 11, tb 12, tb 13] := rfl
section
variable {ns : List Int} {n k : Nat} {S : Store} {e2 e3 e4 e5 e6 e7 e8 e9 e10 e11 : Sl}
theorem t0 (h : Inv k S) (hk : k + 300 ≤ 1000000) : ∃ (s : List Nat) (S' : Store), exS (CC (n + 4)) glos turnsW pg.sub (tb 0) (lE ns e2 e3 e4 e5 e6 e7 e8 e9 e10 e11) S = .ok .nxt (lE ns e2 (.dat (.str s)) e4 e5 e6 e7 e8 e9 e10 e11) S' ∧ Inv (k + 30) S' := by
  obtain ⟨s, S', q1, i1⟩ := near_ok (n := n) h hk
  refine ⟨s, S', ?_, i1⟩
  rw [show tb 0 = .asg (.name 3) (.call "_law_bnear_name" [.var 1] []) from rfl]
  simp [lE, rd, q1]
theorem t1 {s : List Nat} : exS (CC (n + 4)) glos turnsW pg.sub (tb 1) (lE ns e2 (.dat (.str s)) e4 e5 e6 e7 e8 e9 e10 e11) S = .ok .nxt (lE ns e2 (.dat (.str s)) e4 e5 e6 e7 e8 e9 e10 e11) S := by
  rw [show tb 1 = .ife (.not (.call "_law_same" [.call "is_name" [.var 3] [], .call "_law_bis_name" [.var 3] []] [])) [.ret (some (.bl false))] [] from rfl]
  have q := same_refl (n + 4) (.bl (nameOk s)) S rfl (by show 0 < _; omega)
  simp [lE, rd, is_name_str, bis_name_str, q]
theorem t2 {s : List Nat} (h : Inv k S) (hk : k + 300 ≤ 1000000) : ∃ (x : D) (S' : Store), exS (CC (n + 4)) glos turnsW pg.sub (tb 2) (lE ns e2 (.dat (.str s)) e4 e5 e6 e7 e8 e9 e10 e11) S = .ok .nxt (lE ns e2 (.dat (.str s)) (.dat x) e5 e6 e7 e8 e9 e10 e11) S' ∧ x ∈ [D.non, .int 5, .bl true, .lst [.str s], .tup [.str s], .dic [], .lst [], .int 0] ∧ Inv (k + 1) S' := by
  obtain ⟨x, S', q1, hx, i1⟩ := pick_ok (n := n + 2) (xs := [D.non, .int 5, .bl true, .lst [.str s], .tup [.str s], .dic [], .lst [], .int 0]) h (by omega) (by simp) (by simp)
  refine ⟨x, S', ?_, hx, i1⟩
  rw [show tb 2 = .asg (.name 4) (.call "_law_pick" [.var 1, .lst [.non, .int (5), .bl true, .lst [.var 3], .tup [.var 3], .dic [], .lst [], .int (0)]] []) from rfl]
  simp [lE, rd, q1, pairD, keysOk]
theorem t3 {s : List Nat} {x : D} (hx : x ∈ [D.non, .int 5, .bl true, .lst [.str s], .tup [.str s], .dic [], .lst [], .int 0]) : exS (CC (n + 4)) glos turnsW pg.sub (tb 3) (lE ns e2 e3 (.dat x) e5 e6 e7 e8 e9 e10 e11) S = .ok .nxt (lE ns e2 e3 (.dat x) e5 e6 e7 e8 e9 e10 e11) S := by
  rw [show tb 3 = .ife (.not (.call "_law_same" [.call "is_name" [.var 4] [], .bl false] [])) [.ret (some (.bl false))] [] from rfl]
  have q := same_refl (n + 4) (.bl false) S rfl (by show 0 < _; omega)
  have hn : Cn (n + 4) "is_name" [x] S = .ok (.bl false) S := by
    simp only [List.mem_cons, List.not_mem_nil, or_false] at hx
    rcases hx with rfl | rfl | rfl | rfl | rfl | rfl | rfl | rfl <;> rfl
  simp [lE, rd, hn, q]
theorem t4 (h : Inv k S) (hk : k + 300 ≤ 1000000) : ∃ (q : Nat) (S' : Store), exS (CC (n + 4)) glos turnsW pg.sub (tb 4) (lE ns e2 e3 e4 e5 e6 e7 e8 e9 e10 e11) S = .ok .nxt (lE ns e2 e3 e4 (.dat (.int (q : Int))) e6 e7 e8 e9 e10 e11) S' ∧ q ≤ 999999 ∧ Inv (k + 4) S' := by
  obtain ⟨a, S1, q1, ha, i1⟩ := below_nat (n := n + 3) (many := 60) h (by omega) (by decide) (by decide)
  obtain ⟨b, S2, q2, hb, i2⟩ := below_nat (n := n + 3) (many := 1000000) i1 (by omega) (by decide) (by decide)
  obtain ⟨c, S3, q3, hc, i3⟩ := below_nat (n := n + 3) (many := 38461) i2 (by omega) (by decide) (by decide)
  obtain ⟨x, S4, q4, hx, i4⟩ := pick_ok (n := n + 2) (xs := [.int (a : Int), .int (b : Int), .int (26 * (c : Int)), .int 999999, .int 25, .int 26, .int 259, .int 260]) i3 (by omega) (by simp) (by simp)
  have q1 : Cn (n + 4) "_law_below" [.loc 1, .int 60] S = .ok (.int (a : Int)) S1 := q1
  have q2 : Cn (n + 4) "_law_below" [.loc 1, .int 1000000] S1 = .ok (.int (b : Int)) S2 := q2
  have q3 : Cn (n + 4) "_law_below" [.loc 1, .int 38461] S2 = .ok (.int (c : Int)) S3 := q3
  have hx : ∃ q : Nat, x = .int (q : Int) ∧ q ≤ 999999 := by
    simp only [List.mem_cons, List.not_mem_nil, or_false] at hx
    rcases hx with rfl | rfl | rfl | rfl | rfl | rfl | rfl | rfl
    · exact ⟨a, rfl, by omega⟩
    · exact ⟨b, rfl, by omega⟩
    · exact ⟨26 * c, rfl, by omega⟩
    · exact ⟨999999, rfl, by omega⟩
    · exact ⟨25, rfl, by omega⟩
    · exact ⟨26, rfl, by omega⟩
    · exact ⟨259, rfl, by omega⟩
    · exact ⟨260, rfl, by omega⟩
  obtain ⟨q, rfl, hq⟩ := hx
  refine ⟨q, S4, ?_, hq, i4.mono (by omega)⟩
  have hm : binF .mul (.int 26) (.int (c : Int)) = some (.val (.int (26 * (c : Int)))) := by simp [binF]
  rw [show tb 4 = .asg (.name 5) (.call "_law_pick" [.var 1, .lst [.call "_law_below" [.var 1, .int (60)] [], .call "_law_below" [.var 1, .int (1000000)] [], .bin .mul (.int (26)) (.call "_law_below" [.var 1, .int (38461)] []), .int (999999), .int (25), .int (26), .int (259), .int (260)]] []) from rfl]
  simp [lE, rd, q1, q2, q3, hm, q4]
theorem t5 {q : Nat} (hq : q ≤ 999999) : exS (CC (n + 4)) glos turnsW pg.sub (tb 5) (lE ns e2 e3 e4 (.dat (.int (q : Int))) e6 e7 e8 e9 e10 e11) S = .ok .nxt (lE ns e2 e3 e4 (.dat (.int (q : Int))) (.dat (.str (plainS q))) e7 e8 e9 e10 e11) S := by
  rw [show tb 5 = .asg (.name 6) (.call "_law_bplain_name" [.var 5] []) from rfl]
  have h := bplain_ok (n := n + 3) (S := S) (q := q) (by omega)
  simp [lE, rd, h]
theorem t6 {q : Nat} (hq : q ≤ 999999) : exS (CC (n + 4)) glos turnsW pg.sub (tb 6) (lE ns e2 e3 e4 (.dat (.int (q : Int))) (.dat (.str (plainS q))) e7 e8 e9 e10 e11) S = .ok .nxt (lE ns e2 e3 e4 (.dat (.int (q : Int))) (.dat (.str (plainS q))) e7 e8 e9 e10 e11) S := by
  rw [show tb 6 = .ife (.not (.call "_law_same" [.lst [.call "plain_name" [.var 5] [], .call "name_number" [.var 6] [], .call "is_name" [.var 6] []], .lst [.var 6, .var 5, .bl true]] [])) [.ret (some (.bl false))] [] from rfl]
  have h1 := plain_name_ok (n := n + 2) (S := S) hq
  have h2 := name_number_ok (n := n + 2) (S := S) (name_plain hq) (number_plain (q := q) (by omega))
  rw [if_pos hq] at h2
  have h3 := is_name_str (n := n + 3) (S := S) (s := plainS q)
  rw [name_plain hq] at h3
  have h4 := same_refl (n + 4) (.lst [.str (plainS q), .int (q : Int), .bl true]) S rfl (by show 1 < _; omega)
  simp [lE, rd, h1, h2, h3, h4]
theorem t7 (h : Inv k S) (hk : k + 300 ≤ 1000000) : ∃ (q : Nat) (S' : Store), exS (CC (n + 4)) glos turnsW pg.sub (tb 7) (lE ns e2 e3 e4 e5 e6 e7 e8 e9 e10 e11) S = .ok .nxt (lE ns e2 e3 e4 e5 e6 (.dat (.str (plainS q))) e8 e9 e10 e11) S' ∧ 999999 < q ∧ q < 2 ^ 40 ∧ Inv (k + 1) S' := by
  obtain ⟨a, S1, q1, ha, i1⟩ := below_nat (n := n + 3) (many := 1000000000) h (by omega) (by decide) (by decide)
  have q1 : Cn (n + 4) "_law_below" [.loc 1, .int 1000000000] S = .ok (.int (a : Int)) S1 := q1
  have hp : binF .pow (.int 10) (.int 9) = some (.val (.int 1000000000)) := by simp [binF]
  have hb := bplain_ok (n := n + 3) (S := S1) (q := 1000000 + a) (by omega)
  have hs : binF .add (.int 1000000) (.int (a : Int)) = some (.val (.int ((1000000 + a : Nat) : Int))) := by
    show some (Out.val (.int (1000000 + (a : Int)))) = _
    rw [show (1000000 + (a : Int)) = ((1000000 + a : Nat) : Int) from by omega]
  refine ⟨1000000 + a, S1, ?_, by omega, by omega, i1⟩
  rw [show tb 7 = .asg (.name 7) (.call "_law_bplain_name" [.bin .add (.int (1000000)) (.call "_law_below" [.var 1, .bin .pow (.int (10)) (.int (9))] [])] []) from rfl]
  generalize hv : 1000000 + a = v at *
  simp [lE, rd, hp, q1, hs, hb]
def sixS (q l : Nat) : List (List Nat) := [plainS q ++ [120], [headS q, 48], headS q :: 48 :: tailS q, headS q :: plainS q, plainS l, [97, 57, 57, 57, 57, 57, 57, 57, 57, 57, 57, 57]]
theorem t8 {q l : Nat} (hq : q ≤ 999999) : exS (CC (n + 4)) glos turnsW pg.sub (tb 8) (lE ns e2 e3 e4 e5 (.dat (.str (plainS q))) (.dat (.str (plainS l))) e8 e9 e10 e11) S = .ok .nxt (lE ns e2 e3 e4 e5 (.dat (.str (plainS q))) (.dat (.str (plainS l))) (.dat (.lst ((sixS q l).map .str))) e9 e10 e11) S := by
  rw [show tb 8 = .asg (.name 8) (.lst [.bin .add (.var 6) (.str [120]), .bin .add (.idx (.var 6) (.int (0))) (.str [48]), .bin .add (.bin .add (.idx (.var 6) (.int (0))) (.str [48])) (.slc (.var 6) (some (.int (1))) none), .bin .add (.idx (.var 6) (.int (0))) (.var 6), .var 7, .bin .add (.str [97]) (.bin .mul (.str [57]) (.int (11)))]) from rfl]
  have hl := tail_len5 hq
  have hix : idxF (.str (plainS q)) (.int 0) = some (.str [headS q]) := by
    show (L2.atI (headS q :: tailS q) 0).map _ = _
    rw [at0]; rfl
  have hcut : cut (plainS q) (some 1) none = tailS q := cut1 _ _
  have hpl : (plainS q).length ≤ 6 := by show (tailS q).length + 1 ≤ 6; omega
  have b1 := bin_ss (a := plainS q) (b := [120]) (by simp; omega)
  have b2 : binF .add (.str [headS q]) (.str [48]) = some (.val (.str [headS q, 48])) := rfl
  have b3 : binF .add (.str [headS q, 48]) (.str (tailS q)) = some (.val (.str (headS q :: 48 :: tailS q))) := bin_ss (a := [headS q, 48]) (b := tailS q) (by simp; omega)
  have b4 : binF .add (.str [headS q]) (.str (plainS q)) = some (.val (.str (headS q :: plainS q))) := bin_ss (a := [headS q]) (b := plainS q) (by simp; omega)
  have b5 : binF .mul (.str [57]) (.int 11) = some (.val (.str [57, 57, 57, 57, 57, 57, 57, 57, 57, 57, 57])) := rfl
  have b6 : binF .add (.str [97]) (.str [57, 57, 57, 57, 57, 57, 57, 57, 57, 57, 57]) = some (.val (.str [97, 57, 57, 57, 57, 57, 57, 57, 57, 57, 57, 57])) := rfl
  simp [lE, rd, hix, hcut, slcF, intOf, b1, b2, b3, b4, b5, b6, sixS]
end
end Pf.K
namespace Pf.K
section
variable {ns : List Int} {n k : Nat} {S : Store} {e2 e3 e4 e5 e6 e7 e8 e9 e10 e11 : Sl}
def wrongS (q l : Nat) : List (List Nat) := (sixS q l).filter nameOk
theorem wrong_map : ∀ s : List (List Nat), (s.map D.str).filterMap (fun d => match d with | .str z => if nameOk z then some (.str z) else none | _ => none) = (s.filter nameOk).map D.str
  | [] => rfl
  | z :: s => by
    rw [List.map_cons, List.filterMap_cons]
    by_cases h : nameOk z = true
    · simp [h, wrong_map s]
    · simp [h, wrong_map s]
theorem t9 {q l : Nat} {s : List Nat} : exS (CC (n + 4)) glos turnsW pg.sub (tb 9) (lE ns e2 (.dat (.str s)) e4 e5 e6 e7 (.dat (.lst ((sixS q l).map .str))) e9 e10 e11) S = .ok .nxt (lE ns e2 (.dat (.str s)) e4 e5 e6 e7 (.dat (.lst ((sixS q l).map .str))) (.dat (.lst ((wrongS q l).map .str))) e10 e11) S := by
  rw [show tb 9 = .asg (.name 9) (.comp (.var 3) (.name 3) .val [.var 8] (some (.call "_law_bis_name" [.var 3] [])) [3]) from rfl]
  have hc : evO (CC (n + 4)) glos (.comp (.var 3) (.name 3) .val [.var 8] (some (.call "_law_bis_name" [.var 3] [])) [3]) (lE ns e2 (.dat (.str s)) e4 e5 e6 e7 (.dat (.lst ((sixS q l).map .str))) e9 e10 e11) S = .ok (.new (.lst ((wrongS q l).map .str))) (lE ns e2 (.dat (.str s)) e4 e5 e6 e7 (.dat (.lst ((sixS q l).map .str))) e9 e10 e11) S := by
    rw [comp_pure (ds := (sixS q l).map .str) (d := .lst ((sixS q l).map .str)) (S := S) (p := fun d => match d with | .str z => if nameOk z then some (.str z) else none | _ => none) ?_ rfl (by simp [lE]) rfl ?_]
    · rw [wrong_map]; rfl
    · simp [lE, rd]
    · intro x hx
      obtain ⟨z, _, rfl⟩ := List.mem_map.mp hx
      by_cases h : nameOk z = true
      · simp [lE, rd, bis_name_str, h]
      · simp [lE, rd, bis_name_str, h]
  simp only [xs_asg, hc, fz_lst, R.bind_ok, sAsg_name]
  rfl
theorem pls_non : ∀ m, D.pls (List.replicate m .non) = true
  | 0 => rfl
  | m + 1 => by rw [List.replicate_succ]; show (true && D.pls _) = true; rw [pls_non m]; rfl
theorem depths_non : ∀ m, D.depths (List.replicate m .non) = 0
  | 0 => rfl
  | m + 1 => by rw [List.replicate_succ]; show max 0 (D.depths _) = 0; rw [depths_non m]; rfl
theorem flat_non : ∀ m, (List.replicate m [D.non]).flatten = List.replicate m .non
  | 0 => rfl
  | m + 1 => by rw [List.replicate_succ, List.flatten_cons, flat_non m]; rfl
theorem map_non : ∀ s : List (List Nat), (s.map D.str).filterMap (fun _ => some D.non) = List.replicate s.length .non
  | [] => rfl
  | z :: s => by rw [List.map_cons, List.filterMap_cons, map_non s]; rfl
theorem wrong_nn {q l : Nat} (hl : 999999 < l) (hl2 : l < 2 ^ 63) : ∀ z ∈ wrongS q l, nameOk z = true ∧ NN z := by
  intro z hz
  obtain ⟨h1, h2⟩ := List.mem_filter.mp hz
  refine ⟨h2, ?_⟩
  simp only [sixS, List.mem_cons, List.not_mem_nil, or_false] at h1
  rcases h1 with rfl | rfl | rfl | rfl | rfl | rfl
  · exact nn1 q
  · exact nn2 q
  · exact nn3 q
  · exact nn4 q
  · exact nn5 hl hl2
  · exact nn6
theorem mul_lst {a : List D} {m : Nat} (h : a.length * m ≤ 16777216) (hm : m ≤ 16777216) : binF .mul (.lst a) (.int (m : Int)) = some (.new (.lst (List.replicate m a).flatten)) := by
  have h1 : (-9223372036854775808 : Int) ≤ (m : Int) := by omega
  have h2 : (m : Int) < 9223372036854775808 := by omega
  simp [binF, h1, h2, h]
theorem t10 {q l : Nat} {s : List Nat} (hl : 999999 < l) (hl2 : l < 2 ^ 63) : exS (CC (n + 4)) glos turnsW pg.sub (tb 10) (lE ns e2 (.dat (.str s)) e4 e5 e6 e7 e8 (.dat (.lst ((wrongS q l).map .str))) e10 e11) S = .ok .nxt (lE ns e2 (.dat (.str s)) e4 e5 e6 e7 e8 (.dat (.lst ((wrongS q l).map .str))) e10 e11) S := by
  rw [show tb 10 = .ife (.not (.call "_law_same" [.comp (.call "name_number" [.var 3] []) (.name 3) .val [.var 9] none [3], .bin .mul (.lst [.non]) (.bf .len [.var 9])] [])) [.ret (some (.bl false))] [] from rfl]
  have hlen : (wrongS q l).length ≤ 6 := Nat.le_trans (List.length_filter_le ..) (by simp [sixS])
  have hw := wrong_nn (q := q) hl hl2
  generalize wrongS q l = ws at *
  have hc : evO (CC (n + 4)) glos (.comp (.call "name_number" [.var 3] []) (.name 3) .val [.var 9] none [3]) (lE ns e2 (.dat (.str s)) e4 e5 e6 e7 e8 (.dat (.lst (ws.map .str))) e10 e11) S = .ok (.new (.lst (List.replicate ws.length .non))) (lE ns e2 (.dat (.str s)) e4 e5 e6 e7 e8 (.dat (.lst (ws.map .str))) e10 e11) S := by
    rw [comp_pure (ds := ws.map .str) (d := .lst (ws.map .str)) (S := S) (p := fun _ => some .non) ?_ rfl (by simp [lE]) rfl ?_]
    · rw [map_non]
    · simp [lE, rd]
    · intro x hx
      obtain ⟨z, hz, rfl⟩ := List.mem_map.mp hx
      obtain ⟨h1, h2⟩ := hw z hz
      have h3 := name_number_ok (n := n + 2) (S := S) h1 (h2 (n + 2) S)
      simp [lE, rd, h3]
  have hm : binF .mul (.lst [.non]) (.int (ws.length : Int)) = some (.new (.lst (List.replicate ws.length .non))) := by
    rw [mul_lst (by show 1 * ws.length ≤ _; omega) (by omega), flat_non]
  have hs := same_refl (n + 4) (.lst (List.replicate ws.length .non)) S (pls_non _) (by show D.depths _ + 1 < _; rw [depths_non]; omega)
  have hlen2 : bf1 .len (.lst (ws.map .str)) = some (.val (.int (ws.length : Int))) := by
    show some (Out.val (.int ((ws.map D.str).length : Int))) = _
    rw [List.length_map]
  have hv : rd (lE ns e2 (.dat (.str s)) e4 e5 e6 e7 e8 (.dat (.lst (ws.map .str))) e10 e11) 9 = some (.lst (ws.map .str), lE ns e2 (.dat (.str s)) e4 e5 e6 e7 e8 (.dat (.lst (ws.map .str))) e10 e11) := rfl
  generalize lE ns e2 (.dat (.str s)) e4 e5 e6 e7 e8 (.dat (.lst (ws.map .str))) e10 e11 = env at *
  simp (config := {implicitDefEqProofs := false}) only [xs_ife, ev_not, ev_call, eds_cons, eds_nil, hc, fz_lst, fz_val, R.bind_ok, kDs_eq, kDs2_eq, ev_bin, ev_lst, ev_non, kLst_eq, ar_lst, ar_val, kBin_eq, ev_bf, eas_cons, eas_nil, ev_var, hv, kAs_eq, kAs2_eq, kBf_eq, vws_cons, vws_nil, vw_lst, vw_int, Option.bind_some, Option.map_some, bfF, hlen2, ofO_some, kBin2_eq, hm, kCall_eq, CC_fn, hs, rc_ok, bl_bl, kNot_eq, sIfe_eq, Bool.not_true, Bool.false_eq_true, if_false, xss_nil]
def badL : List D := [.int (-1), .int 1000000, .non, .str [48], .bl true, .lst [.int 1]]
def strangeL (q : Nat) : List D := [.non, .int 5, .str [], .str [65], .str [49, 97], .str [97, 97, 97, 97, 97, 97, 97, 97, 97, 97, 97, 97, 97], .str [97, 32, 98], .lst [.str (plainS q)]]
theorem t11 {q : Nat} (h : Inv k S) (hk : k + 300 ≤ 1000000) : ∃ (x y : D) (S' : Store), exS (CC (n + 4)) glos turnsW pg.sub (tb 11) (lE ns e2 e3 e4 e5 (.dat (.str (plainS q))) e7 e8 e9 e10 e11) S = .ok .nxt (lE ns e2 e3 e4 e5 (.dat (.str (plainS q))) e7 e8 e9 (.dat x) (.dat y)) S' ∧ x ∈ badL ∧ y ∈ strangeL q ∧ Inv (k + 2) S' := by
  obtain ⟨x, S1, q1, hx, i1⟩ := pick_ok (n := n + 2) (xs := badL) h (by omega) (by simp [badL]) (by simp [badL])
  obtain ⟨y, S2, q2, hy, i2⟩ := pick_ok (n := n + 2) (xs := strangeL q) i1 (by omega) (by simp [strangeL]) (by simp [strangeL])
  refine ⟨x, y, S2, ?_, hx, hy, i2⟩
  rw [show tb 11 = .asg (.tup [10, 11]) (.tup [.call "_law_pick" [.var 1, .lst [.un .neg (.int (1)), .int (1000000), .non, .str [48], .bl true, .lst [.int (1)]]] [], .call "_law_pick" [.var 1, .lst [.non, .int (5), .str [], .str [65], .str [49, 97], .bin .mul (.str [97]) (.int (13)), .str [97, 32, 98], .lst [.var 6]]] []]) from rfl]
  have b5 : binF .mul (.str [97]) (.int 13) = some (.val (.str [97, 97, 97, 97, 97, 97, 97, 97, 97, 97, 97, 97, 97])) := rfl
  unfold badL at q1
  unfold strangeL at q2
  simp [lE, rd, unF, q1, b5, q2, bindTg, setNames]
theorem bad_facts {x : D} (h : x ∈ badL) : Cn (n + 4) "plain_name" [x] S = .exc ⟨"BadNumber", [("thing", x)]⟩ S ∧ x.noX = true ∧ x.pl = true ∧ x.depth < 2 := by
  simp only [badL, List.mem_cons, List.not_mem_nil, or_false] at h
  rcases h with rfl | rfl | rfl | rfl | rfl | rfl <;> exact ⟨by kernel_rfl, rfl, rfl, by decide⟩
theorem strange_facts {q : Nat} {x : D} (h : x ∈ strangeL q) : Cn (n + 4) "name_number" [x] S = .exc ⟨"BadName", [("thing", x)]⟩ S ∧ x.noX = true ∧ x.pl = true ∧ x.depth < 2 := by
  simp only [strangeL, List.mem_cons, List.not_mem_nil, or_false] at h
  rcases h with rfl | rfl | rfl | rfl | rfl | rfl | rfl | rfl
  · exact ⟨name_number_not rfl rfl rfl, rfl, rfl, by decide⟩
  · exact ⟨name_number_not rfl rfl rfl, rfl, rfl, by decide⟩
  · exact ⟨name_number_bad rfl, rfl, rfl, by decide⟩
  · exact ⟨name_number_bad (by decide +kernel), rfl, rfl, by decide⟩
  · exact ⟨name_number_bad (by decide +kernel), rfl, rfl, by decide⟩
  · exact ⟨name_number_bad (by decide +kernel), rfl, rfl, by decide⟩
  · exact ⟨name_number_bad (by decide +kernel), rfl, rfl, by decide⟩
  · exact ⟨name_number_not rfl rfl rfl, rfl, rfl, (show max 0 0 + 1 < 2 from by decide)⟩
theorem t12 {x : D} (h : Inv k S) (hx : x ∈ badL) {d4 d5 d6 d7 d8 d9 d11 : D} : exS (CC (n + 4)) glos turnsW pg.sub (tb 12) (lE ns e2 e3 e4 e5 e6 e7 e8 e9 (.dat x) e11) S = .ok .nxt (lE ns e2 e3 e4 e5 e6 e7 e8 e9 (.dat x) e11) S := by
  rw [show tb 12 = .ife (.not (.callT "_law_brefuses" [.str [110, 117, 109, 98, 101, 114], .var 10] (.call "plain_name" [.var 10] []))) [.ret (some (.bl false))] [] from rfl]
  obtain ⟨h1, h2, h3, h4⟩ := bad_facts (n := n) (S := S) hx
  have hv : rd (lE ns e2 e3 e4 e5 e6 e7 e8 e9 (.dat x) e11) 10 = some (x, lE ns e2 e3 e4 e5 e6 e7 e8 e9 (.dat x) e11) := rfl
  have hv2 : rd ((lE ns e2 e3 e4 e5 e6 e7 e8 e9 (.dat x) e11).map Sl.thin) 10 = some (x, (lE ns e2 e3 e4 e5 e6 e7 e8 e9 (.dat x) e11).map Sl.thin) := rfl
  generalize lE ns e2 e3 e4 e5 e6 e7 e8 e9 (.dat x) e11 = env at *
  have hr := refuses_ok (n := n + 4) (cls := "BadNumber") (w := [110, 117, 109, 98, 101, 114]) (v := x) (S := S) (T := fun S => (evO (CC (n + 4)) glos (.call "plain_name" [.var 10] []) (env.map Sl.thin) S).fz.rc) (by simp [hv2, h1]) (by decide +kernel) h2 h.noX (named_number h2 h.noX) h3 (by omega)
  simp only [xs_ife, ev_not, ev_callT, eds_cons, eds_nil, ev_str, ev_var, hv, fz_val, R.bind_ok, kDs_eq, kDs2_eq, kCallT_eq]
  rw [hr]
  simp
theorem t13 {q : Nat} {x : D} (h : Inv k S) (hx : x ∈ strangeL q) : exS (CC (n + 4)) glos turnsW pg.sub (tb 13) (lE ns e2 e3 e4 e5 e6 e7 e8 e9 e10 (.dat x)) S = .ok .nxt (lE ns e2 e3 e4 e5 e6 e7 e8 e9 e10 (.dat x)) S := by
  rw [show tb 13 = .ife (.not (.callT "_law_brefuses" [.str [110, 97, 109, 101], .var 11] (.call "name_number" [.var 11] []))) [.ret (some (.bl false))] [] from rfl]
  obtain ⟨h1, h2, h3, h4⟩ := strange_facts (n := n) (S := S) hx
  have hv : rd (lE ns e2 e3 e4 e5 e6 e7 e8 e9 e10 (.dat x)) 11 = some (x, lE ns e2 e3 e4 e5 e6 e7 e8 e9 e10 (.dat x)) := rfl
  have hv2 : rd ((lE ns e2 e3 e4 e5 e6 e7 e8 e9 e10 (.dat x)).map Sl.thin) 11 = some (x, (lE ns e2 e3 e4 e5 e6 e7 e8 e9 e10 (.dat x)).map Sl.thin) := rfl
  generalize lE ns e2 e3 e4 e5 e6 e7 e8 e9 e10 (.dat x) = env at *
  have hr := refuses_ok (n := n + 4) (cls := "BadName") (w := [110, 97, 109, 101]) (v := x) (S := S) (T := fun S => (evO (CC (n + 4)) glos (.call "name_number" [.var 11] []) (env.map Sl.thin) S).fz.rc) (by simp [hv2, h1]) (by decide +kernel) h2 h.noX (named_name h2 h.noX) h3 (by omega)
  simp only [xs_ife, ev_not, ev_callT, eds_cons, eds_nil, ev_str, ev_var, hv, fz_val, R.bind_ok, kDs_eq, kDs2_eq, kCallT_eq]
  rw [hr]
  simp
end
end Pf.K
namespace Pf.K
section
variable {ns : List Int} {n k : Nat} {S : Store} {e2 e3 e4 e5 e6 e7 e8 e9 e10 e11 : Sl}
theorem turn_run (h : Inv k S) (hk : k + 500 ≤ 1000000) : ∃ (e3' e4' e5' e6' e7' e8' e9' e10' e11' : Sl) (S' : Store), exSs (CC (n + 4)) glos turnsW pg.sub [tb 0, tb 1, tb 2, tb 3, tb 4, tb 5, tb 6, tb 7, tb 8, tb 9, tb 10, tb 11, tb 12, tb 13] (lE ns e2 e3 e4 e5 e6 e7 e8 e9 e10 e11) S = .ok .nxt (lE ns e2 e3' e4' e5' e6' e7' e8' e9' e10' e11') S' ∧ Inv (k + 50) S' := by
  obtain ⟨s, S1, q0, i1⟩ := t0 (ns := ns) (n := n) (e2 := e2) (e3 := e3) (e4 := e4) (e5 := e5) (e6 := e6) (e7 := e7) (e8 := e8) (e9 := e9) (e10 := e10) (e11 := e11) h (by omega)
  have q1 := t1 (ns := ns) (n := n) (e2 := e2) (e4 := e4) (e5 := e5) (e6 := e6) (e7 := e7) (e8 := e8) (e9 := e9) (e10 := e10) (e11 := e11) (s := s) (S := S1)
  obtain ⟨x, S2, q2, hx, i2⟩ := t2 (ns := ns) (n := n) (e2 := e2) (e4 := e4) (e5 := e5) (e6 := e6) (e7 := e7) (e8 := e8) (e9 := e9) (e10 := e10) (e11 := e11) (s := s) i1 (by omega)
  have q3 := t3 (ns := ns) (n := n) (e2 := e2) (e3 := .dat (.str s)) (e5 := e5) (e6 := e6) (e7 := e7) (e8 := e8) (e9 := e9) (e10 := e10) (e11 := e11) (S := S2) hx
  obtain ⟨q, S3, q4, hq, i3⟩ := t4 (ns := ns) (n := n) (e2 := e2) (e3 := .dat (.str s)) (e4 := .dat x) (e5 := e5) (e6 := e6) (e7 := e7) (e8 := e8) (e9 := e9) (e10 := e10) (e11 := e11) i2 (by omega)
  have q5 := t5 (ns := ns) (n := n) (e2 := e2) (e3 := .dat (.str s)) (e4 := .dat x) (e6 := e6) (e7 := e7) (e8 := e8) (e9 := e9) (e10 := e10) (e11 := e11) (S := S3) hq
  have q6 := t6 (ns := ns) (n := n) (e2 := e2) (e3 := .dat (.str s)) (e4 := .dat x) (e7 := e7) (e8 := e8) (e9 := e9) (e10 := e10) (e11 := e11) (S := S3) hq
  obtain ⟨l, S4, q7, hl, hl2, i4⟩ := t7 (ns := ns) (n := n) (e2 := e2) (e3 := .dat (.str s)) (e4 := .dat x) (e5 := .dat (.int (q : Int))) (e6 := .dat (.str (plainS q))) (e7 := e7) (e8 := e8) (e9 := e9) (e10 := e10) (e11 := e11) i3 (by omega)
  have q8 := t8 (ns := ns) (n := n) (e2 := e2) (e3 := .dat (.str s)) (e4 := .dat x) (e5 := .dat (.int (q : Int))) (e8 := e8) (e9 := e9) (e10 := e10) (e11 := e11) (S := S4) (l := l) hq
  have q9 := t9 (ns := ns) (n := n) (e2 := e2) (s := s) (e4 := .dat x) (e5 := .dat (.int (q : Int))) (e6 := .dat (.str (plainS q))) (e7 := .dat (.str (plainS l))) (e9 := e9) (e10 := e10) (e11 := e11) (S := S4) (q := q) (l := l)
  have q10 := t10 (ns := ns) (n := n) (e2 := e2) (s := s) (e4 := .dat x) (e5 := .dat (.int (q : Int))) (e6 := .dat (.str (plainS q))) (e7 := .dat (.str (plainS l))) (e8 := .dat (.lst ((sixS q l).map .str))) (e10 := e10) (e11 := e11) (S := S4) (q := q) (l := l) hl (by omega)
  obtain ⟨u, v, S5, q11, hu, hv, i5⟩ := t11 (ns := ns) (n := n) (e2 := e2) (e3 := .dat (.str s)) (e4 := .dat x) (e5 := .dat (.int (q : Int))) (e7 := .dat (.str (plainS l))) (e8 := .dat (.lst ((sixS q l).map .str))) (e9 := .dat (.lst ((wrongS q l).map .str))) (e10 := e10) (e11 := e11) (q := q) i4 (by omega)
  have q12 := t12 (ns := ns) (n := n) (e2 := e2) (e3 := .dat (.str s)) (e4 := .dat x) (e5 := .dat (.int (q : Int))) (e6 := .dat (.str (plainS q))) (e7 := .dat (.str (plainS l))) (e8 := .dat (.lst ((sixS q l).map .str))) (e9 := .dat (.lst ((wrongS q l).map .str))) (e11 := .dat v) i5 hu (d4 := .non) (d5 := .non) (d6 := .non) (d7 := .non) (d8 := .non) (d9 := .non) (d11 := .non)
  have q13 := t13 (ns := ns) (n := n) (e2 := e2) (e3 := .dat (.str s)) (e4 := .dat x) (e5 := .dat (.int (q : Int))) (e6 := .dat (.str (plainS q))) (e7 := .dat (.str (plainS l))) (e8 := .dat (.lst ((sixS q l).map .str))) (e9 := .dat (.lst ((wrongS q l).map .str))) (e10 := .dat u) i5 hv
  refine ⟨.dat (.str s), .dat x, .dat (.int (q : Int)), .dat (.str (plainS q)), .dat (.str (plainS l)), .dat (.lst ((sixS q l).map .str)), .dat (.lst ((wrongS q l).map .str)), .dat u, .dat v, S5, ?_, i5.mono (by omega)⟩
  rw [xss_cons, q0, R.bind_ok, after_nxt, xss_cons, q1, R.bind_ok, after_nxt, xss_cons, q2, R.bind_ok, after_nxt, xss_cons, q3, R.bind_ok, after_nxt, xss_cons, q4, R.bind_ok, after_nxt, xss_cons, q5, R.bind_ok, after_nxt, xss_cons, q6, R.bind_ok, after_nxt, xss_cons, q7, R.bind_ok, after_nxt, xss_cons, q8, R.bind_ok, after_nxt, xss_cons, q9, R.bind_ok, after_nxt, xss_cons, q10, R.bind_ok, after_nxt, xss_cons, q11, R.bind_ok, after_nxt, xss_cons, q12, R.bind_ok, after_nxt, xss_cons, q13, R.bind_ok, after_nxt, xss_nil]
end
theorem turns_run {ns : List Int} {n : Nat} {S : Store} (h : Inv 0 S) : ∃ (env' : Env) (S' : Store), exS (CC (n + 4)) glos turnsW pg.sub sT (lE ns .no .no .no .no .no .no .no .no .no .no) S = .ok .nxt env' S' := by
  have hl := loopF_inv (f := fun d env S => match bindTg (.name 2) d env with | none => .bad | some env => exSs (CC (n + 4)) glos turnsW pg.sub [tb 0, tb 1, tb 2, tb 3, tb 4, tb 5, tb 6, tb 7, tb 8, tb 9, tb 10, tb 11, tb 12, tb 13] env S) (N := 20) (I := fun i env S => Inv (50 * i) S ∧ ∃ e2 e3 e4 e5 e6 e7 e8 e9 e10 e11, env = lE ns e2 e3 e4 e5 e6 e7 e8 e9 e10 e11) ((List.range 20).map fun (k : Nat) => .int k) 0 (lE ns .no .no .no .no .no .no .no .no .no .no) S (by simp) ⟨h, _, _, _, _, _, _, _, _, _, _, rfl⟩ (by
    rintro i x env S1 hi ⟨h1, e2, e3, e4, e5, e6, e7, e8, e9, e10, e11, rfl⟩ hx
    obtain ⟨e3', e4', e5', e6', e7', e8', e9', e10', e11', S', q, h2⟩ := turn_run (ns := ns) (n := n) (e2 := .dat x) (e3 := e3) (e4 := e4) (e5 := e5) (e6 := e6) (e7 := e7) (e8 := e8) (e9 := e9) (e10 := e10) (e11 := e11) h1 (by omega)
    exact ⟨_, S', q, (show Inv (50 * (i + 1)) S' by rw [Nat.mul_add]; exact h2), _, _, _, _, _, _, _, _, _, _, rfl⟩)
  obtain ⟨env', S', q, _⟩ := hl
  refine ⟨env', S', ?_⟩
  rw [sT_eq, for_eq (ds := (List.range 20).map fun (k : Nat) => .int k) (d := .int 20) (by simp) rfl]
  exact q
theorem body_eq : fd_law.body = [.asg (.name 1) (.call "_law_start" [.var 0] []), sT, .ret (some (.bl true))] := rfl
theorem law_ok (ns : List Int) (h : ns.length ≤ 63) : ∃ S, callF (gOf pg.L) glos turnsW pg.sub lev "law" [.scr ns] [] = .ok (.bl true) S := by
  show ∃ S, Cn (11 + 1) "law" [.scr ns] [] = .ok (.bl true) S
  rw [call_of g_law rfl]
  have i0 : Inv 0 (St ns 0 0 43) := ⟨ns, 0, 0, 43, rfl, h, by decide, by decide, by decide, by decide, by decide⟩
  have e0 : startE fd_law.ns [.scr ns] = [.dat (.scr ns), .no, .no, .no, .no, .no, .no, .no, .no, .no, .no, .no] := rfl
  have q0 : exS (CC 11) glos turnsW pg.sub (.asg (.name 1) (.call "_law_start" [.var 0] [])) [.dat (.scr ns), .no, .no, .no, .no, .no, .no, .no, .no, .no, .no, .no] [] = .ok .nxt (lE ns .no .no .no .no .no .no .no .no .no .no) (St ns 0 0 43) := by
    simp [rd, start_run, lE]
  obtain ⟨env', S', q1⟩ := turns_run (ns := ns) (n := 7) i0
  refine ⟨S', ?_⟩
  rw [e0, body_eq, xss_cons, q0, R.bind_ok, after_nxt, xss_cons, q1, R.bind_ok, after_nxt, xss_cons, xs_ret, ev_bl, fz_val, R.bind_ok, sRet_eq, R.bind_ok, after_ret, endR_ret]
end Pf.K
namespace Pf.K
open PySem PySem.Spec PyProof.Rows L2
set_option maxHeartbeats 4000000
def ini_BadNumber : Stmt := match topS 13 with
  | .ClassDef _ _ _ body _ _ _ _ _ _ _ => body.getD 0 (.Pass ⟨0, 0, 0, 0⟩)
  | s => s
def ini_BadName : Stmt := match topS 11 with
  | .ClassDef _ _ _ body _ _ _ _ _ _ _ => body.getD 0 (.Pass ⟨0, 0, 0, 0⟩)
  | s => s
theorem all_in {K : PySem.W.Frag} {h : Heap} {mg : Str → Option Value} (X : K.In h) (G : h.Ns mainGlobals mg)
    {f0 : Addr} {od0 an0 : Option Addr} {sl0 : Array (Option Value)} {oc0 kV0 dc0 pm0 cd0 ct0 : Value}
    {f1 : Addr} {od1 an1 : Option Addr} {sl1 : Array (Option Value)} {oc1 kV1 dc1 pm1 cd1 ct1 : Value}
    {f2 : Addr} {od2 an2 : Option Addr} {sl2 : Array (Option Value)} {oc2 kV2 dc2 pm2 cd2 ct2 : Value}
    {f3 : Addr} {od3 an3 : Option Addr} {sl3 : Array (Option Value)} {oc3 kV3 dc3 pm3 cd3 ct3 : Value}
    {f4 : Addr} {od4 an4 : Option Addr} {sl4 : Array (Option Value)} {oc4 kV4 dc4 pm4 cd4 ct4 : Value}
    {f5 : Addr} {od5 an5 : Option Addr} {sl5 : Array (Option Value)} {oc5 kV5 dc5 pm5 cd5 ct5 : Value}
    {f6 : Addr} {od6 an6 : Option Addr} {sl6 : Array (Option Value)} {oc6 kV6 dc6 pm6 cd6 ct6 : Value}
    {f7 : Addr} {od7 an7 : Option Addr} {sl7 : Array (Option Value)} {oc7 kV7 dc7 pm7 cd7 ct7 : Value}
    {f8 : Addr} {od8 an8 : Option Addr} {sl8 : Array (Option Value)} {oc8 kV8 dc8 pm8 cd8 ct8 : Value}
    {f9 : Addr} {od9 an9 : Option Addr} {sl9 : Array (Option Value)} {oc9 kV9 dc9 pm9 cd9 ct9 : Value}
    {f10 : Addr} {od10 an10 : Option Addr} {sl10 : Array (Option Value)} {oc10 kV10 dc10 pm10 cd10 ct10 : Value}
    {f11 : Addr} {od11 an11 : Option Addr} {sl11 : Array (Option Value)} {oc11 kV11 dc11 pm11 cd11 ct11 : Value}
    {f12 : Addr} {od12 an12 : Option Addr} {sl12 : Array (Option Value)} {oc12 kV12 dc12 pm12 cd12 ct12 : Value}
    {f13 : Addr} {od13 an13 : Option Addr} {sl13 : Array (Option Value)} {oc13 kV13 dc13 pm13 cd13 ct13 : Value}
    {f14 : Addr} {od14 an14 : Option Addr} {sl14 : Array (Option Value)} {oc14 kV14 dc14 pm14 cd14 ct14 : Value}
    {f15 : Addr} {od15 an15 : Option Addr} {sl15 : Array (Option Value)} {oc15 kV15 dc15 pm15 cd15 ct15 : Value}
    {f16 : Addr} {od16 an16 : Option Addr} {sl16 : Array (Option Value)} {oc16 kV16 dc16 pm16 cd16 ct16 : Value}
    {f17 : Addr} {od17 an17 : Option Addr} {sl17 : Array (Option Value)} {oc17 kV17 dc17 pm17 cd17 ct17 : Value}
    {u0 : Value}
    {u1 : Value}
    {u2 : Value}
    {e0 : Addr}
    {e1 : Addr}
    {e2 : Addr}
    {e3 : Addr}
    {e4 : Addr}
    {e5 : Addr}
    {e6 : Addr}
    {e7 : Addr}
    {e8 : Addr}
    {e9 : Addr}
    {e10 : Addr}
    {e11 : Addr}
    {e12 : Addr}
    {e13 : Addr}
    {e14 : Addr}
    {e15 : Addr}
    {e16 : Addr}
    {e17 : Addr}
    {e18 : Addr}
    {e19 : Addr}
    {e20 : Addr}
    {e21 : Addr}
    {e22 : Addr}
    {e23 : Addr}
    {e24 : Addr}
    {cn0 cq0 : Str} {cN0 : Addr} {cb0 cm0 : List Value} {cs0 : List Str} {cu0 : List Value} {ca0 : Bool} {cc0 : Option Bool} {cz0 : Option Addr} {cw0 cx0 cy0 cv0 ck0 : Option Value} {i0 : Addr} {iod0 ian0 : Option Addr} {isl0 : Array (Option Value)} {ioc0 ikV0 idc0 ipm0 icd0 ict0 : Value}
    {cn1 cq1 : Str} {cN1 : Addr} {cb1 cm1 : List Value} {cs1 : List Str} {cu1 : List Value} {ca1 : Bool} {cc1 : Option Bool} {cz1 : Option Addr} {cw1 cx1 cy1 cv1 ck1 : Option Value} {i1 : Addr} {iod1 ian1 : Option Addr} {isl1 : Array (Option Value)} {ioc1 ikV1 idc1 ipm1 icd1 ict1 : Value}
    (a0 : PySem.W.nsIn K mainGlobals "law" = some (some (.ref f0)))
    (l0 : K.lookup f0 = some ⟨oc0, od0, .func (PySem.W.fnOf "law" "law" (defArgs (topS 49)) (defBody (topS 49)) (defScope (topS 49)) .none kV0 dc0 pm0 an0 cd0 ct0), sl0⟩)
    (c0 : PySem.W.codeIn K cd0 "law" = true)
    (k0 : PySem.W.keepIn K (.ref f0) = true)
    (a1 : PySem.W.nsIn K mainGlobals "_law_start" = some (some (.ref f1)))
    (l1 : K.lookup f1 = some ⟨oc1, od1, .func (PySem.W.fnOf "_law_start" "_law_start" (defArgs (topS 38)) (defBody (topS 38)) (defScope (topS 38)) .none kV1 dc1 pm1 an1 cd1 ct1), sl1⟩)
    (c1 : PySem.W.codeIn K cd1 "_law_start" = true)
    (k1 : PySem.W.keepIn K (.ref f1) = true)
    (a2 : PySem.W.nsIn K mainGlobals "_law_bnear_name" = some (some (.ref f2)))
    (l2 : K.lookup f2 = some ⟨oc2, od2, .func (PySem.W.fnOf "_law_bnear_name" "_law_bnear_name" (defArgs (topS 47)) (defBody (topS 47)) (defScope (topS 47)) .none kV2 dc2 pm2 an2 cd2 ct2), sl2⟩)
    (c2 : PySem.W.codeIn K cd2 "_law_bnear_name" = true)
    (k2 : PySem.W.keepIn K (.ref f2) = true)
    (a3 : PySem.W.nsIn K mainGlobals "_law_pick" = some (some (.ref f3)))
    (l3 : K.lookup f3 = some ⟨oc3, od3, .func (PySem.W.fnOf "_law_pick" "_law_pick" (defArgs (topS 40)) (defBody (topS 40)) (defScope (topS 40)) .none kV3 dc3 pm3 an3 cd3 ct3), sl3⟩)
    (c3 : PySem.W.codeIn K cd3 "_law_pick" = true)
    (k3 : PySem.W.keepIn K (.ref f3) = true)
    (a4 : PySem.W.nsIn K mainGlobals "_law_bplain_name" = some (some (.ref f4)))
    (l4 : K.lookup f4 = some ⟨oc4, od4, .func (PySem.W.fnOf "_law_bplain_name" "_law_bplain_name" (defArgs (topS 43)) (defBody (topS 43)) (defScope (topS 43)) .none kV4 dc4 pm4 an4 cd4 ct4), sl4⟩)
    (c4 : PySem.W.codeIn K cd4 "_law_bplain_name" = true)
    (k4 : PySem.W.keepIn K (.ref f4) = true)
    (a5 : PySem.W.nsIn K mainGlobals "_law_same" = some (some (.ref f5)))
    (l5 : K.lookup f5 = some ⟨oc5, od5, .func (PySem.W.fnOf "_law_same" "_law_same" (defArgs (topS 41)) (defBody (topS 41)) (defScope (topS 41)) .none kV5 dc5 pm5 an5 cd5 ct5), sl5⟩)
    (c5 : PySem.W.codeIn K cd5 "_law_same" = true)
    (k5 : PySem.W.keepIn K (.ref f5) = true)
    (a6 : PySem.W.nsIn K mainGlobals "_law_brefuses" = some (some (.ref f6)))
    (l6 : K.lookup f6 = some ⟨oc6, od6, .func (PySem.W.fnOf "_law_brefuses" "_law_brefuses" (defArgs (topS 46)) (defBody (topS 46)) (defScope (topS 46)) .none kV6 dc6 pm6 an6 cd6 ct6), sl6⟩)
    (c6 : PySem.W.codeIn K cd6 "_law_brefuses" = true)
    (k6 : PySem.W.keepIn K (.ref f6) = true)
    (a7 : PySem.W.nsIn K mainGlobals "is_name" = some (some (.ref f7)))
    (l7 : K.lookup f7 = some ⟨oc7, od7, .func (PySem.W.fnOf "is_name" "is_name" (defArgs (topS 32)) (defBody (topS 32)) (defScope (topS 32)) .none kV7 dc7 pm7 an7 cd7 ct7), sl7⟩)
    (c7 : PySem.W.codeIn K cd7 "is_name" = true)
    (k7 : PySem.W.keepIn K (.ref f7) = true)
    (a8 : PySem.W.nsIn K mainGlobals "_law_bis_name" = some (some (.ref f8)))
    (l8 : K.lookup f8 = some ⟨oc8, od8, .func (PySem.W.fnOf "_law_bis_name" "_law_bis_name" (defArgs (topS 48)) (defBody (topS 48)) (defScope (topS 48)) .none kV8 dc8 pm8 an8 cd8 ct8), sl8⟩)
    (c8 : PySem.W.codeIn K cd8 "_law_bis_name" = true)
    (k8 : PySem.W.keepIn K (.ref f8) = true)
    (a9 : PySem.W.nsIn K mainGlobals "_law_below" = some (some (.ref f9)))
    (l9 : K.lookup f9 = some ⟨oc9, od9, .func (PySem.W.fnOf "_law_below" "_law_below" (defArgs (topS 39)) (defBody (topS 39)) (defScope (topS 39)) .none kV9 dc9 pm9 an9 cd9 ct9), sl9⟩)
    (c9 : PySem.W.codeIn K cd9 "_law_below" = true)
    (k9 : PySem.W.keepIn K (.ref f9) = true)
    (a10 : PySem.W.nsIn K mainGlobals "plain_name" = some (some (.ref f10)))
    (l10 : K.lookup f10 = some ⟨oc10, od10, .func (PySem.W.fnOf "plain_name" "plain_name" (defArgs (topS 34)) (defBody (topS 34)) (defScope (topS 34)) .none kV10 dc10 pm10 an10 cd10 ct10), sl10⟩)
    (c10 : PySem.W.codeIn K cd10 "plain_name" = true)
    (k10 : PySem.W.keepIn K (.ref f10) = true)
    (a11 : PySem.W.nsIn K mainGlobals "name_number" = some (some (.ref f11)))
    (l11 : K.lookup f11 = some ⟨oc11, od11, .func (PySem.W.fnOf "name_number" "name_number" (defArgs (topS 36)) (defBody (topS 36)) (defScope (topS 36)) .none kV11 dc11 pm11 an11 cd11 ct11), sl11⟩)
    (c11 : PySem.W.codeIn K cd11 "name_number" = true)
    (k11 : PySem.W.keepIn K (.ref f11) = true)
    (a12 : PySem.W.nsIn K mainGlobals "_law_bword" = some (some (.ref f12)))
    (l12 : K.lookup f12 = some ⟨oc12, od12, .func (PySem.W.fnOf "_law_bword" "_law_bword" (defArgs (topS 42)) (defBody (topS 42)) (defScope (topS 42)) .none kV12 dc12 pm12 an12 cd12 ct12), sl12⟩)
    (c12 : PySem.W.codeIn K cd12 "_law_bword" = true)
    (k12 : PySem.W.keepIn K (.ref f12) = true)
    (a13 : PySem.W.nsIn K mainGlobals "_law_braised" = some (some (.ref f13)))
    (l13 : K.lookup f13 = some ⟨oc13, od13, .func (PySem.W.fnOf "_law_braised" "_law_braised" (defArgs (topS 45)) (defBody (topS 45)) (defScope (topS 45)) .none kV13 dc13 pm13 an13 cd13 ct13), sl13⟩)
    (c13 : PySem.W.codeIn K cd13 "_law_braised" = true)
    (k13 : PySem.W.keepIn K (.ref f13) = true)
    (a14 : PySem.W.nsIn K mainGlobals "plain_of" = some (some (.ref f14)))
    (l14 : K.lookup f14 = some ⟨oc14, od14, .func (PySem.W.fnOf "plain_of" "plain_of" (defArgs (topS 33)) (defBody (topS 33)) (defScope (topS 33)) .none kV14 dc14 pm14 an14 cd14 ct14), sl14⟩)
    (c14 : PySem.W.codeIn K cd14 "plain_of" = true)
    (k14 : PySem.W.keepIn K (.ref f14) = true)
    (a15 : PySem.W.nsIn K mainGlobals "is_integer" = some (some (.ref f15)))
    (l15 : K.lookup f15 = some ⟨oc15, od15, .func (PySem.W.fnOf "is_integer" "is_integer" (defArgs (topS 27)) (defBody (topS 27)) (defScope (topS 27)) .none kV15 dc15 pm15 an15 cd15 ct15), sl15⟩)
    (c15 : PySem.W.codeIn K cd15 "is_integer" = true)
    (k15 : PySem.W.keepIn K (.ref f15) = true)
    (a16 : PySem.W.nsIn K mainGlobals "number_of" = some (some (.ref f16)))
    (l16 : K.lookup f16 = some ⟨oc16, od16, .func (PySem.W.fnOf "number_of" "number_of" (defArgs (topS 35)) (defBody (topS 35)) (defScope (topS 35)) .none kV16 dc16 pm16 an16 cd16 ct16), sl16⟩)
    (c16 : PySem.W.codeIn K cd16 "number_of" = true)
    (k16 : PySem.W.keepIn K (.ref f16) = true)
    (a17 : PySem.W.nsIn K mainGlobals "_law_bnamed" = some (some (.ref f17)))
    (l17 : K.lookup f17 = some ⟨oc17, od17, .func (PySem.W.fnOf "_law_bnamed" "_law_bnamed" (defArgs (topS 44)) (defBody (topS 44)) (defScope (topS 44)) .none kV17 dc17 pm17 an17 cd17 ct17), sl17⟩)
    (c17 : PySem.W.codeIn K cd17 "_law_bnamed" = true)
    (k17 : PySem.W.keepIn K (.ref f17) = true)
    (g0 : PySem.W.nsIn K mainGlobals "LETTERS" = some (some u0))
    (gv0 : flatRel (.str [97, 98, 99, 100, 101, 102, 103, 104, 105, 106, 107, 108, 109, 110, 111, 112, 113, 114, 115, 116, 117, 118, 119, 120, 121, 122]) u0 = true)
    (g1 : PySem.W.nsIn K mainGlobals "FIGURES" = some (some u1))
    (gv1 : flatRel (.str [48, 49, 50, 51, 52, 53, 54, 55, 56, 57]) u1 = true)
    (g2 : PySem.W.nsIn K mainGlobals "MOST_NUMBER" = some (some u2))
    (gv2 : flatRel (.int (999999)) u2 = true)
    (z0 : PySem.W.nsIn K mainGlobals "len" = some none)
    (z1 : PySem.W.nsIn K mainGlobals "list" = some none)
    (z2 : PySem.W.nsIn K mainGlobals "tuple" = some none)
    (z3 : PySem.W.nsIn K mainGlobals "int" = some none)
    (z4 : PySem.W.nsIn K mainGlobals "str" = some none)
    (z5 : PySem.W.nsIn K mainGlobals "all" = some none)
    (z6 : PySem.W.nsIn K mainGlobals "any" = some none)
    (z7 : PySem.W.nsIn K mainGlobals "sum" = some none)
    (z8 : PySem.W.nsIn K mainGlobals "isinstance" = some none)
    (z9 : PySem.W.nsIn K mainGlobals "bool" = some none)
    (z10 : PySem.W.nsIn K mainGlobals "dict" = some none)
    (z11 : PySem.W.nsIn K mainGlobals "range" = some none)
    (z12 : PySem.W.nsIn K mainGlobals "enumerate" = some none)
    (z13 : PySem.W.nsIn K mainGlobals "zip" = some none)
    (z14 : PySem.W.nsIn K mainGlobals "sorted" = some none)
    (z15 : PySem.W.nsIn K mainGlobals "min" = some none)
    (z16 : PySem.W.nsIn K mainGlobals "max" = some none)
    (z17 : PySem.W.nsIn K mainGlobals "ord" = some none)
    (z18 : PySem.W.nsIn K mainGlobals "type" = some none)
    (z19 : PySem.W.nsIn K mainGlobals "repr" = some none)
    (e0a : PySem.W.nsIn K mainGlobals "BadNumber" = some (some (.ref e0)))
    (e1a : PySem.W.nsIn K mainGlobals "BadName" = some (some (.ref e1)))
    (e2a : PySem.W.nsIn K mainGlobals "BadCore" = some (some (.ref e2)))
    (e3a : PySem.W.nsIn K mainGlobals "BadRow" = some (some (.ref e3)))
    (e4a : PySem.W.nsIn K mainGlobals "BadNames" = some (some (.ref e4)))
    (e5a : PySem.W.nsIn K mainGlobals "BadOther" = some (some (.ref e5)))
    (e6a : PySem.W.nsIn K mainGlobals "BadIns" = some (some (.ref e6)))
    (e7a : PySem.W.nsIn K mainGlobals "BadOuts" = some (some (.ref e7)))
    (e8a : PySem.W.nsIn K mainGlobals "BadSizes" = some (some (.ref e8)))
    (e9a : PySem.W.nsIn K mainGlobals "BadSteps" = some (some (.ref e9)))
    (e10a : PySem.W.nsIn K mainGlobals "BadEnds" = some (some (.ref e10)))
    (e11a : PySem.W.nsIn K mainGlobals "BadMany" = some (some (.ref e11)))
    (e12a : PySem.W.nsIn K mainGlobals "BadLength" = some (some (.ref e12)))
    (e13a : PySem.W.nsIn K mainGlobals "BadOrder" = some (some (.ref e13)))
    (e14a : PySem.W.nsIn K mainGlobals "BadRule" = some (some (.ref e14)))
    (e15a : PySem.W.nsIn K mainGlobals "BadSecond" = some (some (.ref e15)))
    (e16a : PySem.W.nsIn K mainGlobals "BadAt" = some (some (.ref e16)))
    (e17a : PySem.W.nsIn K mainGlobals "BadFirst" = some (some (.ref e17)))
    (e18a : PySem.W.nsIn K mainGlobals "BadLast" = some (some (.ref e18)))
    (e19a : PySem.W.nsIn K mainGlobals "BadLoaded" = some (some (.ref e19)))
    (e20a : PySem.W.nsIn K mainGlobals "TooMany" = some (some (.ref e20)))
    (e21a : PySem.W.nsIn K mainGlobals "Full" = some (some (.ref e21)))
    (e22a : PySem.W.nsIn K mainGlobals "NoBack" = some (some (.ref e22)))
    (e23a : PySem.W.nsIn K mainGlobals "NoAgain" = some (some (.ref e23)))
    (e24a : PySem.W.nsIn K mainGlobals "HeldError" = some (some (.ref e24)))
    (ehn : PySem.W.specialIn K (.builtin "object.__class__") "__get__" = some (some (.builtin "getset_descriptor.__get__")))
    (eht : PySem.W.takesIn K (.builtin "object.__class__") = some true)
    (e0l : K.lookup e0 = some (excClassObj cn0 cq0 e0 cN0 cb0 cm0 true cs0 cu0 ca0 cc0 cz0 cw0 cx0 cy0 cv0 ck0 "ValueError.__new__"))
    (e0r : PySem.HandSPX.refsVE cm0 = true)
    (e0s : PySem.W.findIn K (.ref e0) "__setattr__" = some (some (.builtin "object.__setattr__")))
    (e0b : PySem.W.subIn K (.ref e0) (.type "BaseException") = some true)
    (e0t : PySem.W.typeIn K (.ref e0) = some (.type "type"))
    (e0k : PySem.W.keepIn K (.ref e0) = true)
    (e0ga : PySem.W.findIn K (.ref e0) "__getattribute__" = some (some (.builtin "BaseException.__getattribute__")))
    (e0gt : PySem.W.findIn K (.ref e0) "__getattr__" = some none)
    (e0ha : PySem.W.findIn K (.ref e0) "__class__" = some (some (.builtin "object.__class__")))
    (e0m : PySem.W.mroIn K e0 (.type "object") = some true)
    (e0d : PySem.W.hasDictIn K e0 = true)
    (e0i : PySem.W.findIn K (.ref e0) "__init__" = some (some (.ref i0)))
    (e0it : PySem.W.typeIn K (.ref i0) = some (.type "function"))
    (e0il : K.lookup i0 = some ⟨ioc0, iod0, .func (PySem.W.fnOf "__init__" "BadNumber.__init__" (defArgs ini_BadNumber) (defBody ini_BadNumber) (defScope ini_BadNumber) .none ikV0 idc0 ipm0 ian0 icd0 ict0), isl0⟩)
    (e0ic : PySem.W.codeIn K icd0 "BadNumber.__init__" = true)
    (e0ik : PySem.W.keepIn K (.ref i0) = true)
    (e0f0 : PySem.W.findIn K (.ref e0) "thing" = some none)
    (e0f1 : PySem.W.findIn K (.ref e0) "many" = some none)
    (e0q2 : PySem.W.kitOne K (.ref e0) (.ref e2) = some false)
    (e0q3 : PySem.W.kitOne K (.ref e0) (.ref e3) = some false)
    (e0q4 : PySem.W.kitOne K (.ref e0) (.ref e4) = some false)
    (e0q0 : PySem.W.kitOne K (.ref e0) (.ref e0) = some true)
    (e0q1 : PySem.W.kitOne K (.ref e0) (.ref e1) = some false)
    (e0q5 : PySem.W.kitOne K (.ref e0) (.ref e5) = some false)
    (e0q6 : PySem.W.kitOne K (.ref e0) (.ref e6) = some false)
    (e0q7 : PySem.W.kitOne K (.ref e0) (.ref e7) = some false)
    (e0q8 : PySem.W.kitOne K (.ref e0) (.ref e8) = some false)
    (e0q9 : PySem.W.kitOne K (.ref e0) (.ref e9) = some false)
    (e0q10 : PySem.W.kitOne K (.ref e0) (.ref e10) = some false)
    (e0q11 : PySem.W.kitOne K (.ref e0) (.ref e11) = some false)
    (e0q12 : PySem.W.kitOne K (.ref e0) (.ref e12) = some false)
    (e0q13 : PySem.W.kitOne K (.ref e0) (.ref e13) = some false)
    (e0q14 : PySem.W.kitOne K (.ref e0) (.ref e14) = some false)
    (e0q15 : PySem.W.kitOne K (.ref e0) (.ref e15) = some false)
    (e0q16 : PySem.W.kitOne K (.ref e0) (.ref e16) = some false)
    (e0q17 : PySem.W.kitOne K (.ref e0) (.ref e17) = some false)
    (e0q18 : PySem.W.kitOne K (.ref e0) (.ref e18) = some false)
    (e0q19 : PySem.W.kitOne K (.ref e0) (.ref e19) = some false)
    (e0q20 : PySem.W.kitOne K (.ref e0) (.ref e20) = some false)
    (e0q21 : PySem.W.kitOne K (.ref e0) (.ref e21) = some false)
    (e0q22 : PySem.W.kitOne K (.ref e0) (.ref e22) = some false)
    (e0q23 : PySem.W.kitOne K (.ref e0) (.ref e23) = some false)
    (e0x24 : PySem.W.exmOne K (.ref e0) (.ref e24) = some true)
    (e1l : K.lookup e1 = some (excClassObj cn1 cq1 e1 cN1 cb1 cm1 true cs1 cu1 ca1 cc1 cz1 cw1 cx1 cy1 cv1 ck1 "ValueError.__new__"))
    (e1r : PySem.HandSPX.refsVE cm1 = true)
    (e1s : PySem.W.findIn K (.ref e1) "__setattr__" = some (some (.builtin "object.__setattr__")))
    (e1b : PySem.W.subIn K (.ref e1) (.type "BaseException") = some true)
    (e1t : PySem.W.typeIn K (.ref e1) = some (.type "type"))
    (e1k : PySem.W.keepIn K (.ref e1) = true)
    (e1ga : PySem.W.findIn K (.ref e1) "__getattribute__" = some (some (.builtin "BaseException.__getattribute__")))
    (e1gt : PySem.W.findIn K (.ref e1) "__getattr__" = some none)
    (e1ha : PySem.W.findIn K (.ref e1) "__class__" = some (some (.builtin "object.__class__")))
    (e1m : PySem.W.mroIn K e1 (.type "object") = some true)
    (e1d : PySem.W.hasDictIn K e1 = true)
    (e1i : PySem.W.findIn K (.ref e1) "__init__" = some (some (.ref i1)))
    (e1it : PySem.W.typeIn K (.ref i1) = some (.type "function"))
    (e1il : K.lookup i1 = some ⟨ioc1, iod1, .func (PySem.W.fnOf "__init__" "BadName.__init__" (defArgs ini_BadName) (defBody ini_BadName) (defScope ini_BadName) .none ikV1 idc1 ipm1 ian1 icd1 ict1), isl1⟩)
    (e1ic : PySem.W.codeIn K icd1 "BadName.__init__" = true)
    (e1ik : PySem.W.keepIn K (.ref i1) = true)
    (e1f0 : PySem.W.findIn K (.ref e1) "thing" = some none)
    (e1f1 : PySem.W.findIn K (.ref e1) "many" = some none)
    (e1q2 : PySem.W.kitOne K (.ref e1) (.ref e2) = some false)
    (e1q3 : PySem.W.kitOne K (.ref e1) (.ref e3) = some false)
    (e1q4 : PySem.W.kitOne K (.ref e1) (.ref e4) = some false)
    (e1q0 : PySem.W.kitOne K (.ref e1) (.ref e0) = some false)
    (e1q1 : PySem.W.kitOne K (.ref e1) (.ref e1) = some true)
    (e1q5 : PySem.W.kitOne K (.ref e1) (.ref e5) = some false)
    (e1q6 : PySem.W.kitOne K (.ref e1) (.ref e6) = some false)
    (e1q7 : PySem.W.kitOne K (.ref e1) (.ref e7) = some false)
    (e1q8 : PySem.W.kitOne K (.ref e1) (.ref e8) = some false)
    (e1q9 : PySem.W.kitOne K (.ref e1) (.ref e9) = some false)
    (e1q10 : PySem.W.kitOne K (.ref e1) (.ref e10) = some false)
    (e1q11 : PySem.W.kitOne K (.ref e1) (.ref e11) = some false)
    (e1q12 : PySem.W.kitOne K (.ref e1) (.ref e12) = some false)
    (e1q13 : PySem.W.kitOne K (.ref e1) (.ref e13) = some false)
    (e1q14 : PySem.W.kitOne K (.ref e1) (.ref e14) = some false)
    (e1q15 : PySem.W.kitOne K (.ref e1) (.ref e15) = some false)
    (e1q16 : PySem.W.kitOne K (.ref e1) (.ref e16) = some false)
    (e1q17 : PySem.W.kitOne K (.ref e1) (.ref e17) = some false)
    (e1q18 : PySem.W.kitOne K (.ref e1) (.ref e18) = some false)
    (e1q19 : PySem.W.kitOne K (.ref e1) (.ref e19) = some false)
    (e1q20 : PySem.W.kitOne K (.ref e1) (.ref e20) = some false)
    (e1q21 : PySem.W.kitOne K (.ref e1) (.ref e21) = some false)
    (e1q22 : PySem.W.kitOne K (.ref e1) (.ref e22) = some false)
    (e1q23 : PySem.W.kitOne K (.ref e1) (.ref e23) = some false)
    (e1x24 : PySem.W.exmOne K (.ref e1) (.ref e24) = some true) :
    (∀ i ∈ defs, DefIn K mg i) ∧ (∀ x d, glos x = some d → GloIn K mg x d) ∧ (∀ b ∈ blts, mg (Str.ofString b) = none) ∧ ErrsIn K mg pg ∧ ∃ fd, L2.Fun K "law" "law" (topS 49) f0 fd ∧ mg "law" = some (.ref f0) ∧ (∀ (s : Shared) (u : Value), BindsTo s fd ⟨[u], []⟩ [("script", u)]) ∧ fd.code = cd0 := by
  refine ⟨?_, ?_, ?_, ?_, _, fun_mk (st := topS 49) l0 c0 k0, PySem.W.mg_of X G a0, fun s u => .of_eq rfl, rfl⟩
  · intro i hi
    simp only [defs, List.mem_cons, List.not_mem_nil, or_false] at hi
    rcases hi with rfl | rfl | rfl | rfl | rfl | rfl | rfl | rfl | rfl | rfl | rfl | rfl | rfl | rfl | rfl | rfl | rfl | rfl
    · exact defIn_of (i := di_law) (fun_mk (st := topS 49) l0 c0 k0) (PySem.W.mg_of X G a0) ((fun_mk (st := topS 49) l0 c0 k0).binds (ps := ["script"]) fun _ _ _ _ _ _ us hl => match us, hl with | [_], _ => rfl) (fun z => nomatch z)
    · exact defIn_of (i := di_law_start) (fun_mk (st := topS 38) l1 c1 k1) (PySem.W.mg_of X G a1) ((fun_mk (st := topS 38) l1 c1 k1).binds (ps := ["script"]) fun _ _ _ _ _ _ us hl => match us, hl with | [_], _ => rfl) (fun z => nomatch z)
    · exact defIn_of (i := di_law_bnear_name) (fun_mk (st := topS 47) l2 c2 k2) (PySem.W.mg_of X G a2) ((fun_mk (st := topS 47) l2 c2 k2).binds (ps := ["stream"]) fun _ _ _ _ _ _ us hl => match us, hl with | [_], _ => rfl) (fun z => nomatch z)
    · exact defIn_of (i := di_law_pick) (fun_mk (st := topS 40) l3 c3 k3) (PySem.W.mg_of X G a3) ((fun_mk (st := topS 40) l3 c3 k3).binds (ps := ["stream", "some"]) fun _ _ _ _ _ _ us hl => match us, hl with | [_, _], _ => rfl) (fun z => nomatch z)
    · exact defIn_of (i := di_law_bplain_name) (fun_mk (st := topS 43) l4 c4 k4) (PySem.W.mg_of X G a4) ((fun_mk (st := topS 43) l4 c4 k4).binds (ps := ["number"]) fun _ _ _ _ _ _ us hl => match us, hl with | [_], _ => rfl) (fun z => nomatch z)
    · exact defIn_of (i := di_law_same) (fun_mk (st := topS 41) l5 c5 k5) (PySem.W.mg_of X G a5) ((fun_mk (st := topS 41) l5 c5 k5).binds (ps := ["found", "due"]) fun _ _ _ _ _ _ us hl => match us, hl with | [_, _], _ => rfl) (fun z => nomatch z)
    · exact defIn_of (i := di_law_brefuses) (fun_mk (st := topS 46) l6 c6 k6) (PySem.W.mg_of X G a6) ((fun_mk (st := topS 46) l6 c6 k6).binds (ps := ["word", "thing", "call"]) fun _ _ _ _ _ _ us hl => match us, hl with | [_, _, _], _ => rfl) (fun z => nomatch z)
    · exact defIn_of (i := di_is_name) (fun_mk (st := topS 32) l7 c7 k7) (PySem.W.mg_of X G a7) ((fun_mk (st := topS 32) l7 c7 k7).binds (ps := ["thing"]) fun _ _ _ _ _ _ us hl => match us, hl with | [_], _ => rfl) (fun z => nomatch z)
    · exact defIn_of (i := di_law_bis_name) (fun_mk (st := topS 48) l8 c8 k8) (PySem.W.mg_of X G a8) ((fun_mk (st := topS 48) l8 c8 k8).binds (ps := ["word"]) fun _ _ _ _ _ _ us hl => match us, hl with | [_], _ => rfl) (fun z => nomatch z)
    · exact defIn_of (i := di_law_below) (fun_mk (st := topS 39) l9 c9 k9) (PySem.W.mg_of X G a9) ((fun_mk (st := topS 39) l9 c9 k9).binds (ps := ["stream", "many"]) fun _ _ _ _ _ _ us hl => match us, hl with | [_, _], _ => rfl) (fun z => nomatch z)
    · exact defIn_of (i := di_plain_name) (fun_mk (st := topS 34) l10 c10 k10) (PySem.W.mg_of X G a10) ((fun_mk (st := topS 34) l10 c10 k10).binds (ps := ["number"]) fun _ _ _ _ _ _ us hl => match us, hl with | [_], _ => rfl) (fun z => nomatch z)
    · exact defIn_of (i := di_name_number) (fun_mk (st := topS 36) l11 c11 k11) (PySem.W.mg_of X G a11) ((fun_mk (st := topS 36) l11 c11 k11).binds (ps := ["name"]) fun _ _ _ _ _ _ us hl => match us, hl with | [_], _ => rfl) (fun z => nomatch z)
    · exact defIn_of (i := di_law_bword) (fun_mk (st := topS 42) l12 c12 k12) (PySem.W.mg_of X G a12) ((fun_mk (st := topS 42) l12 c12 k12).binds (ps := ["stream", "most"]) fun _ _ _ _ _ _ us hl => match us, hl with | [_, _], _ => rfl) (fun z => nomatch z)
    · exact defIn_of (i := di_law_braised) (fun_mk (st := topS 45) l13 c13 k13) (PySem.W.mg_of X G a13) ((fun_mk (st := topS 45) l13 c13 k13).binds (ps := ["call"]) fun _ _ _ _ _ _ us hl => match us, hl with | [_], _ => rfl) (fun z => nomatch z)
    · exact defIn_of (i := di_plain_of) (fun_mk (st := topS 33) l14 c14 k14) (PySem.W.mg_of X G a14) ((fun_mk (st := topS 33) l14 c14 k14).binds (ps := ["number"]) fun _ _ _ _ _ _ us hl => match us, hl with | [_], _ => rfl) (fun z => nomatch z)
    · exact defIn_of (i := di_is_integer) (fun_mk (st := topS 27) l15 c15 k15) (PySem.W.mg_of X G a15) ((fun_mk (st := topS 27) l15 c15 k15).binds (ps := ["thing"]) fun _ _ _ _ _ _ us hl => match us, hl with | [_], _ => rfl) (fun z => nomatch z)
    · exact defIn_of (i := di_number_of) (fun_mk (st := topS 35) l16 c16 k16) (PySem.W.mg_of X G a16) ((fun_mk (st := topS 35) l16 c16 k16).binds (ps := ["name"]) fun _ _ _ _ _ _ us hl => match us, hl with | [_], _ => rfl) (fun z => nomatch z)
    · exact defIn_of (i := di_law_bnamed) (fun_mk (st := topS 44) l17 c17 k17) (PySem.W.mg_of X G a17) ((fun_mk (st := topS 44) l17 c17 k17).binds (ps := ["e"]) fun _ _ _ _ _ _ us hl => match us, hl with | [_], _ => rfl) (fun z => nomatch z)
  · intro x d e
    unfold glos at e
    split at e
    · cases e; exact glo_flat (PySem.W.mg_of X G g0) gv0
    · cases e; exact glo_flat (PySem.W.mg_of X G g1) gv1
    · cases e; exact glo_flat (PySem.W.mg_of X G g2) gv2
    · cases e
  · intro b hb
    simp only [blts, List.mem_cons, List.not_mem_nil, or_false] at hb
    rcases hb with rfl | rfl | rfl | rfl | rfl | rfl | rfl | rfl | rfl | rfl | rfl | rfl | rfl | rfl | rfl | rfl | rfl | rfl | rfl | rfl
    · exact PySem.W.mg_none_of X G z0
    · exact PySem.W.mg_none_of X G z1
    · exact PySem.W.mg_none_of X G z2
    · exact PySem.W.mg_none_of X G z3
    · exact PySem.W.mg_none_of X G z4
    · exact PySem.W.mg_none_of X G z5
    · exact PySem.W.mg_none_of X G z6
    · exact PySem.W.mg_none_of X G z7
    · exact PySem.W.mg_none_of X G z8
    · exact PySem.W.mg_none_of X G z9
    · exact PySem.W.mg_none_of X G z10
    · exact PySem.W.mg_none_of X G z11
    · exact PySem.W.mg_none_of X G z12
    · exact PySem.W.mg_none_of X G z13
    · exact PySem.W.mg_none_of X G z14
    · exact PySem.W.mg_none_of X G z15
    · exact PySem.W.mg_none_of X G z16
    · exact PySem.W.mg_none_of X G z17
    · exact PySem.W.mg_none_of X G z18
    · exact PySem.W.mg_none_of X G z19
  · have o0 : L2.OexC K e0 := ⟨⟨_, _, _, _, _, _, _, _, _, _, _, _, _, _, _, e0l, e0r⟩, e0s, e0b, e0t, e0k⟩
    have o1 : L2.OexC K e1 := ⟨⟨_, _, _, _, _, _, _, _, _, _, _, _, _, _, _, e1l, e1r⟩, e1s, e1b, e1t, e1k⟩
    have ex := errX_mk (K := K) (mg := mg) (sub := pg.sub) (xf := pg.xf) [("BadNumber", e0), ("BadName", e1)] [("BadCore", e2), ("BadRow", e3), ("BadNames", e4), ("BadNumber", e0), ("BadName", e1), ("BadOther", e5), ("BadIns", e6), ("BadOuts", e7), ("BadSizes", e8), ("BadSteps", e9), ("BadEnds", e10), ("BadMany", e11), ("BadLength", e12), ("BadOrder", e13), ("BadRule", e14), ("BadSecond", e15), ("BadAt", e16), ("BadFirst", e17), ("BadLast", e18), ("BadLoaded", e19), ("TooMany", e20), ("Full", e21), ("NoBack", e22), ("NoAgain", e23)] [("HeldError", e24)]
      (all_cons (PySem.W.mg_of X G e0a) (all_cons (PySem.W.mg_of X G e1a) all_nil))
      (all_cons (PySem.W.mg_of X G e2a) (all_cons (PySem.W.mg_of X G e3a) (all_cons (PySem.W.mg_of X G e4a) (all_cons (PySem.W.mg_of X G e0a) (all_cons (PySem.W.mg_of X G e1a) (all_cons (PySem.W.mg_of X G e5a) (all_cons (PySem.W.mg_of X G e6a) (all_cons (PySem.W.mg_of X G e7a) (all_cons (PySem.W.mg_of X G e8a) (all_cons (PySem.W.mg_of X G e9a) (all_cons (PySem.W.mg_of X G e10a) (all_cons (PySem.W.mg_of X G e11a) (all_cons (PySem.W.mg_of X G e12a) (all_cons (PySem.W.mg_of X G e13a) (all_cons (PySem.W.mg_of X G e14a) (all_cons (PySem.W.mg_of X G e15a) (all_cons (PySem.W.mg_of X G e16a) (all_cons (PySem.W.mg_of X G e17a) (all_cons (PySem.W.mg_of X G e18a) (all_cons (PySem.W.mg_of X G e19a) (all_cons (PySem.W.mg_of X G e20a) (all_cons (PySem.W.mg_of X G e21a) (all_cons (PySem.W.mg_of X G e22a) (all_cons (PySem.W.mg_of X G e23a) all_nil))))))))))))))))))))))))
      (all_cons (PySem.W.mg_of X G e24a) all_nil)
      (all_cons (⟨⟨oex_cls o0, e0ga, e0gt, e0b, e0ha, ehn, eht, e0m⟩, e0d, all_cons e0f1 (all_cons e0f0 all_nil)⟩) (all_cons (⟨⟨oex_cls o1, e1ga, e1gt, e1b, e1ha, ehn, eht, e1m⟩, e1d, all_cons e1f1 (all_cons e1f0 all_nil)⟩) all_nil))
      (all_cons (all_cons (kit_b e0q2 (show ("BadNumber" == "BadCore") = false from by decide)) (all_cons (kit_b e0q3 (show ("BadNumber" == "BadRow") = false from by decide)) (all_cons (kit_b e0q4 (show ("BadNumber" == "BadNames") = false from by decide)) (all_cons (kit_b e0q0 (show ("BadNumber" == "BadNumber") = true from by decide)) (all_cons (kit_b e0q1 (show ("BadNumber" == "BadName") = false from by decide)) (all_cons (kit_b e0q5 (show ("BadNumber" == "BadOther") = false from by decide)) (all_cons (kit_b e0q6 (show ("BadNumber" == "BadIns") = false from by decide)) (all_cons (kit_b e0q7 (show ("BadNumber" == "BadOuts") = false from by decide)) (all_cons (kit_b e0q8 (show ("BadNumber" == "BadSizes") = false from by decide)) (all_cons (kit_b e0q9 (show ("BadNumber" == "BadSteps") = false from by decide)) (all_cons (kit_b e0q10 (show ("BadNumber" == "BadEnds") = false from by decide)) (all_cons (kit_b e0q11 (show ("BadNumber" == "BadMany") = false from by decide)) (all_cons (kit_b e0q12 (show ("BadNumber" == "BadLength") = false from by decide)) (all_cons (kit_b e0q13 (show ("BadNumber" == "BadOrder") = false from by decide)) (all_cons (kit_b e0q14 (show ("BadNumber" == "BadRule") = false from by decide)) (all_cons (kit_b e0q15 (show ("BadNumber" == "BadSecond") = false from by decide)) (all_cons (kit_b e0q16 (show ("BadNumber" == "BadAt") = false from by decide)) (all_cons (kit_b e0q17 (show ("BadNumber" == "BadFirst") = false from by decide)) (all_cons (kit_b e0q18 (show ("BadNumber" == "BadLast") = false from by decide)) (all_cons (kit_b e0q19 (show ("BadNumber" == "BadLoaded") = false from by decide)) (all_cons (kit_b e0q20 (show ("BadNumber" == "TooMany") = false from by decide)) (all_cons (kit_b e0q21 (show ("BadNumber" == "Full") = false from by decide)) (all_cons (kit_b e0q22 (show ("BadNumber" == "NoBack") = false from by decide)) (all_cons (kit_b e0q23 (show ("BadNumber" == "NoAgain") = false from by decide)) all_nil)))))))))))))))))))))))) (all_cons (all_cons (kit_b e1q2 (show ("BadName" == "BadCore") = false from by decide)) (all_cons (kit_b e1q3 (show ("BadName" == "BadRow") = false from by decide)) (all_cons (kit_b e1q4 (show ("BadName" == "BadNames") = false from by decide)) (all_cons (kit_b e1q0 (show ("BadName" == "BadNumber") = false from by decide)) (all_cons (kit_b e1q1 (show ("BadName" == "BadName") = true from by decide)) (all_cons (kit_b e1q5 (show ("BadName" == "BadOther") = false from by decide)) (all_cons (kit_b e1q6 (show ("BadName" == "BadIns") = false from by decide)) (all_cons (kit_b e1q7 (show ("BadName" == "BadOuts") = false from by decide)) (all_cons (kit_b e1q8 (show ("BadName" == "BadSizes") = false from by decide)) (all_cons (kit_b e1q9 (show ("BadName" == "BadSteps") = false from by decide)) (all_cons (kit_b e1q10 (show ("BadName" == "BadEnds") = false from by decide)) (all_cons (kit_b e1q11 (show ("BadName" == "BadMany") = false from by decide)) (all_cons (kit_b e1q12 (show ("BadName" == "BadLength") = false from by decide)) (all_cons (kit_b e1q13 (show ("BadName" == "BadOrder") = false from by decide)) (all_cons (kit_b e1q14 (show ("BadName" == "BadRule") = false from by decide)) (all_cons (kit_b e1q15 (show ("BadName" == "BadSecond") = false from by decide)) (all_cons (kit_b e1q16 (show ("BadName" == "BadAt") = false from by decide)) (all_cons (kit_b e1q17 (show ("BadName" == "BadFirst") = false from by decide)) (all_cons (kit_b e1q18 (show ("BadName" == "BadLast") = false from by decide)) (all_cons (kit_b e1q19 (show ("BadName" == "BadLoaded") = false from by decide)) (all_cons (kit_b e1q20 (show ("BadName" == "TooMany") = false from by decide)) (all_cons (kit_b e1q21 (show ("BadName" == "Full") = false from by decide)) (all_cons (kit_b e1q22 (show ("BadName" == "NoBack") = false from by decide)) (all_cons (kit_b e1q23 (show ("BadName" == "NoAgain") = false from by decide)) all_nil)))))))))))))))))))))))) all_nil))
      (all_cons (all_cons (exm_b e0x24 (show pg.sub "BadNumber" "HeldError" = true from by decide +kernel)) all_nil) (all_cons (all_cons (exm_b e1x24 (show pg.sub "BadName" "HeldError" = true from by decide +kernel)) all_nil) all_nil))
    refine ⟨fun _ => ex, fun c fs hc => ?_, fun _ => ex⟩
    simp only [pg] at hc
    split at hc
    · cases hc
      refine ⟨by decide, e0, PySem.W.mg_of X G e0a, o0, ⟨i0, _, _, _, ini_BadNumber, ["self", "thing"], ["thing"], e0i, e0it, fun_mk (st := ini_BadNumber) e0il e0ic e0ik, by decide +kernel, (fun_mk (st := ini_BadNumber) e0il e0ic e0ik).binds (ps := ["self", "thing"]) fun _ _ _ _ _ _ us hl => match us, hl with | [_, _], _ => rfl⟩, all_cons e0f0 all_nil⟩
    · cases hc
      refine ⟨by decide, e1, PySem.W.mg_of X G e1a, o1, ⟨i1, _, _, _, ini_BadName, ["self", "thing"], ["thing"], e1i, e1it, fun_mk (st := ini_BadName) e1il e1ic e1ik, by decide +kernel, (fun_mk (st := ini_BadName) e1il e1ic e1ik).binds (ps := ["self", "thing"]) fun _ _ _ _ _ _ us hl => match us, hl with | [_, _], _ => rfl⟩, all_cons e1f0 all_nil⟩
    · cases hc
theorem ok_law : di_law.ok pg = true := by decide +kernel
theorem ok_law_start : di_law_start.ok pg = true := by decide +kernel
theorem ok_law_bnear_name : di_law_bnear_name.ok pg = true := by decide +kernel
theorem ok_law_pick : di_law_pick.ok pg = true := by decide +kernel
theorem ok_law_bplain_name : di_law_bplain_name.ok pg = true := by decide +kernel
theorem ok_law_same : di_law_same.ok pg = true := by decide +kernel
theorem ok_law_brefuses : di_law_brefuses.ok pg = true := by decide +kernel
theorem ok_is_name : di_is_name.ok pg = true := by decide +kernel
theorem ok_law_bis_name : di_law_bis_name.ok pg = true := by decide +kernel
theorem ok_law_below : di_law_below.ok pg = true := by decide +kernel
theorem ok_plain_name : di_plain_name.ok pg = true := by decide +kernel
theorem ok_name_number : di_name_number.ok pg = true := by decide +kernel
theorem ok_law_bword : di_law_bword.ok pg = true := by decide +kernel
theorem ok_law_braised : di_law_braised.ok pg = true := by decide +kernel
theorem ok_plain_of : di_plain_of.ok pg = true := by decide +kernel
theorem ok_is_integer : di_is_integer.ok pg = true := by decide +kernel
theorem ok_number_of : di_number_of.ok pg = true := by decide +kernel
theorem ok_law_bnamed : di_law_bnamed.ok pg = true := by decide +kernel
theorem ok_all : ∀ i ∈ pg.L, i.ok pg = true := by
  intro i hi
  simp only [pg, defs, List.mem_cons, List.not_mem_nil, or_false] at hi
  rcases hi with rfl | rfl | rfl | rfl | rfl | rfl | rfl | rfl | rfl | rfl | rfl | rfl | rfl | rfl | rfl | rfl | rfl | rfl
  · exact ok_law
  · exact ok_law_start
  · exact ok_law_bnear_name
  · exact ok_law_pick
  · exact ok_law_bplain_name
  · exact ok_law_same
  · exact ok_law_brefuses
  · exact ok_is_name
  · exact ok_law_bis_name
  · exact ok_law_below
  · exact ok_plain_name
  · exact ok_name_number
  · exact ok_law_bword
  · exact ok_law_braised
  · exact ok_plain_of
  · exact ok_is_integer
  · exact ok_number_of
  · exact ok_law_bnamed
theorem find_all : ∀ i ∈ pg.L, pg.L.find? (·.f == i.f) = some i := by
  intro i hi
  simp only [pg, defs, List.mem_cons, List.not_mem_nil, or_false] at hi
  rcases hi with rfl | rfl | rfl | rfl | rfl | rfl | rfl | rfl | rfl | rfl | rfl | rfl | rfl | rfl | rfl | rfl | rfl | rfl
  · rfl
  · rfl
  · rfl
  · rfl
  · rfl
  · rfl
  · rfl
  · rfl
  · rfl
  · rfl
  · rfl
  · rfl
  · rfl
  · rfl
  · rfl
  · rfl
  · rfl
  · rfl
theorem law_fin {l : PySem.W.OpenLaw} {w : World} {K : PySem.W.Frag} {h : Heap} {mg : Str → Option Value} {fa : Addr} (X : K.In h) (G : h.Ns mainGlobals mg) (hmg : mg "law" = some (.ref fa)) (own : LamX.OwnTab K fa h)
    {f0 : Addr} {od0 an0 : Option Addr} {sl0 : Array (Option Value)} {oc0 kV0 dc0 pm0 cd0 ct0 : Value}
    {f1 : Addr} {od1 an1 : Option Addr} {sl1 : Array (Option Value)} {oc1 kV1 dc1 pm1 cd1 ct1 : Value}
    {f2 : Addr} {od2 an2 : Option Addr} {sl2 : Array (Option Value)} {oc2 kV2 dc2 pm2 cd2 ct2 : Value}
    {f3 : Addr} {od3 an3 : Option Addr} {sl3 : Array (Option Value)} {oc3 kV3 dc3 pm3 cd3 ct3 : Value}
    {f4 : Addr} {od4 an4 : Option Addr} {sl4 : Array (Option Value)} {oc4 kV4 dc4 pm4 cd4 ct4 : Value}
    {f5 : Addr} {od5 an5 : Option Addr} {sl5 : Array (Option Value)} {oc5 kV5 dc5 pm5 cd5 ct5 : Value}
    {f6 : Addr} {od6 an6 : Option Addr} {sl6 : Array (Option Value)} {oc6 kV6 dc6 pm6 cd6 ct6 : Value}
    {f7 : Addr} {od7 an7 : Option Addr} {sl7 : Array (Option Value)} {oc7 kV7 dc7 pm7 cd7 ct7 : Value}
    {f8 : Addr} {od8 an8 : Option Addr} {sl8 : Array (Option Value)} {oc8 kV8 dc8 pm8 cd8 ct8 : Value}
    {f9 : Addr} {od9 an9 : Option Addr} {sl9 : Array (Option Value)} {oc9 kV9 dc9 pm9 cd9 ct9 : Value}
    {f10 : Addr} {od10 an10 : Option Addr} {sl10 : Array (Option Value)} {oc10 kV10 dc10 pm10 cd10 ct10 : Value}
    {f11 : Addr} {od11 an11 : Option Addr} {sl11 : Array (Option Value)} {oc11 kV11 dc11 pm11 cd11 ct11 : Value}
    {f12 : Addr} {od12 an12 : Option Addr} {sl12 : Array (Option Value)} {oc12 kV12 dc12 pm12 cd12 ct12 : Value}
    {f13 : Addr} {od13 an13 : Option Addr} {sl13 : Array (Option Value)} {oc13 kV13 dc13 pm13 cd13 ct13 : Value}
    {f14 : Addr} {od14 an14 : Option Addr} {sl14 : Array (Option Value)} {oc14 kV14 dc14 pm14 cd14 ct14 : Value}
    {f15 : Addr} {od15 an15 : Option Addr} {sl15 : Array (Option Value)} {oc15 kV15 dc15 pm15 cd15 ct15 : Value}
    {f16 : Addr} {od16 an16 : Option Addr} {sl16 : Array (Option Value)} {oc16 kV16 dc16 pm16 cd16 ct16 : Value}
    {f17 : Addr} {od17 an17 : Option Addr} {sl17 : Array (Option Value)} {oc17 kV17 dc17 pm17 cd17 ct17 : Value}
    {u0 : Value}
    {u1 : Value}
    {u2 : Value}
    {e0 : Addr}
    {e1 : Addr}
    {e2 : Addr}
    {e3 : Addr}
    {e4 : Addr}
    {e5 : Addr}
    {e6 : Addr}
    {e7 : Addr}
    {e8 : Addr}
    {e9 : Addr}
    {e10 : Addr}
    {e11 : Addr}
    {e12 : Addr}
    {e13 : Addr}
    {e14 : Addr}
    {e15 : Addr}
    {e16 : Addr}
    {e17 : Addr}
    {e18 : Addr}
    {e19 : Addr}
    {e20 : Addr}
    {e21 : Addr}
    {e22 : Addr}
    {e23 : Addr}
    {e24 : Addr}
    {cn0 cq0 : Str} {cN0 : Addr} {cb0 cm0 : List Value} {cs0 : List Str} {cu0 : List Value} {ca0 : Bool} {cc0 : Option Bool} {cz0 : Option Addr} {cw0 cx0 cy0 cv0 ck0 : Option Value} {i0 : Addr} {iod0 ian0 : Option Addr} {isl0 : Array (Option Value)} {ioc0 ikV0 idc0 ipm0 icd0 ict0 : Value}
    {cn1 cq1 : Str} {cN1 : Addr} {cb1 cm1 : List Value} {cs1 : List Str} {cu1 : List Value} {ca1 : Bool} {cc1 : Option Bool} {cz1 : Option Addr} {cw1 cx1 cy1 cv1 ck1 : Option Value} {i1 : Addr} {iod1 ian1 : Option Addr} {isl1 : Array (Option Value)} {ioc1 ikV1 idc1 ipm1 icd1 ict1 : Value}
    (a0 : PySem.W.nsIn K mainGlobals "law" = some (some (.ref f0)))
    (l0 : K.lookup f0 = some ⟨oc0, od0, .func (PySem.W.fnOf "law" "law" (defArgs (topS 49)) (defBody (topS 49)) (defScope (topS 49)) .none kV0 dc0 pm0 an0 cd0 ct0), sl0⟩)
    (c0 : PySem.W.codeIn K cd0 "law" = true)
    (k0 : PySem.W.keepIn K (.ref f0) = true)
    (a1 : PySem.W.nsIn K mainGlobals "_law_start" = some (some (.ref f1)))
    (l1 : K.lookup f1 = some ⟨oc1, od1, .func (PySem.W.fnOf "_law_start" "_law_start" (defArgs (topS 38)) (defBody (topS 38)) (defScope (topS 38)) .none kV1 dc1 pm1 an1 cd1 ct1), sl1⟩)
    (c1 : PySem.W.codeIn K cd1 "_law_start" = true)
    (k1 : PySem.W.keepIn K (.ref f1) = true)
    (a2 : PySem.W.nsIn K mainGlobals "_law_bnear_name" = some (some (.ref f2)))
    (l2 : K.lookup f2 = some ⟨oc2, od2, .func (PySem.W.fnOf "_law_bnear_name" "_law_bnear_name" (defArgs (topS 47)) (defBody (topS 47)) (defScope (topS 47)) .none kV2 dc2 pm2 an2 cd2 ct2), sl2⟩)
    (c2 : PySem.W.codeIn K cd2 "_law_bnear_name" = true)
    (k2 : PySem.W.keepIn K (.ref f2) = true)
    (a3 : PySem.W.nsIn K mainGlobals "_law_pick" = some (some (.ref f3)))
    (l3 : K.lookup f3 = some ⟨oc3, od3, .func (PySem.W.fnOf "_law_pick" "_law_pick" (defArgs (topS 40)) (defBody (topS 40)) (defScope (topS 40)) .none kV3 dc3 pm3 an3 cd3 ct3), sl3⟩)
    (c3 : PySem.W.codeIn K cd3 "_law_pick" = true)
    (k3 : PySem.W.keepIn K (.ref f3) = true)
    (a4 : PySem.W.nsIn K mainGlobals "_law_bplain_name" = some (some (.ref f4)))
    (l4 : K.lookup f4 = some ⟨oc4, od4, .func (PySem.W.fnOf "_law_bplain_name" "_law_bplain_name" (defArgs (topS 43)) (defBody (topS 43)) (defScope (topS 43)) .none kV4 dc4 pm4 an4 cd4 ct4), sl4⟩)
    (c4 : PySem.W.codeIn K cd4 "_law_bplain_name" = true)
    (k4 : PySem.W.keepIn K (.ref f4) = true)
    (a5 : PySem.W.nsIn K mainGlobals "_law_same" = some (some (.ref f5)))
    (l5 : K.lookup f5 = some ⟨oc5, od5, .func (PySem.W.fnOf "_law_same" "_law_same" (defArgs (topS 41)) (defBody (topS 41)) (defScope (topS 41)) .none kV5 dc5 pm5 an5 cd5 ct5), sl5⟩)
    (c5 : PySem.W.codeIn K cd5 "_law_same" = true)
    (k5 : PySem.W.keepIn K (.ref f5) = true)
    (a6 : PySem.W.nsIn K mainGlobals "_law_brefuses" = some (some (.ref f6)))
    (l6 : K.lookup f6 = some ⟨oc6, od6, .func (PySem.W.fnOf "_law_brefuses" "_law_brefuses" (defArgs (topS 46)) (defBody (topS 46)) (defScope (topS 46)) .none kV6 dc6 pm6 an6 cd6 ct6), sl6⟩)
    (c6 : PySem.W.codeIn K cd6 "_law_brefuses" = true)
    (k6 : PySem.W.keepIn K (.ref f6) = true)
    (a7 : PySem.W.nsIn K mainGlobals "is_name" = some (some (.ref f7)))
    (l7 : K.lookup f7 = some ⟨oc7, od7, .func (PySem.W.fnOf "is_name" "is_name" (defArgs (topS 32)) (defBody (topS 32)) (defScope (topS 32)) .none kV7 dc7 pm7 an7 cd7 ct7), sl7⟩)
    (c7 : PySem.W.codeIn K cd7 "is_name" = true)
    (k7 : PySem.W.keepIn K (.ref f7) = true)
    (a8 : PySem.W.nsIn K mainGlobals "_law_bis_name" = some (some (.ref f8)))
    (l8 : K.lookup f8 = some ⟨oc8, od8, .func (PySem.W.fnOf "_law_bis_name" "_law_bis_name" (defArgs (topS 48)) (defBody (topS 48)) (defScope (topS 48)) .none kV8 dc8 pm8 an8 cd8 ct8), sl8⟩)
    (c8 : PySem.W.codeIn K cd8 "_law_bis_name" = true)
    (k8 : PySem.W.keepIn K (.ref f8) = true)
    (a9 : PySem.W.nsIn K mainGlobals "_law_below" = some (some (.ref f9)))
    (l9 : K.lookup f9 = some ⟨oc9, od9, .func (PySem.W.fnOf "_law_below" "_law_below" (defArgs (topS 39)) (defBody (topS 39)) (defScope (topS 39)) .none kV9 dc9 pm9 an9 cd9 ct9), sl9⟩)
    (c9 : PySem.W.codeIn K cd9 "_law_below" = true)
    (k9 : PySem.W.keepIn K (.ref f9) = true)
    (a10 : PySem.W.nsIn K mainGlobals "plain_name" = some (some (.ref f10)))
    (l10 : K.lookup f10 = some ⟨oc10, od10, .func (PySem.W.fnOf "plain_name" "plain_name" (defArgs (topS 34)) (defBody (topS 34)) (defScope (topS 34)) .none kV10 dc10 pm10 an10 cd10 ct10), sl10⟩)
    (c10 : PySem.W.codeIn K cd10 "plain_name" = true)
    (k10 : PySem.W.keepIn K (.ref f10) = true)
    (a11 : PySem.W.nsIn K mainGlobals "name_number" = some (some (.ref f11)))
    (l11 : K.lookup f11 = some ⟨oc11, od11, .func (PySem.W.fnOf "name_number" "name_number" (defArgs (topS 36)) (defBody (topS 36)) (defScope (topS 36)) .none kV11 dc11 pm11 an11 cd11 ct11), sl11⟩)
    (c11 : PySem.W.codeIn K cd11 "name_number" = true)
    (k11 : PySem.W.keepIn K (.ref f11) = true)
    (a12 : PySem.W.nsIn K mainGlobals "_law_bword" = some (some (.ref f12)))
    (l12 : K.lookup f12 = some ⟨oc12, od12, .func (PySem.W.fnOf "_law_bword" "_law_bword" (defArgs (topS 42)) (defBody (topS 42)) (defScope (topS 42)) .none kV12 dc12 pm12 an12 cd12 ct12), sl12⟩)
    (c12 : PySem.W.codeIn K cd12 "_law_bword" = true)
    (k12 : PySem.W.keepIn K (.ref f12) = true)
    (a13 : PySem.W.nsIn K mainGlobals "_law_braised" = some (some (.ref f13)))
    (l13 : K.lookup f13 = some ⟨oc13, od13, .func (PySem.W.fnOf "_law_braised" "_law_braised" (defArgs (topS 45)) (defBody (topS 45)) (defScope (topS 45)) .none kV13 dc13 pm13 an13 cd13 ct13), sl13⟩)
    (c13 : PySem.W.codeIn K cd13 "_law_braised" = true)
    (k13 : PySem.W.keepIn K (.ref f13) = true)
    (a14 : PySem.W.nsIn K mainGlobals "plain_of" = some (some (.ref f14)))
    (l14 : K.lookup f14 = some ⟨oc14, od14, .func (PySem.W.fnOf "plain_of" "plain_of" (defArgs (topS 33)) (defBody (topS 33)) (defScope (topS 33)) .none kV14 dc14 pm14 an14 cd14 ct14), sl14⟩)
    (c14 : PySem.W.codeIn K cd14 "plain_of" = true)
    (k14 : PySem.W.keepIn K (.ref f14) = true)
    (a15 : PySem.W.nsIn K mainGlobals "is_integer" = some (some (.ref f15)))
    (l15 : K.lookup f15 = some ⟨oc15, od15, .func (PySem.W.fnOf "is_integer" "is_integer" (defArgs (topS 27)) (defBody (topS 27)) (defScope (topS 27)) .none kV15 dc15 pm15 an15 cd15 ct15), sl15⟩)
    (c15 : PySem.W.codeIn K cd15 "is_integer" = true)
    (k15 : PySem.W.keepIn K (.ref f15) = true)
    (a16 : PySem.W.nsIn K mainGlobals "number_of" = some (some (.ref f16)))
    (l16 : K.lookup f16 = some ⟨oc16, od16, .func (PySem.W.fnOf "number_of" "number_of" (defArgs (topS 35)) (defBody (topS 35)) (defScope (topS 35)) .none kV16 dc16 pm16 an16 cd16 ct16), sl16⟩)
    (c16 : PySem.W.codeIn K cd16 "number_of" = true)
    (k16 : PySem.W.keepIn K (.ref f16) = true)
    (a17 : PySem.W.nsIn K mainGlobals "_law_bnamed" = some (some (.ref f17)))
    (l17 : K.lookup f17 = some ⟨oc17, od17, .func (PySem.W.fnOf "_law_bnamed" "_law_bnamed" (defArgs (topS 44)) (defBody (topS 44)) (defScope (topS 44)) .none kV17 dc17 pm17 an17 cd17 ct17), sl17⟩)
    (c17 : PySem.W.codeIn K cd17 "_law_bnamed" = true)
    (k17 : PySem.W.keepIn K (.ref f17) = true)
    (g0 : PySem.W.nsIn K mainGlobals "LETTERS" = some (some u0))
    (gv0 : flatRel (.str [97, 98, 99, 100, 101, 102, 103, 104, 105, 106, 107, 108, 109, 110, 111, 112, 113, 114, 115, 116, 117, 118, 119, 120, 121, 122]) u0 = true)
    (g1 : PySem.W.nsIn K mainGlobals "FIGURES" = some (some u1))
    (gv1 : flatRel (.str [48, 49, 50, 51, 52, 53, 54, 55, 56, 57]) u1 = true)
    (g2 : PySem.W.nsIn K mainGlobals "MOST_NUMBER" = some (some u2))
    (gv2 : flatRel (.int (999999)) u2 = true)
    (z0 : PySem.W.nsIn K mainGlobals "len" = some none)
    (z1 : PySem.W.nsIn K mainGlobals "list" = some none)
    (z2 : PySem.W.nsIn K mainGlobals "tuple" = some none)
    (z3 : PySem.W.nsIn K mainGlobals "int" = some none)
    (z4 : PySem.W.nsIn K mainGlobals "str" = some none)
    (z5 : PySem.W.nsIn K mainGlobals "all" = some none)
    (z6 : PySem.W.nsIn K mainGlobals "any" = some none)
    (z7 : PySem.W.nsIn K mainGlobals "sum" = some none)
    (z8 : PySem.W.nsIn K mainGlobals "isinstance" = some none)
    (z9 : PySem.W.nsIn K mainGlobals "bool" = some none)
    (z10 : PySem.W.nsIn K mainGlobals "dict" = some none)
    (z11 : PySem.W.nsIn K mainGlobals "range" = some none)
    (z12 : PySem.W.nsIn K mainGlobals "enumerate" = some none)
    (z13 : PySem.W.nsIn K mainGlobals "zip" = some none)
    (z14 : PySem.W.nsIn K mainGlobals "sorted" = some none)
    (z15 : PySem.W.nsIn K mainGlobals "min" = some none)
    (z16 : PySem.W.nsIn K mainGlobals "max" = some none)
    (z17 : PySem.W.nsIn K mainGlobals "ord" = some none)
    (z18 : PySem.W.nsIn K mainGlobals "type" = some none)
    (z19 : PySem.W.nsIn K mainGlobals "repr" = some none)
    (e0a : PySem.W.nsIn K mainGlobals "BadNumber" = some (some (.ref e0)))
    (e1a : PySem.W.nsIn K mainGlobals "BadName" = some (some (.ref e1)))
    (e2a : PySem.W.nsIn K mainGlobals "BadCore" = some (some (.ref e2)))
    (e3a : PySem.W.nsIn K mainGlobals "BadRow" = some (some (.ref e3)))
    (e4a : PySem.W.nsIn K mainGlobals "BadNames" = some (some (.ref e4)))
    (e5a : PySem.W.nsIn K mainGlobals "BadOther" = some (some (.ref e5)))
    (e6a : PySem.W.nsIn K mainGlobals "BadIns" = some (some (.ref e6)))
    (e7a : PySem.W.nsIn K mainGlobals "BadOuts" = some (some (.ref e7)))
    (e8a : PySem.W.nsIn K mainGlobals "BadSizes" = some (some (.ref e8)))
    (e9a : PySem.W.nsIn K mainGlobals "BadSteps" = some (some (.ref e9)))
    (e10a : PySem.W.nsIn K mainGlobals "BadEnds" = some (some (.ref e10)))
    (e11a : PySem.W.nsIn K mainGlobals "BadMany" = some (some (.ref e11)))
    (e12a : PySem.W.nsIn K mainGlobals "BadLength" = some (some (.ref e12)))
    (e13a : PySem.W.nsIn K mainGlobals "BadOrder" = some (some (.ref e13)))
    (e14a : PySem.W.nsIn K mainGlobals "BadRule" = some (some (.ref e14)))
    (e15a : PySem.W.nsIn K mainGlobals "BadSecond" = some (some (.ref e15)))
    (e16a : PySem.W.nsIn K mainGlobals "BadAt" = some (some (.ref e16)))
    (e17a : PySem.W.nsIn K mainGlobals "BadFirst" = some (some (.ref e17)))
    (e18a : PySem.W.nsIn K mainGlobals "BadLast" = some (some (.ref e18)))
    (e19a : PySem.W.nsIn K mainGlobals "BadLoaded" = some (some (.ref e19)))
    (e20a : PySem.W.nsIn K mainGlobals "TooMany" = some (some (.ref e20)))
    (e21a : PySem.W.nsIn K mainGlobals "Full" = some (some (.ref e21)))
    (e22a : PySem.W.nsIn K mainGlobals "NoBack" = some (some (.ref e22)))
    (e23a : PySem.W.nsIn K mainGlobals "NoAgain" = some (some (.ref e23)))
    (e24a : PySem.W.nsIn K mainGlobals "HeldError" = some (some (.ref e24)))
    (ehn : PySem.W.specialIn K (.builtin "object.__class__") "__get__" = some (some (.builtin "getset_descriptor.__get__")))
    (eht : PySem.W.takesIn K (.builtin "object.__class__") = some true)
    (e0l : K.lookup e0 = some (excClassObj cn0 cq0 e0 cN0 cb0 cm0 true cs0 cu0 ca0 cc0 cz0 cw0 cx0 cy0 cv0 ck0 "ValueError.__new__"))
    (e0r : PySem.HandSPX.refsVE cm0 = true)
    (e0s : PySem.W.findIn K (.ref e0) "__setattr__" = some (some (.builtin "object.__setattr__")))
    (e0b : PySem.W.subIn K (.ref e0) (.type "BaseException") = some true)
    (e0t : PySem.W.typeIn K (.ref e0) = some (.type "type"))
    (e0k : PySem.W.keepIn K (.ref e0) = true)
    (e0ga : PySem.W.findIn K (.ref e0) "__getattribute__" = some (some (.builtin "BaseException.__getattribute__")))
    (e0gt : PySem.W.findIn K (.ref e0) "__getattr__" = some none)
    (e0ha : PySem.W.findIn K (.ref e0) "__class__" = some (some (.builtin "object.__class__")))
    (e0m : PySem.W.mroIn K e0 (.type "object") = some true)
    (e0d : PySem.W.hasDictIn K e0 = true)
    (e0i : PySem.W.findIn K (.ref e0) "__init__" = some (some (.ref i0)))
    (e0it : PySem.W.typeIn K (.ref i0) = some (.type "function"))
    (e0il : K.lookup i0 = some ⟨ioc0, iod0, .func (PySem.W.fnOf "__init__" "BadNumber.__init__" (defArgs ini_BadNumber) (defBody ini_BadNumber) (defScope ini_BadNumber) .none ikV0 idc0 ipm0 ian0 icd0 ict0), isl0⟩)
    (e0ic : PySem.W.codeIn K icd0 "BadNumber.__init__" = true)
    (e0ik : PySem.W.keepIn K (.ref i0) = true)
    (e0f0 : PySem.W.findIn K (.ref e0) "thing" = some none)
    (e0f1 : PySem.W.findIn K (.ref e0) "many" = some none)
    (e0q2 : PySem.W.kitOne K (.ref e0) (.ref e2) = some false)
    (e0q3 : PySem.W.kitOne K (.ref e0) (.ref e3) = some false)
    (e0q4 : PySem.W.kitOne K (.ref e0) (.ref e4) = some false)
    (e0q0 : PySem.W.kitOne K (.ref e0) (.ref e0) = some true)
    (e0q1 : PySem.W.kitOne K (.ref e0) (.ref e1) = some false)
    (e0q5 : PySem.W.kitOne K (.ref e0) (.ref e5) = some false)
    (e0q6 : PySem.W.kitOne K (.ref e0) (.ref e6) = some false)
    (e0q7 : PySem.W.kitOne K (.ref e0) (.ref e7) = some false)
    (e0q8 : PySem.W.kitOne K (.ref e0) (.ref e8) = some false)
    (e0q9 : PySem.W.kitOne K (.ref e0) (.ref e9) = some false)
    (e0q10 : PySem.W.kitOne K (.ref e0) (.ref e10) = some false)
    (e0q11 : PySem.W.kitOne K (.ref e0) (.ref e11) = some false)
    (e0q12 : PySem.W.kitOne K (.ref e0) (.ref e12) = some false)
    (e0q13 : PySem.W.kitOne K (.ref e0) (.ref e13) = some false)
    (e0q14 : PySem.W.kitOne K (.ref e0) (.ref e14) = some false)
    (e0q15 : PySem.W.kitOne K (.ref e0) (.ref e15) = some false)
    (e0q16 : PySem.W.kitOne K (.ref e0) (.ref e16) = some false)
    (e0q17 : PySem.W.kitOne K (.ref e0) (.ref e17) = some false)
    (e0q18 : PySem.W.kitOne K (.ref e0) (.ref e18) = some false)
    (e0q19 : PySem.W.kitOne K (.ref e0) (.ref e19) = some false)
    (e0q20 : PySem.W.kitOne K (.ref e0) (.ref e20) = some false)
    (e0q21 : PySem.W.kitOne K (.ref e0) (.ref e21) = some false)
    (e0q22 : PySem.W.kitOne K (.ref e0) (.ref e22) = some false)
    (e0q23 : PySem.W.kitOne K (.ref e0) (.ref e23) = some false)
    (e0x24 : PySem.W.exmOne K (.ref e0) (.ref e24) = some true)
    (e1l : K.lookup e1 = some (excClassObj cn1 cq1 e1 cN1 cb1 cm1 true cs1 cu1 ca1 cc1 cz1 cw1 cx1 cy1 cv1 ck1 "ValueError.__new__"))
    (e1r : PySem.HandSPX.refsVE cm1 = true)
    (e1s : PySem.W.findIn K (.ref e1) "__setattr__" = some (some (.builtin "object.__setattr__")))
    (e1b : PySem.W.subIn K (.ref e1) (.type "BaseException") = some true)
    (e1t : PySem.W.typeIn K (.ref e1) = some (.type "type"))
    (e1k : PySem.W.keepIn K (.ref e1) = true)
    (e1ga : PySem.W.findIn K (.ref e1) "__getattribute__" = some (some (.builtin "BaseException.__getattribute__")))
    (e1gt : PySem.W.findIn K (.ref e1) "__getattr__" = some none)
    (e1ha : PySem.W.findIn K (.ref e1) "__class__" = some (some (.builtin "object.__class__")))
    (e1m : PySem.W.mroIn K e1 (.type "object") = some true)
    (e1d : PySem.W.hasDictIn K e1 = true)
    (e1i : PySem.W.findIn K (.ref e1) "__init__" = some (some (.ref i1)))
    (e1it : PySem.W.typeIn K (.ref i1) = some (.type "function"))
    (e1il : K.lookup i1 = some ⟨ioc1, iod1, .func (PySem.W.fnOf "__init__" "BadName.__init__" (defArgs ini_BadName) (defBody ini_BadName) (defScope ini_BadName) .none ikV1 idc1 ipm1 ian1 icd1 ict1), isl1⟩)
    (e1ic : PySem.W.codeIn K icd1 "BadName.__init__" = true)
    (e1ik : PySem.W.keepIn K (.ref i1) = true)
    (e1f0 : PySem.W.findIn K (.ref e1) "thing" = some none)
    (e1f1 : PySem.W.findIn K (.ref e1) "many" = some none)
    (e1q2 : PySem.W.kitOne K (.ref e1) (.ref e2) = some false)
    (e1q3 : PySem.W.kitOne K (.ref e1) (.ref e3) = some false)
    (e1q4 : PySem.W.kitOne K (.ref e1) (.ref e4) = some false)
    (e1q0 : PySem.W.kitOne K (.ref e1) (.ref e0) = some false)
    (e1q1 : PySem.W.kitOne K (.ref e1) (.ref e1) = some true)
    (e1q5 : PySem.W.kitOne K (.ref e1) (.ref e5) = some false)
    (e1q6 : PySem.W.kitOne K (.ref e1) (.ref e6) = some false)
    (e1q7 : PySem.W.kitOne K (.ref e1) (.ref e7) = some false)
    (e1q8 : PySem.W.kitOne K (.ref e1) (.ref e8) = some false)
    (e1q9 : PySem.W.kitOne K (.ref e1) (.ref e9) = some false)
    (e1q10 : PySem.W.kitOne K (.ref e1) (.ref e10) = some false)
    (e1q11 : PySem.W.kitOne K (.ref e1) (.ref e11) = some false)
    (e1q12 : PySem.W.kitOne K (.ref e1) (.ref e12) = some false)
    (e1q13 : PySem.W.kitOne K (.ref e1) (.ref e13) = some false)
    (e1q14 : PySem.W.kitOne K (.ref e1) (.ref e14) = some false)
    (e1q15 : PySem.W.kitOne K (.ref e1) (.ref e15) = some false)
    (e1q16 : PySem.W.kitOne K (.ref e1) (.ref e16) = some false)
    (e1q17 : PySem.W.kitOne K (.ref e1) (.ref e17) = some false)
    (e1q18 : PySem.W.kitOne K (.ref e1) (.ref e18) = some false)
    (e1q19 : PySem.W.kitOne K (.ref e1) (.ref e19) = some false)
    (e1q20 : PySem.W.kitOne K (.ref e1) (.ref e20) = some false)
    (e1q21 : PySem.W.kitOne K (.ref e1) (.ref e21) = some false)
    (e1q22 : PySem.W.kitOne K (.ref e1) (.ref e22) = some false)
    (e1q23 : PySem.W.kitOne K (.ref e1) (.ref e23) = some false)
    (e1x24 : PySem.W.exmOne K (.ref e1) (.ref e24) = some true)
    {cAddr pAddr : Addr} {cE : Value} {cDD : Option Addr} {cVs : Array Value} {cSl : Array (Option Value)} {cFile : Str} {cTf cTg cTt : Tok} {cFlags cText : Int} {cInF : Bool}
    (y0 : cd0 = .ref cAddr)
    (y1 : K.lookup cAddr = some ⟨cE, cDD, .fields cVs, cSl⟩)
    (y2 : cVs[11]? = some (.ref pAddr))
    (y3 : cVs.getD 11 .none = .ref pAddr)
    (y4 : cVs.getD 18 .none = .str cFile cTf)
    (y5 : cVs.getD 7 .none = .int cFlags cTg)
    (y6 : cVs.getD 9 .none = .bool cInF)
    (y7 : cVs.getD 10 .none = .int cText cTt)
    (y8 : cE = .type "code")
    (y9 : decide (cAddr ≠ pAddr) = true)
    (y10 : K.lookup pAddr = none) :
    LamX.LawAtS l w K (L2N.CX l.prog w) (8 * lev) 63 "script" mg fa h := by
  obtain ⟨i1, i2, i3, i4, fd, i5, i6, i7, i8⟩ := all_in X G a0 l0 c0 k0 a1 l1 c1 k1 a2 l2 c2 k2 a3 l3 c3 k3 a4 l4 c4 k4 a5 l5 c5 k5 a6 l6 c6 k6 a7 l7 c7 k7 a8 l8 c8 k8 a9 l9 c9 k9 a10 l10 c10 k10 a11 l11 c11 k11 a12 l12 c12 k12 a13 l13 c13 k13 a14 l14 c14 k14 a15 l15 c15 k15 a16 l16 c16 k16 a17 l17 c17 k17 g0 gv0 g1 gv1 g2 gv2 z0 z1 z2 z3 z4 z5 z6 z7 z8 z9 z10 z11 z12 z13 z14 z15 z16 z17 z18 z19 e0a e1a e2a e3a e4a e5a e6a e7a e8a e9a e10a e11a e12a e13a e14a e15a e16a e17a e18a e19a e20a e21a e22a e23a e24a ehn eht e0l e0r e0s e0b e0t e0k e0ga e0gt e0ha e0m e0d e0i e0it e0il e0ic e0ik e0f0 e0f1 e0q2 e0q3 e0q4 e0q0 e0q1 e0q5 e0q6 e0q7 e0q8 e0q9 e0q10 e0q11 e0q12 e0q13 e0q14 e0q15 e0q16 e0q17 e0q18 e0q19 e0q20 e0q21 e0q22 e0q23 e0x24 e1l e1r e1s e1b e1t e1k e1ga e1gt e1ha e1m e1d e1i e1it e1il e1ic e1ik e1f0 e1f1 e1q2 e1q3 e1q4 e1q0 e1q1 e1q5 e1q6 e1q7 e1q8 e1q9 e1q10 e1q11 e1q12 e1q13 e1q14 e1q15 e1q16 e1q17 e1q18 e1q19 e1q20 e1q21 e1q22 e1q23 e1x24
  have e : Value.ref fa = .ref f0 := Option.some.inj (hmg.symm.trans i6)
  cases e
  subst y0 y8
  obtain ⟨oc', od', kV', doc', pm', an', cdv', ct', osl', q1, q2, q3⟩ := i5.ex
  have hP := own cAddr pAddr _ fd _ _ _ _ q2 rfl i8 y1 y2
  refine ⟨fd, [(cAddr, pAddr)], spF ⟨K, none, FL.z [(pAddr, (envOfC "law" (defScope (topS 49)) 0 fa (.ref cAddr)).qual ++ "<lambda>")]⟩ ⟨ex0 K mg pg, none, FL.z [(pAddr, (envOfC "law" (defScope (topS 49)) 0 fa (.ref cAddr)).qual ++ "<lambda>")]⟩ 1 (callF (gOf pg.L) glos turnsW pg.sub lev "law"),
    all_cons hP all_nil, all_cons y10 all_nil, all_cons ⟨_, cVs, cFile, cTf, cFlags, cTg, cInF, cText, cTt, X _ _ y1, rfl, rfl, y2, y3, y4, y5, y6, y7, of_decide_eq_true y9⟩ all_nil, i7, fun H a ns hl _ hT hS => ?_, fun base _ _ TB => ?_⟩
  · exact law_sp hS hl (fun p hp => by rw [List.mem_singleton.mp hp]; exact LamX.TabS.nil (hT _ List.mem_cons_self)) (law_ok ns hl)
  · refine law_F (i := di_law) (by simp [pg, defs]) rfl rfl rfl i5 i6 (defs_ok ⟨i1, ok_all, find_all, fun x d e => let ⟨u, v, a, b, c⟩ := i2 x d e; ⟨u, v, a, b, c⟩, i3, i4, fun i hi hl _ => ?_⟩ lev)
    simp only [pg, defs, List.mem_cons, List.not_mem_nil, or_false] at hi
    rcases hi with rfl | rfl | rfl | rfl | rfl | rfl | rfl | rfl | rfl | rfl | rfl | rfl | rfl | rfl | rfl | rfl | rfl | rfl
    · exact lam_in (i := di_law) i6 i5 i8 (TB _ List.mem_cons_self) fun _ _ => rfl
    all_goals cases hl
end Pf.K
open PySem PySem.W PyProof.Rows
set_option maxHeartbeats 0 in
theorem PySem.Challenge.cw_namesheld_k15_names_and_numbers_holds : PySem.Challenge.rw_namesheld_k15_names_and_numbers.Holds := by
  w_on; o_law; k_head; (case hw => w_witness2)
  k_fill
  refine LamX.walk_ofOwn (l := PySem.Challenge.rw_namesheld_k15_names_and_numbers) (n := 63) (k := 8 * Pf.K.lev) (x := "script") (CX := fun w => L2N.CX PySem.Challenge.rw_namesheld_k15_names_and_numbers.prog w) rfl (by decide) rfl ⟨rfl, by decide, by decide⟩ ?REC (fun w h Y => by first | exact PySem.W.kIn_of Y | exact PySem.W.km_in_of Y) ?F (fun _ _ _ _ _ h => Pf.no_excN h)
  case REC => first | rfl | decide +kernel
  case F =>
    intro w mg fa h Y KX G hmg own
    refine' Pf.K.law_fin KX G hmg own ?pf_a0 ?pf_l0 ?pf_c0 ?pf_k0 ?pf_a1 ?pf_l1 ?pf_c1 ?pf_k1 ?pf_a2 ?pf_l2 ?pf_c2 ?pf_k2 ?pf_a3 ?pf_l3 ?pf_c3 ?pf_k3 ?pf_a4 ?pf_l4 ?pf_c4 ?pf_k4 ?pf_a5 ?pf_l5 ?pf_c5 ?pf_k5 ?pf_a6 ?pf_l6 ?pf_c6 ?pf_k6 ?pf_a7 ?pf_l7 ?pf_c7 ?pf_k7 ?pf_a8 ?pf_l8 ?pf_c8 ?pf_k8 ?pf_a9 ?pf_l9 ?pf_c9 ?pf_k9 ?pf_a10 ?pf_l10 ?pf_c10 ?pf_k10 ?pf_a11 ?pf_l11 ?pf_c11 ?pf_k11 ?pf_a12 ?pf_l12 ?pf_c12 ?pf_k12 ?pf_a13 ?pf_l13 ?pf_c13 ?pf_k13 ?pf_a14 ?pf_l14 ?pf_c14 ?pf_k14 ?pf_a15 ?pf_l15 ?pf_c15 ?pf_k15 ?pf_a16 ?pf_l16 ?pf_c16 ?pf_k16 ?pf_a17 ?pf_l17 ?pf_c17 ?pf_k17 ?pf_g0 ?pf_gv0 ?pf_g1 ?pf_gv1 ?pf_g2 ?pf_gv2 ?pf_z0 ?pf_z1 ?pf_z2 ?pf_z3 ?pf_z4 ?pf_z5 ?pf_z6 ?pf_z7 ?pf_z8 ?pf_z9 ?pf_z10 ?pf_z11 ?pf_z12 ?pf_z13 ?pf_z14 ?pf_z15 ?pf_z16 ?pf_z17 ?pf_z18 ?pf_z19 ?pf_e0a ?pf_e1a ?pf_e2a ?pf_e3a ?pf_e4a ?pf_e5a ?pf_e6a ?pf_e7a ?pf_e8a ?pf_e9a ?pf_e10a ?pf_e11a ?pf_e12a ?pf_e13a ?pf_e14a ?pf_e15a ?pf_e16a ?pf_e17a ?pf_e18a ?pf_e19a ?pf_e20a ?pf_e21a ?pf_e22a ?pf_e23a ?pf_e24a ?pf_ehn ?pf_eht ?pf_e0l ?pf_e0r ?pf_e0s ?pf_e0b ?pf_e0t ?pf_e0k ?pf_e0ga ?pf_e0gt ?pf_e0ha ?pf_e0m ?pf_e0d ?pf_e0i ?pf_e0it ?pf_e0il ?pf_e0ic ?pf_e0ik ?pf_e0f0 ?pf_e0f1 ?pf_e0q2 ?pf_e0q3 ?pf_e0q4 ?pf_e0q0 ?pf_e0q1 ?pf_e0q5 ?pf_e0q6 ?pf_e0q7 ?pf_e0q8 ?pf_e0q9 ?pf_e0q10 ?pf_e0q11 ?pf_e0q12 ?pf_e0q13 ?pf_e0q14 ?pf_e0q15 ?pf_e0q16 ?pf_e0q17 ?pf_e0q18 ?pf_e0q19 ?pf_e0q20 ?pf_e0q21 ?pf_e0q22 ?pf_e0q23 ?pf_e0x24 ?pf_e1l ?pf_e1r ?pf_e1s ?pf_e1b ?pf_e1t ?pf_e1k ?pf_e1ga ?pf_e1gt ?pf_e1ha ?pf_e1m ?pf_e1d ?pf_e1i ?pf_e1it ?pf_e1il ?pf_e1ic ?pf_e1ik ?pf_e1f0 ?pf_e1f1 ?pf_e1q2 ?pf_e1q3 ?pf_e1q4 ?pf_e1q0 ?pf_e1q1 ?pf_e1q5 ?pf_e1q6 ?pf_e1q7 ?pf_e1q8 ?pf_e1q9 ?pf_e1q10 ?pf_e1q11 ?pf_e1q12 ?pf_e1q13 ?pf_e1q14 ?pf_e1q15 ?pf_e1q16 ?pf_e1q17 ?pf_e1q18 ?pf_e1q19 ?pf_e1q20 ?pf_e1q21 ?pf_e1q22 ?pf_e1q23 ?pf_e1x24 ?pf_y0 ?pf_y1 ?pf_y2 ?pf_y3 ?pf_y4 ?pf_y5 ?pf_y6 ?pf_y7 ?pf_y8 ?pf_y9 ?pf_y10
    (case pf_a0 => k_is)
    (case pf_l0 => k_is)
    (case pf_c0 => k_is)
    (case pf_k0 => k_is)
    (case pf_a1 => k_is)
    (case pf_l1 => k_is)
    (case pf_c1 => k_is)
    (case pf_k1 => k_is)
    (case pf_a2 => k_is)
    (case pf_l2 => k_is)
    (case pf_c2 => k_is)
    (case pf_k2 => k_is)
    (case pf_a3 => k_is)
    (case pf_l3 => k_is)
    (case pf_c3 => k_is)
    (case pf_k3 => k_is)
    (case pf_a4 => k_is)
    (case pf_l4 => k_is)
    (case pf_c4 => k_is)
    (case pf_k4 => k_is)
    (case pf_a5 => k_is)
    (case pf_l5 => k_is)
    (case pf_c5 => k_is)
    (case pf_k5 => k_is)
    (case pf_a6 => k_is)
    (case pf_l6 => k_is)
    (case pf_c6 => k_is)
    (case pf_k6 => k_is)
    (case pf_a7 => k_is)
    (case pf_l7 => k_is)
    (case pf_c7 => k_is)
    (case pf_k7 => k_is)
    (case pf_a8 => k_is)
    (case pf_l8 => k_is)
    (case pf_c8 => k_is)
    (case pf_k8 => k_is)
    (case pf_a9 => k_is)
    (case pf_l9 => k_is)
    (case pf_c9 => k_is)
    (case pf_k9 => k_is)
    (case pf_a10 => k_is)
    (case pf_l10 => k_is)
    (case pf_c10 => k_is)
    (case pf_k10 => k_is)
    (case pf_a11 => k_is)
    (case pf_l11 => k_is)
    (case pf_c11 => k_is)
    (case pf_k11 => k_is)
    (case pf_a12 => k_is)
    (case pf_l12 => k_is)
    (case pf_c12 => k_is)
    (case pf_k12 => k_is)
    (case pf_a13 => k_is)
    (case pf_l13 => k_is)
    (case pf_c13 => k_is)
    (case pf_k13 => k_is)
    (case pf_a14 => k_is)
    (case pf_l14 => k_is)
    (case pf_c14 => k_is)
    (case pf_k14 => k_is)
    (case pf_a15 => k_is)
    (case pf_l15 => k_is)
    (case pf_c15 => k_is)
    (case pf_k15 => k_is)
    (case pf_a16 => k_is)
    (case pf_l16 => k_is)
    (case pf_c16 => k_is)
    (case pf_k16 => k_is)
    (case pf_a17 => k_is)
    (case pf_l17 => k_is)
    (case pf_c17 => k_is)
    (case pf_k17 => k_is)
    (case pf_g0 => k_is)
    (case pf_gv0 => decide +kernel)
    (case pf_g1 => k_is)
    (case pf_gv1 => decide +kernel)
    (case pf_g2 => k_is)
    (case pf_gv2 => decide +kernel)
    (case pf_z0 => k_is)
    (case pf_z1 => k_is)
    (case pf_z2 => k_is)
    (case pf_z3 => k_is)
    (case pf_z4 => k_is)
    (case pf_z5 => k_is)
    (case pf_z6 => k_is)
    (case pf_z7 => k_is)
    (case pf_z8 => k_is)
    (case pf_z9 => k_is)
    (case pf_z10 => k_is)
    (case pf_z11 => k_is)
    (case pf_z12 => k_is)
    (case pf_z13 => k_is)
    (case pf_z14 => k_is)
    (case pf_z15 => k_is)
    (case pf_z16 => k_is)
    (case pf_z17 => k_is)
    (case pf_z18 => k_is)
    (case pf_z19 => k_is)
    (case pf_e0a => k_is)
    (case pf_e1a => k_is)
    (case pf_e2a => k_is)
    (case pf_e3a => k_is)
    (case pf_e4a => k_is)
    (case pf_e5a => k_is)
    (case pf_e6a => k_is)
    (case pf_e7a => k_is)
    (case pf_e8a => k_is)
    (case pf_e9a => k_is)
    (case pf_e10a => k_is)
    (case pf_e11a => k_is)
    (case pf_e12a => k_is)
    (case pf_e13a => k_is)
    (case pf_e14a => k_is)
    (case pf_e15a => k_is)
    (case pf_e16a => k_is)
    (case pf_e17a => k_is)
    (case pf_e18a => k_is)
    (case pf_e19a => k_is)
    (case pf_e20a => k_is)
    (case pf_e21a => k_is)
    (case pf_e22a => k_is)
    (case pf_e23a => k_is)
    (case pf_e24a => k_is)
    (case pf_ehn => k_is)
    (case pf_eht => k_is)
    (case pf_e0l => k_is)
    (case pf_e0r => rfl)
    (case pf_e0s => k_is)
    (case pf_e0b => k_is)
    (case pf_e0t => k_is)
    (case pf_e0k => k_is)
    (case pf_e0ga => k_is)
    (case pf_e0gt => k_is)
    (case pf_e0ha => k_is)
    (case pf_e0m => k_is)
    (case pf_e0d => k_is)
    (case pf_e0i => k_is)
    (case pf_e0it => k_is)
    (case pf_e0il => k_is)
    (case pf_e0ic => k_is)
    (case pf_e0ik => k_is)
    (case pf_e0f0 => k_is)
    (case pf_e0f1 => k_is)
    (case pf_e0q2 => kit_is)
    (case pf_e0q3 => kit_is)
    (case pf_e0q4 => kit_is)
    (case pf_e0q0 => kit_is)
    (case pf_e0q1 => kit_is)
    (case pf_e0q5 => kit_is)
    (case pf_e0q6 => kit_is)
    (case pf_e0q7 => kit_is)
    (case pf_e0q8 => kit_is)
    (case pf_e0q9 => kit_is)
    (case pf_e0q10 => kit_is)
    (case pf_e0q11 => kit_is)
    (case pf_e0q12 => kit_is)
    (case pf_e0q13 => kit_is)
    (case pf_e0q14 => kit_is)
    (case pf_e0q15 => kit_is)
    (case pf_e0q16 => kit_is)
    (case pf_e0q17 => kit_is)
    (case pf_e0q18 => kit_is)
    (case pf_e0q19 => kit_is)
    (case pf_e0q20 => kit_is)
    (case pf_e0q21 => kit_is)
    (case pf_e0q22 => kit_is)
    (case pf_e0q23 => kit_is)
    (case pf_e0x24 => kts_exm)
    (case pf_e1l => k_is)
    (case pf_e1r => rfl)
    (case pf_e1s => k_is)
    (case pf_e1b => k_is)
    (case pf_e1t => k_is)
    (case pf_e1k => k_is)
    (case pf_e1ga => k_is)
    (case pf_e1gt => k_is)
    (case pf_e1ha => k_is)
    (case pf_e1m => k_is)
    (case pf_e1d => k_is)
    (case pf_e1i => k_is)
    (case pf_e1it => k_is)
    (case pf_e1il => k_is)
    (case pf_e1ic => k_is)
    (case pf_e1ik => k_is)
    (case pf_e1f0 => k_is)
    (case pf_e1f1 => k_is)
    (case pf_e1q2 => kit_is)
    (case pf_e1q3 => kit_is)
    (case pf_e1q4 => kit_is)
    (case pf_e1q0 => kit_is)
    (case pf_e1q1 => kit_is)
    (case pf_e1q5 => kit_is)
    (case pf_e1q6 => kit_is)
    (case pf_e1q7 => kit_is)
    (case pf_e1q8 => kit_is)
    (case pf_e1q9 => kit_is)
    (case pf_e1q10 => kit_is)
    (case pf_e1q11 => kit_is)
    (case pf_e1q12 => kit_is)
    (case pf_e1q13 => kit_is)
    (case pf_e1q14 => kit_is)
    (case pf_e1q15 => kit_is)
    (case pf_e1q16 => kit_is)
    (case pf_e1q17 => kit_is)
    (case pf_e1q18 => kit_is)
    (case pf_e1q19 => kit_is)
    (case pf_e1q20 => kit_is)
    (case pf_e1q21 => kit_is)
    (case pf_e1q22 => kit_is)
    (case pf_e1q23 => kit_is)
    (case pf_e1x24 => kts_exm)
    (case pf_y0 => rfl)
    (case pf_y1 => k_is)
    (case pf_y2 => rfl)
    (case pf_y3 => rfl)
    (case pf_y4 => rfl)
    (case pf_y5 => rfl)
    (case pf_y6 => rfl)
    (case pf_y7 => rfl)
    (case pf_y8 => rfl)
    (case pf_y9 => decide)
    (case pf_y10 => rfl)
