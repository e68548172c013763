import PyProof.Rows.All
import HandS.ForSpec
import HandS.ForMost
import HandS.TryMany
import HandS.HeadEnd
import HandS.HeadHook2
import HandS.TupAny
import HandS.Style
import HandS.Zip
import HandS.Iter
import KE.SortData
import KE.KeyNested
import KE.KDictKeyed
import KE.DataEq
import KE.DataAny
import KE.DataIsa
import KE.DataCmp
import HandS.Head2
import Lean
import PySem.Challenge.RW_keptno_k01_setups_known
set_option Elab.async false
set_option linter.all false
set_option maxRecDepth 100000
set_option maxHeartbeats 0
/-! Kp, part 1: a small language of our own and its plain evaluator. -/
namespace Kp
open PySem

abbrev P := PyData

/-- values of the evaluator: plain data, or an object of the store -/
inductive D where
  | py (p : P)
  | ref (n : Nat)

/-- objects of the store -/
inductive Ob where
  | lst (xs : List P)
  | dct (kvs : List (P × P))
  | dead

/-- what an expression gives: a value, or a new list or dict that nobody else holds -/
inductive Rv where
  | im (d : D)
  | nl (xs : List P)
  | nd (kvs : List (P × P))

abbrev Sto := List Ob
abbrev Ev := List (Option D)

inductive R (α : Type) where
  | ok (a : α) (st : Sto)
  | exc (c : Nat) (fs : List (Str × P)) (st : Sto)
  | bad

def R.bind {α β : Type} (m : R α) (f : α → Sto → R β) : R β :=
  match m with
  | .ok a st => f a st
  | .exc c fs st => .exc c fs st
  | .bad => .bad
theorem ok_bind {α β : Type} (a : α) (st : Sto) (f : α → Sto → R β) : (R.ok a st).bind f = f a st := rfl
theorem exc_bind {α β : Type} (c fs) (st : Sto) (f : α → Sto → R β) : (R.exc c fs st : R α).bind f = .exc c fs st := rfl
theorem bad_bind {α β : Type} (f : α → Sto → R β) : (R.bad : R α).bind f = .bad := rfl

def Rv.frz : Rv → D
  | .im d => d
  | .nl xs => .py (.list xs)
  | .nd kvs => .py (.dict kvs)

inductive Bop where
  | add | sub | mul | fdiv | mod | pow
  deriving DecidableEq, Repr
inductive Cop where
  | eq | ne | lt | le | gt | ge | is | isnot | in_ | notin
  deriving DecidableEq, Repr
inductive Ty where
  | str | tup | bool | list | int
  deriving DecidableEq, Repr
inductive Blt where
  | len | all | any | max | min | int | list | tuple | str | sorted
  deriving DecidableEq, Repr
inductive Mth where
  | join | split | index | get | pop
  deriving DecidableEq, Repr
inductive Ik where
  | seq | rng1 | rng2 | zip | enum
  deriving DecidableEq, Repr
inductive Tg where
  | one (i : Nat)
  | tup (is : List Nat)
  deriving DecidableEq, Repr

/-- expressions; names are slots, defs are numbers -/
inductive X where
  | var (i : Nat)
  | const (p : P)
  | tup (es : List X)
  | lst (es : List X)
  | dic (ks vs : List X)
  | bin (o : Bop) (a b : X)
  | neg (a : X)
  | not (a : X)
  | and (a b : X)
  | or (a b : X)
  | cmp (o : Cop) (a b : X)
  | chain (o p : Cop) (a b c : X)
  | ife (c a b : X)
  | idx (a b : X)
  | slc (a lo hi : X)
  | rev (a : X)
  | call (f : Nat) (es : List X)
  | isi (t : Ty) (a : X)
  | blt (b : Blt) (es : List X)
  | sortedSet (a : X)
  | sortedLen (a : X)
  | meth (m : Mth) (o : X) (es : List X)
  | comp (elt : X) (tg : Tg) (k : Ik) (es : List X) (ifs : List X)
  | dcomp (key val : X) (tg : Tg) (k : Ik) (es : List X)

inductive S where
  | asg (i : Nat) (new : Bool) (e : X)
  | par (is : List Nat) (es : List (Bool × X))
  | unp (is : List Nat) (e : X)
  | setI (o i e : X)
  | app (o e : X)
  | expr (e : X)
  | ret (e : X)
  | ife (c : X) (t f : List S)
  | for (tg : Tg) (k : Ik) (es : List X) (body : List S)
  | whl (c : X) (body : List S)
  | raise (c : Nat) (es : List X)
  | pass

/-! ### operations -/
abbrev SZ : Nat := sizeLine

def imp (p : P) : Rv := .im (.py p)
def ok1 (p : P) (st : Sto) : R Rv := .ok (imp p) st
/-- if c holds -/
def chk {α : Type} (c : Bool) (r : R α) : R α := if c then r else .bad

/-- a store's list or dict as data -/
def deref (st : Sto) : D → Option P
  | .py p => some p
  | .ref n => match st[n]? with
    | some (.lst xs) => some (.list xs)
    | some (.dct kvs) => some (.dict kvs)
    | _ => none

/-- data without dicts, of small depth -/
def fit (p : P) : Bool := p.plain && decide (p.depth ≤ 100)

def cutL {α : Type} (xs : List α) (lo hi : Option Int) : List α :=
  (xs.drop (HT.sIx xs.length 0 lo)).take (HT.sIx xs.length xs.length hi - HT.sIx xs.length 0 lo)

def binop (o : Bop) (a b : P) (st : Sto) : R Rv :=
  match o, a, b with
  | .add, .int i, .int j => ok1 (.int (i + j)) st
  | .sub, .int i, .int j => ok1 (.int (i - j)) st
  | .mul, .int i, .int j => chk (decide (-(2 ^ 64) < j) && decide (j < 2 ^ 64)) (ok1 (.int (i * j)) st)
  | .fdiv, .int i, .int j => chk (decide (0 < j) && decide (j < 1073741824)) (ok1 (.int (i / j)) st)
  | .mod, .int i, .int j => chk (decide (0 < j)) (ok1 (.int (i % j)) st)
  | .pow, .int i, .int j => chk (decide (0 ≤ j) && decide (j ≤ 1000) && decide (i.natAbs < 2 ^ 64)) (ok1 (.int (i ^ j.toNat)) st)
  | .add, .tuple xs, .tuple ys => chk (decide (xs.length + ys.length ≤ SZ)) (ok1 (.tuple (xs ++ ys)) st)
  | .add, .list xs, .list ys => chk (decide (xs.length + ys.length ≤ SZ)) (.ok (.nl (xs ++ ys)) st)
  | .add, .str x, .str y => chk (decide (x.length + y.length ≤ SZ)) (ok1 (.str (x ++ y)) st)
  | _, _, _ => .bad

def isNone : P → Bool
  | .none => true
  | _ => false
/-- < of data that are alike -/
def ltP (a b : P) : Option Bool := if W.alike a b && !isNone a && fit a && fit b then some (W.dataLt a b) else none

/-- is the key one that a dict may be asked for -/
def keyOk : P → Bool
  | .str _ => true
  | _ => false

def isIn (x : P) : P → Option Bool
  | .list ys => if fit x && ys.all fit then some (ys.any fun y => y.eqv x) else none
  | .tuple ys => if fit x && ys.all fit then some (ys.any fun y => y.eqv x) else none
  | .str y => match x with
    | .str z => some (!(Builtin.Str.occurrences y z 0 y.length 1).isEmpty)
    | _ => none
  | _ => none

def cmpop (o : Cop) (a b : P) : Option Bool :=
  match o with
  | .eq => if fit a && fit b then some (a.eqv b) else none
  | .ne => if fit a && fit b then some (!a.eqv b) else none
  | .lt => ltP a b
  | .gt => if W.alike a b && !isNone a && fit a && fit b then some (W.dataLt b a) else none
  | .le => if W.alike a b && !isNone a && fit a && fit b then some (!W.dataLt b a) else none
  | .ge => if W.alike a b && !isNone a && fit a && fit b then some (!W.dataLt a b) else none
  | .is => match a, b with
    | .bool x, .bool y => some (x == y)
    | .none, .none => some true
    | .bool _, .none | .int _, .none | .str _, .none | .list _, .none | .tuple _, .none | .dict _, .none => some false
    | _, _ => none
  | .isnot => match a, b with
    | .bool x, .bool y => some (!(x == y))
    | .none, .none => some false
    | .bool _, .none | .int _, .none | .str _, .none | .list _, .none | .tuple _, .none | .dict _, .none => some true
    | _, _ => none
  | .in_ => isIn a b
  | .notin => (isIn a b).map (!·)

def idxop (a b : P) : Option P :=
  match a, b with
  | .tuple xs, .int i => L2.atI xs i
  | .list xs, .int i => L2.atI xs i
  | .str x, .int i => if x.length ≤ SZ then (L2.atI x.cps.toList i).map fun c => .str ⟨#[c]⟩ else none
  | _, _ => none

def slcop (a : P) (l h : Option Int) (st : Sto) : R Rv :=
  match a with
  | .tuple xs => ok1 (.tuple (cutL xs l h)) st
  | .list xs => .ok (.nl (cutL xs l h)) st
  | _ => .bad

def isTy : Ty → P → Bool
  | .str, .str _ => true
  | .tup, .tuple _ => true
  | .bool, .bool _ => true
  | .list, .list _ => true
  | .int, .bool _ => true
  | .int, .int _ => true
  | _, _ => false

def bools : List P → Option (List Bool)
  | [] => some []
  | .bool b :: r => (bools r).map (b :: ·)
  | _ :: _ => none

def lenP : P → Option Nat
  | .tuple xs => some xs.length
  | .list xs => some xs.length
  | .dict kvs => some kvs.length
  | .str x => if x.length ≤ SZ then some x.length else none
  | _ => none

def bltop (b : Blt) (xs : List P) (st : Sto) : R Rv :=
  match b, xs with
  | .len, [a] => match lenP a with
    | some n => ok1 (.int n) st
    | none => .bad
  | .all, [.list ys] => match bools ys with
    | some bs => ok1 (.bool (bs.all id)) st
    | none => .bad
  | .any, [.list ys] => match bools ys with
    | some bs => ok1 (.bool (bs.any id)) st
    | none => .bad
  | .max, [.int i, .int j] => ok1 (.int (if j > i then j else i)) st
  | .min, [.int i, .int j] => ok1 (.int (if j < i then j else i)) st
  | .int, [.int i] => ok1 (.int i) st
  | .int, [.bool k] => ok1 (.int (if k then 1 else 0)) st
  | .list, [.list ys] => .ok (.nl ys) st
  | .list, [.tuple ys] => .ok (.nl ys) st
  | .tuple, [.list ys] => ok1 (.tuple ys) st
  | .tuple, [.tuple ys] => ok1 (.tuple ys) st
  | _, _ => .bad

/-- the items that a loop or comprehension goes through -/
def items (k : Ik) (xs : List P) : Option (List P) :=
  match k, xs with
  | .seq, [.list ys] => some ys
  | .seq, [.tuple ys] => some ys
  | .seq, [.str y] => some (y.cps.toList.map fun c => .str ⟨#[c]⟩)
  | .rng1, [.int j] => if -(2 ^ 62) ≤ j ∧ j < 2 ^ 62 then some ((List.range j.toNat).map fun (i : Nat) => .int (0 + (i : Int))) else none
  | .rng2, [.int i, .int j] => if -(2 ^ 62) ≤ i ∧ i < 2 ^ 62 ∧ -(2 ^ 62) ≤ j ∧ j < 2 ^ 62 then some ((List.range (j - i).toNat).map fun (n : Nat) => .int (i + (n : Int))) else none
  | _, _ => none

def setName (env : Ev) : List Nat → List P → Ev
  | i :: is, p :: ps => setName (env.set i (some (.py p))) is ps
  | _, _ => env

/-- the target takes an item -/
def bindT (tg : Tg) (env : Ev) (p : P) : Option Ev :=
  match tg with
  | .one i => some (env.set i (some (.py p)))
  | .tup is => match p with
    | .tuple ys => if ys.length = is.length then some (setName env is ys) else none
    | _ => none

/-- a comprehension's own names, forgotten -/
def wipeE (env : Ev) : List Nat → Ev
  | [] => env
  | v :: vs => (wipeE env vs).set v none
def tgSlots : Tg → List Nat
  | .one i => [i]
  | .tup is => is
/-- several values, all plain data -/
def toPs : List D → Option (List P)
  | [] => some []
  | .py p :: ds => (toPs ds).map (p :: ·)
  | .ref _ :: _ => none
def itemsD (k : Ik) (ds : List D) : Option (List P) :=
  match toPs ds with
  | some xs => items k xs
  | none => none
/-- an exception is not looked for -/
def R.noexc {α : Type} (m : R α) : R α :=
  match m with
  | .ok a st => .ok a st
  | _ => .bad
/-- a list comprehension over items: f the test and the element; the list to be is the store's nth object -/
def compL (n : Nat) (f : P → Sto → R (Option P)) : List P → Sto → R Unit
  | [], st => chk (decide (st.length = n + 1)) (.ok () st)
  | x :: xs, st => (f x st).noexc.bind fun o st1 => match o with
    | some y => match st1[n]? with
      | some (.lst acc) => chk (decide (acc.length < SZ)) (compL n f xs (st1.set n (.lst (acc ++ [y]))))
      | _ => .bad
    | none => compL n f xs st1
def compEnd (n : Nat) (st : Sto) : R Rv :=
  match st[n]? with
  | some (.lst zs) => .ok (.nl zs) (st.take n)
  | _ => .bad
/-- the value as data, new lists frozen -/
def asP (st : Sto) (r : Rv) : Option P := deref st r.frz
def needP {α : Type} (r : Rv) (st : Sto) (f : P → R α) : R α :=
  match asP st r with
  | some p => f p
  | none => .bad
/-- .. plain data, not an object of the store -/
def needI {α : Type} (r : Rv) (f : P → R α) : R α :=
  match r.frz with
  | .py p => f p
  | .ref _ => .bad
/-- .. None or an int -/
def needO {α : Type} (r : Rv) (f : Option Int → R α) : R α :=
  match r.frz with
  | .py .none => f none
  | .py (.int i) => f (some i)
  | _ => .bad
def needB {α : Type} (r : Rv) (f : Bool → R α) : R α :=
  match r with
  | .im (.py (.bool b)) => f b
  | _ => .bad

mutual
def evE (Φ : Nat → List D → Sto → R Rv) (env : Ev) : X → Sto → R Rv
  | .var i, st => match env[i]? with
    | some (some d) => .ok (.im d) st
    | _ => .bad
  | .const p, st => ok1 p st
  | .tup es, st => (evDs Φ env es st).bind fun ds st1 => match toPs ds with
    | some xs => chk (decide (xs.length ≤ SZ)) (ok1 (.tuple xs) st1)
    | none => .bad
  | .lst es, st => (evDs Φ env es st).bind fun ds st1 => match toPs ds with
    | some xs => chk (decide (xs.length ≤ SZ)) (.ok (.nl xs) st1)
    | none => .bad
  | .dic _ _, _ => .bad
  | .bin o a b, st => (evE Φ env a st).bind fun x st1 => (evE Φ env b st1).bind fun y st2 =>
      needP x st2 fun p => needP y st2 fun q => binop o p q st2
  | .neg a, st => (evE Φ env a st).bind fun x st1 => match x with
    | .im (.py (.int i)) => ok1 (.int (-i)) st1
    | _ => .bad
  | .not a, st => (evE Φ env a st).bind fun x st1 => needB x fun k => ok1 (.bool (!k)) st1
  | .and a b, st => (evE Φ env a st).bind fun x st1 => needB x fun k => if k then evE Φ env b st1 else ok1 (.bool false) st1
  | .or a b, st => (evE Φ env a st).bind fun x st1 => needB x fun k => if k then ok1 (.bool true) st1 else evE Φ env b st1
  | .cmp o a b, st => (evE Φ env a st).bind fun x st1 => (evE Φ env b st1).bind fun y st2 =>
      needP x st2 fun p => needP y st2 fun q => match cmpop o p q with
        | some k => ok1 (.bool k) st2
        | none => .bad
  | .chain o o' a b c, st => (evE Φ env a st).bind fun x st1 => (evE Φ env b st1).bind fun y st2 =>
      needP x st2 fun p => needP y st2 fun q => match cmpop o p q with
        | some true => (evE Φ env c st2).bind fun z st3 => needP y st3 fun q' => needP z st3 fun r => match cmpop o' q' r with
          | some k => ok1 (.bool k) st3
          | none => .bad
        | some false => ok1 (.bool false) st2
        | none => .bad
  | .ife c a b, st => (evE Φ env c st).bind fun x st1 => needB x fun k => if k then evE Φ env a st1 else evE Φ env b st1
  | .idx a b, st => (evE Φ env a st).bind fun x st1 => (evE Φ env b st1).bind fun y st2 =>
      needP x st2 fun p => needP y st2 fun q => match idxop p q with
        | some r => ok1 r st2
        | none => .bad
  | .slc a lo hi, st => (evE Φ env a st).bind fun x st1 => (evE Φ env lo st1).bind fun l st2 => needO l fun lo' => (evE Φ env hi st2).bind fun h st3 => needO h fun hi' =>
      needP x st3 fun p => slcop p lo' hi' st3
  | .rev _, _ => .bad
  | .call f es, st => (evDs Φ env es st).bind fun xs st1 => Φ f xs st1
  | .isi t a, st => (evE Φ env a st).bind fun x st1 => needP x st1 fun p => ok1 (.bool (isTy t p)) st1
  | .blt b es, st => (evDs Φ env es st).bind fun xs st1 => match xs.mapM (deref st1) with
    | some ps => bltop b ps st1
    | none => .bad
  | .sortedSet _, _ => .bad
  | .sortedLen _, _ => .bad
  | .meth _ _ _, _ => .bad
  | .comp elt tg k es ifs, st => (evDs Φ env es st).bind fun ds st1 => match itemsD k ds with
    | some ys => (compL st1.length (fun y st2 => match bindT tg (wipeE env (tgSlots tg)) y with
        | some env1 => (evAnd Φ env1 ifs st2).bind fun c st3 => if c then (evE Φ env1 elt st3).bind fun r st4 => needI r fun p => .ok (some p) st4 else .ok none st3
        | none => .bad) ys (st1 ++ [.lst []])).bind fun _ st2 => compEnd st1.length st2
    | none => .bad
  | .dcomp _ _ _ _ _, _ => .bad
/-- values in a row; new lists frozen -/
def evDs (Φ : Nat → List D → Sto → R Rv) (env : Ev) : List X → Sto → R (List D)
  | [], st => .ok [] st
  | e :: es, st => (evE Φ env e st).bind fun r st1 => (evDs Φ env es st1).bind fun ds st2 => .ok (r.frz :: ds) st2
/-- tests, one after the other -/
def evAnd (Φ : Nat → List D → Sto → R Rv) (env : Ev) : List X → Sto → R Bool
  | [], st => .ok true st
  | e :: es, st => (evE Φ env e st).bind fun r st1 => needB r fun k => if k then evAnd Φ env es st1 else .ok false st1
end

/-- what a statement comes to -/
inductive SR where
  | nx (env : Ev) (st : Sto)
  | rt (r : Rv) (st : Sto)
  | exc (c : Nat) (fs : List (Str × P)) (env : Ev) (st : Sto)
  | bad

def R.then {α : Type} (m : R α) (env : Ev) (f : α → Sto → SR) : SR :=
  match m with
  | .ok a st => f a st
  | .exc c fs st => .exc c fs env st
  | .bad => .bad
def SR.then (m : SR) (f : Ev → Sto → SR) : SR :=
  match m with
  | .nx env st => f env st
  | .rt r st => .rt r st
  | .exc c fs env st => .exc c fs env st
  | .bad => .bad

/-- a value comes to a name: a new list or dict is laid into the store where the name is one that changes it -/
def store (i : Nat) (new : Bool) (r : Rv) (env : Ev) (st : Sto) : SR :=
  match new, r with
  | true, .nl xs => .nx (env.set i (some (.ref st.length))) (st ++ [.lst xs])
  | true, .nd kvs => .nx (env.set i (some (.ref st.length))) (st ++ [.dct kvs])
  | _, r => .nx (env.set i (some r.frz)) st

def forL (f : P → Ev → Sto → SR) : List P → Ev → Sto → SR
  | [], env, st => .nx env st
  | x :: xs, env, st => (f x env st).then fun env1 st1 => forL f xs env1 st1

/-- o[i] = v on an object of the store -/
def setop (o : D) (i v : P) (st : Sto) : Option Sto :=
  match o with
  | .ref n => match st[n]?, i with
    | some (.lst xs), .int k => (L2.ixN xs.length k).map fun j => st.set n (.lst (xs.set j v))
    | _, _ => none
  | _ => none

/-- a value for a name: a new list or dict is laid into the store where the name is one that changes it -/
def pushD (new : Bool) (r : Rv) (st : Sto) : R D :=
  match new, r with
  | true, .nl xs => .ok (.ref st.length) (st ++ [.lst xs])
  | true, .nd kvs => .ok (.ref st.length) (st ++ [.dct kvs])
  | _, r => .ok r.frz st
def evPar (Φ : Nat → List D → Sto → R Rv) (env : Ev) : List (Bool × X) → Sto → R (List D)
  | [], st => .ok [] st
  | (new, e) :: es, st => ((evE Φ env e st).bind fun r st1 => pushD new r st1).bind fun d st1 => (evPar Φ env es st1).bind fun ds st2 => .ok (d :: ds) st2
def setDs (env : Ev) : List Nat → List D → Ev
  | i :: is, d :: ds => setDs (env.set i (some d)) is ds
  | _, _ => env
mutual
def evS (Φ : Nat → List D → Sto → R Rv) : S → Ev → Sto → SR
  | .asg i new e, env, st => (evE Φ env e st).then env fun r st1 => store i new r env st1
  | .par is es, env, st => (evPar Φ env es st).then env fun ds st1 => if ds.length = is.length then .nx (setDs env is ds) st1 else .bad
  | .unp is e, env, st => (evE Φ env e st).then env fun r st1 => match r with
    | .im (.py (.tuple ys)) => if ys.length = is.length then .nx (setName env is ys) st1 else .bad
    | _ => .bad
  | .setI o i e, env, st => (evE Φ env e st).then env fun v st1 => (evE Φ env o st1).then env fun x st2 => (evE Φ env i st2).then env fun y st3 =>
      match v.frz, x, y with
      | .py p, .im d, .im (.py k) => match setop d k p st3 with
        | some st4 => .nx env st4
        | none => .bad
      | _, _, _ => .bad
  | .app _ _, _, _ => .bad
  | .expr e, env, st => (evE Φ env e st).then env fun _ st1 => .nx env st1
  | .ret e, env, st => (evE Φ env e st).then env fun r st1 => .rt r st1
  | .ife c t f, env, st => (evE Φ env c st).then env fun r st1 => match r with
    | .im (.py (.bool k)) => if k then evSs Φ t env st1 else evSs Φ f env st1
    | _ => .bad
  | .for tg k es body, env, st => (evDs Φ env es st).then env fun ds st1 => match itemsD k ds with
    | some ys => forL (fun y env1 st2 => match bindT tg env1 y with
        | some env2 => evSs Φ body env2 st2
        | none => .bad) ys env st1
    | none => .bad
  | .whl _ _, _, _ => .bad
  | .raise _ _, _, _ => .bad
  | .pass, env, st => .nx env st
def evSs (Φ : Nat → List D → Sto → R Rv) : List S → Ev → Sto → SR
  | [], env, st => .nx env st
  | s :: ss, env, st => (evS Φ s env st).then fun env1 st1 => evSs Φ ss env1 st1
end

/-- behind a def: what it made in the store goes; a list of its own that it gives back is a new one -/
def trunc (n : Nat) (r : Rv) (st : Sto) : R Rv :=
  match r with
  | .im (.ref m) => if m < n then .ok r (st.take n) else match st[m]? with
    | some (.lst xs) => .ok (.nl xs) (st.take n)
    | some (.dct kvs) => .ok (.nd kvs) (st.take n)
    | _ => .bad
  | r => .ok r (st.take n)
def fin (n : Nat) : SR → R Rv
  | .nx _ st => trunc n (imp .none) st
  | .rt r st => trunc n r st
  | .exc c fs _ st => .exc c fs (st.take n)
  | .bad => .bad

structure Fn where
  np : Nat
  ns : Nat
  body : List S

def evFn (fs : List Fn) : Nat → Nat → List D → Sto → R Rv
  | 0, _, _, _ => .bad
  | k + 1, j, args, st => match fs[j]? with
    | some f => if args.length = f.np then fin st.length (evSs (evFn fs k) f.body (args.map some ++ List.replicate (f.ns - f.np) none) st) else .bad
    | none => .bad
end Kp

/-! Kp, part 2: from the text's trees to the small language. -/
namespace Kp
open PySem

/-- what a global name is -/
inductive G where
  | fn (j : Nat)
  | con (p : P)
  | blt (b : Blt)
  | ty (t : Ty)
  | isi
  | range
  | set

structure Cfg where
  g : Str → Option G
  N : List Str
  new : Str → Bool

def isVar : NameKind → Bool
  | .local => true
  | .cell => true
  | .free => true
  | _ => false
def okN (x : Str) : Bool := !(x == ("__debug__" : Str)) && !(x == ("__classdict__" : Str))
def slot (c : Cfg) (sc : Scope) (x : Str) : Option Nat :=
  match sc.names.lookup x with
  | some k => if isVar k && okN x then c.N.idxOf? x else none
  | none => none
/-- a name of the frame (or block) itself -/
def slotOwn (c : Cfg) (sc : Scope) (x : Str) : Option Nat :=
  match sc.names.lookup x with
  | some .local => c.N.idxOf? x
  | some .cell => c.N.idxOf? x
  | _ => none
def glob (c : Cfg) (sc : Scope) (x : Str) : Option G :=
  match sc.names.lookup x with
  | some .globalImplicit => if !(x == ("__debug__" : Str)) && !(x == ("__name__" : Str)) then c.g x else none
  | _ => none

def bopOf : Operator → Option Bop
  | .Add => some .add | .Sub => some .sub | .Mult => some .mul | .FloorDiv => some .fdiv | .Mod => some .mod | .Pow => some .pow
  | _ => none
def copOf : CmpOp → Option Cop
  | .Eq => some .eq | .NotEq => some .ne | .Lt => some .lt | .LtE => some .le | .Gt => some .gt | .GtE => some .ge
  | .Is => some .is | .IsNot => some .isnot | .In => some .in_ | .NotIn => some .notin
def isSet : Expr → Bool
  | .Set .. => true
  | _ => false
def tyCall : Ty → Option Blt
  | .str => some .str | .tup => some .tuple | .list => some .list | .int => some .int
  | .bool => none
def constOf : Const → Option P
  | .none => some .none
  | .bool b => some (.bool b)
  | .int i => some (.int i)
  | .str s => some (.str s)
  | _ => none


def nameOf : Expr → Option Str
  | .Name x _ => some x
  | _ => none
/-- a comprehension's target: its slots -/
def tgOf (c : Cfg) (scope : Scope) : Expr → Option (Tg × List (Str × Nat))
  | .Name x _ => (slotOwn c scope x).map fun i => (.one i, [(x, i)])
  | .Tuple es _ _ => match es.mapM nameOf with
    | some xs => match xs.mapM (slotOwn c scope) with
      | some is => some (.tup is, xs.zip is)
      | none => none
    | none => none
  | _ => none

/-- how an iterable is gone through -/
def itOf (c : Cfg) (sc : Scope) (iter : Expr) (whole : Option X) (args : Option (List X)) : Option (Ik × List X) :=
  match iter with
  | .Call (.Name f _) as [] _ => match glob c sc f with
    | some .range => match args with
      | some [a] => some (.rng1, [a])
      | some [a, b] => some (.rng2, [a, b])
      | _ => none
    | _ => whole.map fun i => (.seq, [i])
  | .Set .. => none
  | _ => whole.map fun i => (.seq, [i])

mutual
def compE (c : Cfg) (sc : Scope) : Expr → Option X
  | .Constant k _ _ => (constOf k).map .const
  | .Name x _ => match slot c sc x with
    | some i => some (.var i)
    | none => match glob c sc x with
      | some (.con p) => some (.const p)
      | _ => none
  | .Tuple es _ _ => (compEs c sc es).map .tup
  | .List es _ => (compEs c sc es).map .lst
  | .BinOp l o r _ => match bopOf o, compE c sc l, compE c sc r with
    | some b, some x, some y => some (.bin b x y)
    | _, _, _ => none
  | .UnaryOp .Not x _ => (compE c sc x).map .not
  | .UnaryOp .USub x _ => (compE c sc x).map .neg
  | .BoolOp .And es _ => compAnd c sc es
  | .BoolOp .Or es _ => compOr c sc es
  | .Compare l [o] [r] _ => if isSet r then none else match copOf o, compE c sc l, compE c sc r with
    | some b, some x, some y => some (.cmp b x y)
    | _, _, _ => none
  | .Compare l [o, o'] [r, r'] _ => if isSet r' then none else match copOf o, copOf o', compE c sc l, compE c sc r, compE c sc r' with
    | some b, some b', some x, some y, some z => some (.chain b b' x y z)
    | _, _, _, _, _ => none
  | .IfExp t a b _ => match compE c sc t, compE c sc a, compE c sc b with
    | some x, some y, some z => some (.ife x y z)
    | _, _, _ => none
  | .Subscript v (.Slice lo hi none _) _ => match compE c sc v, compO c sc lo, compO c sc hi with
    | some x, some y, some z => some (.slc x y z)
    | _, _, _ => none
  | .Subscript _ (.Slice _ _ (some _) _) _ => none
  | .Subscript v i _ => match compE c sc v, compE c sc i with
    | some x, some y => some (.idx x y)
    | _, _ => none
  | .Call (.Name f _) (a :: as) [] _ => match glob c sc f, as with
    | some (.fn j), _ => match compEs c sc (a :: as) with
      | some xs => some (.call j xs)
      | none => none
    | some (.blt b), _ => match compEs c sc (a :: as) with
      | some xs => some (.blt b xs)
      | none => none
    | some (.ty t), _ => match tyCall t, compEs c sc (a :: as) with
      | some b, some xs => some (.blt b xs)
      | _, _ => none
    | some .isi, [.Name t _] => match glob c sc t, compE c sc a with
      | some (.ty ty), some x => some (.isi ty x)
      | _, _ => none
    | _, _ => none
  | .ListComp elt [⟨tg, iter, ifs, 0⟩] scope _ => match tgOf c scope tg with
    | some (t, own) => if L2.blkC c.N sc scope own && decide (ifs.length ≤ 1) then match itOf c sc iter (compE c sc iter) (compA c sc iter), compEs c (L2.relS scope sc) ifs, compE c (L2.relS scope sc) elt with
        | some (k, xs), some fs, some x => some (.comp x t k xs fs)
        | _, _, _ => none
      else none
    | none => none
  | _ => none
def compEs (c : Cfg) (sc : Scope) : List Expr → Option (List X)
  | [] => some []
  | e :: es => match compE c sc e, compEs c sc es with
    | some x, some xs => some (x :: xs)
    | _, _ => none
def compAnd (c : Cfg) (sc : Scope) : List Expr → Option X
  | [] => none
  | e :: es => match compE c sc e, compAnd c sc es with
    | some x, some y => some (.and x y)
    | some x, none => if es.isEmpty then some x else none
    | _, _ => none
def compOr (c : Cfg) (sc : Scope) : List Expr → Option X
  | [] => none
  | e :: es => match compE c sc e, compOr c sc es with
    | some x, some y => some (.or x y)
    | some x, none => if es.isEmpty then some x else none
    | _, _ => none
def compO (c : Cfg) (sc : Scope) : Option Expr → Option X
  | none => some (.const .none)
  | some e => compE c sc e
/-- a call's arguments -/
def compA (c : Cfg) (sc : Scope) : Expr → Option (List X)
  | .Call _ as _ _ => compEs c sc as
  | _ => none
end

def isComp : Expr → Bool
  | .ListComp .. => true
  | .SetComp .. => true
  | .DictComp .. => true
  | _ => false
/-- how a comprehension is stored at a name: as a local on its own line (some true), as any other value (some false) -/
def okAsg (sc : Scope) (x : Str) (px : Pos) (v : Expr) : Option Bool :=
  match v with
  | .ListComp _ _ scope pos => match sc.names.lookup x with
    | some .local => if (px.line == pos.line) && !(scope.names.any fun (n, k) => n == x && (k == .local || k == .cell)) then some true else none
    | some .cell => some false
    | _ => none
  | v => if isComp v then none else some false
/-- names stored from the right: plain locals on one line -/
def isLocal (sc : Scope) (x : Str) : Bool :=
  match sc.names.lookup x with
  | some .local => true
  | _ => false
def parOk (sc : Scope) (xs : List (Str × Pos)) (vs : List Expr) : Bool :=
  (match xs with
   | [a, b] => a.2.line == b.2.line && a.1 != b.1
   | [a, b, d] => a.2.line == b.2.line && a.2.line == d.2.line && a.1 != b.1 && a.1 != d.1 && b.1 != d.1
   | _ => false) && xs.all (fun p => isLocal sc p.1) && !vs.all (foldedForSure 8) && !vs.all (constantsAlone 8) && vs.length == xs.length
def nameP : Expr → Option (Str × Pos)
  | .Name x p => some (x, p)
  | _ => none

mutual
def compS (c : Cfg) (sc : Scope) : Stmt → Option S
  | .Assign [.Name x px] v _ => match slotOwn c sc x, compE c sc v with
    | some i, some e => if (okAsg sc x px v).isSome then some (.asg i (c.new x) e) else none
    | _, _ => none
  | .Assign [.Subscript o i _] v _ => if isComp v then none else match compE c sc o, compE c sc i, compE c sc v with
    | some x, some y, some z => some (.setI x y z)
    | _, _, _ => none
  | .Assign [.Tuple ts _ _] v _ => match ts.mapM nameP with
    | some xs => match xs.mapM (fun p => slotOwn c sc p.1) with
      | some is => match v with
        | .Tuple vs _ _ => if parOk sc xs vs then (compEs c sc vs).map fun es => .par is ((xs.map fun p => c.new p.1).zip es) else if vs.all (foldedForSure 8) then (compE c sc v).map fun e => .unp is e else none
        | v => if isComp v then none else (compE c sc v).map fun e => .unp is e
      | none => none
    | none => none
  | .Return (some e) _ => (compE c sc e).map .ret
  | .Return none _ => some (.ret (.const .none))
  | .Expr (.Constant (.str _) _ _) _ => some .pass
  | .Expr e _ => if isComp e then none else (compE c sc e).map .expr
  | .If t a b _ => match compE c sc t, compSs c sc a, compSs c sc b with
    | some x, some y, some z => some (.ife x y z)
    | _, _, _ => none
  | .For tg iter body [] _ => match tgOf c sc tg, itOf c sc iter (compE c sc iter) (compA c sc iter), compSs c sc body with
    | some (t, _), some (k, xs), some ss => some (.for t k xs ss)
    | _, _, _ => none
  | .Pass _ => some .pass
  | _ => none
def compSs (c : Cfg) (sc : Scope) : List Stmt → Option (List S)
  | [] => some []
  | s :: ss => match compS c sc s, compSs c sc ss with
    | some x, some xs => some (x :: xs)
    | _, _ => none
end
end Kp

/-! Kp, part 3: how the evaluator's values stand in the heap. -/
namespace Kp
open PySem PySem.Spec PyProof.Rows L2

/-! ### data that never changes -/
/-- a list that is known, or one of the module's own -/
def FzL (K : PySem.W.Frag) (H : Hp) (a : Addr) (vs : List V) : Prop :=
  (∃ o, H a = some (.frz o (.lst vs))) ∨
    ∃ (o : Obj) (its : Array Value) (n : Nat), K.lookup a = some o ∧ o.cls = .type "list" ∧ o.dict = none ∧ o.data = .seq its n ∧ its.size ≤ sizeLine ∧ Vals vs its.toList
theorem FzL.sq {K : PySem.W.Frag} {H : Hp} {a : Addr} {vs : List V} (h : FzL K H a vs) : SqL K H a vs := by
  rcases h with ⟨o, h⟩ | h
  · exact .inl (.inr ⟨o, h⟩)
  · exact .inr h

mutual
/-- the value stands for the data -/
def Im (K : PySem.W.Frag) (H : Hp) : P → V → Prop
  | .none, v => v = .non
  | .bool b, v => v = .bl b
  | .int i, v => v = .int i
  | .str s, v => v = .str s
  | .list ds, v => ∃ a vs, v = .ref a ∧ FzL K H a vs ∧ vs.length ≤ sizeLine ∧ ImAll K H ds vs
  | .tuple ds, v => ∃ a vs, v = .ref a ∧ SqT K H a vs ∧ vs.length ≤ sizeLine ∧ ImAll K H ds vs
  | .dict _, _ => False
def ImAll (K : PySem.W.Frag) (H : Hp) : List P → List V → Prop
  | [], vs => vs = []
  | d :: ds, vs => ∃ v r, vs = v :: r ∧ Im K H d v ∧ ImAll K H ds r
end

/-- what is known stays -/
structure Ext (H H' : Hp) : Prop where
  tup : ∀ a xs, H a = some (.tup xs) → H' a = some (.tup xs)
  frz : ∀ a o u, H a = some (.frz o u) → H' a = some (.frz o u)
theorem Ext.refl {H : Hp} : Ext H H := ⟨fun _ _ h => h, fun _ _ _ h => h⟩
theorem Ext.trans {H1 H2 H3 : Hp} (a : Ext H1 H2) (b : Ext H2 H3) : Ext H1 H3 :=
  ⟨fun x xs h => b.tup x xs (a.tup x xs h), fun x o u h => b.frz x o u (a.frz x o u h)⟩
theorem Ext.new {H : Hp} {p : Addr} {o : HO} (h : H p = none) : Ext H (upd H p o) :=
  ⟨fun a xs e => by rw [upd_ne (ne_of_none e h)]; exact e, fun a ob u e => by rw [upd_ne (ne_of_none e h)]; exact e⟩
theorem Ext.lst {H : Hp} {p : Addr} {o : HO} {xs : List V} (h : H p = some (.lst xs)) : Ext H (upd H p o) := by
  refine ⟨fun a ys e => ?_, fun a ob u e => ?_⟩
  · have n : a ≠ p := ne_of e h (by intro z; cases z)
    rw [upd_ne n]; exact e
  · have n : a ≠ p := ne_of e h (by intro z; cases z)
    rw [upd_ne n]; exact e

theorem SqT.ext {K : PySem.W.Frag} {H H' : Hp} {a : Addr} {vs : List V} (e : Ext H H') (h : SqT K H a vs) : SqT K H' a vs := by
  rcases h with (h | ⟨o, h⟩) | h
  · exact .inl (.inl (e.tup _ _ h))
  · exact .inl (.inr ⟨o, e.frz _ _ _ h⟩)
  · exact .inr h
theorem FzL.ext {K : PySem.W.Frag} {H H' : Hp} {a : Addr} {vs : List V} (e : Ext H H') (h : FzL K H a vs) : FzL K H' a vs := by
  rcases h with ⟨o, h⟩ | h
  · exact .inl ⟨o, e.frz _ _ _ h⟩
  · exact .inr h

mutual
theorem Im.ext {K : PySem.W.Frag} {H H' : Hp} (e : Ext H H') : ∀ (p : P) (v : V), Im K H p v → Im K H' p v
  | .none, v, h => h
  | .bool b, v, h => h
  | .int i, v, h => h
  | .str s, v, h => h
  | .list ds, v, h => by
    obtain ⟨a, vs, e1, h1, h2, h3⟩ := h
    exact ⟨a, vs, e1, h1.ext e, h2, ImAll.ext e ds vs h3⟩
  | .tuple ds, v, h => by
    obtain ⟨a, vs, e1, h1, h2, h3⟩ := h
    exact ⟨a, vs, e1, SqT.ext e h1, h2, ImAll.ext e ds vs h3⟩
  | .dict _, v, h => h
theorem ImAll.ext {K : PySem.W.Frag} {H H' : Hp} (e : Ext H H') : ∀ (ps : List P) (vs : List V), ImAll K H ps vs → ImAll K H' ps vs
  | [], vs, h => h
  | d :: ds, vs, h => by
    obtain ⟨v, r, e1, h1, h2⟩ := h
    exact ⟨v, r, e1, Im.ext e d v h1, ImAll.ext e ds r h2⟩
end

section
variable {K : PySem.W.Frag} {H : Hp}
theorem ImAll.length : ∀ {ps : List P} {vs : List V}, ImAll K H ps vs → ps.length = vs.length
  | [], vs, h => by have h : vs = [] := h; subst h; rfl
  | d :: ds, vs, h => by
    obtain ⟨v, r, e, _, h2⟩ := h
    subst e
    rw [List.length_cons, List.length_cons, ImAll.length h2]
theorem ImAll.nil : ImAll K H [] [] := rfl
theorem ImAll.cons {p : P} {v : V} {ps : List P} {vs : List V} (h : Im K H p v) (t : ImAll K H ps vs) : ImAll K H (p :: ps) (v :: vs) := ⟨v, vs, rfl, h, t⟩
theorem ImAll.append : ∀ {ps qs : List P} {vs ws : List V}, ImAll K H ps vs → ImAll K H qs ws → ImAll K H (ps ++ qs) (vs ++ ws)
  | [], qs, vs, ws, h, g => by have h : vs = [] := h; subst h; exact g
  | d :: ds, qs, vs, ws, h, g => by
    obtain ⟨v, r, e, h1, h2⟩ := h
    subst e
    exact ⟨v, r ++ ws, rfl, h1, h2.append g⟩
theorem ImAll.take : ∀ {ps : List P} {vs : List V} (n : Nat), ImAll K H ps vs → ImAll K H (ps.take n) (vs.take n)
  | [], vs, n, h => by have h : vs = [] := h; subst h; cases n <;> exact ImAll.nil
  | d :: ds, vs, 0, h => ImAll.nil
  | d :: ds, vs, n + 1, h => by
    obtain ⟨v, r, e, h1, h2⟩ := h
    subst e
    exact ⟨v, r.take n, rfl, h1, h2.take n⟩
theorem ImAll.drop : ∀ {ps : List P} {vs : List V} (n : Nat), ImAll K H ps vs → ImAll K H (ps.drop n) (vs.drop n)
  | [], vs, n, h => by have h : vs = [] := h; subst h; cases n <;> exact ImAll.nil
  | d :: ds, vs, 0, h => h
  | d :: ds, vs, n + 1, h => by
    obtain ⟨v, r, e, h1, h2⟩ := h
    subst e
    exact h2.drop n
theorem ImAll.get : ∀ {ps : List P} {vs : List V} {i : Nat} {p : P}, ImAll K H ps vs → ps[i]? = some p → ∃ v, vs[i]? = some v ∧ Im K H p v
  | [], vs, i, p, h, e => by simp at e
  | d :: ds, vs, 0, p, h, e => by
    obtain ⟨v, r, e1, h1, h2⟩ := h
    subst e1
    have e : d = p := by simpa using e
    subst e
    exact ⟨v, rfl, h1⟩
  | d :: ds, vs, i + 1, p, h, e => by
    obtain ⟨v, r, e1, h1, h2⟩ := h
    subst e1
    have e : ds[i]? = some p := by simpa using e
    obtain ⟨w, q1, q2⟩ := h2.get e
    exact ⟨w, by simpa using q1, q2⟩
theorem ImAll.get' : ∀ {ps : List P} {vs : List V} {i : Nat} {v : V}, ImAll K H ps vs → vs[i]? = some v → ∃ p, ps[i]? = some p ∧ Im K H p v
  | [], vs, i, v, h, e => by have h : vs = [] := h; subst h; simp at e
  | d :: ds, vs, 0, v, h, e => by
    obtain ⟨w, r, e1, h1, h2⟩ := h
    subst e1
    have e : w = v := by simpa using e
    subst e
    exact ⟨d, rfl, h1⟩
  | d :: ds, vs, i + 1, v, h, e => by
    obtain ⟨w, r, e1, h1, h2⟩ := h
    subst e1
    have e : r[i]? = some v := by simpa using e
    obtain ⟨p, q1, q2⟩ := h2.get' e
    exact ⟨p, by simpa using q1, q2⟩
theorem ImAll.set : ∀ {ps : List P} {vs : List V} (i : Nat) {p : P} {v : V}, ImAll K H ps vs → Im K H p v → ImAll K H (ps.set i p) (vs.set i v)
  | [], vs, i, p, v, h, g => by have h : vs = [] := h; subst h; exact ImAll.nil
  | d :: ds, vs, 0, p, v, h, g => by
    obtain ⟨w, r, e1, h1, h2⟩ := h
    subst e1
    exact ⟨v, r, rfl, g, h2⟩
  | d :: ds, vs, i + 1, p, v, h, g => by
    obtain ⟨w, r, e1, h1, h2⟩ := h
    subst e1
    exact ⟨w, r.set i v, rfl, h1, h2.set i g⟩
theorem ImAll.at {ps : List P} {vs : List V} {i : Int} {p : P} (h : ImAll K H ps vs) (e : atI ps i = some p) : ∃ v, atI vs i = some v ∧ Im K H p v := by
  unfold atI at e ⊢
  rw [← h.length]
  cases q : ixN ps.length i with
  | none => rw [q] at e; cases e
  | some j =>
    rw [q] at e
    exact h.get e
theorem ImAll.cut {ps : List P} {vs : List V} (lo hi : Option Int) (h : ImAll K H ps vs) : ImAll K H (cutL ps lo hi) (cutV vs lo hi) := by
  unfold cutL cutV
  rw [h.length]
  exact (h.drop _).take _
end

/-! ### as the library reads data -/
mutual
theorem Im.reads {X : Cx} {pins : List (Addr × Obj)} {σ : L2.St} {H : Hp} {s : Shared} (I : Inv X pins σ H s) : ∀ (p : P) (v : V) (u : Value), Im X.K H p v → RelV v u → ∃ as, Reads s.heap u p as
  | .none, v, u, h, r => by
    have h : v = .non := h
    subst h
    cases (show u = Value.none from r)
    exact ⟨_, .none⟩
  | .bool b, v, u, h, r => by
    have h : v = .bl b := h
    subst h
    cases (show u = Value.bool b from r)
    exact ⟨_, .bool b⟩
  | .int i, v, u, h, r => by
    have h : v = .int i := h
    subst h
    obtain ⟨t, e⟩ := (show ∃ t, u = Value.int i t from r)
    subst e
    exact ⟨_, .int i t⟩
  | .str x, v, u, h, r => by
    have h : v = .str x := h
    subst h
    obtain ⟨t, e⟩ := (show ∃ t, u = Value.str x t from r)
    subst e
    exact ⟨_, .str x t⟩
  | .list ds, v, u, h, r => by
    obtain ⟨a, vs, e, h1, h2, h3⟩ := h
    subst e
    cases (show u = Value.ref a from r)
    obtain ⟨its, rv, ⟨o, n, e1, e2, e3, e4⟩, _⟩ := I.list h1.sq
    obtain ⟨as, q⟩ := ImAll.reads I ds vs its h3 rv
    exact ⟨_, .list e1 e2 e4 (by simpa using q)⟩
  | .tuple ds, v, u, h, r => by
    obtain ⟨a, vs, e, h1, h2, h3⟩ := h
    subst e
    cases (show u = Value.ref a from r)
    obtain ⟨its, rv, ⟨o, e1, e2, n, e4⟩, _⟩ := I.tuple h1
    obtain ⟨as, q⟩ := ImAll.reads I ds vs its h3 rv
    exact ⟨_, .tuple e1 e2 e4 (by simpa using q)⟩
  | .dict _, v, u, h, r => h.elim
theorem ImAll.reads {X : Cx} {pins : List (Addr × Obj)} {σ : L2.St} {H : Hp} {s : Shared} (I : Inv X pins σ H s) : ∀ (ps : List P) (vs : List V) (us : List Value), ImAll X.K H ps vs → Vals vs us → ∃ as, ReadsAll s.heap us ps as
  | [], vs, us, h, r => by
    have h : vs = [] := h
    subst h
    cases r
    exact ⟨_, .nil⟩
  | d :: ds, vs, us, h, r => by
    obtain ⟨v, q, e, h1, h2⟩ := h
    subst e
    cases r with
    | cons r1 r2 =>
      obtain ⟨as, x1⟩ := Im.reads I d v _ h1 r1
      obtain ⟨bs, x2⟩ := ImAll.reads I ds q _ h2 r2
      exact ⟨_, .cons x1 x2⟩
end

/-! ### values and the store -/
def DR (K : PySem.W.Frag) (α : List Addr) (H : Hp) : D → V → Prop
  | .py p, v => Im K H p v
  | .ref n, v => ∃ a, α[n]? = some a ∧ v = .ref a
def DRs (K : PySem.W.Frag) (α : List Addr) (H : Hp) : List D → List V → Prop
  | [], vs => vs = []
  | d :: ds, vs => ∃ v r, vs = v :: r ∧ DR K α H d v ∧ DRs K α H ds r
def ObR (K : PySem.W.Frag) (α : List Addr) (H : Hp) : Ob → Addr → Prop
  | .lst ds, a => ∃ vs, H a = some (.lst vs) ∧ vs.length ≤ sizeLine ∧ ImAll K H ds vs
  | .dct _, _ => False
  | .dead, a => ∃ o, H a = some o
structure StR (K : PySem.W.Frag) (α : List Addr) (H : Hp) (st : Sto) : Prop where
  len : α.length = st.length
  nd : α.Nodup
  ob : ∀ (n : Nat) (o : Ob) (a : Addr), st[n]? = some o → α[n]? = some a → ObR K α H o a
structure EvR (K : PySem.W.Frag) (α : List Addr) (H : Hp) (env : Ev) (σ : L2.St) : Prop where
  len : env.length = σ.length
  at_ : ∀ (i : Nat) (d : D), env[i]? = some (some d) → ∃ v, σ[i]? = some (some v) ∧ DR K α H d v
def RvR (K : PySem.W.Frag) (α : List Addr) (H : Hp) : Rv → V → Prop
  | .im d, v => DR K α H d v
  | .nl ds, v => ∃ a vs, v = .ref a ∧ H a = some (.lst vs) ∧ vs.length ≤ sizeLine ∧ ImAll K H ds vs ∧ a ∉ α
  | .nd _, _ => False
/-- .. new lists frozen -/
def RvF (K : PySem.W.Frag) (α : List Addr) (H : Hp) (r : Rv) (v : V) : Prop := DR K α H r.frz v

/-- the addresses of the store grow -/
def Pre (α β : List Addr) : Prop := ∃ γ, β = α ++ γ
theorem Pre.refl {α : List Addr} : Pre α α := ⟨[], by simp⟩
theorem Pre.trans {α β γ : List Addr} (a : Pre α β) (b : Pre β γ) : Pre α γ := by
  obtain ⟨x, rfl⟩ := a
  obtain ⟨y, rfl⟩ := b
  exact ⟨x ++ y, by simp⟩
theorem Pre.get {α β : List Addr} (h : Pre α β) {n : Nat} {a : Addr} (e : α[n]? = some a) : β[n]? = some a := by
  obtain ⟨x, rfl⟩ := h
  have hn := (List.getElem?_eq_some_iff.mp e).1
  rw [List.getElem?_append_left hn]; exact e
theorem Pre.len {α β : List Addr} (h : Pre α β) : α.length ≤ β.length := by
  obtain ⟨x, rfl⟩ := h
  simp

section
variable {K : PySem.W.Frag} {α β : List Addr} {H H' : Hp}
theorem DR.mono (p : Pre α β) (e : Ext H H') : ∀ {d : D} {v : V}, DR K α H d v → DR K β H' d v
  | .py q, v, h => Im.ext e q v h
  | .ref n, v, h => by
    obtain ⟨a, h1, h2⟩ := h
    exact ⟨a, p.get h1, h2⟩
theorem DRs.mono (p : Pre α β) (e : Ext H H') : ∀ {ds : List D} {vs : List V}, DRs K α H ds vs → DRs K β H' ds vs
  | [], vs, h => h
  | d :: ds, vs, h => by
    obtain ⟨v, r, e1, h1, h2⟩ := h
    exact ⟨v, r, e1, h1.mono p e, DRs.mono p e h2⟩
theorem DRs.length : ∀ {ds : List D} {vs : List V}, DRs K α H ds vs → ds.length = vs.length
  | [], vs, h => by have h : vs = [] := h; subst h; rfl
  | d :: ds, vs, h => by
    obtain ⟨v, r, e1, h1, h2⟩ := h
    subst e1
    rw [List.length_cons, List.length_cons, DRs.length h2]
theorem EvR.mono (p : Pre α β) (e : Ext H H') {env : Ev} {σ : L2.St} (h : EvR K α H env σ) : EvR K β H' env σ :=
  ⟨h.len, fun i d q => by
    obtain ⟨v, h1, h2⟩ := h.at_ i d q
    exact ⟨v, h1, h2.mono p e⟩⟩
theorem EvR.set {env : Ev} {σ : L2.St} (h : EvR K α H env σ) (i : Nat) {d : D} {v : V} (r : DR K α H d v) : EvR K α H (env.set i (some d)) (σ.set i (some v)) := by
  refine ⟨by rw [List.length_set, List.length_set]; exact h.len, fun j d' q => ?_⟩
  by_cases e : i = j
  · subst e
    by_cases hi : i < env.length
    · rw [List.getElem?_set_self hi] at q
      have q : d = d' := by simpa using q
      subst q
      refine ⟨v, ?_, r⟩
      rw [List.getElem?_set_self (by rw [← h.len]; exact hi)]
    · rw [List.getElem?_eq_none (by rw [List.length_set]; omega)] at q
      cases q
  · rw [List.getElem?_set_ne e] at q
    obtain ⟨w, h1, h2⟩ := h.at_ j d' q
    exact ⟨w, by rw [List.getElem?_set_ne e]; exact h1, h2⟩
/-- an object of the store as data -/
theorem StR.lst {st : Sto} (S : StR K α H st) {n : Nat} {xs : List P} (h : st[n]? = some (.lst xs)) : ∃ a vs, α[n]? = some a ∧ H a = some (.lst vs) ∧ vs.length ≤ sizeLine ∧ ImAll K H xs vs := by
  have hn := (List.getElem?_eq_some_iff.mp h).1
  have hn' : n < α.length := by rw [S.len]; exact hn
  have e := List.getElem?_eq_getElem hn'
  obtain ⟨vs, h1, h2, h3⟩ := S.ob n _ _ h e
  exact ⟨_, vs, e, h1, h2, h3⟩
theorem StR.some_ {st : Sto} (S : StR K α H st) {a : Addr} (ha : a ∈ α) : ∃ o, H a = some o := by
  obtain ⟨m, hm⟩ := List.getElem?_of_mem ha
  have hl : m < st.length := by rw [← S.len]; exact (List.getElem?_eq_some_iff.mp hm).1
  have q := S.ob m _ a (List.getElem?_eq_getElem hl) hm
  cases o : st[m] with
  | lst ds => rw [o] at q; obtain ⟨vs, q1, _⟩ := q; exact ⟨_, q1⟩
  | dct _ => rw [o] at q; exact q.elim
  | dead => rw [o] at q; exact q
theorem StR.out {st : Sto} (S : StR K α H st) {p : Addr} (n : H p = none) : p ∉ α := fun hp => by
  obtain ⟨o, e⟩ := S.some_ hp
  rw [n] at e; cases e
/-- the store's own objects are as they were -/
theorem StR.keep {st : Sto} (S : StR K α H st) (e : Ext H H') (k : ∀ a, a ∈ α → H' a = H a) : StR K α H' st := by
  refine ⟨S.len, S.nd, fun n o a h1 h2 => ?_⟩
  have q := S.ob n o a h1 h2
  have ka := k a (List.mem_of_getElem? h2)
  cases o with
  | lst ds =>
    obtain ⟨vs, q1, q2, q3⟩ := q
    exact ⟨vs, by rw [ka]; exact q1, q2, ImAll.ext e _ _ q3⟩
  | dct _ => exact q
  | dead =>
    obtain ⟨o, q⟩ := q
    exact ⟨o, by rw [ka]; exact q⟩
theorem StR.new {st : Sto} (S : StR K α H st) {p : Addr} {o : HO} (n : H p = none) : StR K α (upd H p o) st :=
  S.keep (Ext.new n) fun a ha => upd_ne fun e => S.out n (e ▸ ha)
theorem StR.froz {st : Sto} (S : StR K α H st) {p : Addr} {o : HO} {vs : List V} (h : H p = some (.lst vs)) (n : p ∉ α) : StR K α (upd H p o) st :=
  S.keep (Ext.lst h) fun a ha => upd_ne fun e => n (e ▸ ha)
/-- readable as data: as Im, but a list may be one that changes later -/
def PR (K : PySem.W.Frag) (H : Hp) : P → V → Prop
  | .list ds, v => ∃ a vs, v = .ref a ∧ SqL K H a vs ∧ vs.length ≤ sizeLine ∧ ImAll K H ds vs
  | p, v => Im K H p v
theorem Im.pr : ∀ {p : P} {v : V}, Im K H p v → PR K H p v
  | .none, v, h => h
  | .bool b, v, h => h
  | .int i, v, h => h
  | .str s, v, h => h
  | .list ds, v, h => by
    obtain ⟨a, vs, e, h1, h2, h3⟩ := h
    exact ⟨a, vs, e, h1.sq, h2, h3⟩
  | .tuple ds, v, h => h
  | .dict _, v, h => h.elim
theorem DR.pr {st : Sto} (S : StR K α H st) {d : D} {v : V} {p : P} (h : DR K α H d v) (e : deref st d = some p) : PR K H p v := by
  cases d with
  | py q =>
    have e : some q = some p := e
    cases e
    exact Im.pr h
  | ref n =>
    obtain ⟨a, h1, h2⟩ := h
    subst h2
    simp only [deref] at e
    split at e
    · rename_i xs q
      cases e
      have z := S.ob n _ a q h1
      obtain ⟨vs, z1, z2, z3⟩ := z
      exact ⟨a, vs, rfl, .inl (.inl z1), z2, z3⟩
    · rename_i kvs q
      exact (S.ob n _ a q h1).elim
    · cases e
theorem RvR.pr {st : Sto} (S : StR K α H st) {r : Rv} {v : V} {p : P} (h : RvR K α H r v) (e : asP st r = some p) : PR K H p v := by
  cases r with
  | im d => exact DR.pr S h e
  | nl ds =>
    have e : some (PyData.list ds) = some p := e
    cases e
    obtain ⟨a, vs, e1, h1, h2, h3, _⟩ := h
    exact ⟨a, vs, e1, .inl (.inl h1), h2, h3⟩
  | nd _ => exact h.elim
theorem PR.reads {X : Cx} {pins : List (Addr × Obj)} {σ : L2.St} {H : Hp} {s : Shared} (I : Inv X pins σ H s) {p : P} {v : V} {u : Value} (h : PR X.K H p v) (r : RelV v u) : ∃ as, Reads s.heap u p as := by
  cases p with
  | list ds =>
    obtain ⟨a, vs, e, h1, h2, h3⟩ := h
    subst e
    cases (show u = Value.ref a from r)
    obtain ⟨its, rv, ⟨o, n, e1, e2, e3, e4⟩, _⟩ := I.list h1
    obtain ⟨as, q⟩ := ImAll.reads I ds vs its h3 rv
    exact ⟨_, .list e1 e2 e4 (by simpa using q)⟩
  | none => exact Im.reads I _ v u h r
  | bool b => exact Im.reads I _ v u h r
  | int i => exact Im.reads I _ v u h r
  | str x => exact Im.reads I _ v u h r
  | tuple ds => exact Im.reads I _ v u h r
  | dict _ => exact Im.reads I _ v u h r
end
end Kp

/-! Kp, part 4: what is to be shown of a step; freezing. -/
namespace Kp
open PySem PySem.Spec PyProof.Rows L2

/-- the fixed things: the module's own objects, the classes by number -/
structure Fx where
  K : PySem.W.Frag
  cls : Nat → Value

/-- how an exception's attributes stand -/
def ExcR (K : PySem.W.Frag) (H : Hp) (fs : List (Str × P)) (d : Option Addr) : Prop :=
  match fs with
  | [] => d = none
  | fs => ∃ dx vs, d = some dx ∧ H dx = some (.xd vs) ∧ ∀ f p, fs.lookup f = some p → ∃ v, vs.lookup f = some v ∧ Im K H p v

section
variable {β γ δ : Type}
/-- from a result of the evaluator: what is wanted behind it -/
def Out (F : Fx) (W : WX) (RR : List Addr → Hp → β → γ → Prop) (σ : L2.St) (α : List Addr) (H : Hp) (m : R β) (Q : γ → Hp → Prop) : Prop :=
  match m with
  | .ok r st => ∀ (g : γ) (H' : Hp) (α' : List Addr), Pre α α' → Ext H H' → StR F.K α' H' st → RR α' H' r g → Q g H'
  | .exc c fs st => ∀ (d : Option Addr) (H' : Hp) (α' : List Addr), Pre α α' → Ext H H' → StR F.K α' H' st → ExcR F.K H' fs d → W (F.cls c) d σ H'
  | .bad => False
theorem Out.mono {F : Fx} {W : WX} {RR : List Addr → Hp → β → γ → Prop} {σ : L2.St} {α α1 : List Addr} {H H1 : Hp} {m : R β} {Q : γ → Hp → Prop}
    (h : Out F W RR σ α H m Q) (p : Pre α α1) (e : Ext H H1) : Out F W RR σ α1 H1 m Q := by
  cases m with
  | ok r st => exact fun g H' α' p' e' => h g H' α' (p.trans p') (e.trans e')
  | exc c fs st => exact fun d H' α' p' e' => h d H' α' (p.trans p') (e.trans e')
  | bad => exact h
theorem Out.imp {F : Fx} {W : WX} {RR : List Addr → Hp → β → γ → Prop} {σ : L2.St} {α : List Addr} {H : Hp} {m : R β} {Q Q' : γ → Hp → Prop}
    (h : Out F W RR σ α H m Q) (q : ∀ g H, Q g H → Q' g H) : Out F W RR σ α H m Q' := by
  cases m with
  | ok r st => exact fun g H' α' p' e' s rr => q _ _ (h g H' α' p' e' s rr)
  | exc c fs st => exact h
  | bad => exact h

/-- the reading of a tree that the evaluator gives the meaning m -/
def tM (F : Fx) (W : WX) (RR : List Addr → Hp → β → γ → Prop) (m : Ev → Sto → R β) : L2.St → Hp → (γ → Hp → Prop) → Prop := fun σ H Q =>
  ∃ env st α, EvR F.K α H env σ ∧ StR F.K α H st ∧ Out F W RR σ α H (m env st) Q
theorem tM.imp {F : Fx} {W : WX} {RR : List Addr → Hp → β → γ → Prop} {m : Ev → Sto → R β} {σ : L2.St} {H : Hp} {Q Q' : γ → Hp → Prop} (h : tM F W RR m σ H Q) (q : ∀ g H, Q g H → Q' g H) : tM F W RR m σ H Q' := by
  obtain ⟨env, st, α, hE, hS, ho⟩ := h
  exact ⟨env, st, α, hE, hS, ho.imp q⟩
/-- behind a part: what stands -/
structure At (F : Fx) (σ : L2.St) (α α1 : List Addr) (H H1 : Hp) (env : Ev) (st1 : Sto) : Prop where
  pre : Pre α α1
  ext : Ext H H1
  E : EvR F.K α1 H1 env σ
  S : StR F.K α1 H1 st1
theorem tM.bind {F : Fx} {W : WX} {RR : List Addr → Hp → β → γ → Prop} {ζ : Type} {RR' : List Addr → Hp → δ → ζ → Prop} {σ : L2.St} {α : List Addr} {H : Hp} {m : Ev → Sto → R β} {f : β → Sto → R δ} {Q : ζ → Hp → Prop} {env : Ev} {st : Sto}
    (hE : EvR F.K α H env σ) (hS : StR F.K α H st) (h : Out F W RR' σ α H ((m env st).bind f) Q) :
    tM F W RR m σ H fun g H1 => ∃ r st1 α1, At F σ α α1 H H1 env st1 ∧ RR α1 H1 r g ∧ Out F W RR' σ α1 H1 (f r st1) Q := by
  refine ⟨env, st, α, hE, hS, ?_⟩
  cases e : m env st with
  | ok r st1 =>
    rw [e] at h
    exact fun g H1 α1 p x s rr => ⟨r, st1, α1, ⟨p, x, hE.mono p x, s⟩, rr, Out.mono (show Out F W RR' σ α H (f r st1) Q from h) p x⟩
  | exc c fs st1 =>
    rw [e] at h
    exact h
  | bad =>
    rw [e] at h
    exact h
end

/-! ### freezing -/
section
variable {X : Cx} {pins : List (Addr × Obj)} {σ : L2.St} {H : Hp} {s : Shared}
theorem Inv.freeze (I : Inv X pins σ H s) {a : Addr} {vs : List V} (h : H a = some (.lst vs)) : ∃ o, Inv X pins σ (upd H a (.frz o (.lst vs))) s := by
  obtain ⟨z, its, n, r, e⟩ := (show ObjOk X.prog X.w H s.heap a (.lst vs) from I.hok a _ h)
  refine ⟨{ cls := .type "list", data := .seq its.toArray n }, ?_⟩
  have ne : ∀ b, H b = none → b ≠ a := fun b q c => by rw [c, h] at q; cases q
  have nt : ∀ b o, H b = some o → (∀ ws, o ≠ .lst ws) → b ≠ a := fun b o q k c => by
    rw [c, h] at q
    exact k vs (Option.some.inj q).symm
  refine ⟨I.ok, I.os, I.bare, ⟨I.base.keep, I.base.slot, fun b o q m x => ?_, I.base.there, fun b xs q => ?_, fun b o u q => ?_, fun b ps q => ?_⟩, I.loc, I.cell, ?_, fun x c q => ?_, fun p hp => ?_, fun b o q => ?_, I.len⟩
  · have z := I.base.free b o q m x
    rw [upd_ne (ne b z)]; exact z
  · have z := I.base.tups b xs q
    rw [upd_ne (nt b _ z (by intro ws c; cases c))]; exact z
  · have z := I.base.frzs b o u q
    rw [upd_ne (nt b _ z (by intro ws c; cases c))]; exact z
  · obtain ⟨more, z⟩ := I.base.tbls b ps q
    exact ⟨more, by rw [upd_ne (nt b _ z (by intro ws c; cases c))]; exact z⟩
  · have z := I.free
    rw [upd_ne (ne _ z)]; exact z
  · have z := I.freeC x c q
    rw [upd_ne (ne _ z)]; exact z
  · obtain ⟨p1, p2, p3, p4, p5⟩ := I.pin p hp
    exact ⟨p1, by rw [upd_ne (ne _ p2)]; exact p2, p3, p4, p5⟩
  · by_cases c : b = a
    · subst c
      rw [upd_same] at q
      cases q
      exact ⟨e, z, its, n, r, e⟩
    · rw [upd_ne c] at q
      refine (I.hok b o q).stay (fun _ _ _ x => x) (fun d x => ?_) fun d xs x => ?_
      · rw [upd_ne (nt d _ x (by intro ws c; cases c))]; exact x
      · rw [upd_ne (nt d _ x (by intro ws c; cases c))]; exact x
end

section
variable {X : Cx} {F : Fx} {W : WX}
theorem _root_.L2.PE.imp {e : Expr} {t t' : TE} (h : PE X e t) (i : ∀ σ H Q, t' σ H Q → t σ H Q) : PE X e t' := ⟨fun pins s σ H Q I q => h.run pins s σ H Q I (i _ _ _ q)⟩
theorem _root_.L2.PT.imp {e : Expr} {t t' : TT} (h : PT X e t) (i : ∀ σ H Q, t' σ H Q → t σ H Q) : PT X e t' := ⟨fun pins s σ H Q I q => h.run pins s σ H Q I (i _ _ _ q)⟩
theorem _root_.L2.PW.imp {e : Expr} {t t' : TT} (h : PW X e t) (i : ∀ σ H Q, t' σ H Q → t σ H Q) : PW X e t' := ⟨fun w pins s σ H Q I q => h.run w pins s σ H Q I (i _ _ _ q)⟩
theorem _root_.L2.PA.imp {e : List Expr} {t t' : TA} (h : PA X e t) (i : ∀ σ H Q, t' σ H Q → t σ H Q) : PA X e t' := ⟨fun p pins s σ H Q I q => h.run p pins s σ H Q I (i _ _ _ q)⟩
theorem _root_.L2.PS.imp {e : Stmt} {t t' : TS} (h : PS X e t) (i : ∀ D σ H, t' D σ H → t D σ H) : PS X e t' := ⟨fun pins s σ H D I q => h.run pins s σ H D I (i _ _ _ q)⟩
theorem _root_.L2.PSs.imp {e : List Stmt} {t t' : TS} (h : PSs X e t) (i : ∀ D σ H, t' D σ H → t D σ H) : PSs X e t' := ⟨fun pins s σ H D I q => h.run pins s σ H D I (i _ _ _ q)⟩

/-- a new list may be frozen at once -/
theorem pe_frz {e : Expr} {m : Ev → Sto → R Rv} (hF : F.K = X.K) (h : PE X e (tM F W (RvR F.K) m)) : PE X e (tM F W (RvF F.K) m) := by
  refine ⟨fun pins s σ H Q I q => ?_⟩
  obtain ⟨env, st, α, hE, hS, ho⟩ := q
  refine thn (h.run pins s σ H (fun v H1 => (Q v H1) ∨ ∃ a vs, v = .ref a ∧ H1 a = some (.lst vs) ∧ ∀ o, Q v (upd H1 a (.frz o (.lst vs)))) I ⟨env, st, α, hE, hS, ?_⟩) fun u s1 hq => ?_
  · cases em : m env st with
    | bad => rw [em] at ho; exact ho
    | exc c fs st1 => rw [em] at ho; exact ho
    | ok r st1 =>
      rw [em] at ho
      intro v H1 α1 p x S rr
      cases r with
      | im d => exact .inl (ho v H1 α1 p x S rr)
      | nd kvs => exact rr.elim
      | nl ds =>
        obtain ⟨a, vs, e1, h1, h2, h3, h4⟩ := rr
        refine .inr ⟨a, vs, e1, h1, fun o => ?_⟩
        have xe : Ext H1 (upd H1 a (.frz o (.lst vs))) := Ext.lst h1
        exact ho v _ α1 p (x.trans xe) (S.froz h1 h4) ⟨a, vs, e1, .inl ⟨o, upd_same⟩, h2, ImAll.ext xe _ _ h3⟩
  · obtain ⟨v, H1, I1, rv, hq⟩ := hq
    rcases hq with hq | ⟨a, vs, e1, h1, hq⟩
    · exact ⟨v, H1, I1, rv, hq⟩
    · obtain ⟨o, I2⟩ := Inv.freeze I1 h1
      exact ⟨v, _, I2, rv, hq o⟩
end

/-! ### results -/
section
variable {F : Fx} {W : WX} {σ : L2.St} {α : List Addr} {H : Hp} {st : Sto} {Q : VK}
theorem Out.im {d : D} {v : V} (h : Out F W (RvR F.K) σ α H (.ok (.im d) st) Q) (S : StR F.K α H st) (i : DR F.K α H d v) : Q v H := h v H α Pre.refl Ext.refl S i
theorem Out.one {p : P} {v : V} (h : Out F W (RvR F.K) σ α H (ok1 p st) Q) (S : StR F.K α H st) (i : Im F.K H p v) : Q v H := h v H α Pre.refl Ext.refl S i
theorem Out.tup {ps : List P} {vs : List V} {a : Addr} (h : Out F W (RvR F.K) σ α H (ok1 (.tuple ps) st) Q) (S : StR F.K α H st) (n : H a = none) (z : vs.length ≤ sizeLine) (i : ImAll F.K H ps vs) : Q (.ref a) (upd H a (.tup vs)) :=
  h (.ref a) _ α Pre.refl (Ext.new n) (S.new n) ⟨a, vs, rfl, .inl (.inl upd_same), z, ImAll.ext (Ext.new n) _ _ i⟩
theorem Out.lst {ps : List P} {vs : List V} {a : Addr} (h : Out F W (RvR F.K) σ α H (.ok (.nl ps) st) Q) (S : StR F.K α H st) (n : H a = none) (z : vs.length ≤ sizeLine) (i : ImAll F.K H ps vs) : Q (.ref a) (upd H a (.lst vs)) :=
  h (.ref a) _ α Pre.refl (Ext.new n) (S.new n) ⟨a, vs, rfl, upd_same, z, ImAll.ext (Ext.new n) _ _ i, S.out n⟩
theorem Out.chk {β γ : Type} {RR : List Addr → Hp → β → γ → Prop} {c : Bool} {m : R β} {Q : γ → Hp → Prop} (h : Out F W RR σ α H (Kp.chk c m) Q) : c = true ∧ Out F W RR σ α H m Q := by
  unfold Kp.chk at h
  cases c with
  | true => exact ⟨rfl, h⟩
  | false => exact h.elim
end
end Kp

/-! Kp, part 5: the operations. -/
namespace Kp
open PySem PySem.Spec PyProof.Rows L2

section
variable {X : Cx} {F : Fx} {W : WX}

/-- two values that are readable as data, an operation on them -/
def rBin (F : Fx) (W : WX) (f : P → P → Sto → R Rv) : R2 := fun x y H Q =>
  ∃ p q st α σ, PR F.K H p x ∧ PR F.K H q y ∧ StR F.K α H st ∧ Out F W (RvR F.K) σ α H (f p q st) Q

theorem op_cat_any : OpR X (binaryOp .Add) (fun x y H Q => ∃ l b xs zs, x = .ref l ∧ y = .ref b ∧ SqL X.K H l xs ∧ SqL X.K H b zs ∧ xs.length + zs.length ≤ sizeLine ∧ ∀ p, H p = none → Q (.ref p) (upd H p (.lst (xs ++ zs)))) := by
  intro pins s σ H x y v u Q I rx ry h
  obtain ⟨l, b, xs, zs, rfl, rfl, hl, hb, hz, q⟩ := h
  cases rx
  cases ry
  obtain ⟨its, r, ⟨⟨c, d, dt, sl⟩, n, e1, e2, e3, e4⟩, _⟩ := I.list hl
  obtain ⟨its2, r2, ⟨⟨c', d', dt', sl'⟩, n2, e1', e2', e3', e4'⟩, _⟩ := I.list hb
  simp only at e2 e3 e4 e2' e3' e4'
  subst e2 e4 e2' e4'
  have l1 := r.length
  have l2 := r2.length
  have ea : its.toArray ++ its2.toArray = (its ++ its2).toArray := by simp
  refine PySem.concat_meets ⟨_, e1, rfl⟩ ⟨_, e1', rfl⟩ PySem.noFill_list_add PySem.seq_list_add PySem.F.slot_list_add PySem.F.entry_list_add (PySem.F.args_list_add_2 _ _)
    (PyProof.Rows.list_addW l b its.toArray its2.toArray n n2 d d' sl sl' (by simp only [List.size_toArray]; omega)) ⟨e1, e1', ?_⟩
  rw [ea]
  exact ⟨.ref _, _, I.lnew (t' := s.toks) (r.append r2) (by rw [List.length_append]; omega), rfl, q _ I.fresh⟩

theorem bin_add (hF : F.K = X.K) : OpR X (binaryOp .Add) (rBin F W (binop .add)) := by
  intro pins s σ H x y v u Q I rx ry h
  obtain ⟨p, q, st, α, σ', hp, hq, S, h⟩ := h
  cases p <;> cases q <;> first | exact h.elim | skip
  · exact op_add pins s σ H x y v u Q I rx ry ⟨_, _, hp, hq, h.one S rfl⟩
  · obtain ⟨c, h⟩ := h.chk
    exact op_add_str pins s σ H x y v u Q I rx ry ⟨_, _, hp, hq, of_decide_eq_true c, h.one S rfl⟩
  · obtain ⟨c, h⟩ := h.chk
    obtain ⟨a, vs, e1, h1, z1, i1⟩ := hp
    obtain ⟨b, ws, e2, h2, z2, i2⟩ := hq
    have c := of_decide_eq_true c
    rw [i1.length, i2.length] at c
    refine op_cat_any pins s σ H x y v u Q I rx ry ⟨a, b, vs, ws, e1, e2, hF ▸ h1, hF ▸ h2, c, fun p n => ?_⟩
    exact h.lst S n (by rw [List.length_append]; exact c) (i1.append i2)
  · obtain ⟨c, h⟩ := h.chk
    obtain ⟨a, vs, e1, h1, z1, i1⟩ := hp
    obtain ⟨b, ws, e2, h2, z2, i2⟩ := hq
    have c := of_decide_eq_true c
    rw [i1.length, i2.length] at c
    refine op_catA pins s σ H x y v u Q I rx ry ⟨a, b, vs, ws, e1, e2, hF ▸ h1, hF ▸ h2, c, fun e => ?_, fun e1 e2 => ?_, fun _ _ p n => ?_⟩
    · subst e
      refine h.one S ⟨b, ws, rfl, h2, z2, ?_⟩
      have := i1.append i2
      rwa [List.nil_append] at this
    · subst e2
      refine h.one S ⟨a, vs, rfl, h1, z1, ?_⟩
      have := i1.append i2
      rwa [List.append_nil] at this
    · exact h.tup S n (by rw [List.length_append]; exact c) (i1.append i2)
theorem bin_sub : OpR X (binaryOp .Sub) (rBin F W (binop .sub)) := by
  intro pins s σ H x y v u Q I rx ry h
  obtain ⟨p, q, st, α, σ', hp, hq, S, h⟩ := h
  cases p <;> cases q <;> first | exact h.elim | skip
  exact op_sub pins s σ H x y v u Q I rx ry ⟨_, _, hp, hq, h.one S rfl⟩
theorem bin_mul : OpR X (binaryOp .Mult) (rBin F W (binop .mul)) := by
  intro pins s σ H x y v u Q I rx ry h
  obtain ⟨p, q, st, α, σ', hp, hq, S, h⟩ := h
  cases p <;> cases q <;> first | exact h.elim | skip
  obtain ⟨c, h⟩ := h.chk
  rw [Bool.and_eq_true] at c
  exact op_mul pins s σ H x y v u Q I rx ry ⟨_, _, hp, hq, .inr ⟨of_decide_eq_true c.1, of_decide_eq_true c.2⟩, h.one S rfl⟩
theorem bin_fdiv : OpR X (binaryOp .FloorDiv) (rBin F W (binop .fdiv)) := by
  intro pins s σ H x y v u Q I rx ry h
  obtain ⟨p, q, st, α, σ', hp, hq, S, h⟩ := h
  cases p <;> cases q <;> first | exact h.elim | skip
  obtain ⟨c, h⟩ := h.chk
  rw [Bool.and_eq_true] at c
  exact op_fdiv pins s σ H x y v u Q I rx ry ⟨_, _, hp, hq, ⟨of_decide_eq_true c.1, of_decide_eq_true c.2⟩, h.one S rfl⟩
theorem bin_mod : OpR X (binaryOp .Mod) (rBin F W (binop .mod)) := by
  intro pins s σ H x y v u Q I rx ry h
  obtain ⟨p, q, st, α, σ', hp, hq, S, h⟩ := h
  cases p <;> cases q <;> first | exact h.elim | skip
  obtain ⟨c, h⟩ := h.chk
  exact op_mod pins s σ H x y v u Q I rx ry ⟨_, _, hp, hq, of_decide_eq_true c, h.one S rfl⟩
theorem bin_pow : OpR X (binaryOp .Pow) (rBin F W (binop .pow)) := by
  intro pins s σ H x y v u Q I rx ry h
  obtain ⟨p, q, st, α, σ', hp, hq, S, h⟩ := h
  cases p <;> cases q <;> first | exact h.elim | skip
  obtain ⟨c, h⟩ := h.chk
  rw [Bool.and_eq_true, Bool.and_eq_true] at c
  have c1 := of_decide_eq_true c.1.2
  exact op_pow pins s σ H x y v u Q I rx ry ⟨_, _, hp, hq, ⟨of_decide_eq_true c.1.1, by omega, of_decide_eq_true c.2⟩, h.one S rfl⟩
theorem bin_any (hF : F.K = X.K) {o : Operator} {b : Bop} (h : bopOf o = some b) : OpR X (binaryOp o) (rBin F W (binop b)) := by
  cases o <;> cases h
  · exact bin_add hF
  · exact bin_sub
  · exact bin_mul
  · exact bin_mod
  · exact bin_pow
  · exact bin_fdiv

/-! ### comparisons -/
/-- .. that gives a truth value -/
def rCmp (F : Fx) (f : P → P → Option Bool) : R2 := fun x y H Q => ∃ p q k, PR F.K H p x ∧ PR F.K H q y ∧ f p q = some k ∧ Q (.bl k) H
theorem fit_of {p : P} (h : fit p = true) : p.plain = true ∧ p.depth ≤ 100 := by
  unfold fit at h
  rw [Bool.and_eq_true] at h
  exact ⟨h.1, of_decide_eq_true h.2⟩
theorem ite_some {α : Type} {c : Bool} {a b : α} (h : (if c = true then some a else none) = some b) : c = true ∧ a = b := by
  cases c with
  | true => exact ⟨rfl, Option.some.inj h⟩
  | false => cases h
theorem fits_all : ∀ {ys : List P}, ys.all fit = true → PyData.plainAll ys = true ∧ PyData.depthAll ys ≤ 100
  | [], _ => ⟨rfl, by simp [PyData.depthAll]⟩
  | y :: ys, h => by
    rw [List.all_cons, Bool.and_eq_true] at h
    obtain ⟨h1, h2⟩ := fit_of h.1
    obtain ⟨h3, h4⟩ := fits_all h.2
    refine ⟨by rw [PyData.plainAll, h1, h3]; rfl, ?_⟩
    rw [PyData.depthAll]
    omega
theorem notNone_of {p : P} (h : (!isNone p) = true) : p ≠ .none := by
  intro e
  subst e
  cases h
/-- room in the C stack for data of small depth -/
def CR (A : Around) : Prop := A.units + 150 < cLine

theorem cmp_eq (hF : F.K = X.K) (hu : CR X.A) : OpR X (compareOp .Eq) (rCmp F (cmpop .eq)) := by
  intro pins s σ H x y v u Q I rx ry h
  obtain ⟨p, q, k, hp, hq, e, h⟩ := h
  obtain ⟨c, e⟩ := ite_some e
  subst e
  rw [Bool.and_eq_true] at c
  obtain ⟨p1, p2⟩ := fit_of c.1
  obtain ⟨q1, q2⟩ := fit_of c.2
  obtain ⟨as, ra⟩ := PR.reads I (hF ▸ hp) rx
  obtain ⟨bs, rb⟩ := PR.reads I (hF ▸ hq) ry
  have hu : X.A.units + 150 < cLine := hu
  exact SeqAt.eq_plain ra rb p1 q1 (by omega) ⟨.bl _, H, I, rfl, h⟩
theorem cmp_ne (hF : F.K = X.K) (hu : CR X.A) : OpR X (compareOp .NotEq) (rCmp F (cmpop .ne)) := by
  intro pins s σ H x y v u Q I rx ry h
  obtain ⟨p, q, k, hp, hq, e, h⟩ := h
  obtain ⟨c, e⟩ := ite_some e
  subst e
  rw [Bool.and_eq_true] at c
  obtain ⟨p1, p2⟩ := fit_of c.1
  obtain ⟨q1, q2⟩ := fit_of c.2
  obtain ⟨as, ra⟩ := PR.reads I (hF ▸ hp) rx
  obtain ⟨bs, rb⟩ := PR.reads I (hF ▸ hq) ry
  have hu : X.A.units + 150 < cLine := hu
  exact SeqAt.ne_plain ra rb p1 q1 (by omega) ⟨.bl _, H, I, rfl, h⟩
theorem alike_of {a b : P} (c : (PySem.W.alike a b && !isNone a && fit a && fit b) = true) : PySem.W.alike a b = true ∧ a ≠ .none ∧ a.depth ≤ 100 ∧ b.depth ≤ 100 := by
  rw [Bool.and_eq_true, Bool.and_eq_true, Bool.and_eq_true] at c
  exact ⟨c.1.1.1, notNone_of c.1.1.2, (fit_of c.1.2).2, (fit_of c.2).2⟩
theorem cmp_lt (hF : F.K = X.K) (hu : CR X.A) : OpR X (compareOp .Lt) (rCmp F (cmpop .lt)) := by
  intro pins s σ H x y v u Q I rx ry h
  obtain ⟨p, q, k, hp, hq, e, h⟩ := h
  obtain ⟨c, e⟩ := ite_some e
  subst e
  obtain ⟨c1, c2, c3, c4⟩ := alike_of c
  obtain ⟨as, ra⟩ := PR.reads I (hF ▸ hp) rx
  obtain ⟨bs, rb⟩ := PR.reads I (hF ▸ hq) ry
  have hu : X.A.units + 150 < cLine := hu
  exact PySem.W.lt_data ra rb c1 c2 (by omega) ⟨.bl _, H, I, rfl, h⟩
theorem cmp_gt (hF : F.K = X.K) (hu : CR X.A) : OpR X (compareOp .Gt) (rCmp F (cmpop .gt)) := by
  intro pins s σ H x y v u Q I rx ry h
  obtain ⟨p, q, k, hp, hq, e, h⟩ := h
  obtain ⟨c, e⟩ := ite_some e
  subst e
  obtain ⟨c1, c2, c3, c4⟩ := alike_of c
  obtain ⟨as, ra⟩ := PR.reads I (hF ▸ hp) rx
  obtain ⟨bs, rb⟩ := PR.reads I (hF ▸ hq) ry
  have hu : X.A.units + 150 < cLine := hu
  exact PySem.W.gt_data ra rb c1 c2 (by omega) ⟨.bl _, H, I, rfl, h⟩
theorem cmp_le (hF : F.K = X.K) (hu : CR X.A) : OpR X (compareOp .LtE) (rCmp F (cmpop .le)) := by
  intro pins s σ H x y v u Q I rx ry h
  obtain ⟨p, q, k, hp, hq, e, h⟩ := h
  obtain ⟨c, e⟩ := ite_some e
  subst e
  obtain ⟨c1, c2, c3, c4⟩ := alike_of c
  obtain ⟨as, ra⟩ := PR.reads I (hF ▸ hp) rx
  obtain ⟨bs, rb⟩ := PR.reads I (hF ▸ hq) ry
  have hu : X.A.units + 150 < cLine := hu
  exact PySem.W.le_data ra rb c1 c2 (by omega) ⟨.bl _, H, I, rfl, h⟩
theorem cmp_ge (hF : F.K = X.K) (hu : CR X.A) : OpR X (compareOp .GtE) (rCmp F (cmpop .ge)) := by
  intro pins s σ H x y v u Q I rx ry h
  obtain ⟨p, q, k, hp, hq, e, h⟩ := h
  obtain ⟨c, e⟩ := ite_some e
  subst e
  obtain ⟨c1, c2, c3, c4⟩ := alike_of c
  obtain ⟨as, ra⟩ := PR.reads I (hF ▸ hp) rx
  obtain ⟨bs, rb⟩ := PR.reads I (hF ▸ hq) ry
  have hu : X.A.units + 150 < cLine := hu
  exact PySem.W.ge_data ra rb c1 c2 (by omega) ⟨.bl _, H, I, rfl, h⟩
theorem PR.non_iff {K : PySem.W.Frag} {H : Hp} {p : P} {x : V} (h : PR K H p x) : decide (x = .non) = isNone p := by
  cases p with
  | none => have h : x = .non := h; subst h; rfl
  | bool b => have h : x = .bl b := h; subst h; rfl
  | int b => have h : x = .int b := h; subst h; rfl
  | str b => have h : x = .str b := h; subst h; rfl
  | list ds => obtain ⟨a, vs, e, _⟩ := h; subst e; rfl
  | tuple ds => obtain ⟨a, vs, e, _⟩ := h; subst e; rfl
  | dict _ => exact h.elim
theorem cmp_is_cases {p q : P} {k : Bool} (e : cmpop .is p q = some k) : (∃ a b, p = .bool a ∧ q = .bool b ∧ k = (a == b)) ∨ (q = .none ∧ k = isNone p) := by
  cases p <;> cases q <;> first
    | (cases (show (none : Option Bool) = some k from e); done)
    | exact .inl ⟨_, _, rfl, rfl, (Option.some.inj e).symm⟩
    | exact .inr ⟨rfl, (Option.some.inj e).symm⟩
theorem cmp_isnot_cases {p q : P} {k : Bool} (e : cmpop .isnot p q = some k) : (∃ a b, p = .bool a ∧ q = .bool b ∧ k = !(a == b)) ∨ (q = .none ∧ k = !isNone p) := by
  cases p <;> cases q <;> first
    | (cases (show (none : Option Bool) = some k from e); done)
    | exact .inl ⟨_, _, rfl, rfl, (Option.some.inj e).symm⟩
    | exact .inr ⟨rfl, (Option.some.inj e).symm⟩
theorem cmp_is : OpR X (compareOp .Is) (rCmp F (cmpop .is)) := by
  intro pins s σ H x y v u Q I rx ry h
  obtain ⟨p, q, k, hp, hq, e, h⟩ := h
  rcases cmp_is_cases e with ⟨a, b, rfl, rfl, rfl⟩ | ⟨rfl, rfl⟩
  · exact op_isBl pins s σ H x y v u Q I rx ry ⟨a, b, hp, hq, by rw [Bool.beq_eq_decide_eq] at h; exact h⟩
  · exact op_isN pins s σ H x y v u Q I rx ry ⟨hq, by rw [hp.non_iff]; exact h⟩
theorem cmp_isnot : OpR X (compareOp .IsNot) (rCmp F (cmpop .isnot)) := by
  intro pins s σ H x y v u Q I rx ry h
  obtain ⟨p, q, k, hp, hq, e, h⟩ := h
  rcases cmp_isnot_cases e with ⟨a, b, rfl, rfl, rfl⟩ | ⟨rfl, rfl⟩
  · exact op_notBl pins s σ H x y v u Q I rx ry ⟨a, b, hp, hq, by rw [Bool.beq_eq_decide_eq] at h; exact h⟩
  · exact op_notN pins s σ H x y v u Q I rx ry ⟨hq, by rw [hp.non_iff]; exact h⟩
theorem isIn_cases {x c : P} {k : Bool} (e : isIn x c = some k) : (∃ ys, (c = .list ys ∨ c = .tuple ys) ∧ fit x = true ∧ ys.all fit = true ∧ k = ys.any fun y => y.eqv x) ∨
    (∃ z y, x = .str z ∧ c = .str y ∧ k = !(Builtin.Str.occurrences y z 0 y.length 1).isEmpty) := by
  cases c with
  | list ys =>
    obtain ⟨c, e⟩ := ite_some (show (if (fit x && ys.all fit) = true then some (ys.any fun y => y.eqv x) else none) = some k from e)
    rw [Bool.and_eq_true] at c
    exact .inl ⟨ys, .inl rfl, c.1, c.2, e.symm⟩
  | tuple ys =>
    obtain ⟨c, e⟩ := ite_some (show (if (fit x && ys.all fit) = true then some (ys.any fun y => y.eqv x) else none) = some k from e)
    rw [Bool.and_eq_true] at c
    exact .inl ⟨ys, .inr rfl, c.1, c.2, e.symm⟩
  | str y =>
    cases x with
    | str z => exact .inr ⟨z, y, rfl, rfl, (Option.some.inj e).symm⟩
    | _ => cases (show (none : Option Bool) = some k from e)
  | _ => cases (show (none : Option Bool) = some k from e)
theorem cmp_in (hF : F.K = X.K) (hu : CR X.A) : OpR X (compareOp .In) (rCmp F (cmpop .in_)) := by
  intro pins s σ H x y v u Q I rx ry h
  obtain ⟨p, q, k, hp, hq, e, h⟩ := h
  have hu : X.A.units + 150 < cLine := hu
  rcases isIn_cases e with ⟨ys, hc, c1, c2, rfl⟩ | ⟨z, y', rfl, rfl, rfl⟩
  · obtain ⟨p1, p2⟩ := fit_of c1
    obtain ⟨q1, q2⟩ := fits_all c2
    obtain ⟨as, ra⟩ := PR.reads I (hF ▸ hp) rx
    obtain ⟨bs, rb⟩ := PR.reads I (hF ▸ hq) ry
    rcases hc with rfl | rfl
    · exact SeqAt.in_list_data rb ra q1 p1 (by omega) ⟨.bl _, H, I, rfl, h⟩
    · exact SeqAt.in_tuple_data rb ra q1 p1 (by omega) ⟨.bl _, H, I, rfl, h⟩
  · exact op_in_str pins s σ H x y v u Q I rx ry ⟨z, y', hp, hq, h⟩
theorem cmp_notin (hF : F.K = X.K) (hu : CR X.A) : OpR X (compareOp .NotIn) (rCmp F (cmpop .notin)) := by
  intro pins s σ H x y v u Q I rx ry h
  obtain ⟨p, q, k, hp, hq, e, h⟩ := h
  have hu : X.A.units + 150 < cLine := hu
  have e' : ∃ k', isIn p q = some k' ∧ k = !k' := by
    have e : (isIn p q).map (!·) = some k := e
    cases z : isIn p q with
    | none => rw [z] at e; cases e
    | some k' => rw [z] at e; exact ⟨k', rfl, (Option.some.inj e).symm⟩
  obtain ⟨k', e', rfl⟩ := e'
  rcases isIn_cases e' with ⟨ys, hc, c1, c2, rfl⟩ | ⟨z, y', rfl, rfl, rfl⟩
  · obtain ⟨p1, p2⟩ := fit_of c1
    obtain ⟨q1, q2⟩ := fits_all c2
    obtain ⟨as, ra⟩ := PR.reads I (hF ▸ hp) rx
    obtain ⟨bs, rb⟩ := PR.reads I (hF ▸ hq) ry
    rcases hc with rfl | rfl
    · exact SeqAt.notIn_list_data rb ra q1 p1 (by omega) ⟨.bl _, H, I, rfl, h⟩
    · exact SeqAt.notIn_tuple_data rb ra q1 p1 (by omega) ⟨.bl _, H, I, rfl, h⟩
  · exact op_notin_str pins s σ H x y v u Q I rx ry ⟨z, y', hp, hq, h⟩
theorem cmp_any (hF : F.K = X.K) (hu : CR X.A) {o : CmpOp} {b : Cop} (h : copOf o = some b) : OpR X (compareOp o) (rCmp F (cmpop b)) := by
  cases o <;> cases h
  · exact cmp_eq hF hu
  · exact cmp_ne hF hu
  · exact cmp_lt hF hu
  · exact cmp_le hF hu
  · exact cmp_gt hF hu
  · exact cmp_ge hF hu
  · exact cmp_is
  · exact cmp_isnot
  · exact cmp_in hF hu
  · exact cmp_notin hF hu

/-! ### items and slices -/
def rIdx (F : Fx) : R2 := fun x y H Q => ∃ p q r, PR F.K H p x ∧ PR F.K H q y ∧ idxop p q = some r ∧ ∀ v, Im F.K H r v → Q v H
theorem idx_any (hF : F.K = X.K) : IxR X (rIdx F) := by
  intro value slice pins s σ H x y v u Q I rx ry h hs
  obtain ⟨p, q, r, hp, hq, e, h⟩ := h
  cases p <;> cases q <;> first | (cases (show (none : Option P) = some r from e); done) | skip
  · rename_i z i
    have hp : x = .str z := hp
    have hq : y = .int i := hq
    have e : (if z.length ≤ SZ then (L2.atI z.cps.toList i).map fun c => PyData.str ⟨#[c]⟩ else none) = some r := e
    by_cases hz : z.length ≤ SZ
    · rw [if_pos hz] at e
      cases q2 : L2.atI z.cps.toList i with
      | none => rw [q2] at e; cases e
      | some c =>
        rw [q2] at e
        have e : PyData.str ⟨#[c]⟩ = r := Option.some.inj e
        subst e
        exact ix_str value slice pins s σ H x y v u Q I rx ry ⟨z, i, c, hp, hq, hz, q2, h _ rfl⟩ hs
    · rw [if_neg hz] at e; cases e
  · obtain ⟨a, vs, e1, h1, z1, i1⟩ := hp
    obtain ⟨w, e2, h2⟩ := i1.at e
    exact ix_list value slice pins s σ H x y v u Q I rx ry ⟨a, vs, _, w, e1, hq, hF ▸ h1, e2, h w h2⟩ hs
  · obtain ⟨a, vs, e1, h1, z1, i1⟩ := hp
    obtain ⟨w, e2, h2⟩ := i1.at e
    exact ix_tup value slice pins s σ H x y v u Q I rx ry ⟨a, vs, _, w, e1, hq, hF ▸ h1, e2, h w h2⟩ hs
def rSlc (F : Fx) (W : WX) : V → Option Int → Option Int → Hp → VK → Prop := fun x lo hi H Q =>
  ∃ p st α σ, PR F.K H p x ∧ StR F.K α H st ∧ Out F W (RvR F.K) σ α H (slcop p lo hi st) Q
theorem slc_any (hF : F.K = X.K) : SlR X (rSlc F W) := by
  intro pins s σ H x v vl vu lo hi sl Q I rx hs pl pu h
  obtain ⟨p, st, α, σ', hp, S, h⟩ := h
  cases p <;> first | exact h.elim | skip
  · obtain ⟨a, vs, e1, h1, z1, i1⟩ := hp
    refine sl_list pins s σ H x v vl vu lo hi sl Q I rx hs pl pu ⟨a, vs, e1, hF ▸ h1, fun p n => ?_⟩
    exact h.lst S n (Nat.le_trans (cutV_length _ _ _) z1) (i1.cut lo hi)
  · obtain ⟨a, vs, e1, h1, z1, i1⟩ := hp
    refine sl_tupA pins s σ H x v vl vu lo hi sl Q I rx hs pl pu ⟨a, vs, e1, hF ▸ h1, fun c => ?_, fun c p n => ?_⟩
    · refine h.one S ⟨a, vs, rfl, h1, z1, ?_⟩
      have q := i1.cut lo hi
      have e : cutV vs lo hi = vs := by
        unfold cutV
        rw [c.1, c.2, List.drop_zero, Nat.sub_zero, List.take_length]
      rw [e] at q
      exact q
    · exact h.tup S n (Nat.le_trans (cutV_length _ _ _) z1) (i1.cut lo hi)

/-! ### isinstance, built-ins -/
def tyName : Ty → String
  | .str => "str" | .tup => "tuple" | .bool => "bool" | .list => "list" | .int => "int"
theorem isi_any (hF : F.K = X.K) (t : Ty) : CallR X (.builtin "isinstance") (fun xs H Q => ∃ x p, xs = [x, .ty (tyName t)] ∧ PR F.K H p x ∧ Q (.bl (isTy t p)) H) := by
  intro pins s σ H xs us Q I r h
  obtain ⟨x, p, rfl, hp, q⟩ := h
  obtain ⟨u, w', rfl, rx, rt⟩ := vals2 r
  cases (show w' = Value.type (tyName t) from rt)
  obtain ⟨as, ra⟩ := PR.reads I (hF ▸ hp) rx
  have fin : ∀ k, k = isTy t p → ∀ tk, s.toks ≤ tk → EP X pins σ Q (.bool k) { s with toks := tk } := fun k e tk _ => by
    subst e
    exact ⟨.bl _, H, I.tok tk, rfl, q⟩
  cases t with
  | str => exact PySem.W.isinstance_str_data ra (fin _ (by cases p <;> rfl))
  | tup => exact PySem.W.isinstance_tuple_data ra (fin _ (by cases p <;> rfl))
  | bool => exact PySem.W.isinstance_bool_data ra (fin _ (by cases p <;> rfl))
  | list => exact PySem.W.isinstance_list_data ra (fin _ (by cases p <;> rfl))
  | int => exact PySem.W.isinstance_int_data ra (fin _ (by cases p <;> rfl))

/-- several values, readable as data -/
def PRs (K : PySem.W.Frag) (H : Hp) : List P → List V → Prop
  | [], vs => vs = []
  | p :: ps, vs => ∃ v r, vs = v :: r ∧ PR K H p v ∧ PRs K H ps r
theorem PRs.one {K : PySem.W.Frag} {H : Hp} {p : P} {vs : List V} (h : PRs K H [p] vs) : ∃ v, vs = [v] ∧ PR K H p v := by
  obtain ⟨v, r, e, h1, h2⟩ := h
  have h2 : r = [] := h2
  subst h2
  exact ⟨v, e, h1⟩
theorem PRs.two {K : PySem.W.Frag} {H : Hp} {p q : P} {vs : List V} (h : PRs K H [p, q] vs) : ∃ v w, vs = [v, w] ∧ PR K H p v ∧ PR K H q w := by
  obtain ⟨v, r, e, h1, h2⟩ := h
  obtain ⟨w, e2, h3⟩ := h2.one
  subst e2
  exact ⟨v, w, e, h1, h3⟩
theorem bools_map : ∀ {ys : List P} {bs : List Bool}, bools ys = some bs → ∀ {K : PySem.W.Frag} {H : Hp} {vs : List V}, ImAll K H ys vs → vs = bs.map V.bl
  | [], bs, e, K, H, vs, h => by
    have e : [] = bs := Option.some.inj e
    subst e
    exact h
  | y :: ys, bs, e, K, H, vs, h => by
    cases y with
    | bool b =>
      have e : (bools ys).map (b :: ·) = some bs := e
      cases q : bools ys with
      | none => rw [q] at e; cases e
      | some cs =>
        rw [q] at e
        have e : b :: cs = bs := Option.some.inj e
        subst e
        obtain ⟨v, r, e1, h1, h2⟩ := h
        have h1 : v = .bl b := h1
        subst h1 e1
        rw [bools_map q h2]
        rfl
    | _ => cases (show (none : Option (List Bool)) = some bs from e)
/-- the built-in's name -/
def bltV : Blt → Value
  | .len => .builtin "len" | .all => .builtin "all" | .any => .builtin "any" | .max => .builtin "max" | .min => .builtin "min" | .sorted => .builtin "sorted"
  | .int => .type "int" | .list => .type "list" | .tuple => .type "tuple" | .str => .type "str"
def rBlt (F : Fx) (W : WX) (b : Blt) : List V → Hp → VK → Prop := fun xs H Q => ∃ ps st α σ, PRs F.K H ps xs ∧ StR F.K α H st ∧ Out F W (RvR F.K) σ α H (bltop b ps st) Q
theorem blt_any (hF : F.K = X.K) (hc : X.calm = true) (b : Blt) : CallR X (bltV b) (rBlt F W b) := by
  intro pins s σ H xs us Q I r h
  obtain ⟨ps, st, α, σ', hp, S, h⟩ := h
  cases b with
  | len =>
    have z : ∃ a n, ps = [a] ∧ lenP a = some n ∧ Out F W (RvR F.K) σ' α H (ok1 (.int n) st) Q := by
      rcases ps with _ | ⟨a, _ | ⟨b, r⟩⟩
      · exact (show False from h).elim
      · have h : Out F W (RvR F.K) σ' α H (match lenP a with | some n => ok1 (.int n) st | none => .bad) Q := by
          cases a <;> exact h
        cases e : lenP a with
        | none => rw [e] at h; exact h.elim
        | some n => rw [e] at h; exact ⟨a, n, rfl, e, h⟩
      · cases a <;> cases b <;> exact (show False from h).elim
    obtain ⟨a, n, rfl, e, h⟩ := z
    have q := h.one (v := .int n) S rfl
    obtain ⟨v, rfl, h0⟩ := hp.one
    refine call_len pins s σ H [v] us Q I r ⟨v, n, rfl, ?_, q⟩
    cases a with
    | str y =>
      have h0 : v = .str y := h0
      subst h0
      have e : (if y.length ≤ SZ then some y.length else none) = some n := e
      by_cases hz : y.length ≤ SZ
      · rw [if_pos hz] at e
        exact ⟨hz, (Option.some.inj e).symm⟩
      · rw [if_neg hz] at e; cases e
    | list ys =>
      obtain ⟨b, vs, e1, h1, z1, i1⟩ := h0
      subst e1
      exact .inl ⟨vs, hF ▸ h1, by rw [← i1.length]; exact (Option.some.inj e).symm⟩
    | tuple ys =>
      obtain ⟨b, vs, e1, h1, z1, i1⟩ := h0
      subst e1
      exact .inr ⟨vs, hF ▸ h1, by rw [← i1.length]; exact (Option.some.inj e).symm⟩
    | dict _ => exact h0.elim
    | none => cases (show (none : Option Nat) = some n from e)
    | bool _ => cases (show (none : Option Nat) = some n from e)
    | int _ => cases (show (none : Option Nat) = some n from e)
  | all =>
    have z : ∃ ys bs, ps = [.list ys] ∧ bools ys = some bs ∧ Out F W (RvR F.K) σ' α H (ok1 (.bool (bs.all id)) st) Q := by
      rcases ps with _ | ⟨a, _ | ⟨b, r⟩⟩
      · exact (show False from h).elim
      · cases a <;> try exact (show False from h).elim
        rename_i ys
        have h : Out F W (RvR F.K) σ' α H (match bools ys with | some bs => ok1 (.bool (bs.all id)) st | none => .bad) Q := h
        cases e : bools ys with
        | none => rw [e] at h; exact h.elim
        | some bs => rw [e] at h; exact ⟨ys, bs, rfl, e, h⟩
      · cases a <;> cases b <;> exact (show False from h).elim
    obtain ⟨ys, bs, rfl, e, h⟩ := z
    obtain ⟨v, rfl, b, vs, e1, h1, z1, i1⟩ := hp.one
    have q := bools_map e i1
    subst q
    exact cr_all hc pins s σ H _ us Q I r ⟨b, bs, by rw [e1], hF ▸ h1, h.one S rfl⟩
  | any =>
    have z : ∃ ys bs, ps = [.list ys] ∧ bools ys = some bs ∧ Out F W (RvR F.K) σ' α H (ok1 (.bool (bs.any id)) st) Q := by
      rcases ps with _ | ⟨a, _ | ⟨b, r⟩⟩
      · exact (show False from h).elim
      · cases a <;> try exact (show False from h).elim
        rename_i ys
        have h : Out F W (RvR F.K) σ' α H (match bools ys with | some bs => ok1 (.bool (bs.any id)) st | none => .bad) Q := h
        cases e : bools ys with
        | none => rw [e] at h; exact h.elim
        | some bs => rw [e] at h; exact ⟨ys, bs, rfl, e, h⟩
      · cases a <;> cases b <;> exact (show False from h).elim
    obtain ⟨ys, bs, rfl, e, h⟩ := z
    obtain ⟨v, rfl, b, vs, e1, h1, z1, i1⟩ := hp.one
    have q := bools_map e i1
    subst q
    exact cr_any hc pins s σ H _ us Q I r ⟨b, bs, by rw [e1], hF ▸ h1, h.one S rfl⟩
  | max =>
    have z : ∃ i j, ps = [.int i, .int j] ∧ Out F W (RvR F.K) σ' α H (ok1 (.int (if j > i then j else i)) st) Q := by
      rcases ps with _ | ⟨a, _ | ⟨b, _ | ⟨c, r⟩⟩⟩
      · exact (show False from h).elim
      · cases a <;> exact (show False from h).elim
      · cases a <;> cases b <;> first | exact (show False from h).elim | exact ⟨_, _, rfl, h⟩
      · cases a <;> cases b <;> exact (show False from h).elim
    obtain ⟨i, j, rfl, h⟩ := z
    obtain ⟨v, w', rfl, h1, h2⟩ := hp.two
    have h1 : v = .int i := h1
    have h2 : w' = .int j := h2
    exact call_max2 hc pins s σ H _ us Q I r ⟨i, j, by rw [h1, h2], h.one S rfl⟩
  | min =>
    have z : ∃ i j, ps = [.int i, .int j] ∧ Out F W (RvR F.K) σ' α H (ok1 (.int (if j < i then j else i)) st) Q := by
      rcases ps with _ | ⟨a, _ | ⟨b, _ | ⟨c, r⟩⟩⟩
      · exact (show False from h).elim
      · cases a <;> exact (show False from h).elim
      · cases a <;> cases b <;> first | exact (show False from h).elim | exact ⟨_, _, rfl, h⟩
      · cases a <;> cases b <;> exact (show False from h).elim
    obtain ⟨i, j, rfl, h⟩ := z
    obtain ⟨v, w', rfl, h1, h2⟩ := hp.two
    have h1 : v = .int i := h1
    have h2 : w' = .int j := h2
    exact call_min2 hc pins s σ H _ us Q I r ⟨i, j, by rw [h1, h2], h.one S rfl⟩
  | int =>
    have z : (∃ i, ps = [.int i] ∧ Out F W (RvR F.K) σ' α H (ok1 (.int i) st) Q) ∨ ∃ k, ps = [.bool k] ∧ Out F W (RvR F.K) σ' α H (ok1 (.int (if k then 1 else 0)) st) Q := by
      rcases ps with _ | ⟨a, _ | ⟨b, r⟩⟩
      · exact (show False from h).elim
      · cases a <;> first | exact (show False from h).elim | exact .inl ⟨_, rfl, h⟩ | exact .inr ⟨_, rfl, h⟩
      · cases a <;> cases b <;> exact (show False from h).elim
    rcases z with ⟨i, rfl, h⟩ | ⟨k, rfl, h⟩
    · obtain ⟨v, rfl, h1⟩ := hp.one
      have h1 : v = .int i := h1
      exact call_int1 pins s σ H _ us Q I r (.inl ⟨i, by rw [h1], h.one S rfl⟩)
    · obtain ⟨v, rfl, h1⟩ := hp.one
      have h1 : v = .bl k := h1
      exact call_int1 pins s σ H _ us Q I r (.inr ⟨k, by rw [h1], h.one S rfl⟩)
  | list =>
    have z : (∃ ys, ps = [.list ys] ∧ Out F W (RvR F.K) σ' α H (.ok (.nl ys) st) Q) ∨ ∃ ys, ps = [.tuple ys] ∧ Out F W (RvR F.K) σ' α H (.ok (.nl ys) st) Q := by
      rcases ps with _ | ⟨a, _ | ⟨b, r⟩⟩
      · exact (show False from h).elim
      · cases a <;> first | exact (show False from h).elim | exact .inl ⟨_, rfl, h⟩ | exact .inr ⟨_, rfl, h⟩
      · cases a <;> cases b <;> exact (show False from h).elim
    rcases z with ⟨ys, rfl, h⟩ | ⟨ys, rfl, h⟩
    · obtain ⟨v, rfl, b, vs, e1, h1, z1, i1⟩ := hp.one
      exact call_list_of pins s σ H _ us Q I r ⟨b, vs, by rw [e1], .inl (hF ▸ h1), fun l n => h.lst S n z1 i1⟩
    · obtain ⟨v, rfl, b, vs, e1, h1, z1, i1⟩ := hp.one
      exact call_list_of pins s σ H _ us Q I r ⟨b, vs, by rw [e1], .inr (hF ▸ h1), fun l n => h.lst S n z1 i1⟩
  | tuple =>
    have z : (∃ ys, ps = [.list ys] ∧ Out F W (RvR F.K) σ' α H (ok1 (.tuple ys) st) Q) ∨ ∃ ys, ps = [.tuple ys] ∧ Out F W (RvR F.K) σ' α H (ok1 (.tuple ys) st) Q := by
      rcases ps with _ | ⟨a, _ | ⟨b, r⟩⟩
      · exact (show False from h).elim
      · cases a <;> first | exact (show False from h).elim | exact .inl ⟨_, rfl, h⟩ | exact .inr ⟨_, rfl, h⟩
      · cases a <;> cases b <;> exact (show False from h).elim
    rcases z with ⟨ys, rfl, h⟩ | ⟨ys, rfl, h⟩
    · obtain ⟨v, rfl, b, vs, e1, h1, z1, i1⟩ := hp.one
      exact call_tuple_of pins s σ H _ us Q I r ⟨b, vs, by rw [e1], .inl ⟨hF ▸ h1, fun l n => h.tup S n z1 i1⟩⟩
    · obtain ⟨v, rfl, h0⟩ := hp.one
      have h0' := h0
      obtain ⟨b, vs, e1, h1, z1, i1⟩ := h0'
      exact call_tuple_of pins s σ H _ us Q I r ⟨b, vs, by rw [e1], .inr ⟨hF ▸ h1, by rw [← e1]; exact h.one S h0⟩⟩
  | str => exact (show False by
      rcases ps with _ | ⟨a, _ | ⟨b, r⟩⟩
      · exact h
      · cases a <;> exact h
      · cases a <;> cases b <;> exact h).elim
  | sorted => exact (show False by
      rcases ps with _ | ⟨a, _ | ⟨b, r⟩⟩
      · exact h
      · cases a <;> exact h
      · cases a <;> cases b <;> exact h).elim
end
end Kp

/-! Kp, part 6: what compiles is read as the evaluator says: expressions. -/
namespace Kp
open PySem PySem.Spec PyProof.Rows L2

/-- what a def does, as the evaluator has it -/
def spFn (F : Fx) (Φ : Nat → List D → Sto → R Rv) (j : Nat) (n : Nat) : Sp := fun vs H Q E =>
  ∃ ds st α, vs.length = n ∧ DRs F.K α H ds vs ∧ StR F.K α H st ∧ Out F (fun c d _ H' => E c d H') (RvR F.K) [] α H (Φ j ds st) Q
def GlobOk (P : Program) (w : World) (K : PySem.W.Frag) (mg : Str → Option Value) (base : Heap) (F : Fx) (Φ : Nat → List D → Sto → R Rv) (k : Nat) (x : Str) : G → Prop
  | .fn j => ∃ f fd ps, mg x = some (.ref f) ∧ PySem.W.keepIn K (.ref f) = true ∧ Binds K fd ps [] ∧ FnOk P w K mg base (L2.CX P w) k f fd ps (spFn F Φ j ps.length) ∧ ∀ ds st, ds.length ≠ ps.length → Φ j ds st = .bad
  | .con p => ∃ u v, mg x = some u ∧ RelV v u ∧ ∀ H, Im F.K H p v
  | .blt b => mg x = none ∧ bootBuiltins x = some (bltV b)
  | .ty t => mg x = none ∧ bootBuiltins x = some (.type (tyName t))
  | .isi => mg x = none ∧ bootBuiltins x = some (.builtin "isinstance")
  | .range => mg x = none ∧ x = ("range" : Str)
  | .set => mg x = none ∧ x = ("set" : Str)
structure Cxt (c : Cfg) (sc : Scope) (F : Fx) (W : WX) (Φ : Nat → List D → Sto → R Rv) (k : Nat) (X : Cx) : Prop where
  hF : F.K = X.K
  hN : X.N = c.N
  nd : c.N.Nodup
  sc : X.env.scope = sc
  calm : X.calm = true
  cr : CR X.A
  room : Room k X.A
  tk : Takes X W
  g : ∀ x g, c.g x = some g → GlobOk X.prog X.w X.K X.mg X.base F Φ k x g

abbrev tE (F : Fx) (W : WX) (Φ : Nat → List D → Sto → R Rv) (i : Kp.X) : TE := tM F W (RvR F.K) (fun env st => evE Φ env i st)
def evB (Φ : Nat → List D → Sto → R Rv) (env : Ev) (i : Kp.X) (st : Sto) : R Bool := (evE Φ env i st).bind fun r st1 => needB r fun k => .ok k st1
abbrev tT (F : Fx) (W : WX) (Φ : Nat → List D → Sto → R Rv) (i : Kp.X) : TT := tM F W (fun _ _ (b : Bool) k => b = k) (fun env st => evB Φ env i st)
abbrev tD (F : Fx) (W : WX) (Φ : Nat → List D → Sto → R Rv) (is : List Kp.X) : TA := tM F W (DRs F.K) (fun env st => evDs Φ env is st)

section
variable {β γ : Type} {F : Fx} {W : WX} {RR : List Addr → Hp → β → γ → Prop} {σ : L2.St} {α : List Addr} {H : Hp} {Q : γ → Hp → Prop} {st : Sto}
theorem Out.needP {r : Rv} {f : P → R β} (h : Out F W RR σ α H (Kp.needP r st f) Q) : ∃ p, asP st r = some p ∧ Out F W RR σ α H (f p) Q := by
  unfold Kp.needP at h
  cases e : asP st r with
  | none => rw [e] at h; exact h.elim
  | some p => rw [e] at h; exact ⟨p, rfl, h⟩
theorem Out.needI {r : Rv} {f : P → R β} (h : Out F W RR σ α H (Kp.needI r f) Q) : ∃ p, r.frz = .py p ∧ Out F W RR σ α H (f p) Q := by
  unfold Kp.needI at h
  cases e : r.frz with
  | py p => rw [e] at h; exact ⟨p, rfl, h⟩
  | ref _ => rw [e] at h; exact h.elim
theorem Out.needO {r : Rv} {f : Option Int → R β} {K : PySem.W.Frag} {α' : List Addr} {H' : Hp} {y : V} (h : Out F W RR σ α H (Kp.needO r f) Q) (hr : DR K α' H' r.frz y) : ∃ l, ((l = none ∧ y = .non) ∨ ∃ i, l = some i ∧ y = .int i) ∧ Out F W RR σ α H (f l) Q := by
  unfold Kp.needO at h
  split at h
  · rename_i e
    rw [e] at hr
    exact ⟨none, .inl ⟨rfl, hr⟩, h⟩
  · rename_i e
    rw [e] at hr
    exact ⟨_, .inr ⟨_, rfl, hr⟩, h⟩
  · exact h.elim
theorem Out.needB {r : Rv} {f : Bool → R β} (h : Out F W RR σ α H (Kp.needB r f) Q) : ∃ k, r = .im (.py (.bool k)) ∧ Out F W RR σ α H (f k) Q := by
  unfold Kp.needB at h
  split at h
  · exact ⟨_, rfl, h⟩
  · exact h.elim
end

theorem idxOf_get {x : Str} : ∀ {N : List Str} {i : Nat}, N.idxOf? x = some i → N[i]? = some x
  | [], i, h => by simp at h
  | y :: N, i, h => by
    rw [List.idxOf?_cons] at h
    split at h
    · rename_i e
      have e : y = x := eq_of_beq e
      cases h
      rw [e]; rfl
    · cases q : List.idxOf? x N with
      | none => rw [q] at h; cases h
      | some j =>
        rw [q] at h
        have h : j + 1 = i := Option.some.inj h
        subst h
        have z : N[j]? = some x := idxOf_get q
        simpa using z
theorem slot_ok {c : Cfg} {sc : Scope} {x : Str} {i : Nat} (h : slot c sc x = some i) : c.N[i]? = some x ∧ Vis sc x ∧ (x == ("__debug__" : Str)) = false ∧ (x == ("__classdict__" : Str)) = false := by
  unfold slot at h
  split at h
  · rename_i k hk
    split at h
    · rename_i hv
      rw [Bool.and_eq_true] at hv
      obtain ⟨hv, ho⟩ := hv
      unfold okN at ho
      rw [Bool.and_eq_true] at ho
      refine ⟨idxOf_get h, ?_, by simpa using ho.1, by simpa using ho.2⟩
      cases k <;> first | exact .inl hk | exact .inr (.inl hk) | exact .inr (.inr hk) | cases hv
    · cases h
  · cases h
theorem glob_ok {c : Cfg} {sc : Scope} {x : Str} {g : G} (h : glob c sc x = some g) : c.g x = some g ∧ sc.names.lookup x = some .globalImplicit ∧ (x == ("__debug__" : Str)) = false ∧ x ≠ "__name__" := by
  unfold glob at h
  split at h
  · rename_i hk
    split at h
    · rename_i hv
      rw [Bool.and_eq_true] at hv
      refine ⟨h, hk, by simpa using hv.1, fun e => ?_⟩
      have := hv.2
      rw [e] at this
      simp at this
    · cases h
  · cases h

section
variable {c : Cfg} {sc : Scope} {F : Fx} {W : WX} {Φ : Nat → List D → Sto → R Rv} {k : Nat} {X : Cx}
theorem Cxt.gl (C : Cxt c sc F W Φ k X) {x : Str} {g : G} (h : glob c sc x = some g) : Gl X x ∧ GlobOk X.prog X.w X.K X.mg X.base F Φ k x g ∧ (x == ("__debug__" : Str)) = false ∧ x ≠ "__name__" := by
  obtain ⟨h1, h2, h3, h4⟩ := glob_ok h
  refine ⟨?_, C.g x g h1, h3, h4⟩
  show X.env.scope.names.lookup x = _
  rw [C.sc]; exact h2
theorem Cxt.vis (C : Cxt c sc F W Φ k X) {x : Str} {i : Nat} (h : slot c sc x = some i) : X.N[i]? = some x ∧ Vis X.env.scope x ∧ (x == ("__debug__" : Str)) = false ∧ (x == ("__classdict__" : Str)) = false := by
  obtain ⟨h1, h2, h3⟩ := slot_ok h
  exact ⟨by rw [C.hN]; exact h1, by rw [C.sc]; exact h2, h3⟩

/-! ### one step each -/
theorem s_var (C : Cxt c sc F W Φ k X) {x : Str} {i : Nat} {pos : Pos} (h : slot c sc x = some i) : PE X (.Name x pos) (tE F W Φ (.var i)) := by
  obtain ⟨h1, h2, h3, h4⟩ := C.vis h
  refine (pe_var h1 h2 h3 h4).imp fun σ H Q q => ?_
  obtain ⟨env, st, α, hE, hS, ho⟩ := q
  simp only [evE] at ho
  split at ho
  · rename_i d e
    obtain ⟨v, e1, r⟩ := hE.at_ i d e
    exact ⟨v, e1, ho.im hS r⟩
  · exact ho.elim
theorem im_con {K : PySem.W.Frag} {H : Hp} : ∀ {kc : Const} {p : P}, constOf kc = some p → ∃ v, Im K H p v ∧ v = (match kc with | .none => V.non | .bool b => .bl b | .int i => .int i | .str s => .str s | _ => .non) := by
  intro kc p h
  cases kc <;> cases h <;> exact ⟨_, rfl, rfl⟩
theorem tC_imp (C : Cxt c sc F W Φ k X) {p : P} {v : V} (i : ∀ H, Im F.K H p v) : ∀ σ H Q, tE F W Φ (.const p) σ H Q → tC v σ H Q := fun σ H Q q => by
  obtain ⟨env, st, α, hE, hS, ho⟩ := q
  simp only [evE] at ho
  exact ho.one hS (i H)
theorem s_con (C : Cxt c sc F W Φ k X) {kc : Const} {p : P} {j : Nat} {pos : Pos} (h : constOf kc = some p) : PE X (.Constant kc j pos) (tE F W Φ (.const p)) := by
  cases kc <;> cases h
  · exact pe_non.imp (tC_imp C fun H => rfl)
  · exact pe_bl.imp (tC_imp C fun H => rfl)
  · exact pe_int.imp (tC_imp C fun H => rfl)
  · exact pe_str.imp (tC_imp C fun H => rfl)
theorem s_glob (C : Cxt c sc F W Φ k X) {x : Str} {p : P} {pos : Pos} (h : glob c sc x = some (.con p)) : PE X (.Name x pos) (tE F W Φ (.const p)) := by
  obtain ⟨h1, ⟨u, v, h2, h3, h4⟩, h5, h6⟩ := C.gl h
  exact (pe_glob h1 h2 h3 h5).imp (tC_imp C h4)

/-- values in a row -/
theorem s_nil : PA X [] (tD F W Φ []) := pa_nil.imp fun σ H Q q => by
  obtain ⟨env, st, α, hE, hS, ho⟩ := q
  simp only [evDs] at ho
  exact ho [] H α Pre.refl Ext.refl hS rfl
theorem s_cons (C : Cxt c sc F W Φ k X) {e : Expr} {es : List Expr} {i : Kp.X} {is : List Kp.X} (he : PE X e (tE F W Φ i)) (hs : PA X es (tD F W Φ is)) (hst : starEach (e :: es) X.env = (false, eval e X.env) :: starEach es X.env) : PA X (e :: es) (tD F W Φ (i :: is)) :=
  (pa_cons (pe_frz C.hF he) hs hst).imp fun σ H Q q => by
    obtain ⟨env, st, α, hE, hS, ho⟩ := q
    simp only [evDs] at ho
    refine (tM.bind hE hS ho).imp fun x H1 ⟨r, st1, α1, a1, r1, ho⟩ => ?_
    refine (tM.bind a1.E a1.S ho).imp fun vs H2 ⟨ds, st2, α2, a2, r2, ho⟩ => ?_
    exact ho (x :: vs) H2 α2 Pre.refl Ext.refl a2.S ⟨x, vs, rfl, DR.mono a2.pre a2.ext r1, r2⟩
theorem toPs_all {K : PySem.W.Frag} {α : List Addr} {H : Hp} : ∀ {ds : List D} {ps : List P} {vs : List V}, toPs ds = some ps → DRs K α H ds vs → ImAll K H ps vs
  | [], ps, vs, e, h => by
    cases (show some [] = some ps from e)
    exact h
  | .py p :: ds, ps, vs, e, h => by
    have e : (toPs ds).map (p :: ·) = some ps := e
    cases q : toPs ds with
    | none => rw [q] at e; cases e
    | some qs =>
      rw [q] at e
      have e : p :: qs = ps := Option.some.inj e
      subst e
      obtain ⟨v, r, e1, h1, h2⟩ := h
      exact ⟨v, r, e1, h1, toPs_all q h2⟩
  | .ref _ :: _, ps, vs, e, h => by cases (show none = some ps from e)
theorem s_tup (C : Cxt c sc F W Φ k X) {es : List Expr} {is : List Kp.X} {x1 : Nat} {pos : Pos} (h : PA X es (tD F W Φ is)) : PE X (.Tuple es x1 pos) (tE F W Φ (.tup is)) :=
  (pe_tup h).imp fun σ H Q q => by
    obtain ⟨env, st, α, hE, hS, ho⟩ := q
    simp only [evE] at ho
    refine (tM.bind hE hS ho).imp fun vs H1 ⟨ds, st1, α1, a1, r1, ho⟩ => ?_
    cases e : toPs ds with
    | none => rw [e] at ho; exact ho.elim
    | some ps =>
      rw [e] at ho
      obtain ⟨z, ho⟩ := ho.chk
      have r := toPs_all e r1
      have z := of_decide_eq_true z
      rw [r.length] at z
      exact ⟨z, fun p n => ho.tup a1.S n z r⟩
theorem s_lst (C : Cxt c sc F W Φ k X) {es : List Expr} {is : List Kp.X} {pos : Pos} (h : PA X es (tD F W Φ is)) : PE X (.List es pos) (tE F W Φ (.lst is)) :=
  (pe_lst h).imp fun σ H Q q => by
    obtain ⟨env, st, α, hE, hS, ho⟩ := q
    simp only [evE] at ho
    refine (tM.bind hE hS ho).imp fun vs H1 ⟨ds, st1, α1, a1, r1, ho⟩ => ?_
    cases e : toPs ds with
    | none => rw [e] at ho; exact ho.elim
    | some ps =>
      rw [e] at ho
      obtain ⟨z, ho⟩ := ho.chk
      have r := toPs_all e r1
      have z := of_decide_eq_true z
      rw [r.length] at z
      exact ⟨z, fun p n => ho.lst a1.S n z r⟩

/-- two operands, frozen, then an operation -/
theorem two {r : R2} {m1 m2 : Ev → Sto → R Rv} {f : Rv → Rv → Sto → R Rv} 
    (hr : ∀ σ α H st x y a b Q, StR F.K α H st → DR F.K α H (Rv.frz a) x → DR F.K α H (Rv.frz b) y → Out F W (RvR F.K) σ α H (f a b st) Q → r x y H Q) :
    ∀ σ H Q, tM F W (RvR F.K) (fun env st => (m1 env st).bind fun x st1 => (m2 env st1).bind fun y st2 => f x y st2) σ H Q → tOp r (tM F W (RvF F.K) m1) (tM F W (RvF F.K) m2) σ H Q := fun σ H Q q => by
  obtain ⟨env, st, α, hE, hS, ho⟩ := q
  refine (tM.bind hE hS ho).imp fun x H1 ⟨a, st1, α1, a1, r1, ho⟩ => ?_
  refine (tM.bind a1.E a1.S ho).imp fun y H2 ⟨b, st2, α2, a2, r2, ho⟩ => ?_
  exact hr σ α2 H2 st2 x y a b Q a2.S (DR.mono a2.pre a2.ext r1) r2 ho
theorem s_bin (C : Cxt c sc F W Φ k X) {o : Operator} {b : Bop} {l r : Expr} {i j : Kp.X} {pos : Pos} (h : bopOf o = some b) (hl : PE X l (tE F W Φ i)) (hr : PE X r (tE F W Φ j)) : PE X (.BinOp l o r pos) (tE F W Φ (.bin b i j)) :=
  (pe_op (bin_any (F := F) (W := W) C.hF h) (pe_frz C.hF hl) (pe_frz C.hF hr)).imp fun σ H Q q => by
    simp only [tE, evE] at q
    refine two (fun σ α H st x y a b' Q S ha hb ho => ?_) σ H Q q
    obtain ⟨p, e1, ho⟩ := ho.needP
    obtain ⟨p', e2, ho⟩ := ho.needP
    exact ⟨p, p', st, α, σ, DR.pr S ha e1, DR.pr S hb e2, S, ho⟩
theorem cmp_hr {b : Cop} : ∀ σ α H st x y (a b' : Rv) (Q : VK), StR F.K α H st → DR F.K α H a.frz x → DR F.K α H b'.frz y →
    Out F W (RvR F.K) σ α H (needP a st fun p => needP b' st fun q => match cmpop b p q with | some k => ok1 (.bool k) st | none => .bad) Q → rCmp F (cmpop b) x y H Q := fun σ α H st x y a b' Q S ha hb ho => by
  obtain ⟨p, e1, ho⟩ := ho.needP
  obtain ⟨p', e2, ho⟩ := ho.needP
  cases e : cmpop b p p' with
  | none => rw [e] at ho; exact ho.elim
  | some kk =>
    rw [e] at ho
    exact ⟨p, p', kk, DR.pr S ha e1, DR.pr S hb e2, e, ho.one S rfl⟩
theorem bool_one {σ : L2.St} {α : List Addr} {H : Hp} {st : Sto} {kk : Bool} {Q : Bool → Hp → Prop} (S : StR F.K α H st) (h : Out F W (fun _ _ (b : Bool) k => b = k) σ α H (.ok kk st) Q) : Q kk H := h kk H α Pre.refl Ext.refl S rfl
theorem bind_needB {m : R Rv} : (m.bind fun r st1 => needB r fun k => R.ok k st1) = (m.bind fun r st1 => needB r fun k => R.ok k st1) := rfl
theorem R.bind_assoc {α β γ : Type} (m : R α) (f : α → Sto → R β) (g : β → Sto → R γ) : (m.bind f).bind g = m.bind fun a st => (f a st).bind g := by
  cases m <;> rfl
theorem s_cmp (C : Cxt c sc F W Φ k X) {o : CmpOp} {b : Cop} {l r : Expr} {i j : Kp.X} {pos : Pos} (h : copOf o = some b) (hm : behindInMarks o r = false) (hl : PE X l (tE F W Φ i)) (hr : PE X r (tE F W Φ j)) :
    PE X (.Compare l [o] [r] pos) (tE F W Φ (.cmp b i j)) ∧ PT X (.Compare l [o] [r] pos) (tT F W Φ (.cmp b i j)) := by
  refine ⟨(pe_cmpR (cmp_any (F := F) C.hF C.cr h) (pe_frz C.hF hl) (pe_frz C.hF hr) hm).imp fun σ H Q q => ?_, (pt_cmpR (cmp_any (F := F) C.hF C.cr h) (pe_frz C.hF hl) (pe_frz C.hF hr) hm).imp fun σ H Q q => ?_⟩
  · simp only [tE, evE] at q
    exact two cmp_hr σ H Q q
  · simp only [tT, evB, evE, R.bind_assoc] at q
    obtain ⟨env, st, α, hE, hS, ho⟩ := q
    refine (tM.bind hE hS ho).imp fun x H1 ⟨a, st1, α1, a1, r1, ho⟩ => ?_
    refine (tM.bind a1.E a1.S ho).imp fun y H2 ⟨b', st2, α2, a2, r2, ho⟩ => ?_
    have ha := DR.mono a2.pre a2.ext r1
    unfold needP at ho
    cases e1 : asP st2 a with
    | none => rw [e1] at ho; exact ho.elim
    | some p =>
      rw [e1] at ho
      cases e2 : asP st2 b' with
      | none => simp only [e2] at ho; exact ho.elim
      | some p' =>
        simp only [e2] at ho
        cases e : cmpop b p p' with
        | none => rw [e] at ho; exact ho.elim
        | some kk =>
          rw [e] at ho
          exact ⟨p, p', kk, DR.pr a2.S ha e1, DR.pr a2.S r2 e2, e, kk, rfl, bool_one a2.S ho⟩

/-- a test from a value -/
theorem t_val {e : Expr} {i : Kp.X} (h : PE X e (tE F W Φ i)) (he : ∀ whole, isTrue e X.env whole = (do let v ← whole; standAt e.pos; holding [v] (truthy v))) : PT X e (tT F W Φ i) :=
  (pt_val h he).imp fun σ H Q q => by
    obtain ⟨env, st, α, hE, hS, ho⟩ := q
    refine (tM.bind hE hS ho).imp fun x H1 ⟨r, st1, α1, a1, r1, ho⟩ => ?_
    obtain ⟨b, e, ho⟩ := ho.needB
    subst e
    have r1 : x = .bl b := r1
    exact ⟨b, r1, bool_one a1.S ho⟩
theorem s_chain (C : Cxt c sc F W Φ k X) {o o' : CmpOp} {b b' : Cop} {l r r' : Expr} {i j j' : Kp.X} {pos : Pos} (h : copOf o = some b) (h' : copOf o' = some b') (hm : lastMarks [o, o'] [r, r'] = false)
    (hl : PE X l (tE F W Φ i)) (hr : PE X r (tE F W Φ j)) (hr' : PE X r' (tE F W Φ j')) :
    PE X (.Compare l [o, o'] [r, r'] pos) (tE F W Φ (.chain b b' i j j')) ∧ PT X (.Compare l [o, o'] [r, r'] pos) (tT F W Φ (.chain b b' i j j')) := by
  have key : ∀ σ H (Q : VK), tE F W Φ (.chain b b' i j j') σ H Q → tChain (rCmp F (cmpop b)) (rCmp F (cmpop b')) (tM F W (RvF F.K) (fun env st => evE Φ env i st)) (tM F W (RvF F.K) (fun env st => evE Φ env j st)) (tM F W (RvF F.K) (fun env st => evE Φ env j' st)) σ H Q := fun σ H Q q => by
    simp only [tE, evE] at q
    obtain ⟨env, st, α, hE, hS, ho⟩ := q
    refine (tM.bind hE hS ho).imp fun x H1 ⟨a, st1, α1, a1, r1, ho⟩ => ?_
    refine (tM.bind a1.E a1.S ho).imp fun y H2 ⟨a', st2, α2, a2, r2, ho⟩ => ?_
    have ha := DR.mono a2.pre a2.ext r1
    obtain ⟨p, e1, ho⟩ := ho.needP
    obtain ⟨p', e2, ho⟩ := ho.needP
    cases e : cmpop b p p' with
    | none => rw [e] at ho; exact ho.elim
    | some kk =>
      refine ⟨p, p', kk, DR.pr a2.S ha e1, DR.pr a2.S r2 e2, e, kk, rfl, ?_⟩
      cases kk with
      | false =>
        rw [e] at ho
        exact ho.one a2.S rfl
      | true =>
        rw [e] at ho
        rw [if_pos rfl]
        refine (tM.bind a2.E a2.S ho).imp fun z H3 ⟨a3', st3, α3, a3, r3, ho⟩ => ?_
        obtain ⟨q1, e3, ho⟩ := ho.needP
        obtain ⟨q2, e4, ho⟩ := ho.needP
        cases e5 : cmpop b' q1 q2 with
        | none => rw [e5] at ho; exact ho.elim
        | some k2 =>
          rw [e5] at ho
          exact ⟨q1, q2, k2, DR.pr a3.S (DR.mono a3.pre a3.ext r2) e3, DR.pr a3.S r3 e4, e5, ho.one a3.S rfl⟩
  refine ⟨(pe_chain (cmp_any (F := F) C.hF C.cr h) (cmp_any (F := F) C.hF C.cr h') (pe_frz C.hF hl) (pe_frz C.hF hr) (pe_frz C.hF hr') hm).imp key, (pt_chain (cmp_any (F := F) C.hF C.cr h) (cmp_any (F := F) C.hF C.cr h') (pe_frz C.hF hl) (pe_frz C.hF hr) (pe_frz C.hF hr') hm).imp fun σ H Q q => ?_⟩
  refine key σ H _ ?_
  obtain ⟨env, st, α, hE, hS, ho⟩ := q
  refine (tM.bind hE hS ho).imp fun x H1 ⟨r, st1, α1, a1, r1, ho⟩ => ?_
  obtain ⟨kb, e, ho⟩ := ho.needB
  subst e
  have r1 : x = .bl kb := r1
  exact ⟨kb, r1, bool_one a1.S ho⟩
/-- not, and, or -/
theorem s_not {e : Expr} {i : Kp.X} {pos : Pos} (h : PE X e (tE F W Φ i)) (h2 : PT X e (tT F W Φ i)) : PE X (.UnaryOp .Not e pos) (tE F W Φ (.not i)) ∧ PT X (.UnaryOp .Not e pos) (tT F W Φ (.not i)) := by
  refine ⟨(pe_not h).imp fun σ H Q q => ?_, (pt_not h2).imp fun σ H Q q => ?_⟩
  · simp only [tE, evE] at q
    obtain ⟨env, st, α, hE, hS, ho⟩ := q
    refine (tM.bind hE hS ho).imp fun x H1 ⟨r, st1, α1, a1, r1, ho⟩ => ?_
    obtain ⟨kb, e, ho⟩ := ho.needB
    subst e
    have r1 : x = .bl kb := r1
    exact ⟨kb, r1, ho.one a1.S rfl⟩
  · obtain ⟨env, st, α, hE, hS, ho⟩ := q
    have e : evB Φ env (.not i) st = (evB Φ env i st).bind fun kb st1 => .ok (!kb) st1 := by
      simp only [evB, evE, R.bind_assoc]
      cases evE Φ env i st with
      | ok r st1 =>
        simp only [ok_bind]
        unfold needB
        split <;> rfl
      | exc c fs st1 => rfl
      | bad => rfl
    have ho : Out F W (fun _ _ (b : Bool) k => b = k) σ α H (evB Φ env (.not i) st) Q := ho
    rw [e] at ho
    refine (tM.bind (m := fun env st => evB Φ env i st) hE hS ho).imp fun x H1 ⟨r, st1, α1, a1, r1, ho⟩ => ?_
    subst r1
    exact bool_one a1.S ho
theorem evB_and {env : Ev} {i j : Kp.X} {st : Sto} : evB Φ env (.and i j) st = (evB Φ env i st).bind fun kb st1 => if kb then evB Φ env j st1 else .ok false st1 := by
  simp only [evB, evE, R.bind_assoc]
  cases evE Φ env i st with
  | ok r st1 =>
    simp only [ok_bind]
    unfold needB
    split
    · rename_i kb
      simp only [ok_bind]
      cases kb <;> rfl
    · rfl
  | exc c fs st1 => rfl
  | bad => rfl
theorem evB_or {env : Ev} {i j : Kp.X} {st : Sto} : evB Φ env (.or i j) st = (evB Φ env i st).bind fun kb st1 => if kb then .ok true st1 else evB Φ env j st1 := by
  simp only [evB, evE, R.bind_assoc]
  cases evE Φ env i st with
  | ok r st1 =>
    simp only [ok_bind]
    unfold needB
    split
    · rename_i kb
      simp only [ok_bind]
      cases kb <;> rfl
    · rfl
  | exc c fs st1 => rfl
  | bad => rfl
theorem s_and {e e2 : Expr} {es : List Expr} {i j : Kp.X} {pos : Pos} (h : PE X e (tE F W Φ i)) (h2 : PT X e (tT F W Φ i)) (g : PE X (.BoolOp .And (e2 :: es) pos) (tE F W Φ j)) (g2 : PW X (.BoolOp .And (e2 :: es) pos) (tT F W Φ j)) :
    PE X (.BoolOp .And (e :: e2 :: es) pos) (tE F W Φ (.and i j)) ∧ PW X (.BoolOp .And (e :: e2 :: es) pos) (tT F W Φ (.and i j)) := by
  refine ⟨(pe_and h g).imp fun σ H Q q => ?_, (pw_and h2 g2).imp fun σ H Q q => ?_⟩
  · simp only [tE, evE] at q
    obtain ⟨env, st, α, hE, hS, ho⟩ := q
    refine (tM.bind hE hS ho).imp fun x H1 ⟨r, st1, α1, a1, r1, ho⟩ => ?_
    obtain ⟨kb, e, ho⟩ := ho.needB
    subst e
    have r1 : x = .bl kb := r1
    refine ⟨kb, r1, ?_⟩
    cases kb with
    | true => exact ⟨env, st1, α1, a1.E, a1.S, ho⟩
    | false => exact ho.one a1.S rfl
  · obtain ⟨env, st, α, hE, hS, ho⟩ := q
    have ho : Out F W (fun _ _ (b : Bool) k => b = k) σ α H (evB Φ env (.and i j) st) Q := ho
    rw [evB_and] at ho
    refine (tM.bind (m := fun env st => evB Φ env i st) hE hS ho).imp fun x H1 ⟨r, st1, α1, a1, r1, ho⟩ => ?_
    subst r1
    cases r with
    | true => exact ⟨env, st1, α1, a1.E, a1.S, ho⟩
    | false => exact bool_one a1.S ho
theorem s_or {e e2 : Expr} {es : List Expr} {i j : Kp.X} {pos : Pos} (h : PE X e (tE F W Φ i)) (h2 : PT X e (tT F W Φ i)) (g : PE X (.BoolOp .Or (e2 :: es) pos) (tE F W Φ j)) (g2 : PW X (.BoolOp .Or (e2 :: es) pos) (tT F W Φ j)) :
    PE X (.BoolOp .Or (e :: e2 :: es) pos) (tE F W Φ (.or i j)) ∧ PW X (.BoolOp .Or (e :: e2 :: es) pos) (tT F W Φ (.or i j)) := by
  refine ⟨(pe_or h g).imp fun σ H Q q => ?_, (pw_or h2 g2).imp fun σ H Q q => ?_⟩
  · simp only [tE, evE] at q
    obtain ⟨env, st, α, hE, hS, ho⟩ := q
    refine (tM.bind hE hS ho).imp fun x H1 ⟨r, st1, α1, a1, r1, ho⟩ => ?_
    obtain ⟨kb, e, ho⟩ := ho.needB
    subst e
    have r1 : x = .bl kb := r1
    refine ⟨kb, r1, ?_⟩
    cases kb with
    | false => exact ⟨env, st1, α1, a1.E, a1.S, ho⟩
    | true => exact ho.one a1.S rfl
  · obtain ⟨env, st, α, hE, hS, ho⟩ := q
    have ho : Out F W (fun _ _ (b : Bool) k => b = k) σ α H (evB Φ env (.or i j) st) Q := ho
    rw [evB_or] at ho
    refine (tM.bind (m := fun env st => evB Φ env i st) hE hS ho).imp fun x H1 ⟨r, st1, α1, a1, r1, ho⟩ => ?_
    subst r1
    cases r with
    | false => exact ⟨env, st1, α1, a1.E, a1.S, ho⟩
    | true => exact bool_one a1.S ho
theorem s_ife {t a b : Expr} {i j j' : Kp.X} {pos : Pos} (ht : PT X t (tT F W Φ i)) (ha : PE X a (tE F W Φ j)) (hb : PE X b (tE F W Φ j')) : PE X (.IfExp t a b pos) (tE F W Φ (.ife i j j')) :=
  (pe_ifExp ht ha hb).imp fun σ H Q q => by
    obtain ⟨env, st, α, hE, hS, ho⟩ := q
    have e : evE Φ env (.ife i j j') st = (evB Φ env i st).bind fun kb st1 => if kb then evE Φ env j st1 else evE Φ env j' st1 := by
      simp only [evB, evE, R.bind_assoc]
      cases evE Φ env i st with
      | ok r st1 =>
        simp only [ok_bind]
        unfold needB
        split <;> rfl
      | exc c fs st1 => rfl
      | bad => rfl
    have ho : Out F W (RvR F.K) σ α H (evE Φ env (.ife i j j') st) Q := ho
    rw [e] at ho
    refine (tM.bind (m := fun env st => evB Φ env i st) hE hS ho).imp fun x H1 ⟨r, st1, α1, a1, r1, ho⟩ => ?_
    subst r1
    cases r with
    | true => exact ⟨env, st1, α1, a1.E, a1.S, ho⟩
    | false => exact ⟨env, st1, α1, a1.E, a1.S, ho⟩
theorem s_neg {e : Expr} {i : Kp.X} {pos : Pos} (h : PE X e (tE F W Φ i)) : PE X (.UnaryOp .USub e pos) (tE F W Φ (.neg i)) :=
  (pe_un un_neg h).imp fun σ H Q q => by
    simp only [tE, evE] at q
    obtain ⟨env, st, α, hE, hS, ho⟩ := q
    refine (tM.bind hE hS ho).imp fun x H1 ⟨r, st1, α1, a1, r1, ho⟩ => ?_
    split at ho
    · exact ⟨_, r1, ho.one a1.S rfl⟩
    · exact ho.elim
/-- items, slices -/
theorem s_idx (C : Cxt c sc F W Φ k X) {a b : Expr} {i j : Kp.X} {pos : Pos} (ha : PE X a (tE F W Φ i)) (hb : PE X b (tE F W Φ j)) (hp : PlainIx b) : PE X (.Subscript a b pos) (tE F W Φ (.idx i j)) :=
  (pe_ix (idx_any (F := F) C.hF) (pe_frz C.hF ha) (pe_frz C.hF hb) hp).imp fun σ H Q q => by
    simp only [tE, evE] at q
    refine two (fun σ α H st x y a b' Q S ha hb ho => ?_) σ H Q q
    obtain ⟨p, e1, ho⟩ := ho.needP
    obtain ⟨p', e2, ho⟩ := ho.needP
    cases e : idxop p p' with
    | none => rw [e] at ho; exact ho.elim
    | some r =>
      rw [e] at ho
      exact ⟨p, p', r, DR.pr S ha e1, DR.pr S hb e2, e, fun v hv => ho.one S hv⟩
def tPO (F : Fx) (W : WX) (m : Ev → Sto → R Rv) : TO := fun σ H Q => tM F W (RvF F.K) m σ H fun x H1 => (x = .non ∧ Q none H1) ∨ ∃ i, x = .int i ∧ Q (some i) H1
theorem po_any (C : Cxt c sc F W Φ k X) {e : Expr} {i : Kp.X} (h : PE X e (tE F W Φ i)) : PO X (some e) (tPO F W fun env st => evE Φ env i st) := by
  refine ⟨fun pins s σ H Q I hw => ?_⟩
  rw [evalPart_some]
  refine thn ((pe_frz C.hF h).run pins s σ H _ I hw) fun u s1 ⟨x, H1, I1, r1, q1⟩ => ?_
  rcases q1 with ⟨e, q⟩ | ⟨i, e, q⟩
  · subst e
    cases r1
    exact ⟨none, H1, I1, .none, q⟩
  · subst e
    obtain ⟨t, rfl⟩ := r1
    exact ⟨some i, H1, I1, .int i t, q⟩
theorem s_slc (C : Cxt c sc F W Φ k X) {a : Expr} {lo hi : Option Expr} {i j j' : Kp.X} {pos p2 : Pos} (ha : PE X a (tE F W Φ i)) (hl : PO X lo (tPO F W fun env st => evE Φ env j st)) (hh : PO X hi (tPO F W fun env st => evE Φ env j' st)) :
    PE X (.Subscript a (.Slice lo hi none p2) pos) (tE F W Φ (.slc i j j')) :=
  (pe_slice (slc_any (F := F) (W := W) C.hF) (pe_frz C.hF ha) hl hh).imp fun σ H Q q => by
    simp only [tE, evE] at q
    obtain ⟨env, st, α, hE, hS, ho⟩ := q
    refine (tM.bind hE hS ho).imp fun x H1 ⟨r, st1, α1, a1, r1, ho⟩ => ?_
    refine (tM.bind a1.E a1.S ho).imp fun y H2 ⟨r', st2, α2, a2, r2, ho⟩ => ?_
    have hx := DR.mono a2.pre a2.ext r1
    obtain ⟨l, e1, ho⟩ := ho.needO r2
    have fin : tPO F W (fun env st => evE Φ env j' st) σ H2 fun u H3 => rSlc F W x l u H3 Q := by
      refine (tM.bind a2.E a2.S ho).imp fun z H3 ⟨r'', st3, α3, a3, r3, ho⟩ => ?_
      obtain ⟨u, e2, ho⟩ := ho.needO r3
      obtain ⟨p, q1, ho⟩ := ho.needP
      have hx := DR.pr a3.S (DR.mono a3.pre a3.ext hx) q1
      rcases e2 with ⟨e, e'⟩ | ⟨i, e, e'⟩
      · subst e
        exact .inl ⟨e', p, st3, α3, σ, hx, a3.S, ho⟩
      · subst e
        exact .inr ⟨i, e', p, st3, α3, σ, hx, a3.S, ho⟩
    rcases e1 with ⟨e, e'⟩ | ⟨i, e, e'⟩
    · subst e
      exact .inl ⟨e', fin⟩
    · subst e
      exact .inr ⟨i, e', fin⟩
end
end Kp

/-! Kp, part 7: calls, what is gone through, comprehensions. -/
namespace Kp
open PySem PySem.Spec PyProof.Rows L2

/-! ### no star -/
def noStar : Expr → Bool
  | .Starred .. => false
  | _ => true
theorem star_cons {e : Expr} {es : List Expr} {env : Env} (h : noStar e = true) : starEach (e :: es) env = (false, eval e env) :: starEach es env := by
  cases e <;> first | rfl | cases h
theorem star_any {pos : Pos} {env : Env} : ∀ {es : List Expr}, es.all noStar = true → (backTo pos (starEach es env)).any (·.1) = false
  | [], _ => rfl
  | e :: es, h => by
    rw [List.all_cons, Bool.and_eq_true] at h
    rw [star_cons h.1]
    show (false || (backTo pos (starEach es env)).any (·.1)) = false
    rw [star_any h.2]; rfl

section
variable {c : Cfg} {sc : Scope} {F : Fx} {W : WX} {Φ : Nat → List D → Sto → R Rv} {k : Nat} {X : Cx}
theorem s_call (C : Cxt c sc F W Φ k X) {x : Str} {j : Nat} {e : Expr} {es : List Expr} {is : List Kp.X} {p pos : Pos} (h : glob c sc x = some (.fn j)) (ha : PA X (e :: es) (tD F W Φ is)) (hn : (e :: es).all noStar = true) :
    PE X (.Call (.Name x p) (e :: es) [] pos) (tE F W Φ (.call j is)) := by
  obtain ⟨h1, ⟨f, fd, ps, hm, hk, hb, hf, hbad⟩, h5, h6⟩ := C.gl h
  rw [List.all_cons, Bool.and_eq_true] at hn
  refine (pe_callS (E := WE W) hf C.room h1 hm hk hb (passAt C.tk) ha h5 (star_cons hn.1) (star_any hn.2)).imp fun σ H Q q => ?_
  simp only [tE, evE] at q
  obtain ⟨env, st, α, hE, hS, ho⟩ := q
  refine (tM.bind hE hS ho).imp fun vs H1 ⟨ds, st1, α1, a1, r1, ho⟩ => ?_
  refine ⟨ds, st1, α1, ?_, r1, a1.S, ?_⟩
  · rw [← r1.length]
    by_cases z : ds.length = ps.length
    · exact z
    · rw [hbad ds st1 z] at ho
      exact ho.elim
  · cases e : Φ j ds st1 with
    | ok r st2 => rw [e] at ho; exact ho
    | exc cc fs st2 => rw [e] at ho; exact ho
    | bad => rw [e] at ho; exact ho
theorem prs_of {K : PySem.W.Frag} {α : List Addr} {H : Hp} {st : Sto} (S : StR K α H st) : ∀ {ds : List D} {ps : List P} {vs : List V}, DRs K α H ds vs → ds.mapM (deref st) = some ps → PRs K H ps vs
  | [], ps, vs, h, e => by
    have e : [] = ps := by simpa using e
    subst e
    exact h
  | d :: ds, ps, vs, h, e => by
    obtain ⟨v, r, e1, h1, h2⟩ := h
    rw [List.mapM_cons] at e
    cases q : deref st d with
    | none => rw [q] at e; cases e
    | some p =>
      cases q2 : ds.mapM (deref st) with
      | none => rw [q, q2] at e; cases e
      | some qs =>
        rw [q, q2] at e
        have e : p :: qs = ps := by simpa using e
        subst e
        exact ⟨v, r, e1, DR.pr S h1 q, prs_of S h2 q2⟩
theorem blt_imp {b : Blt} {is : List Kp.X} : ∀ σ H Q, tE F W Φ (.blt b is) σ H Q → tCB (rBlt F W b) (tD F W Φ is) σ H Q := fun σ H Q q => by
  simp only [tE, evE] at q
  obtain ⟨env, st, α, hE, hS, ho⟩ := q
  refine (tM.bind hE hS ho).imp fun vs H1 ⟨ds, st1, α1, a1, r1, ho⟩ => ?_
  cases e : ds.mapM (deref st1) with
  | none => rw [e] at ho; exact ho.elim
  | some ps =>
    rw [e] at ho
    exact ⟨ps, st1, α1, σ, prs_of a1.S r1 e, a1.S, ho⟩
theorem s_blt (C : Cxt c sc F W Φ k X) {x : Str} {b : Blt} {e : Expr} {es : List Expr} {is : List Kp.X} {p pos : Pos} (h : glob c sc x = some (.blt b)) (ha : PA X (e :: es) (tD F W Φ is)) (hn : (e :: es).all noStar = true) :
    PE X (.Call (.Name x p) (e :: es) [] pos) (tE F W Φ (.blt b is)) := by
  obtain ⟨h1, ⟨hm, hv⟩, h5, h6⟩ := C.gl h
  rw [List.all_cons, Bool.and_eq_true] at hn
  have hr := blt_any (X := X) (F := F) (W := W) C.hF C.calm b
  cases b <;> first
    | exact (pe_callB hr h1 hm hv ha h6 h5 (star_cons hn.1) (star_any hn.2)).imp blt_imp
    | exact (pe_callTy hr h1 hm hv ha h6 h5 (star_cons hn.1) (star_any hn.2)).imp blt_imp
theorem s_ty (C : Cxt c sc F W Φ k X) {x : Str} {t : Ty} {b : Blt} {e : Expr} {es : List Expr} {is : List Kp.X} {p pos : Pos} (h : glob c sc x = some (.ty t)) (ht : tyCall t = some b) (ha : PA X (e :: es) (tD F W Φ is)) (hn : (e :: es).all noStar = true) :
    PE X (.Call (.Name x p) (e :: es) [] pos) (tE F W Φ (.blt b is)) := by
  obtain ⟨h1, ⟨hm, hv⟩, h5, h6⟩ := C.gl h
  rw [List.all_cons, Bool.and_eq_true] at hn
  have hr := blt_any (X := X) (F := F) (W := W) C.hF C.calm b
  cases t <;> cases ht <;> exact (pe_callTy hr h1 hm hv ha h6 h5 (star_cons hn.1) (star_any hn.2)).imp blt_imp
theorem s_isi (C : Cxt c sc F W Φ k X) {x y : Str} {t : Ty} {e : Expr} {i : Kp.X} {p p2 pos : Pos} (h : glob c sc x = some .isi) (h2 : glob c sc y = some (.ty t)) (he : PE X e (tE F W Φ i)) (hn : noStar e = true) :
    PE X (.Call (.Name x p) [e, .Name y p2] [] pos) (tE F W Φ (.isi t i)) := by
  obtain ⟨h1, ⟨hm, hv⟩, h5, h6⟩ := C.gl h
  obtain ⟨g1, ⟨gm, gv⟩, g5, g6⟩ := C.gl h2
  have ha : PA X [e, .Name y p2] (tCons (tM F W (RvF F.K) (fun env st => evE Φ env i st)) (tCons (tC (.ty (tyName t))) tNil)) :=
    pa_cons (pe_frz C.hF he) (pa_cons (pe_bltn g1 gm gv rfl g6 g5) pa_nil (star_cons rfl)) (star_cons hn)
  refine (pe_callB (isi_any (F := F) C.hF t) h1 hm hv ha h6 h5 (star_cons hn) (star_any rfl)).imp fun σ H Q q => ?_
  simp only [tE, evE] at q
  obtain ⟨env, st, α, hE, hS, ho⟩ := q
  refine (tM.bind hE hS ho).imp fun x H1 ⟨r, st1, α1, a1, r1, ho⟩ => ?_
  obtain ⟨pp, e1, ho⟩ := ho.needP
  exact ⟨x, pp, rfl, DR.pr a1.S r1 e1, ho.one a1.S rfl⟩

/-! ### what is gone through -/
structure IterOk (K : PySem.W.Frag) (J : It) (H0 : Hp) (ys : List P) : Prop where
  go : ∀ i H, Ext H0 H → i < ys.length → J.go i H
  stop : ∀ i H, Ext H0 H → ys.length ≤ i → J.stop i H
  yld : ∀ i H x H', Ext H0 H → i < ys.length → J.yld i H x H' → Ext H H' ∧ (∀ α st, StR K α H st → StR K α H' st) ∧ ∃ p, ys[i]? = some p ∧ Im K H' p x
def evI (Φ : Nat → List D → Sto → R Rv) (env : Ev) (ik : Ik) (is : List Kp.X) (st : Sto) : R (List P) :=
  (evDs Φ env is st).bind fun ds st1 => match itemsD ik ds with
    | some ys => .ok ys st1
    | none => .bad
abbrev tI (F : Fx) (W : WX) (Φ : Nat → List D → Sto → R Rv) (ik : Ik) (is : List Kp.X) : TI := tM F W (fun _ H ys J => IterOk F.K J H ys) (fun env st => evI Φ env ik is st)
theorem iter_list {K : PySem.W.Frag} {H0 : Hp} {a : Addr} {vs : List V} {ys : List P} (h : FzL K H0 a vs) (i : ImAll K H0 ys vs) : IterOk K (Itl K a) H0 ys := by
  refine ⟨fun n H x hn => ?_, fun n H x hn => ?_, fun n H v H' x hn y => ?_⟩
  · obtain ⟨v, e, _⟩ := i.get (List.getElem?_eq_getElem hn)
    exact ⟨vs, v, (h.ext x).sq, e⟩
  · exact ⟨vs, (h.ext x).sq, by rw [← i.length]; exact hn⟩
  · obtain ⟨e, y⟩ := y
    subst e
    have q := y vs (h.ext x).sq
    obtain ⟨p, e, r⟩ := i.get' q
    exact ⟨Ext.refl, fun _ _ s => s, p, e, Im.ext x _ _ r⟩
theorem iter_tup {K : PySem.W.Frag} {H0 : Hp} {a : Addr} {vs : List V} {ys : List P} (h : SqT K H0 a vs) (i : ImAll K H0 ys vs) : IterOk K (Itt K a) H0 ys := by
  refine ⟨fun n H x hn => ?_, fun n H x hn => ?_, fun n H v H' x hn y => ?_⟩
  · obtain ⟨v, e, _⟩ := i.get (List.getElem?_eq_getElem hn)
    exact ⟨vs, v, SqT.ext x h, e⟩
  · exact ⟨vs, SqT.ext x h, by rw [← i.length]; exact hn⟩
  · obtain ⟨e, y⟩ := y
    subst e
    have q := y vs (SqT.ext x h)
    obtain ⟨p, e, r⟩ := i.get' q
    exact ⟨Ext.refl, fun _ _ s => s, p, e, Im.ext x _ _ r⟩
theorem iter_str {K : PySem.W.Frag} {H0 : Hp} {x : Str} : IterOk K (Its x) H0 (x.cps.toList.map fun c => .str ⟨#[c]⟩) := by
  have hl : (x.cps.toList.map fun c => PyData.str ⟨#[c]⟩).length = x.cps.size := by simp
  refine ⟨fun n H _ hn => by rw [hl] at hn; exact hn, fun n H _ hn => by rw [hl] at hn; exact hn, fun n H v H' _ hn y => ?_⟩
  obtain ⟨e, c, h1, h2⟩ := y
  subst e
  refine ⟨Ext.refl, fun _ _ s => s, .str ⟨#[c]⟩, ?_, h2⟩
  rw [List.getElem?_map]
  have : x.cps.toList[n]? = some c := by simpa using h1
  rw [this]; rfl
theorem iter_range {K : PySem.W.Frag} {H0 : Hp} {lo : Int} {n : Nat} : IterOk K (Itr lo n) H0 ((List.range n).map fun (i : Nat) => .int (lo + (i : Int))) := by
  have hl : ((List.range n).map fun (i : Nat) => PyData.int (lo + (i : Int))).length = n := by simp
  refine ⟨fun j H _ hn => by rw [hl] at hn; exact hn, fun j H _ hn => by rw [hl] at hn; exact hn, fun j H v H' _ hn y => ?_⟩
  obtain ⟨e, h2⟩ := y
  subst e
  rw [hl] at hn
  refine ⟨Ext.refl, fun _ _ s => s, .int (lo + (j : Int)), ?_, h2⟩
  rw [List.getElem?_map, List.getElem?_range hn]; rfl
theorem tM.out {β γ : Type} {F : Fx} {W : WX} {RR : List Addr → Hp → β → γ → Prop} {m : Ev → Sto → R β} {σ : L2.St} {α : List Addr} {H : Hp} {Q : γ → Hp → Prop} {env : Ev} {st : Sto}
    (hE : EvR F.K α H env σ) (hS : StR F.K α H st) (h : Out F W RR σ α H (m env st) Q) : tM F W RR m σ H Q := ⟨env, st, α, hE, hS, h⟩
theorem evI_seq {env : Ev} {i : Kp.X} {st : Sto} : evI Φ env .seq [i] st = (evE Φ env i st).bind fun r st1 => match r.frz with
    | .py p => (match items .seq [p] with | some ys => .ok ys st1 | none => .bad)
    | .ref _ => .bad := by
  unfold evI
  simp only [evDs, R.bind_assoc]
  cases evE Φ env i st with
  | ok r st1 =>
    simp only [ok_bind]
    cases r.frz <;> rfl
  | exc cc fs st1 => rfl
  | bad => rfl
theorem i_seq (C : Cxt c sc F W Φ k X) {tg e : Expr} {i : Kp.X} (he : PE X e (tE F W Φ i)) : PI X tg e (tI F W Φ .seq [i]) := by
  have hf := pe_frz C.hF he
  refine ⟨fun pins s σ H R I q => ?_⟩
  obtain ⟨env, st, α, hE, hS, ho⟩ := q
  have ho : Out F W (fun _ H ys J => IterOk F.K J H ys) σ α H (evI Φ env .seq [i] st) R := ho
  rw [evI_seq] at ho
  cases e1 : evE Φ env i st with
  | bad => rw [e1] at ho; exact ho.elim
  | exc cc fs st1 =>
    rw [e1] at ho
    exact (pi_list (tg := tg) hf).run pins s σ H R I ⟨env, st, α, hE, hS, by simp only [e1]; exact ho⟩
  | ok r st1 =>
    rw [e1] at ho
    cases e2 : r.frz with
    | ref n => simp only [ok_bind, e2] at ho; exact ho.elim
    | py p =>
      have ho : Out F W (fun _ H ys J => IterOk F.K J H ys) σ α H (match items .seq [p] with | some ys => .ok ys st1 | none => .bad) R := by
        simp only [ok_bind, e2] at ho; exact ho
      cases p <;> try exact (show False from ho).elim
      · rename_i x
        refine (pi_str (tg := tg) hf).run pins s σ H R I ⟨env, st, α, hE, hS, ?_⟩
        simp only [e1]
        intro v H1 α1 p1 x1 S1 r1
        have r1 : DR F.K α1 H1 r.frz v := r1
        rw [e2] at r1
        have r1 : v = .str x := r1
        exact ⟨x, r1, ho _ H1 α1 p1 x1 S1 iter_str⟩
      · rename_i ys
        refine (pi_list (tg := tg) hf).run pins s σ H R I ⟨env, st, α, hE, hS, ?_⟩
        simp only [e1]
        intro v H1 α1 p1 x1 S1 r1
        have r1 : DR F.K α1 H1 r.frz v := r1
        rw [e2] at r1
        obtain ⟨a, vs, e3, h1, z1, i1⟩ := r1
        refine ⟨a, e3, ⟨vs, C.hF ▸ h1.sq⟩, ho _ H1 α1 p1 x1 S1 ?_⟩
        have q := iter_list h1 i1
        rw [C.hF] at q ⊢
        exact q
      · rename_i ys
        refine (pi_tup (tg := tg) hf).run pins s σ H R I ⟨env, st, α, hE, hS, ?_⟩
        simp only [e1]
        intro v H1 α1 p1 x1 S1 r1
        have r1 : DR F.K α1 H1 r.frz v := r1
        rw [e2] at r1
        obtain ⟨a, vs, e3, h1, z1, i1⟩ := r1
        refine ⟨a, e3, ⟨vs, C.hF ▸ h1⟩, ho _ H1 α1 p1 x1 S1 ?_⟩
        have q := iter_tup h1 i1
        rw [C.hF] at q ⊢
        exact q
theorem items_rng1 {ps : List P} {ys : List P} (h : items .rng1 ps = some ys) : ∃ j, ps = [.int j] ∧ -(2 ^ 62) ≤ j ∧ j < 2 ^ 62 ∧ ys = (List.range j.toNat).map fun (i : Nat) => .int (0 + (i : Int)) := by
  rcases ps with _ | ⟨a, _ | ⟨b, r⟩⟩
  · cases (show none = some ys from h)
  · cases a <;> try cases (show none = some ys from h)
    rename_i j
    have h : (if -(2 ^ 62) ≤ j ∧ j < 2 ^ 62 then some ((List.range j.toNat).map fun (i : Nat) => PyData.int (0 + (i : Int))) else none) = some ys := h
    split at h
    · rename_i c
      exact ⟨j, rfl, c.1, c.2, (Option.some.inj h).symm⟩
    · cases h
  · cases a <;> cases b <;> cases (show none = some ys from h)
theorem items_rng2 {ps : List P} {ys : List P} (h : items .rng2 ps = some ys) : ∃ i j, ps = [.int i, .int j] ∧ (-(2 ^ 62) ≤ i ∧ i < 2 ^ 62 ∧ -(2 ^ 62) ≤ j ∧ j < 2 ^ 62) ∧ ys = (List.range (j - i).toNat).map fun (n : Nat) => .int (i + (n : Int)) := by
  rcases ps with _ | ⟨a, _ | ⟨b, _ | ⟨cc, r⟩⟩⟩
  · cases (show none = some ys from h)
  · cases a <;> cases (show none = some ys from h)
  · cases a <;> cases b <;> try cases (show none = some ys from h)
    rename_i i j
    have h : (if -(2 ^ 62) ≤ i ∧ i < 2 ^ 62 ∧ -(2 ^ 62) ≤ j ∧ j < 2 ^ 62 then some ((List.range (j - i).toNat).map fun (n : Nat) => PyData.int (i + (n : Int))) else none) = some ys := h
    split at h
    · rename_i c
      exact ⟨i, j, rfl, c, (Option.some.inj h).symm⟩
    · cases h
  · cases a <;> cases b <;> cases cc <;> cases (show none = some ys from h)
theorem evI_out {env : Ev} {ik : Ik} {is : List Kp.X} {st : Sto} {σ : L2.St} {α : List Addr} {H : Hp} {R : It → Hp → Prop} (hE : EvR F.K α H env σ) (hS : StR F.K α H st) (ho : Out F W (fun _ H ys J => IterOk F.K J H ys) σ α H (evI Φ env ik is st) R) :
    tD F W Φ is σ H fun vs H1 => ∃ ps ys st1 α1, At F σ α α1 H H1 env st1 ∧ ImAll F.K H1 ps vs ∧ items ik ps = some ys ∧ ∀ J, IterOk F.K J H1 ys → R J H1 := by
  unfold evI at ho
  refine (tM.bind hE hS ho).imp fun vs H1 ⟨ds, st1, α1, a1, r1, ho⟩ => ?_
  unfold itemsD at ho
  cases e : toPs ds with
  | none => rw [e] at ho; exact ho.elim
  | some ps =>
    rw [e] at ho
    cases e2 : items ik ps with
    | none => simp only [e2] at ho; exact ho.elim
    | some ys =>
      simp only [e2] at ho
      exact ⟨ps, ys, st1, α1, a1, toPs_all e r1, e2, fun J hJ => ho J H1 α1 Pre.refl Ext.refl a1.S hJ⟩
theorem i_rng1 (C : Cxt c sc F W Φ k X) {tg a : Expr} {x : Str} {i : Kp.X} {p pos : Pos} (h : glob c sc x = some .range) (ha : PA X [a] (tD F W Φ [i])) (hn : noStar a = true) : PI X tg (.Call (.Name x p) [a] [] pos) (tI F W Φ .rng1 [i]) := by
  obtain ⟨h1, ⟨hm, e⟩, h5, h6⟩ := C.gl h
  subst e
  refine ⟨fun pins s σ H R I q => ?_⟩
  obtain ⟨env, st, α, hE, hS, ho⟩ := q
  refine (pi_range1 (tg := tg) h1 hm ha (star_cons hn)).run pins s σ H R I ((evI_out hE hS ho).imp fun vs H1 ⟨ps, ys, st1, α1, a1, r1, e, hJ⟩ => ?_)
  obtain ⟨j, e1, c1, c2, e2⟩ := items_rng1 e
  subst e1 e2
  obtain ⟨v, r, e3, q1, q2⟩ := r1
  have q1 : v = .int j := q1
  have q2 : r = [] := q2
  subst q1 q2
  exact ⟨j, e3, c1, c2, hJ _ iter_range⟩
theorem i_rng2 (C : Cxt c sc F W Φ k X) {tg a b : Expr} {x : Str} {i i2 : Kp.X} {p pos : Pos} (h : glob c sc x = some .range) (ha : PA X [a, b] (tD F W Φ [i, i2])) (hn : noStar a = true) (hn2 : noStar b = true) : PI X tg (.Call (.Name x p) [a, b] [] pos) (tI F W Φ .rng2 [i, i2]) := by
  obtain ⟨h1, ⟨hm, e⟩, h5, h6⟩ := C.gl h
  subst e
  refine ⟨fun pins s σ H R I q => ?_⟩
  obtain ⟨env, st, α, hE, hS, ho⟩ := q
  refine (pi_range2 (tg := tg) h1 hm ha (by rw [star_cons hn, star_cons hn2]; rfl) (star_cons hn2)).run pins s σ H R I ((evI_out hE hS ho).imp fun vs H1 ⟨ps, ys, st1, α1, a1, r1, e, hJ⟩ => ?_)
  obtain ⟨j, j2, e1, c1, e2⟩ := items_rng2 e
  subst e1 e2
  obtain ⟨v, r, e3, q1, q2⟩ := r1
  obtain ⟨v2, r2, e4, q3, q4⟩ := q2
  have q1 : v = .int j := q1
  have q3 : v2 = .int j2 := q3
  have q4 : r2 = [] := q4
  subst q1 q3 q4 e4
  exact ⟨j, j2, e3, c1, hJ _ iter_range⟩
end
end Kp

/-! Kp, part 8: targets, comprehensions. -/
namespace Kp
open PySem PySem.Spec PyProof.Rows L2

/-! ### slots forgotten -/
theorem wipe_get {σ : L2.St} {j : Nat} : ∀ {vs : List Nat}, (wipe σ vs)[j]? = if j ∈ vs ∧ j < σ.length then some none else σ[j]?
  | [] => by simp [wipe]
  | v :: vs => by
    unfold wipe
    by_cases e : v = j
    · subst e
      by_cases h : v < σ.length
      · rw [List.getElem?_set_self (by rw [wipe_length]; exact h)]
        simp [h]
      · rw [List.getElem?_eq_none (by rw [List.length_set, wipe_length]; omega)]
        have e : σ[v]? = none := List.getElem?_eq_none (by omega)
        simp [h]
    · rw [List.getElem?_set_ne e, wipe_get]
      have e' : j ≠ v := fun z => e z.symm
      simp [List.mem_cons, e']
theorem wipe_set {σ : L2.St} {i : Nat} {x : Option V} {vs : List Nat} (h : i ∈ vs) : wipe (σ.set i x) vs = wipe σ vs := by
  apply List.ext_getElem?
  intro j
  rw [wipe_get, wipe_get, List.length_set]
  by_cases e : i = j
  · subst e
    by_cases hl : i < σ.length
    · simp [h, hl]
    · have e1 : (σ.set i x)[i]? = none := List.getElem?_eq_none (by rw [List.length_set]; omega)
      have e2 : σ[i]? = none := List.getElem?_eq_none (by omega)
      simp [hl]
  · rw [List.getElem?_set_ne e]
theorem wipe_wipe {σ : L2.St} {vs : List Nat} : wipe (wipe σ vs) vs = wipe σ vs := by
  apply List.ext_getElem?
  intro j
  rw [wipe_get, wipe_length, wipe_get]
  split <;> rfl
section
variable {K : PySem.W.Frag} {α : List Addr} {H : Hp}
theorem EvR.clear {env : Ev} {σ : L2.St} (h : EvR K α H env σ) (i : Nat) : EvR K α H (env.set i none) (σ.set i none) := by
  refine ⟨by rw [List.length_set, List.length_set]; exact h.len, fun j d q => ?_⟩
  by_cases e : i = j
  · subst e
    by_cases hi : i < env.length
    · rw [List.getElem?_set_self hi] at q
      cases q
    · rw [List.getElem?_eq_none (by rw [List.length_set]; omega)] at q
      cases q
  · rw [List.getElem?_set_ne e] at q
    rw [List.getElem?_set_ne e]
    exact h.at_ j d q
theorem EvR.wipe {env : Ev} {σ : L2.St} (h : EvR K α H env σ) : ∀ vs, EvR K α H (wipeE env vs) (L2.wipe σ vs)
  | [] => h
  | v :: vs => (h.wipe vs).clear v

/-! ### targets -/
def gNs : List Nat → TGs
  | [] => gNil
  | i :: is => gCons (gName i) (gNs is)
def gT (K : PySem.W.Frag) : Tg → TG
  | .one i => gName i
  | .tup is => gTup K is.length (gNs is)
theorem gNs_bind : ∀ {is : List Nat} {ys : List P} {vs : List V} {env : Ev} {σ : L2.St} {Q : L2.St → Hp → Prop}, EvR K α H env σ → ImAll K H ys vs → ys.length = is.length →
    (∀ σ1, EvR K α H (setName env is ys) σ1 → (∀ ws : List Nat, (∀ i ∈ is, i ∈ ws) → L2.wipe σ1 ws = L2.wipe σ ws) → Q σ1 H) → gNs is vs σ H Q
  | [], [], vs, env, σ, Q, hE, hi, hl, q => ⟨hi, q σ hE fun _ _ => rfl⟩
  | [], y :: ys, vs, env, σ, Q, hE, hi, hl, q => by cases hl
  | i :: is, [], vs, env, σ, Q, hE, hi, hl, q => by cases hl
  | i :: is, y :: ys, vs, env, σ, Q, hE, hi, hl, q => by
    obtain ⟨v, r, e, h1, h2⟩ := hi
    refine ⟨v, r, e, ?_⟩
    refine gNs_bind (env := env.set i (some (.py y))) (EvR.set hE i h1) h2 (by simpa using hl) fun σ1 h3 h4 => q σ1 h3 fun ws hw => ?_
    rw [h4 ws fun j hj => hw j (List.mem_cons_of_mem _ hj), wipe_set (hw i List.mem_cons_self)]
theorem g_bind {t : Tg} {p : P} {v : V} {env env1 : Ev} {σ : L2.St} {Q : L2.St → Hp → Prop} (hE : EvR K α H env σ) (hi : Im K H p v) (hb : bindT t env p = some env1)
    (q : ∀ σ1, EvR K α H env1 σ1 → (∀ ws : List Nat, (∀ i ∈ tgSlots t, i ∈ ws) → L2.wipe σ1 ws = L2.wipe σ ws) → Q σ1 H) : gT K t v σ H Q := by
  cases t with
  | one i =>
    have e : env.set i (some (.py p)) = env1 := Option.some.inj hb
    subst e
    exact q _ (EvR.set hE i hi) fun ws hw => wipe_set (hw i (by simp [tgSlots]))
  | tup is =>
    cases p <;> try (cases (show none = some env1 from hb); done)
    rename_i ys
    have hb : (if ys.length = is.length then some (setName env is ys) else none) = some env1 := hb
    split at hb
    · rename_i hl
      cases hb
      obtain ⟨a, vs, e, h1, z1, i1⟩ := hi
      exact ⟨a, vs, e, h1, by rw [← i1.length]; exact hl, gNs_bind hE i1 hl q⟩
    · cases hb
end

section
variable {X : Cx}
/-- the names of a target stand at these slots -/
def NmOk (X : Cx) (x : Str) (i : Nat) : Prop := X.N[i]? = some x ∧ Loc X.env.scope x ∧ (X.fn x = true ∨ X.env.scope.names.lookup x = some .local)
theorem pgs_names (nd : X.N.Nodup) : ∀ {es : List Expr} {xs : List Str} {is : List Nat}, es.mapM nameOf = some xs → xs.length = is.length → (∀ p ∈ xs.zip is, NmOk X p.1 p.2) → PGs X es (gNs is) ∧ (assignEach es X.env).length = is.length ∧ (assignEach es X.env).findIdx? (·.1) = none
  | [], xs, is, h, hl, hn => by
    have h : [] = xs := by simpa using h
    subst h
    cases is with
    | nil => exact ⟨pgs_nil, rfl, rfl⟩
    | cons _ _ => cases hl
  | e :: es, xs, is, h, hl, hn => by
    rw [List.mapM_cons] at h
    cases e <;> try (cases h; done)
    rename_i x pos
    cases q : es.mapM nameOf with
    | none => rw [q] at h; cases h
    | some ys =>
      rw [q] at h
      have h : x :: ys = xs := by simpa [nameOf] using h
      subst h
      cases is with
      | nil => cases hl
      | cons i is =>
        obtain ⟨h1, h2, h3⟩ := pgs_names nd q (by simpa using hl) fun p hp => hn p (by rw [List.zip_cons_cons]; exact List.mem_cons_of_mem _ hp)
        obtain ⟨n1, n2, n3⟩ := hn (x, i) (by rw [List.zip_cons_cons]; exact List.mem_cons_self)
        have e1 : assignEach (.Name x pos :: es) X.env = (false, assign (.Name x pos) X.env) :: assignEach es X.env := rfl
        refine ⟨pgs_cons (pg_name nd n1 n2 n3) h1 (by rw [e1]; rfl), by rw [e1, List.length_cons, h2]; rfl, ?_⟩
        rw [e1, List.findIdx?_cons, h3]
        rfl
theorem mapM_len {α β : Type} {f : α → Option β} : ∀ {xs : List α} {ys : List β}, xs.mapM f = some ys → xs.length = ys.length
  | [], ys, h => by have h : [] = ys := by simpa using h
                    subst h; rfl
  | x :: xs, ys, h => by
    rw [List.mapM_cons] at h
    cases q : f x with
    | none => rw [q] at h; cases h
    | some y =>
      cases q2 : xs.mapM f with
      | none => rw [q, q2] at h; cases h
      | some zs =>
        rw [q, q2] at h
        have h : y :: zs = ys := by simpa using h
        subst h
        rw [List.length_cons, List.length_cons, mapM_len q2]
theorem mapM_mem {α β : Type} {f : α → Option β} : ∀ {xs : List α} {ys : List β}, xs.mapM f = some ys → ∀ p ∈ xs.zip ys, f p.1 = some p.2
  | [], ys, h, p, hp => by simp at hp
  | x :: xs, ys, h, p, hp => by
    rw [List.mapM_cons] at h
    cases q : f x with
    | none => rw [q] at h; cases h
    | some y =>
      cases q2 : xs.mapM f with
      | none => rw [q, q2] at h; cases h
      | some zs =>
        rw [q, q2] at h
        have h : y :: zs = ys := by simpa using h
        subst h
        rw [List.zip_cons_cons] at hp
        rcases List.mem_cons.mp hp with e | hp
        · subst e; exact q
        · exact mapM_mem q2 p hp
theorem slotOwn_ok {c : Cfg} {sc : Scope} {x : Str} {i : Nat} (h : slotOwn c sc x = some i) : c.N[i]? = some x ∧ Loc sc x := by
  unfold slotOwn at h
  split at h
  · rename_i hk
    exact ⟨idxOf_get h, .inl hk⟩
  · rename_i hk
    exact ⟨idxOf_get h, .inr hk⟩
  · cases h
theorem own_slots {c : Cfg} {scope : Scope} {tg : Expr} {t : Tg} {own : List (Str × Nat)} (h : tgOf c scope tg = some (t, own)) : own.map (·.2) = tgSlots t := by
  unfold tgOf at h
  split at h
  · rename_i x pos
    cases q : slotOwn c scope x with
    | none => rw [q] at h; cases h
    | some i => rw [q] at h; cases h; rfl
  · rename_i es k pos
    split at h
    · rename_i xs hx
      split at h
      · rename_i is hi
        cases h
        have hl := mapM_len hi
        show (xs.zip is).map Prod.snd = is
        rw [List.map_snd_zip]; omega
      · cases h
    · cases h
  · cases h
/-- a target, its names being those of the scope -/
theorem pg_tgt {c : Cfg} {sc : Scope} {tg : Expr} {t : Tg} {own : List (Str × Nat)} (hc : X.calm = true) (nd : X.N.Nodup) (h : tgOf c sc tg = some (t, own)) (hn : ∀ x i, slotOwn c sc x = some i → NmOk X x i) : PG X tg (gT X.K t) := by
  unfold tgOf at h
  split at h
  · rename_i x pos
    cases q : slotOwn c sc x with
    | none => rw [q] at h; cases h
    | some i =>
      rw [q] at h
      cases h
      obtain ⟨n1, n2, n3⟩ := hn x i q
      exact pg_name nd n1 n2 n3
  · rename_i es k pos
    split at h
    · rename_i xs hx
      split at h
      · rename_i is hi
        cases h
        obtain ⟨h1, h2, h3⟩ := pgs_names nd hx (mapM_len hi) fun p hp => hn p.1 p.2 (mapM_mem hi p hp)
        exact pg_tup hc h1 h2 h3
      · cases h
    · cases h
  · cases h
end

/-! ### the store grows, shrinks, changes -/
section
variable {K : PySem.W.Frag} {α : List Addr} {H : Hp} {st : Sto}
theorem StR.push (S : StR K α H st) {D : Addr} {ps : List P} {vs : List V} (hD : H D = none) (z : vs.length ≤ sizeLine) (i : ImAll K H ps vs) : StR K (α ++ [D]) (upd H D (.lst vs)) (st ++ [.lst ps]) := by
  have S' := S.new (o := .lst vs) hD
  refine ⟨by rw [List.length_append, List.length_append, S.len]; rfl, ?_, fun n o a h1 h2 => ?_⟩
  · rw [List.nodup_append]
    exact ⟨S.nd, by simp, fun a ha b hb => by
      have e : b = D := by simpa using hb
      subst e
      exact fun z => S.out hD (z ▸ ha)⟩
  · by_cases hn : n < st.length
    · rw [List.getElem?_append_left hn] at h1
      rw [List.getElem?_append_left (by rw [S.len]; exact hn)] at h2
      have q := S'.ob n o a h1 h2
      exact q
    · have e : n = st.length := by
        have := (List.getElem?_eq_some_iff.mp h1).1
        rw [List.length_append] at this
        have : n < st.length + 1 := this
        omega
      subst e
      rw [List.getElem?_append_right (Nat.le_refl _), Nat.sub_self] at h1
      rw [← S.len, List.getElem?_append_right (Nat.le_refl _), Nat.sub_self] at h2
      cases h1
      have e : D = a := Option.some.inj h2
      subst e
      exact ⟨vs, upd_same, z, ImAll.ext (Ext.new hD) _ _ i⟩
theorem StR.take {β : List Addr} (S : StR K (α ++ β) H st) : StR K α H (st.take α.length) := by
  have hl := S.len
  rw [List.length_append] at hl
  refine ⟨by rw [List.length_take]; omega, (List.nodup_append.mp S.nd).1, fun n o a h1 h2 => ?_⟩
  have hn := (List.getElem?_eq_some_iff.mp h2).1
  rw [List.getElem?_take_of_lt hn] at h1
  have q := S.ob n o a h1 (by rw [List.getElem?_append_left hn]; exact h2)
  exact q
/-- an object is a list anew -/
theorem StR.write (S : StR K α H st) {n : Nat} {D : Addr} {ps : List P} {us vs : List V} (hD : α[n]? = some D) (hu : H D = some (.lst us)) (z : vs.length ≤ sizeLine) (i : ImAll K H ps vs) : StR K α (upd H D (.lst vs)) (st.set n (.lst ps)) := by
  have x : Ext H (upd H D (.lst vs)) := Ext.lst hu
  refine ⟨by rw [List.length_set]; exact S.len, S.nd, fun m o a h1 h2 => ?_⟩
  by_cases e : n = m
  · subst e
    have hn : n < st.length := by rw [← S.len]; exact (List.getElem?_eq_some_iff.mp hD).1
    rw [List.getElem?_set_self hn] at h1
    rw [hD] at h2
    cases h1
    cases h2
    exact ⟨vs, upd_same, z, ImAll.ext x _ _ i⟩
  · rw [List.getElem?_set_ne e] at h1
    have ne : a ≠ D := fun z => by
      subst z
      obtain ⟨l1, g1⟩ := List.getElem?_eq_some_iff.mp hD
      obtain ⟨l2, g2⟩ := List.getElem?_eq_some_iff.mp h2
      exact e ((List.getElem_inj S.nd).mp (g1.trans g2.symm))
    have q := S.ob m o a h1 h2
    cases o with
    | lst ds =>
      obtain ⟨ws, q1, q2, q3⟩ := q
      exact ⟨ws, by rw [upd_ne ne]; exact q1, q2, ImAll.ext x _ _ q3⟩
    | dct _ => exact q
    | dead =>
      obtain ⟨o, q⟩ := q
      exact ⟨o, by rw [upd_ne ne]; exact q⟩
end

/-! ### comprehensions -/
def NoW : WX := fun _ _ _ _ => False
section
variable {c : Cfg} {sc : Scope} {F : Fx} {W : WX} {Φ : Nat → List D → Sto → R Rv} {k : Nat} {X : Cx}
abbrev tAll (F : Fx) (W : WX) (Φ : Nat → List D → Sto → R Rv) (is : List Kp.X) : TT := tM F W (fun _ _ (b : Bool) k => b = k) (fun env st => evAnd Φ env is st)
/-- a turn of a comprehension -/
def turnL (Φ : Nat → List D → Sto → R Rv) (env : Ev) (t : Tg) (ifs : List Kp.X) (elt : Kp.X) (y : P) (st : Sto) : R (Option P) :=
  match bindT t (wipeE env (tgSlots t)) y with
  | some env1 => (evAnd Φ env1 ifs st).bind fun c st3 => if c then (evE Φ env1 elt st3).bind fun r st4 => needI r fun p => .ok (some p) st4 else .ok none st3
  | none => .bad
theorem evE_comp {env : Ev} {elt : Kp.X} {t : Tg} {ik : Ik} {is ifs : List Kp.X} {st : Sto} : evE Φ env (.comp elt t ik is ifs) st =
    (evI Φ env ik is st).bind fun ys st1 => (compL st1.length (turnL Φ env t ifs elt) ys (st1 ++ [.lst []])).bind fun _ st2 => compEnd st1.length st2 := by
  simp only [evE, evI, R.bind_assoc]
  cases evDs Φ env is st with
  | ok ds st1 =>
    simp only [ok_bind]
    cases itemsD ik ds <;> rfl
  | exc cc fs st1 => rfl
  | bad => rfl
theorem noexc_ok {β γ δ : Type} {RR : List Addr → Hp → δ → γ → Prop} {m : R β} {g : β → Sto → R δ} {σ : L2.St} {α : List Addr} {H : Hp} {Q : γ → Hp → Prop} (h : Out F W RR σ α H (m.noexc.bind g) Q) : ∃ a st, m = .ok a st ∧ Out F W RR σ α H (g a st) Q := by
  cases m with
  | ok a st => exact ⟨a, st, rfl, h⟩
  | exc cc fs st => exact (show False from h).elim
  | bad => exact (show False from h).elim
theorem lc_imp (C : Cxt c sc F W Φ k X) {t : Tg} {ik : Ik} {is ifs : List Kp.X} {elt : Kp.X} : ∀ σ H Q, tE F W Φ (.comp elt t ik is ifs) σ H Q →
    tLc (tI F W Φ ik is) (gT X.K t) (tAll F NoW Φ ifs) (tM F NoW (RvF F.K) (fun env st => evE Φ env elt st)) (tgSlots t) σ H Q := fun σ H Q q => by
  obtain ⟨env, st, α, hE, hS, ho⟩ := q
  simp only [evE_comp] at ho
  refine (tM.bind (m := fun env st => evI Φ env ik is st) hE hS ho).imp fun J H1 ⟨ys, st1, α1, a1, hJ, ho⟩ => ?_
  intro D hD
  have hz : ([] : List V).length ≤ sizeLine := Nat.zero_le _
  have S2 := a1.S.push (ps := []) (vs := []) hD hz ImAll.nil
  have x2 : Ext H1 (upd H1 D (.lst [])) := Ext.new hD
  have hn : α1.length = st1.length := a1.S.len
  refine ⟨fun i m H => m = ys.length - i ∧ i ≤ ys.length ∧ ∃ st α, Pre (α1 ++ [D]) α ∧ Ext (upd H1 D (.lst [])) H ∧ StR F.K α H st ∧ Out F W (RvR F.K) σ α1 H1 ((compL st1.length (turnL Φ env t ifs elt) (ys.drop i) st).bind fun _ st2 => compEnd st1.length st2) Q,
    ⟨ys.length, by simp, Nat.zero_le _, st1 ++ [.lst []], α1 ++ [D], Pre.refl, Ext.refl, S2, by rw [List.drop_zero]; exact ho⟩, ?_⟩
  rintro i m H2 ⟨rfl, hi, st2, α2, p2, e2, S2, ho⟩
  have x12 : Ext H1 H2 := x2.trans e2
  by_cases hlt : i < ys.length
  · refine .inr ⟨hJ.go i H2 x12 hlt, _, fun H' w => ⟨ys.length - (i + 1), by omega, rfl, hlt, w⟩, fun x H3 hy => ?_⟩
    obtain ⟨e3, sk, p, hp, ip⟩ := hJ.yld i H2 x H3 x12 hlt hy
    have S3 := sk _ _ S2
    have x13 := x12.trans e3
    have hd : ys.drop i = ys[i] :: ys.drop (i + 1) := by rw [List.drop_eq_getElem_cons hlt]
    have hpe : ys[i] = p := by
      have := List.getElem?_eq_getElem hlt
      rw [this] at hp
      exact Option.some.inj hp
    rw [hd, hpe, compL, R.bind_assoc] at ho
    obtain ⟨o, st4, em, ho⟩ := noexc_ok ho
    unfold turnL at em
    cases eb : bindT t (wipeE env (tgSlots t)) p with
    | none => rw [eb] at em; cases em
    | some env1 =>
      rw [eb] at em
      have pre12 : Pre α1 (α1 ++ [D]) := ⟨[D], rfl⟩
      have pre13 : Pre α1 α2 := pre12.trans p2
      have E3 : EvR F.K α2 H3 (wipeE env (tgSlots t)) (wipe σ (tgSlots t)) := EvR.wipe (EvR.mono pre13 x13 a1.E) _
      rw [← C.hF]
      refine g_bind E3 ip eb fun σ1 E4 hw => ⟨by rw [hw _ (fun _ h => h), wipe_wipe], ?_⟩
      cases ea : evAnd Φ env1 ifs st2 with
      | bad => simp only [ea, bad_bind] at em; cases em
      | exc cc fs st5 => simp only [ea, exc_bind] at em; cases em
      | ok cb st5 =>
        simp only [ea, ok_bind] at em
        refine ⟨env1, st2, α2, E4, S3, ?_⟩
        simp only [ea]
        intro b H5 α5 p5 e5 S5 hb
        subst hb
        cases cb with
        | false =>
          rw [if_neg Bool.false_ne_true] at em ⊢
          cases em
          refine ⟨st4, α5, p2.trans p5, e2.trans (e3.trans e5), S5, ?_⟩
          simp only [] at ho
          exact ho
        | true =>
          rw [if_pos rfl] at em ⊢
          cases ee : evE Φ env1 elt st5 with
          | bad => simp only [ee, bad_bind] at em; cases em
          | exc cc fs st6 => simp only [ee, exc_bind] at em; cases em
          | ok r st6 =>
            simp only [ee, ok_bind] at em
            refine ⟨env1, st5, α5, E4.mono p5 e5, S5, ?_⟩
            simp only [ee]
            intro y H6 α6 p6 e6 S6 hr
            unfold needI at em
            have hr : DR F.K α6 H6 r.frz y := hr
            cases ef : r.frz with
            | ref nn => rw [ef] at em; cases em
            | py pv =>
              rw [ef] at em hr
              cases em
              have hD6 : α6[st1.length]? = some D := by
                refine Pre.get (p2.trans (p5.trans p6)) ?_
                rw [List.getElem?_append_right (by rw [hn]; exact Nat.le_refl _), hn, Nat.sub_self]; rfl
              simp only [] at ho
              cases eo : st4[st1.length]? with
              | none => rw [eo] at ho; exact (show False from ho).elim
              | some ob =>
                rw [eo] at ho
                cases ob with
                | dead => exact (show False from ho).elim
                | dct _ => exact (show False from ho).elim
                | lst acc =>
                  obtain ⟨vs, q1, q2, q3⟩ := S6.ob _ _ _ eo hD6
                  have ho : Out F W (RvR F.K) σ α1 H1 ((chk (decide (acc.length < SZ)) (compL st1.length (turnL Φ env t ifs elt) (ys.drop (i + 1)) (st4.set st1.length (.lst (acc ++ [pv]))))).bind fun _ st2 => compEnd st1.length st2) Q := ho
                  cases ec : decide (acc.length < SZ) with
                  | false => rw [ec] at ho; exact (show False from ho).elim
                  | true =>
                    rw [ec] at ho
                    have ec := of_decide_eq_true ec
                    have hv : vs.length < sizeLine := by rw [← q3.length]; exact ec
                    refine ⟨vs, q1, hv, st4.set st1.length (.lst (acc ++ [pv])), α6, p2.trans (p5.trans p6), e2.trans (e3.trans (e5.trans (e6.trans (Ext.lst q1)))), ?_, ho⟩
                    exact S6.write hD6 q1 (by rw [List.length_append]; exact hv) (q3.append (ImAll.cons hr ImAll.nil))
  · have e : i = ys.length := by omega
    subst e
    refine .inl ⟨hJ.stop _ H2 x12 (Nat.le_refl _), ?_⟩
    rw [List.drop_length, compL] at ho
    cases ec : decide (st2.length = st1.length + 1) with
    | false => rw [ec] at ho; exact (show False from ho).elim
    | true =>
      rw [ec] at ho
      have ec := of_decide_eq_true ec
      obtain ⟨γ, eγ⟩ := p2
      have hγ : γ = [] := by
        have l1 := S2.len
        rw [eγ, List.length_append, List.length_append, hn, ec] at l1
        have l1 : st1.length + 1 + γ.length = st1.length + 1 := l1
        exact List.length_eq_zero_iff.mp (by omega)
      subst hγ
      rw [List.append_nil] at eγ
      subst eγ
      have ho : Out F W (RvR F.K) σ α1 H1 (compEnd st1.length st2) Q := ho
      unfold compEnd at ho
      have hDn : (α1 ++ [D])[st1.length]? = some D := by
        rw [List.getElem?_append_right (by rw [hn]; exact Nat.le_refl _), hn, Nat.sub_self]; rfl
      cases eo : st2[st1.length]? with
      | none => rw [eo] at ho; exact (show False from ho).elim
      | some ob =>
        rw [eo] at ho
        cases ob with
        | dead => exact (show False from ho).elim
        | dct _ => exact (show False from ho).elim
        | lst zs =>
          obtain ⟨vs, q1, q2, q3⟩ := S2.ob _ _ _ eo hDn
          refine ho (.ref D) H2 α1 Pre.refl x12 ?_ ⟨D, vs, rfl, q1, q2, q3, ?_⟩
          · rw [← hn]
            exact S2.take
          · exact fun hm => (List.nodup_append.mp S2.nd).2.2 D hm D (by simp) rfl
end
end Kp

/-! Kp, part 9: every expression. -/
namespace Kp
open PySem PySem.Spec PyProof.Rows L2
section
variable {c : Cfg} {sc : Scope} {F : Fx} {W : WX} {Φ : Nat → List D → Sto → R Rv} {k : Nat} {X : Cx}
theorem Cxt.blk (C : Cxt c sc F W Φ k X) (s : Shared) (H : Hp) (scope : Scope) (C0 : Addr) (cl : List (Str × Addr)) (fp : List Addr) :
    Cxt c (relS scope sc) F NoW Φ k (X.blk s H scope (compEnvC scope cl C0 X.env) fp) :=
  ⟨C.hF, C.hN, C.nd, by show relS scope X.env.scope = _; rw [C.sc], C.calm, C.cr, C.room, fun u s' x => by
    obtain ⟨_, _, _, _, _, _, _, _, _, _, _, _, _, _, _, _, w⟩ := x
    exact w, C.g⟩
theorem blk_tgt (C : Cxt c sc F W Φ k X) {scope : Scope} {tg : Expr} {t : Tg} {own : List (Str × Nat)} (h : tgOf c scope tg = some (t, own)) (s : Shared) (H : Hp) (C0 : Addr) (cl : List (Str × Addr)) (fp : List Addr) :
    PG (X.blk s H scope (compEnvC scope cl C0 X.env) fp) tg (gT X.K t) := by
  refine pg_tgt (c := c) (sc := scope) (X := X.blk s H scope (compEnvC scope cl C0 X.env) fp) C.calm (by show X.N.Nodup; rw [C.hN]; exact C.nd) h fun x i hx => ?_
  have hx' := hx
  unfold slotOwn at hx
  split at hx
  · rename_i hk
    refine ⟨by show X.N[i]? = _; rw [C.hN]; exact idxOf_get hx, .inl (lookup_relS_keep (by decide) hk), .inr (lookup_relS_keep (by decide) hk)⟩
  · rename_i hk
    refine ⟨by show X.N[i]? = _; rw [C.hN]; exact idxOf_get hx, .inr (lookup_relS_keep (by decide) hk), .inl ?_⟩
    show (scope.names.lookup x == some .cell) = true
    rw [hk]; rfl
  · cases hx
theorem fold_id {e : Expr} (h : isSet e = false) : ∀ env x, foldedSetIterable e env x = pure x := by
  intro env x
  cases e <;> first | rfl | cases h
/-- what a comprehension's parts are to be -/
structure LcOk (C : Cxt c sc F W Φ k X) (tg iter elt : Expr) (ifs : List Expr) (scope : Scope) (t : Tg) (own : List (Str × Nat)) (ik : Ik) (is fs : List Kp.X) (x : Kp.X) : Prop where
  tgt : tgOf c scope tg = some (t, own)
  blk : blkC c.N sc scope own = true
  it : PI X tg iter (tI F W Φ ik is)
  set : isSet iter = false
  ifs : ∀ X', Cxt c (relS scope sc) F NoW Φ k X' → PTs X' ifs (tAll F NoW Φ fs)
  elt : ∀ X', Cxt c (relS scope sc) F NoW Φ k X' → PE X' elt (tE F NoW Φ x)
theorem s_lc (C : Cxt c sc F W Φ k X) {tg iter elt : Expr} {ifs : List Expr} {scope : Scope} {t : Tg} {own : List (Str × Nat)} {ik : Ik} {is fs : List Kp.X} {x : Kp.X} {pos : Pos} (L : LcOk C tg iter elt ifs scope t own ik is fs x) :
    PE X (.ListComp elt [⟨tg, iter, ifs, 0⟩] scope pos) (tE F W Φ (.comp x t ik is fs)) := by
  have h := pe_lc (X := X) (pos := pos) (elt := elt) C.calm (by rw [C.hN]; exact C.nd) L.it (own := own) (scope := scope) (blkOk_by (by rw [C.hN, C.sc]; exact L.blk)) (fun s H C0 cl fp => blk_tgt C L.tgt s H C0 cl fp)
    (fun s H C0 cl fp => L.ifs _ (C.blk s H scope C0 cl fp)) (fun s H C0 cl fp => pe_frz (C.blk s H scope C0 cl fp).hF (L.elt _ (C.blk s H scope C0 cl fp))) (fold_id L.set X.env)
  rw [own_slots L.tgt] at h
  exact h.imp (lc_imp C)
theorem s_asgLc (C : Cxt c sc F W Φ k X) {tg iter elt : Expr} {ifs : List Expr} {scope : Scope} {t : Tg} {own : List (Str × Nat)} {ik : Ik} {is fs : List Kp.X} {x : Kp.X} {i : Nat} {y : Str} {py pos spos : Pos} (L : LcOk C tg iter elt ifs scope t own ik is fs x)
    (hy : X.N[i]? = some y) (hyl : X.env.scope.names.lookup y = some .local) (hsw : swapsWith (.ListComp elt [⟨tg, iter, ifs, 0⟩] scope pos) (some (.Name y py)) spos.line X.env = pure true) :
    PS X (.Assign [.Name y py] (.ListComp elt [⟨tg, iter, ifs, 0⟩] scope pos) spos) (tAsg (tE F W Φ (.comp x t ik is fs)) (gName i)) := by
  have h := ps_setLc (X := X) (pos := pos) (spos := spos) (elt := elt) C.calm (by rw [C.hN]; exact C.nd) hy hyl hsw L.it (own := own) (scope := scope) (blkOk_by (by rw [C.hN, C.sc]; exact L.blk)) (fun s H C0 cl fp => blk_tgt C L.tgt s H C0 cl fp)
    (fun s H C0 cl fp => L.ifs _ (C.blk s H scope C0 cl fp)) (fun s H C0 cl fp => pe_frz (C.blk s H scope C0 cl fp).hF (L.elt _ (C.blk s H scope C0 cl fp))) (fold_id L.set X.env)
  rw [own_slots L.tgt] at h
  exact h.imp fun D σ H q => lc_imp C σ H _ q
theorem pts_of {ifs : List Expr} {fs : List Kp.X} (h : ifs.length ≤ 1) (hl : ifs.length = fs.length) (hp : ∀ e i, ifs = [e] → fs = [i] → PT X e (tT F NoW Φ i)) : PTs X ifs (tAll F NoW Φ fs) := by
  rcases ifs with _ | ⟨e, _ | ⟨e2, es⟩⟩
  · cases fs with
    | nil =>
      refine ⟨fun pins s σ H Q I q => pts_nil.run pins s σ H Q I ?_⟩
      obtain ⟨env, st, α, hE, hS, ho⟩ := q
      simp only [evAnd] at ho
      exact bool_one hS ho
    | cons _ _ => cases hl
  · rcases fs with _ | ⟨i, _ | ⟨i2, is⟩⟩
    · cases hl
    · refine ⟨fun pins s σ H Q I q => (pts_one (hp e i rfl rfl)).run pins s σ H Q I ?_⟩
      obtain ⟨env, st, α, hE, hS, ho⟩ := q
      refine ⟨env, st, α, hE, hS, ?_⟩
      have e : evAnd Φ env [i] st = evB Φ env i st := by
        simp only [evAnd, evB]
        congr
        funext r st1
        unfold needB
        split
        · rename_i b
          cases b <;> rfl
        · rfl
      simp only [e] at ho
      exact ho
    · cases hl
  · exact absurd h (by simp)
end

theorem noStar_of {c : Cfg} {sc : Scope} {e : Expr} {i : Kp.X} (h : compE c sc e = some i) : noStar e = true := by
  cases e <;> first | rfl | (simp only [compE] at h; cases h)
theorem noStars_of {c : Cfg} {sc : Scope} : ∀ {es : List Expr} {is : List Kp.X}, compEs c sc es = some is → es.all noStar = true ∧ es.length = is.length
  | [], is, h => by
    simp only [compEs] at h
    cases h
    exact ⟨rfl, rfl⟩
  | e :: es, is, h => by
    simp only [compEs] at h
    split at h
    · rename_i x xs h1 h2
      cases h
      obtain ⟨q1, q2⟩ := noStars_of h2
      exact ⟨by rw [List.all_cons, noStar_of h1, q1]; rfl, by rw [List.length_cons, List.length_cons, q2]⟩
    · cases h
theorem noSet_of {c : Cfg} {sc : Scope} {e : Expr} {i : Kp.X} (h : compE c sc e = some i) : isSet e = false := by
  cases e <;> first | rfl | (simp only [compE] at h; cases h)
theorem nomarks {o : CmpOp} {r : Expr} (h : isSet r = false) : behindInMarks o r = false := by
  cases r <;> first | rfl | cases h
theorem plainIx_of {c : Cfg} {sc : Scope} {e : Expr} {i : Kp.X} (h : compE c sc e = some i) : PlainIx e := by
  intro o j
  cases e <;> first | rfl | (simp only [compE] at h; cases h)
section
variable {c : Cfg} {sc : Scope} {F : Fx} {W : WX} {Φ : Nat → List D → Sto → R Rv} {k : Nat} {X : Cx}
/-- a if t else b, as a test -/
theorem t_ife {t a b : Expr} {i j j' : Kp.X} {pos : Pos} (ht : PT X t (tT F W Φ i)) (ha : PT X a (tT F W Φ j)) (hb : PT X b (tT F W Φ j')) : PT X (.IfExp t a b pos) (tT F W Φ (.ife i j j')) := by
  refine ⟨fun pins s σ H Q I q => ?_⟩
  rw [arm_isTrue_IfExp]
  obtain ⟨env, st, α, hE, hS, ho⟩ := q
  have e : evB Φ env (.ife i j j') st = (evB Φ env i st).bind fun kb st1 => if kb then evB Φ env j st1 else evB Φ env j' st1 := by
    simp only [evB, evE, R.bind_assoc]
    cases evE Φ env i st with
    | ok r st1 =>
      simp only [ok_bind]
      unfold needB
      split
      · rename_i kb
        simp only [ok_bind]
        cases kb <;> rfl
      · rfl
    | exc c fs st1 => rfl
    | bad => rfl
  have ho : Out F W (fun _ _ (b : Bool) k => b = k) σ α H (evB Φ env (.ife i j j') st) Q := ho
  rw [e] at ho
  refine wpAny_bind (thn (ht.run pins s σ H _ I (tM.bind (m := fun env st => evB Φ env i st) hE hS ho)) fun kb s1 hh => ?_)
  obtain ⟨H1, I1, r, st1, α1, a1, r1, ho⟩ := hh
  subst r1
  cases r with
  | true => exact ha.run pins s1 σ H1 Q I1 ⟨env, st1, α1, a1.E, a1.S, ho⟩
  | false => exact hb.run pins s1 σ H1 Q I1 ⟨env, st1, α1, a1.E, a1.S, ho⟩
theorem o_none : PO X none (tPO F W fun env st => evE Φ env (.const .none) st) := by
  refine ⟨fun pins s σ H Q I q => po_none.run pins s σ H Q I ?_⟩
  obtain ⟨env, st, α, hE, hS, ho⟩ := q
  simp only [evE] at ho
  have z := ho .non H α Pre.refl Ext.refl hS (show Im F.K H .none .non from rfl)
  rcases z with ⟨_, q⟩ | ⟨i, e, _⟩
  · exact q
  · cases e
end
end Kp

/-! Kp, part 10: the recursion over expressions. -/
namespace Kp
open PySem PySem.Spec PyProof.Rows L2
theorem opt_map {α β : Type} {f : α → β} {o : Option α} {b : β} (h : o.map f = some b) : ∃ a, o = some a ∧ f a = b := by
  cases o with
  | none => cases h
  | some a => exact ⟨a, rfl, Option.some.inj h⟩

/-- what is gone through -/
theorem i_any {tg e : Expr} {c : Cfg} {sc : Scope} {F : Fx} {W : WX} {Φ : Nat → List D → Sto → R Rv} {k : Nat} {X : Cx} (C : Cxt c sc F W Φ k X) {ik : Ik} {is : List Kp.X} (h : itOf c sc e (compE c sc e) (compA c sc e) = some (ik, is))
    (hw : ∀ i, compE c sc e = some i → PE X e (tE F W Φ i)) (hA : ∀ f args ks pos is, e = .Call f args ks pos → compEs c sc args = some is → PA X args (tD F W Φ is)) : PI X tg e (tI F W Φ ik is) ∧ isSet e = false := by
  have whole : (compE c sc e).map (fun i => (Ik.seq, [i])) = some (ik, is) → PI X tg e (tI F W Φ ik is) ∧ isSet e = false := fun h => by
    obtain ⟨i, h1, h2⟩ := opt_map h
    cases h2
    exact ⟨i_seq C (hw i h1), noSet_of h1⟩
  unfold itOf at h
  split at h
  · rename_i f p args pos
    split at h
    · rename_i hg
      split at h
      · rename_i a ha
        cases h
        simp only [compA] at ha
        have n := noStars_of ha
        match args, ha, n, hA with
        | [e1], ha, n, hA => exact ⟨i_rng1 C hg (hA _ _ _ _ _ rfl ha) (by have := n.1; simpa using this), rfl⟩
        | [], ha, n, hA => exact absurd n.2 (by simp)
        | e1 :: e2 :: es, ha, n, hA => exact absurd n.2 (by simp)
      · rename_i a b ha
        cases h
        simp only [compA] at ha
        have n := noStars_of ha
        match args, ha, n, hA with
        | [e1, e2], ha, n, hA =>
          have n := n.1
          rw [List.all_cons, List.all_cons, Bool.and_eq_true, Bool.and_eq_true] at n
          exact ⟨i_rng2 C hg (hA _ _ _ _ _ rfl ha) n.1 n.2.1, rfl⟩
        | [], ha, n, hA => exact absurd n.2 (by simp)
        | [e1], ha, n, hA => exact absurd n.2 (by simp)
        | e1 :: e2 :: e3 :: es, ha, n, hA => exact absurd n.2 (by simp)
      · cases h
    · exact whole h
  · cases h
  · exact whole h

def isSlice : Expr → Bool
  | .Slice .. => true
  | _ => false
theorem comp_sub {c : Cfg} {sc : Scope} {v i0 : Expr} {pos : Pos} {i : Kp.X} (hs : isSlice i0 = false) (h : compE c sc (.Subscript v i0 pos) = some i) : ∃ x y, compE c sc v = some x ∧ compE c sc i0 = some y ∧ i = .idx x y := by
  rw [compE] at h
  · split at h
    · rename_i x y h1 h2
      cases h
      exact ⟨x, y, h1, h2, rfl⟩
    · cases h
  all_goals (intros; subst_vars; cases hs)
mutual
theorem sndE (e : Expr) (c : Cfg) (sc : Scope) (F : Fx) (W : WX) (Φ : Nat → List D → Sto → R Rv) (k : Nat) (X : Cx) (C : Cxt c sc F W Φ k X) (i : Kp.X) (h : compE c sc e = some i) : PE X e (tE F W Φ i) ∧ PT X e (tT F W Φ i) := by
  match e, h with
  | .Constant kc j pos, h =>
    simp only [compE] at h
    obtain ⟨p, e1, e2⟩ := opt_map h
    subst e2
    have q := s_con (j := j) (pos := pos) C e1
    exact ⟨q, t_val q fun _ => rfl⟩
  | .Name x pos, h =>
    simp only [compE] at h
    split at h
    · rename_i j hj
      cases h
      have q := s_var (pos := pos) C hj
      exact ⟨q, t_val q fun _ => rfl⟩
    · split at h
      · rename_i p hp
        cases h
        have q := s_glob (pos := pos) C hp
        exact ⟨q, t_val q fun _ => rfl⟩
      · cases h
  | .Tuple es x1 pos, h =>
    simp only [compE] at h
    obtain ⟨is, e1, e2⟩ := opt_map h
    subst e2
    have q := s_tup (x1 := x1) (pos := pos) C (sndEs es c sc F W Φ k X C is e1)
    exact ⟨q, t_val q fun _ => rfl⟩
  | .List es pos, h =>
    simp only [compE] at h
    obtain ⟨is, e1, e2⟩ := opt_map h
    subst e2
    have q := s_lst (pos := pos) C (sndEs es c sc F W Φ k X C is e1)
    exact ⟨q, t_val q fun _ => rfl⟩
  | .BinOp l o r pos, h =>
    simp only [compE] at h
    split at h
    · rename_i b x y h1 h2 h3
      cases h
      have q := s_bin (pos := pos) C h1 (sndE l c sc F W Φ k X C x h2).1 (sndE r c sc F W Φ k X C y h3).1
      exact ⟨q, t_val q fun _ => rfl⟩
    · cases h
  | .UnaryOp .Not x pos, h =>
    simp only [compE] at h
    obtain ⟨j, e1, e2⟩ := opt_map h
    subst e2
    have q := sndE x c sc F W Φ k X C j e1
    exact s_not q.1 q.2
  | .UnaryOp .USub x pos, h =>
    simp only [compE] at h
    obtain ⟨j, e1, e2⟩ := opt_map h
    subst e2
    have q := s_neg (pos := pos) (sndE x c sc F W Φ k X C j e1).1
    exact ⟨q, t_val q fun _ => rfl⟩
  | .BoolOp .And es pos, h =>
    simp only [compE] at h
    have q := sndAnd es c sc F W Φ k X C i h pos
    exact ⟨q.1, q.2.pt⟩
  | .BoolOp .Or es pos, h =>
    simp only [compE] at h
    have q := sndOr es c sc F W Φ k X C i h pos
    exact ⟨q.1, q.2.pt⟩
  | .Compare l [o] [r] pos, h =>
    simp only [compE] at h
    split at h
    · cases h
    · rename_i hs
      split at h
      · rename_i b x y h1 h2 h3
        cases h
        exact s_cmp C h1 (nomarks (by simpa using hs)) (sndE l c sc F W Φ k X C x h2).1 (sndE r c sc F W Φ k X C y h3).1
      · cases h
  | .Compare l [o, o'] [r, r'] pos, h =>
    simp only [compE] at h
    split at h
    · cases h
    · rename_i hs
      split at h
      · rename_i b b' x y z h1 h2 h3 h4 h5
        cases h
        exact s_chain C h1 h2 (nomarks (by simpa using hs)) (sndE l c sc F W Φ k X C x h3).1 (sndE r c sc F W Φ k X C y h4).1 (sndE r' c sc F W Φ k X C z h5).1
      · cases h
  | .IfExp t a b pos, h =>
    simp only [compE] at h
    split at h
    · rename_i x y z h1 h2 h3
      cases h
      have ht := sndE t c sc F W Φ k X C x h1
      have ha := sndE a c sc F W Φ k X C y h2
      have hb := sndE b c sc F W Φ k X C z h3
      exact ⟨s_ife ht.2 ha.1 hb.1, t_ife ht.2 ha.2 hb.2⟩
    · cases h
  | .Subscript v i0 pos, h =>
    have q := sndSub i0 c sc F W Φ k X C i v pos (fun x hx => (sndE v c sc F W Φ k X C x hx).1) (fun x hx => (sndE i0 c sc F W Φ k X C x hx).1) h
    exact ⟨q, t_val q fun _ => rfl⟩
  | .Call (.Name f p) (a :: args) [] pos, h =>
    have key : PE X (.Call (.Name f p) (a :: args) [] pos) (tE F W Φ i) := by
      simp only [compE] at h
      split at h
      · rename_i as' j hg
        split at h
        · rename_i xs hx
          cases h
          exact s_call C hg (sndEs _ c sc F W Φ k X C xs hx) (noStars_of hx).1
        · cases h
      · rename_i as' b hg
        split at h
        · rename_i xs hx
          cases h
          exact s_blt C hg (sndEs _ c sc F W Φ k X C xs hx) (noStars_of hx).1
        · cases h
      · rename_i as' t hg
        split at h
        · rename_i b xs ht hx
          cases h
          exact s_ty C hg ht (sndEs _ c sc F W Φ k X C xs hx) (noStars_of hx).1
        · cases h
      · rename_i t p2 hg
        split at h
        · rename_i ty x ht hx
          cases h
          exact s_isi C hg ht (sndE a c sc F W Φ k X C x hx).1 (noStar_of hx)
        · cases h
      · cases h
    exact ⟨key, t_val key fun _ => rfl⟩
  | .ListComp elt [⟨tg, iter, ifs, nn⟩] scope pos, h =>
    have hnn : nn = 0 := by
      by_cases z : nn = 0
      · exact z
      · rw [compE] at h
        · cases h
        all_goals (intros; simp_all)
    subst hnn
    simp only [compE] at h
    split at h
    · rename_i t own ht
      split at h
      · rename_i hb
        rw [Bool.and_eq_true] at hb
        split at h
        · rename_i ik is fs x hi hf hx
          cases h
          have q := s_lc (pos := pos) C ⟨ht, hb.1, (i_any C hi (fun i hi => (sndE iter c sc F W Φ k X C i hi).1) (sndA iter c sc F W Φ k X C)).1, (i_any (tg := tg) C hi (fun i hi => (sndE iter c sc F W Φ k X C i hi).1) (sndA iter c sc F W Φ k X C)).2, fun X' C' => pts_of (of_decide_eq_true hb.2) (noStars_of hf).2 (sndF ifs c (relS scope sc) F NoW Φ k X' C' fs hf), fun X' C' => (sndE elt c (relS scope sc) F NoW Φ k X' C' x hx).1⟩
          exact ⟨q, t_val q fun _ => rfl⟩
        · cases h
      · cases h
    · cases h
  | .UnaryOp .Invert x pos, h => simp only [compE] at h; cases h
  | .UnaryOp .UAdd x pos, h => simp only [compE] at h; cases h
  | .NamedExpr .., h => simp only [compE] at h; cases h
  | .Lambda .., h => simp only [compE] at h; cases h
  | .Dict .., h => simp only [compE] at h; cases h
  | .Set .., h => simp only [compE] at h; cases h
  | .SetComp .., h => simp only [compE] at h; cases h
  | .DictComp .., h => simp only [compE] at h; cases h
  | .GeneratorExp .., h => simp only [compE] at h; cases h
  | .Await .., h => simp only [compE] at h; cases h
  | .Yield .., h => simp only [compE] at h; cases h
  | .YieldFrom .., h => simp only [compE] at h; cases h
  | .FormattedValue .., h => simp only [compE] at h; cases h
  | .JoinedStr .., h => simp only [compE] at h; cases h
  | .Attribute .., h => simp only [compE] at h; cases h
  | .Starred .., h => simp only [compE] at h; cases h
  | .Slice .., h => simp only [compE] at h; cases h
  | .Compare l [] rs pos, h => simp only [compE] at h; cases h
  | .Compare l [o] [] pos, h => simp only [compE] at h; cases h
  | .Compare l [o] (r :: r2 :: rs) pos, h => simp only [compE] at h; cases h
  | .Compare l [o, o'] [] pos, h => simp only [compE] at h; cases h
  | .Compare l [o, o'] [r] pos, h => simp only [compE] at h; cases h
  | .Compare l [o, o'] (r :: r2 :: r3 :: rs) pos, h => simp only [compE] at h; cases h
  | .Compare l (o :: o' :: o'' :: os) rs pos, h => simp only [compE] at h; cases h
  | .Call f [] ks pos, h => simp only [compE] at h; cases h
  | .Call f (a :: args) (k0 :: ks) pos, h => simp only [compE] at h; cases h
  | .Call (.BoolOp ..) (a :: args) [] pos, h => simp only [compE] at h; cases h
  | .Call (.NamedExpr ..) (a :: args) [] pos, h => simp only [compE] at h; cases h
  | .Call (.BinOp ..) (a :: args) [] pos, h => simp only [compE] at h; cases h
  | .Call (.UnaryOp ..) (a :: args) [] pos, h => simp only [compE] at h; cases h
  | .Call (.Lambda ..) (a :: args) [] pos, h => simp only [compE] at h; cases h
  | .Call (.IfExp ..) (a :: args) [] pos, h => simp only [compE] at h; cases h
  | .Call (.Dict ..) (a :: args) [] pos, h => simp only [compE] at h; cases h
  | .Call (.Set ..) (a :: args) [] pos, h => simp only [compE] at h; cases h
  | .Call (.ListComp ..) (a :: args) [] pos, h => simp only [compE] at h; cases h
  | .Call (.SetComp ..) (a :: args) [] pos, h => simp only [compE] at h; cases h
  | .Call (.DictComp ..) (a :: args) [] pos, h => simp only [compE] at h; cases h
  | .Call (.GeneratorExp ..) (a :: args) [] pos, h => simp only [compE] at h; cases h
  | .Call (.Await ..) (a :: args) [] pos, h => simp only [compE] at h; cases h
  | .Call (.Yield ..) (a :: args) [] pos, h => simp only [compE] at h; cases h
  | .Call (.YieldFrom ..) (a :: args) [] pos, h => simp only [compE] at h; cases h
  | .Call (.Compare ..) (a :: args) [] pos, h => simp only [compE] at h; cases h
  | .Call (.Call ..) (a :: args) [] pos, h => simp only [compE] at h; cases h
  | .Call (.FormattedValue ..) (a :: args) [] pos, h => simp only [compE] at h; cases h
  | .Call (.JoinedStr ..) (a :: args) [] pos, h => simp only [compE] at h; cases h
  | .Call (.Constant ..) (a :: args) [] pos, h => simp only [compE] at h; cases h
  | .Call (.Attribute ..) (a :: args) [] pos, h => simp only [compE] at h; cases h
  | .Call (.Subscript ..) (a :: args) [] pos, h => simp only [compE] at h; cases h
  | .Call (.Starred ..) (a :: args) [] pos, h => simp only [compE] at h; cases h
  | .Call (.List ..) (a :: args) [] pos, h => simp only [compE] at h; cases h
  | .Call (.Tuple ..) (a :: args) [] pos, h => simp only [compE] at h; cases h
  | .Call (.Slice ..) (a :: args) [] pos, h => simp only [compE] at h; cases h
  | .ListComp elt [] scope pos, h => simp only [compE] at h; cases h
  | .ListComp elt (g :: g2 :: gs) scope pos, h => simp only [compE] at h; cases h
termination_by structural e
theorem sndEs (es : List Expr) (c : Cfg) (sc : Scope) (F : Fx) (W : WX) (Φ : Nat → List D → Sto → R Rv) (k : Nat) (X : Cx) (C : Cxt c sc F W Φ k X) (is : List Kp.X) (h : compEs c sc es = some is) : PA X es (tD F W Φ is) := by
  match es, h with
  | [], h =>
    simp only [compEs] at h
    cases h
    exact s_nil
  | e :: es, h =>
    simp only [compEs] at h
    split at h
    · rename_i x xs h1 h2
      cases h
      exact s_cons C (sndE e c sc F W Φ k X C x h1).1 (sndEs es c sc F W Φ k X C xs h2) (star_cons (noStar_of h1))
    · cases h
termination_by structural es
theorem sndAnd (es : List Expr) (c : Cfg) (sc : Scope) (F : Fx) (W : WX) (Φ : Nat → List D → Sto → R Rv) (k : Nat) (X : Cx) (C : Cxt c sc F W Φ k X) (i : Kp.X) (h : compAnd c sc es = some i) (pos : Pos) : PE X (.BoolOp .And es pos) (tE F W Φ i) ∧ PW X (.BoolOp .And es pos) (tT F W Φ i) := by
  match es, h with
  | [], h => simp only [compAnd] at h; cases h
  | [e], h =>
    simp only [compAnd] at h
    split at h
    · rename_i x y h1 h2
      cases h2
    · rename_i x h1 h2
      cases h
      have q := sndE e c sc F W Φ k X C i h1
      exact ⟨pe_one q.1, pw_and1 q.2⟩
    · cases h
  | e :: e2 :: es, h =>
    simp only [compAnd.eq_2] at h
    split at h
    · rename_i x y h1 h2
      cases h
      have q := sndE e c sc F W Φ k X C x h1
      have q2 := sndAnd (e2 :: es) c sc F W Φ k X C y h2 pos
      exact s_and q.1 q.2 q2.1 q2.2
    · cases h
    · cases h
termination_by structural es
theorem sndOr (es : List Expr) (c : Cfg) (sc : Scope) (F : Fx) (W : WX) (Φ : Nat → List D → Sto → R Rv) (k : Nat) (X : Cx) (C : Cxt c sc F W Φ k X) (i : Kp.X) (h : compOr c sc es = some i) (pos : Pos) : PE X (.BoolOp .Or es pos) (tE F W Φ i) ∧ PW X (.BoolOp .Or es pos) (tT F W Φ i) := by
  match es, h with
  | [], h => simp only [compOr] at h; cases h
  | [e], h =>
    simp only [compOr] at h
    split at h
    · rename_i x y h1 h2
      cases h2
    · rename_i x h1 h2
      cases h
      have q := sndE e c sc F W Φ k X C i h1
      exact ⟨pe_one q.1, pw_or1 q.2⟩
    · cases h
  | e :: e2 :: es, h =>
    simp only [compOr.eq_2] at h
    split at h
    · rename_i x y h1 h2
      cases h
      have q := sndE e c sc F W Φ k X C x h1
      have q2 := sndOr (e2 :: es) c sc F W Φ k X C y h2 pos
      exact s_or q.1 q.2 q2.1 q2.2
    · cases h
    · cases h
termination_by structural es
theorem sndO (o : Option Expr) (c : Cfg) (sc : Scope) (F : Fx) (W : WX) (Φ : Nat → List D → Sto → R Rv) (k : Nat) (X : Cx) (C : Cxt c sc F W Φ k X) (i : Kp.X) (h : compO c sc o = some i) : PO X o (tPO F W fun env st => evE Φ env i st) := by
  match o, h with
  | none, h =>
    simp only [compO] at h
    cases h
    exact o_none
  | some e, h =>
    simp only [compO] at h
    exact po_any C (sndE e c sc F W Φ k X C i h).1
termination_by structural o
/-- a comprehension's tests -/
theorem sndF (es : List Expr) (c : Cfg) (sc : Scope) (F : Fx) (W : WX) (Φ : Nat → List D → Sto → R Rv) (k : Nat) (X : Cx) (C : Cxt c sc F W Φ k X) (is : List Kp.X) (h : compEs c sc es = some is) : ∀ e i, es = [e] → is = [i] → PT X e (tT F W Φ i) := by
  match es, h with
  | [], h => intro e i e1; cases e1
  | e :: es, h =>
    simp only [compEs] at h
    split at h
    · rename_i x xs h1 h2
      cases h
      intro e' i' e1 e2
      cases e1
      cases e2
      exact (sndE e c sc F W Φ k X C x h1).2
    · cases h
termination_by structural es
/-- v[i0] -/
theorem sndSub (i0 : Expr) (c : Cfg) (sc : Scope) (F : Fx) (W : WX) (Φ : Nat → List D → Sto → R Rv) (k : Nat) (X : Cx) (C : Cxt c sc F W Φ k X) (i : Kp.X) (v : Expr) (pos : Pos) (hv : ∀ x, compE c sc v = some x → PE X v (tE F W Φ x)) (hi : ∀ x, compE c sc i0 = some x → PE X i0 (tE F W Φ x))
    (h : compE c sc (.Subscript v i0 pos) = some i) : PE X (.Subscript v i0 pos) (tE F W Φ i) := by
  match i0, hi, h with
  | .Slice lo hi none p2, hi', h =>
    simp only [compE] at h
    split at h
    · rename_i x y z h1 h2 h3
      cases h
      exact s_slc C (hv x h1) (sndO lo c sc F W Φ k X C y h2) (sndO hi c sc F W Φ k X C z h3)
    · cases h
  | .Slice lo hi (some st) p2, hi', h => simp only [compE] at h; cases h
  | .BoolOp .., hi', h =>
    obtain ⟨x, y, h1, h2, e⟩ := comp_sub rfl h
    subst e
    exact s_idx C (hv x h1) (hi' y h2) (plainIx_of h2)
  | .NamedExpr .., hi', h =>
    obtain ⟨x, y, h1, h2, e⟩ := comp_sub rfl h
    subst e
    exact s_idx C (hv x h1) (hi' y h2) (plainIx_of h2)
  | .BinOp .., hi', h =>
    obtain ⟨x, y, h1, h2, e⟩ := comp_sub rfl h
    subst e
    exact s_idx C (hv x h1) (hi' y h2) (plainIx_of h2)
  | .UnaryOp .., hi', h =>
    obtain ⟨x, y, h1, h2, e⟩ := comp_sub rfl h
    subst e
    exact s_idx C (hv x h1) (hi' y h2) (plainIx_of h2)
  | .Lambda .., hi', h =>
    obtain ⟨x, y, h1, h2, e⟩ := comp_sub rfl h
    subst e
    exact s_idx C (hv x h1) (hi' y h2) (plainIx_of h2)
  | .IfExp .., hi', h =>
    obtain ⟨x, y, h1, h2, e⟩ := comp_sub rfl h
    subst e
    exact s_idx C (hv x h1) (hi' y h2) (plainIx_of h2)
  | .Dict .., hi', h =>
    obtain ⟨x, y, h1, h2, e⟩ := comp_sub rfl h
    subst e
    exact s_idx C (hv x h1) (hi' y h2) (plainIx_of h2)
  | .Set .., hi', h =>
    obtain ⟨x, y, h1, h2, e⟩ := comp_sub rfl h
    subst e
    exact s_idx C (hv x h1) (hi' y h2) (plainIx_of h2)
  | .ListComp .., hi', h =>
    obtain ⟨x, y, h1, h2, e⟩ := comp_sub rfl h
    subst e
    exact s_idx C (hv x h1) (hi' y h2) (plainIx_of h2)
  | .SetComp .., hi', h =>
    obtain ⟨x, y, h1, h2, e⟩ := comp_sub rfl h
    subst e
    exact s_idx C (hv x h1) (hi' y h2) (plainIx_of h2)
  | .DictComp .., hi', h =>
    obtain ⟨x, y, h1, h2, e⟩ := comp_sub rfl h
    subst e
    exact s_idx C (hv x h1) (hi' y h2) (plainIx_of h2)
  | .GeneratorExp .., hi', h =>
    obtain ⟨x, y, h1, h2, e⟩ := comp_sub rfl h
    subst e
    exact s_idx C (hv x h1) (hi' y h2) (plainIx_of h2)
  | .Await .., hi', h =>
    obtain ⟨x, y, h1, h2, e⟩ := comp_sub rfl h
    subst e
    exact s_idx C (hv x h1) (hi' y h2) (plainIx_of h2)
  | .Yield .., hi', h =>
    obtain ⟨x, y, h1, h2, e⟩ := comp_sub rfl h
    subst e
    exact s_idx C (hv x h1) (hi' y h2) (plainIx_of h2)
  | .YieldFrom .., hi', h =>
    obtain ⟨x, y, h1, h2, e⟩ := comp_sub rfl h
    subst e
    exact s_idx C (hv x h1) (hi' y h2) (plainIx_of h2)
  | .Compare .., hi', h =>
    obtain ⟨x, y, h1, h2, e⟩ := comp_sub rfl h
    subst e
    exact s_idx C (hv x h1) (hi' y h2) (plainIx_of h2)
  | .Call .., hi', h =>
    obtain ⟨x, y, h1, h2, e⟩ := comp_sub rfl h
    subst e
    exact s_idx C (hv x h1) (hi' y h2) (plainIx_of h2)
  | .FormattedValue .., hi', h =>
    obtain ⟨x, y, h1, h2, e⟩ := comp_sub rfl h
    subst e
    exact s_idx C (hv x h1) (hi' y h2) (plainIx_of h2)
  | .JoinedStr .., hi', h =>
    obtain ⟨x, y, h1, h2, e⟩ := comp_sub rfl h
    subst e
    exact s_idx C (hv x h1) (hi' y h2) (plainIx_of h2)
  | .Constant .., hi', h =>
    obtain ⟨x, y, h1, h2, e⟩ := comp_sub rfl h
    subst e
    exact s_idx C (hv x h1) (hi' y h2) (plainIx_of h2)
  | .Attribute .., hi', h =>
    obtain ⟨x, y, h1, h2, e⟩ := comp_sub rfl h
    subst e
    exact s_idx C (hv x h1) (hi' y h2) (plainIx_of h2)
  | .Subscript .., hi', h =>
    obtain ⟨x, y, h1, h2, e⟩ := comp_sub rfl h
    subst e
    exact s_idx C (hv x h1) (hi' y h2) (plainIx_of h2)
  | .Starred .., hi', h =>
    obtain ⟨x, y, h1, h2, e⟩ := comp_sub rfl h
    subst e
    exact s_idx C (hv x h1) (hi' y h2) (plainIx_of h2)
  | .Name .., hi', h =>
    obtain ⟨x, y, h1, h2, e⟩ := comp_sub rfl h
    subst e
    exact s_idx C (hv x h1) (hi' y h2) (plainIx_of h2)
  | .List .., hi', h =>
    obtain ⟨x, y, h1, h2, e⟩ := comp_sub rfl h
    subst e
    exact s_idx C (hv x h1) (hi' y h2) (plainIx_of h2)
  | .Tuple .., hi', h =>
    obtain ⟨x, y, h1, h2, e⟩ := comp_sub rfl h
    subst e
    exact s_idx C (hv x h1) (hi' y h2) (plainIx_of h2)
termination_by structural i0
/-- a call's arguments -/
theorem sndA (e : Expr) (c : Cfg) (sc : Scope) (F : Fx) (W : WX) (Φ : Nat → List D → Sto → R Rv) (k : Nat) (X : Cx) (C : Cxt c sc F W Φ k X) : ∀ f args ks pos is, e = .Call f args ks pos → compEs c sc args = some is → PA X args (tD F W Φ is) := by
  match e with
  | .Call f args ks pos =>
    intro f' args' ks' pos' is e1 h
    cases e1
    exact sndEs args c sc F W Φ k X C is h
  | .BoolOp .. | .NamedExpr .. | .BinOp .. | .UnaryOp .. | .Lambda .. | .IfExp .. | .Dict .. | .Set .. | .ListComp .. | .SetComp .. | .DictComp .. | .GeneratorExp .. | .Await .. | .Yield .. | .YieldFrom .. | .Compare .. | .FormattedValue .. | .JoinedStr .. | .Constant .. | .Attribute .. | .Subscript .. | .Starred .. | .Name .. | .List .. | .Tuple .. | .Slice .. =>
    intro f' args' ks' pos' is e1; cases e1
termination_by structural e
end
end Kp

/-! Kp, part 11: statements. -/
namespace Kp
open PySem PySem.Spec PyProof.Rows L2

def OutS (F : Fx) (W : WX) (α : List Addr) (H : Hp) (m : SR) (D : Ends) : Prop :=
  match m with
  | .nx env st => ∀ (σ' : L2.St) (H' : Hp) (α' : List Addr), Pre α α' → Ext H H' → EvR F.K α' H' env σ' → StR F.K α' H' st → D.nx σ' H'
  | .rt r st => ∀ (v : V) (H' : Hp) (α' : List Addr), Pre α α' → Ext H H' → StR F.K α' H' st → RvR F.K α' H' r v → D.rt v H'
  | .exc c fs env st => ∀ (d : Option Addr) (σ' : L2.St) (H' : Hp) (α' : List Addr), Pre α α' → Ext H H' → EvR F.K α' H' env σ' → StR F.K α' H' st → ExcR F.K H' fs d → W (F.cls c) d σ' H'
  | .bad => False
section
variable {F : Fx} {W : WX} {α α1 : List Addr} {H H1 : Hp} {m : SR} {D D' : Ends}
theorem OutS.mono (h : OutS F W α H m D) (p : Pre α α1) (e : Ext H H1) : OutS F W α1 H1 m D := by
  cases m with
  | nx env st => exact fun σ' H' α' p' e' => h σ' H' α' (p.trans p') (e.trans e')
  | rt r st => exact fun v H' α' p' e' => h v H' α' (p.trans p') (e.trans e')
  | exc c fs env st => exact fun d σ' H' α' p' e' => h d σ' H' α' (p.trans p') (e.trans e')
  | bad => exact h
theorem OutS.imp (h : OutS F W α H m D) (n : ∀ σ H, D.nx σ H → D'.nx σ H) (r : ∀ v H, D.rt v H → D'.rt v H) : OutS F W α H m D' := by
  cases m with
  | nx env st => exact fun σ' H' α' p' e' x y => n _ _ (h σ' H' α' p' e' x y)
  | rt r' st => exact fun v H' α' p' e' x y => r _ _ (h v H' α' p' e' x y)
  | exc c fs env st => exact h
  | bad => exact h
end
def tS (F : Fx) (W : WX) (m : Ev → Sto → SR) : TS := fun D σ H => ∃ env st α, EvR F.K α H env σ ∧ StR F.K α H st ∧ OutS F W α H (m env st) D
section
variable {F : Fx} {W : WX} {β γ : Type}
/-- an expression, then the rest of the statement -/
theorem tM.then {RR : List Addr → Hp → β → γ → Prop} {σ : L2.St} {α : List Addr} {H : Hp} {m : Ev → Sto → R β} {f : β → Sto → SR} {D : Ends} {env : Ev} {st : Sto}
    (hE : EvR F.K α H env σ) (hS : StR F.K α H st) (h : OutS F W α H ((m env st).then env f) D) :
    tM F W RR m σ H fun g H1 => ∃ r st1 α1, At F σ α α1 H H1 env st1 ∧ RR α1 H1 r g ∧ OutS F W α1 H1 (f r st1) D := by
  refine ⟨env, st, α, hE, hS, ?_⟩
  cases e : m env st with
  | ok r st1 =>
    rw [e] at h
    exact fun g H1 α1 p x s rr => ⟨r, st1, α1, ⟨p, x, hE.mono p x, s⟩, rr, OutS.mono (show OutS F W α H (f r st1) D from h) p x⟩
  | exc c fs st1 =>
    rw [e] at h
    exact fun d H' α' p x s rr => h d σ H' α' p x (hE.mono p x) s rr
  | bad =>
    rw [e] at h
    exact h
theorem tS.seq {m : Ev → Sto → SR} {f : Ev → Sto → SR} : ∀ D σ H, tS F W (fun env st => (m env st).then f) D σ H → tSeq (tS F W m) (tS F W f) D σ H := fun D σ H q => by
  obtain ⟨env, st, α, hE, hS, ho⟩ := q
  refine ⟨env, st, α, hE, hS, ?_⟩
  have ho : OutS F W α H ((m env st).then f) D := ho
  cases e : m env st with
  | nx env1 st1 =>
    rw [e] at ho
    exact fun σ' H' α' p x hE' hS' => ⟨env1, st1, α', hE', hS', OutS.mono (show OutS F W α H (f env1 st1) D from ho) p x⟩
  | rt r st1 => rw [e] at ho; exact ho
  | exc c fs env1 st1 => rw [e] at ho; exact ho
  | bad => rw [e] at ho; exact ho
end

/-- a new list that nobody else holds comes into the store -/
theorem StR.take_in {K : PySem.W.Frag} {α : List Addr} {H : Hp} {st : Sto} (hS : StR K α H st) {a : Addr} {vs : List V} {xs : List P} (h1 : H a = some (.lst vs)) (h2 : vs.length ≤ sizeLine) (h3 : ImAll K H xs vs) (h4 : a ∉ α) : StR K (α ++ [a]) H (st ++ [.lst xs]) := by
  refine ⟨by rw [List.length_append, List.length_append, hS.len]; rfl, ?_, fun n o b q1 q2 => ?_⟩
  · rw [List.nodup_append]
    exact ⟨hS.nd, by simp, fun x hx y hy z => by
      have e : y = a := by simpa using hy
      subst e
      exact h4 (z ▸ hx)⟩
  · by_cases hn : n < st.length
    · rw [List.getElem?_append_left hn] at q1
      rw [List.getElem?_append_left (by rw [hS.len]; exact hn)] at q2
      exact hS.ob n o b q1 q2
    · have e : n = st.length := by
        have := (List.getElem?_eq_some_iff.mp q1).1
        rw [List.length_append] at this
        have : n < st.length + 1 := this
        omega
      subst e
      rw [List.getElem?_append_right (Nat.le_refl _), Nat.sub_self] at q1
      rw [← hS.len, List.getElem?_append_right (Nat.le_refl _), Nat.sub_self] at q2
      cases q1
      have e : a = b := Option.some.inj q2
      subst e
      exact ⟨vs, h1, h2, h3⟩

section
variable {c : Cfg} {sc : Scope} {F : Fx} {W : WX} {Φ : Nat → List D → Sto → R Rv} {k : Nat} {X : Cx}
abbrev tSt (F : Fx) (W : WX) (Φ : Nat → List D → Sto → R Rv) (s : S) : TS := tS F W (fun env st => evS Φ s env st)
abbrev tSts (F : Fx) (W : WX) (Φ : Nat → List D → Sto → R Rv) (ss : List S) : TS := tS F W (fun env st => evSs Φ ss env st)
/-- the context of a statement: a def's own frame -/
structure Cxs (c : Cfg) (sc : Scope) (F : Fx) (W : WX) (Φ : Nat → List D → Sto → R Rv) (k : Nat) (X : Cx) : Prop extends Cxt c sc F W Φ k X where
  fn : ∀ x, X.fn x = true
  own : PassesOwn (model X.prog X.w) X.A X.env X.xe
  fun_ : X.env.scope.kind = .function
theorem Cxs.nm (C : Cxs c sc F W Φ k X) {x : Str} {i : Nat} (h : slotOwn c sc x = some i) : NmOk X x i := by
  obtain ⟨h1, h2⟩ := slotOwn_ok h
  exact ⟨by rw [C.hN]; exact h1, by rw [C.sc]; exact h2, .inl (C.fn x)⟩

/-- a value comes to a name -/
theorem store_imp {α : List Addr} {H : Hp} {env : Ev} {σ : L2.St} {st : Sto} {r : Rv} {v : V} {i : Nat} {new : Bool} {D : Ends} (hE : EvR F.K α H env σ) (hS : StR F.K α H st) (hr : RvR F.K α H r v) (ho : OutS F W α H (store i new r env st) D) :
    (D.nx (σ.set i (some v)) H) ∨ ∃ a vs, v = .ref a ∧ H a = some (.lst vs) ∧ ∀ o, D.nx (σ.set i (some v)) (upd H a (.frz o (.lst vs))) := by
  cases r with
  | im d =>
    have e : store i new (.im d) env st = .nx (env.set i (some d)) st := by cases new <;> rfl
    rw [e] at ho
    exact .inl (ho _ H α Pre.refl Ext.refl (hE.set i hr) hS)
  | nd kvs => exact hr.elim
  | nl xs =>
    obtain ⟨a, vs, e, h1, h2, h3, h4⟩ := hr
    subst e
    cases new with
    | true =>
      refine .inl (ho _ H (α ++ [a]) ⟨[a], rfl⟩ Ext.refl ?_ ?_)
      · exact (hE.mono ⟨[a], rfl⟩ Ext.refl).set i ⟨a, by rw [← hS.len, List.getElem?_append_right (Nat.le_refl _), Nat.sub_self]; rfl, rfl⟩
      · refine ⟨by rw [List.length_append, List.length_append, hS.len]; rfl, ?_, fun n o b q1 q2 => ?_⟩
        · rw [List.nodup_append]
          exact ⟨hS.nd, by simp, fun x hx y hy z => by
            have e : y = a := by simpa using hy
            subst e
            exact h4 (z ▸ hx)⟩
        · by_cases hn : n < st.length
          · rw [List.getElem?_append_left hn] at q1
            rw [List.getElem?_append_left (by rw [hS.len]; exact hn)] at q2
            exact hS.ob n o b q1 q2
          · have e : n = st.length := by
              have := (List.getElem?_eq_some_iff.mp q1).1
              rw [List.length_append] at this
              have : n < st.length + 1 := this
              omega
            subst e
            rw [List.getElem?_append_right (Nat.le_refl _), Nat.sub_self] at q1
            rw [← hS.len, List.getElem?_append_right (Nat.le_refl _), Nat.sub_self] at q2
            cases q1
            have e : a = b := Option.some.inj q2
            subst e
            exact ⟨vs, h1, h2, h3⟩
    | false =>
      refine .inr ⟨a, vs, rfl, h1, fun o => ?_⟩
      have x : Ext H (upd H a (.frz o (.lst vs))) := Ext.lst h1
      exact ho _ _ α Pre.refl x ((hE.mono Pre.refl x).set i ⟨a, vs, rfl, .inl ⟨o, upd_same⟩, h2, ImAll.ext x _ _ h3⟩) (hS.froz h1 h4)
/-- a statement behind which a list may be frozen -/
def tFrzS (t : TS) : TS := fun D σ H => t { D with nx := fun σ' H' => D.nx σ' H' ∨ ∃ a vs, H' a = some (.lst vs) ∧ ∀ o, D.nx σ' (upd H' a (.frz o (.lst vs))) } σ H
theorem ps_frz {s : Stmt} {t : TS} (h : PS X s t) : PS X s (tFrzS t) := by
  refine ⟨fun pins s σ H D I q => thn (h.run pins s σ H _ I q) fun f s1 hq => ?_⟩
  cases f with
  | next =>
    obtain ⟨σ', H', I', q⟩ := hq
    rcases q with q | ⟨a, vs, h1, q⟩
    · exact ⟨σ', H', I', q⟩
    · obtain ⟨o, I2⟩ := Inv.freeze I' h1
      exact ⟨σ', _, I2, q o⟩
  | brk => exact hq
  | cont => exact hq
  | ret u => exact hq
theorem asg_imp {i : Nat} {new : Bool} {e : Kp.X} : ∀ D σ H, tSt F W Φ (.asg i new e) D σ H → tFrzS (tAsg (tE F W Φ e) (gName i)) D σ H := fun D σ H q => by
  obtain ⟨env, st, α, hE, hS, ho⟩ := q
  simp only [evS] at ho
  refine (tM.then hE hS ho).imp fun v H1 ⟨r, st1, α1, a1, r1, ho⟩ => ?_
  rcases store_imp a1.E a1.S r1 ho with q | ⟨a, vs, e1, h1, q⟩
  · exact .inl q
  · exact .inr ⟨a, vs, h1, q⟩
theorem s_asg (C : Cxs c sc F W Φ k X) {x : Str} {i : Nat} {new : Bool} {e : Expr} {ie : Kp.X} {px pos : Pos} (hx : slotOwn c sc x = some i) (he : PE X e (tE F W Φ ie)) (hsw : swapsWith e (some (.Name x px)) pos.line X.env = pure false) :
    PS X (.Assign [.Name x px] e pos) (tSt F W Φ (.asg i new ie)) := by
  obtain ⟨n1, n2, n3⟩ := C.nm hx
  exact (ps_frz (ps_set (by rw [C.hN]; exact C.nd) n1 n2 he hsw n3)).imp asg_imp
theorem s_ret {e : Expr} {i : Kp.X} {pos : Pos} (he : PE X e (tE F W Φ i)) : PS X (.Return (some e) pos) (tSt F W Φ (.ret i)) :=
  (ps_ret he).imp fun D σ H q => by
    obtain ⟨env, st, α, hE, hS, ho⟩ := q
    simp only [evS] at ho
    exact (tM.then hE hS ho).imp fun v H1 ⟨r, st1, α1, a1, r1, ho⟩ => ho v H1 α1 Pre.refl Ext.refl a1.S r1
theorem s_retN {pos : Pos} : PS X (.Return none pos) (tSt F W Φ (.ret (.const .none))) :=
  ps_retN.imp fun D σ H q => by
    obtain ⟨env, st, α, hE, hS, ho⟩ := q
    simp only [evS, evE] at ho
    exact ho .non H α Pre.refl Ext.refl hS rfl
theorem s_pass {s : Stmt} (h : PS X s tNext) : PS X s (tSt F W Φ .pass) :=
  h.imp fun D σ H q => by
    obtain ⟨env, st, α, hE, hS, ho⟩ := q
    simp only [evS] at ho
    exact ho σ H α Pre.refl Ext.refl hE hS
theorem s_expr {e : Expr} {i : Kp.X} {pos : Pos} (he : PE X e (tE F W Φ i)) (hs : swapsWith e none pos.line X.env = pure false) : PS X (.Expr e pos) (tSt F W Φ (.expr i)) :=
  (ps_expr he hs).imp fun D σ H q => by
    obtain ⟨env, st, α, hE, hS, ho⟩ := q
    simp only [evS] at ho
    exact (tM.then hE hS ho).imp fun v H1 ⟨r, st1, α1, a1, r1, ho⟩ => ho σ H1 α1 Pre.refl Ext.refl a1.E a1.S
theorem s_if {t : Expr} {a b : List Stmt} {i : Kp.X} {ia ib : List S} {pos : Pos} (ht : PT X t (tT F W Φ i)) (ha : PSs X a (tSts F W Φ ia)) (hb : PSs X b (tSts F W Φ ib)) : PS X (.If t a b pos) (tSt F W Φ (.ife i ia ib)) :=
  (ps_if ht ha hb).imp fun D σ H q => by
    obtain ⟨env, st, α, hE, hS, ho⟩ := q
    have e : evS Φ (.ife i ia ib) env st = (evB Φ env i st).then env fun kb st1 => if kb then evSs Φ ia env st1 else evSs Φ ib env st1 := by
      simp only [evB, evS]
      cases evE Φ env i st with
      | ok r st1 =>
        simp only [ok_bind, R.then]
        unfold needB
        split <;> rfl
      | exc c fs st1 => rfl
      | bad => rfl
    have ho : OutS F W α H (evS Φ (.ife i ia ib) env st) D := ho
    rw [e] at ho
    refine (tM.then (m := fun env st => evB Φ env i st) hE hS ho).imp fun x H1 ⟨r, st1, α1, a1, r1, ho⟩ => ?_
    subst r1
    cases r with
    | true => exact ⟨env, st1, α1, a1.E, a1.S, ho⟩
    | false => exact ⟨env, st1, α1, a1.E, a1.S, ho⟩
theorem ss_nil : PSs X [] (tSts F W Φ []) :=
  pss_nil.imp fun D σ H q => by
    obtain ⟨env, st, α, hE, hS, ho⟩ := q
    simp only [evSs] at ho
    exact ho σ H α Pre.refl Ext.refl hE hS
theorem ss_cons {s : Stmt} {ss : List Stmt} {i : S} {is : List S} (h : PS X s (tSt F W Φ i)) (hs : PSs X ss (tSts F W Φ is)) : PSs X (s :: ss) (tSts F W Φ (i :: is)) :=
  (pss_cons h hs).imp fun D σ H q => by
    refine tS.seq D σ H ?_
    obtain ⟨env, st, α, hE, hS, ho⟩ := q
    simp only [evSs] at ho
    exact ⟨env, st, α, hE, hS, ho⟩
/-- loops -/
def turnF (Φ : Nat → List D → Sto → R Rv) (t : Tg) (body : List S) (y : P) (env : Ev) (st : Sto) : SR :=
  match bindT t env y with
  | some env2 => evSs Φ body env2 st
  | none => .bad
theorem evS_for {t : Tg} {ik : Ik} {is : List Kp.X} {body : List S} {env : Ev} {st : Sto} : evS Φ (.for t ik is body) env st = (evI Φ env ik is st).then env fun ys st1 => forL (turnF Φ t body) ys env st1 := by
  simp only [evS, evI]
  cases evDs Φ env is st with
  | ok ds st1 =>
    simp only [ok_bind, R.then]
    cases itemsD ik ds <;> rfl
  | exc cc fs st1 => rfl
  | bad => rfl
theorem s_for (C : Cxs c sc F W Φ k X) {tg iter : Expr} {body : List Stmt} {t : Tg} {own : List (Str × Nat)} {ik : Ik} {is : List Kp.X} {ib : List S} {pos : Pos} (ht : tgOf c sc tg = some (t, own)) (hi : PI X tg iter (tI F W Φ ik is)) (hb : PSs X body (tSts F W Φ ib)) (hset : isSet iter = false) :
    PS X (.For tg iter body [] pos) (tSt F W Φ (.for t ik is ib)) := by
  have hg : PG X tg (gT X.K t) := pg_tgt (c := c) (sc := sc) C.calm (by rw [C.hN]; exact C.nd) ht fun x i hx => C.nm hx
  refine (ps_for C.own C.calm hi hg hb (fold_id hset X.env)).imp fun D σ H q => ?_
  obtain ⟨env, st, α, hE, hS, ho⟩ := q
  simp only [evS_for] at ho
  refine (tM.then (m := fun env st => evI Φ env ik is st) hE hS ho).imp fun J H1 ⟨ys, st1, α1, a1, hJ, ho⟩ => ?_
  refine ⟨fun i m σ H => m = ys.length - i ∧ i ≤ ys.length ∧ ∃ env st α, Pre α1 α ∧ Ext H1 H ∧ EvR F.K α H env σ ∧ StR F.K α H st ∧ OutS F W α H (forL (turnF Φ t ib) (ys.drop i) env st) D,
    ⟨ys.length, by simp, Nat.zero_le _, env, st1, α1, Pre.refl, Ext.refl, a1.E, a1.S, by rw [List.drop_zero]; exact ho⟩, ?_⟩
  rintro i m σ2 H2 ⟨rfl, hi, env2, st2, α2, p2, x2, E2, S2, ho⟩
  by_cases hlt : i < ys.length
  · refine .inr ⟨hJ.go i H2 x2 hlt, _, fun σ' H' w => ⟨ys.length - (i + 1), by omega, rfl, hlt, w⟩, fun x H3 hy => ?_⟩
    obtain ⟨e3, sk, p, hp, ip⟩ := hJ.yld i H2 x H3 x2 hlt hy
    have S3 := sk _ _ S2
    have hd : ys.drop i = ys[i] :: ys.drop (i + 1) := by rw [List.drop_eq_getElem_cons hlt]
    have hpe : ys[i] = p := by
      have := List.getElem?_eq_getElem hlt
      rw [this] at hp
      exact Option.some.inj hp
    rw [hd, hpe, forL] at ho
    have em : turnF Φ t ib p env2 st2 = turnF Φ t ib p env2 st2 := rfl
    unfold turnF at em ho
    cases eb : bindT t env2 p with
    | none => rw [eb] at ho; exact (show False from ho).elim
    | some env3 =>
      rw [eb] at ho
      rw [← C.hF]
      refine g_bind (E2.mono Pre.refl e3) ip eb fun σ3 E3 _ => ?_
      refine ⟨env3, st2, α2, E3, S3, ?_⟩
      have ho : OutS F W α2 H2 ((evSs Φ ib env3 st2).then fun env1 st1 => forL (turnF Φ t ib) (ys.drop (i + 1)) env1 st1) D := ho
      have ho := ho.mono (α1 := α2) Pre.refl e3
      show OutS F W α2 H3 (evSs Φ ib env3 st2) _
      cases ee : evSs Φ ib env3 st2 with
      | bad => rw [ee] at ho; exact ho
      | rt r st4 => rw [ee] at ho; exact ho
      | exc cc fs env4 st4 => rw [ee] at ho; exact ho
      | nx env4 st4 =>
        rw [ee] at ho
        have ho : OutS F W α2 H3 (forL (turnF Φ t ib) (ys.drop (i + 1)) env4 st4) D := ho
        exact fun σ4 H4 α4 p4 x4 E4 S4 => ⟨env4, st4, α4, p2.trans p4, x2.trans (e3.trans x4), E4, S4, ho.mono p4 x4⟩
  · have e : i = ys.length := by omega
    subst e
    refine .inl ⟨hJ.stop _ H2 x2 (Nat.le_refl _), ?_⟩
    rw [List.drop_length, forL] at ho
    exact ho σ2 H2 α2 Pre.refl Ext.refl E2 S2
/-- o[i] = v -/
def rSetI (F : Fx) : TSet := fun o i v H Q => ∃ α st d kk p st4, StR F.K α H st ∧ DR F.K α H d o ∧ Im F.K H (.int kk) i ∧ Im F.K H p v ∧ setop d (.int kk) p st = some st4 ∧ ∀ H', Ext H H' → StR F.K α H' st4 → Q H'
theorem set_any : PSet X (rSetI F) := by
  intro pins s σ H o i v ov iv u Q I ro ri rv h
  obtain ⟨α, st, d, kk, p, st4, S, hd, hi, hv, e, h⟩ := h
  cases d with
  | py q => cases (show none = some st4 from e)
  | ref n =>
    obtain ⟨a, ha, e1⟩ := hd
    unfold setop at e
    cases e2 : st[n]? with
    | none => simp only [e2] at e; cases e
    | some ob =>
      cases ob with
      | dct _ => simp only [e2] at e; cases e
      | dead => simp only [e2] at e; cases e
      | lst xs =>
        simp only [e2] at e
        obtain ⟨vs, q1, q2, q3⟩ := S.ob n _ a e2 ha
        obtain ⟨j, e3, e4⟩ := opt_map e
        subst e4
        rw [q3.length] at e3
        exact set_list pins s σ H o i v ov iv u Q I ro ri rv ⟨a, vs, kk, j, e1, hi, q1, e3, h _ (Ext.lst q1) (S.write ha q1 (by rw [List.length_set]; exact q2) (q3.set j hv))⟩
theorem s_setI (C : Cxs c sc F W Φ k X) {o i v : Expr} {io ii iv : Kp.X} {p pos : Pos} (ho : PE X o (tE F W Φ io)) (hi : PE X i (tE F W Φ ii)) (hv : PE X v (tE F W Φ iv))
    (hsl : isSlice i = false) (hsw : swapsWithSole [.Subscript o i p] v pos.line X.env = pure false) (hsw2 : swappedStores [.Subscript o i p] v X.env = pure none) :
    PS X (.Assign [.Subscript o i p] v pos) (tSt F W Φ (.setI io ii iv)) := by
  have ha : ∀ u, assign (.Subscript o i p) X.env u = (do
      let ov ← holding [u] (eval o X.env)
      let iv ← holding [u, ov] (eval i X.env)
      standAt p
      holding [u, ov, iv] (setItem ov iv u)
      release [u, ov, iv] []) := by
    intro u
    cases i <;> first | rfl | cases hsl
  have hg : PG X (.Subscript o i p) _ := pg_sub ho hi (set_any (F := F) (X := X)) ha
  refine (ps_asg (pe_frz C.hF hv) hg hsw hsw2 rfl).imp fun D σ H q => ?_
  obtain ⟨env, st, α, hE, hS, hq⟩ := q
  simp only [evS] at hq
  refine (tM.then hE hS hq).imp fun v H1 ⟨r, st1, α1, a1, r1, hq⟩ => ?_
  refine (tM.then a1.E a1.S hq).imp fun o' H2 ⟨r', st2, α2, a2, r2, hq⟩ => ?_
  refine (tM.then a2.E a2.S hq).imp fun i' H3 ⟨r'', st3, α3, a3, r3, hq⟩ => ?_
  have hv : DR F.K α3 H3 r.frz v := DR.mono a3.pre a3.ext (DR.mono a2.pre a2.ext r1)
  cases e1 : r.frz with
  | ref n => simp only [e1] at hq; exact (show False from hq).elim
  | py p' =>
    rw [e1] at hv
    have r2 : RvR F.K α2 H2 r' o' := r2
    have r3 : RvR F.K α3 H3 r'' i' := r3
    cases r' with
    | nl _ => simp only [e1] at hq; exact (show False from hq).elim
    | nd _ => exact r2.elim
    | im d =>
      cases r'' with
      | nl _ => simp only [e1] at hq; exact (show False from hq).elim
      | nd _ => exact r3.elim
      | im d2 =>
        cases d2 with
        | ref _ => simp only [e1] at hq; exact (show False from hq).elim
        | py kk =>
          simp only [e1] at hq
          cases e2 : setop d kk p' st3 with
          | none => rw [e2] at hq; exact (show False from hq).elim
          | some st4 =>
            rw [e2] at hq
            obtain ⟨k0, e3⟩ : ∃ k0, kk = .int k0 := by
              unfold setop at e2
              cases d with
              | py _ => cases e2
              | ref n =>
                simp only [] at e2
                split at e2
                · exact ⟨_, rfl⟩
                · cases e2
            subst e3
            exact ⟨α3, st3, d, k0, p', st4, a3.S, DR.mono a3.pre a3.ext r2, r3, hv, e2, fun H' x S => hq σ H' α3 Pre.refl x (a3.E.mono Pre.refl x) S⟩
/-- values for names -/
theorem push_out {σ : L2.St} {α : List Addr} {H : Hp} {st : Sto} {r : Rv} {v : V} {new : Bool} {Q : V → Hp → Prop} (hS : StR F.K α H st) (hr : RvR F.K α H r v)
    (ho : Out F W (DR F.K) σ α H (pushD new r st) Q) : Q v H ∨ ∃ a vs, v = .ref a ∧ H a = some (.lst vs) ∧ ∀ o, Q v (upd H a (.frz o (.lst vs))) := by
  cases r with
  | im d =>
    have e : pushD new (.im d) st = .ok d st := by cases new <;> rfl
    rw [e] at ho
    exact .inl (ho v H α Pre.refl Ext.refl hS hr)
  | nd kvs => exact hr.elim
  | nl xs =>
    obtain ⟨a, vs, e, h1, h2, h3, h4⟩ := hr
    subst e
    cases new with
    | true =>
      exact .inl (ho (.ref a) H (α ++ [a]) ⟨[a], rfl⟩ Ext.refl (hS.take_in h1 h2 h3 h4) ⟨a, by rw [← hS.len, List.getElem?_append_right (Nat.le_refl _), Nat.sub_self]; rfl, rfl⟩)
    | false =>
      refine .inr ⟨a, vs, rfl, h1, fun o => ?_⟩
      have x : Ext H (upd H a (.frz o (.lst vs))) := Ext.lst h1
      exact ho (.ref a) _ α Pre.refl x (hS.froz h1 h4) ⟨a, vs, rfl, .inl ⟨o, upd_same⟩, h2, ImAll.ext x _ _ h3⟩
theorem pe_push {e : Expr} {i : Kp.X} {new : Bool} (h : PE X e (tE F W Φ i)) : PE X e (tM F W (DR F.K) (fun env st => (evE Φ env i st).bind fun r st1 => pushD new r st1)) := by
  refine ⟨fun pins s σ H Q I q => ?_⟩
  obtain ⟨env, st, α, hE, hS, ho⟩ := q
  refine thn (h.run pins s σ H (fun v H1 => (Q v H1) ∨ ∃ a vs, v = .ref a ∧ H1 a = some (.lst vs) ∧ ∀ o, Q v (upd H1 a (.frz o (.lst vs)))) I ((tM.bind hE hS ho).imp fun v H1 ⟨r, st1, α1, a1, r1, ho⟩ => push_out a1.S r1 ho)) fun u s1 hq => ?_
  obtain ⟨v, H1, I1, rv, hq⟩ := hq
  rcases hq with hq | ⟨a, vs, e1, h1, hq⟩
  · exact ⟨v, H1, I1, rv, hq⟩
  · obtain ⟨o, I2⟩ := Inv.freeze I1 h1
    exact ⟨v, _, I2, rv, hq o⟩
abbrev tP (F : Fx) (W : WX) (Φ : Nat → List Kp.D → Sto → R Rv) (is : List (Bool × Kp.X)) : TA := tM F W (DRs F.K) (fun env st => evPar Φ env is st)
theorem p_nil : PA X [] (tP F W Φ []) := pa_nil.imp fun σ H Q q => by
  obtain ⟨env, st, α, hE, hS, ho⟩ := q
  simp only [evPar] at ho
  exact ho [] H α Pre.refl Ext.refl hS rfl
theorem p_cons {e : Expr} {es : List Expr} {i : Kp.X} {new : Bool} {is : List (Bool × Kp.X)} (he : PE X e (tE F W Φ i)) (hs : PA X es (tP F W Φ is)) (hn : noStar e = true) : PA X (e :: es) (tP F W Φ ((new, i) :: is)) :=
  (pa_cons (pe_push (new := new) he) hs (star_cons hn)).imp fun σ H Q q => by
    obtain ⟨env, st, α, hE, hS, ho⟩ := q
    simp only [evPar] at ho
    refine (tM.bind (m := fun env st => (evE Φ env i st).bind fun r st1 => pushD new r st1) hE hS ho).imp fun x H1 ⟨r, st1, α1, a1, r1, ho⟩ => ?_
    refine (tM.bind a1.E a1.S ho).imp fun vs H2 ⟨ds, st2, α2, a2, r2, ho⟩ => ?_
    exact ho (x :: vs) H2 α2 Pre.refl Ext.refl a2.S ⟨x, vs, rfl, DR.mono a2.pre a2.ext r1, r2⟩
theorem par_then {is : List Nat} {es : List (Bool × Kp.X)} : ∀ D σ H, tSt F W Φ (.par is es) D σ H → tP F W Φ es σ H fun vs H1 => ∃ ds st1 α1 env, DRs F.K α1 H1 ds vs ∧ EvR F.K α1 H1 env σ ∧ StR F.K α1 H1 st1 ∧ OutS F W α1 H1 (if ds.length = is.length then .nx (setDs env is ds) st1 else .bad) D := fun D σ H q => by
  obtain ⟨env, st, α, hE, hS, ho⟩ := q
  simp only [evS] at ho
  exact (tM.then hE hS ho).imp fun vs H1 ⟨r, st1, α1, a1, r1, ho⟩ => ⟨r, st1, α1, env, r1, a1.E, a1.S, ho⟩
theorem swap2 {env : Env} {x y : Str} {px py pt pt2 : Pos} {kt k2 : Nat} {a b : Expr} (hk : env.scope.kind = .function) (hx : env.scope.names.lookup x = some .local) (hy : env.scope.names.lookup y = some .local) (hl : (px.line == py.line) = true) (hne : (x != y) = true)
    (na : noStar a = true) (nb : noStar b = true) (h1 : [a, b].all (foldedForSure 8) = false) (h2 : [a, b].all (constantsAlone 8) = false) :
    swappedStores [.Tuple [.Name x px, .Name y py] kt pt] (.Tuple [a, b] k2 pt2) env = pure (some [x, y]) := by
  have hb : env.blockKind = .function := by unfold Env.blockKind; rw [hk]; rfl
  have kx : env.kindOf x = some .local := hx
  have ky : env.kindOf y = some .local := hy
  have hne' : ¬ y = x := fun e => by subst e; simp at hne
  have hl' : px.line = py.line := by simpa using hl
  unfold swappedStores
  simp only [hb, h1, h2, Expr.pos, kx, ky, List.length_cons, List.length_nil, List.head?_cons, Option.map_some, Option.getD_some, List.filterMap_cons, List.filterMap_nil, pure_bind, hl']
  simp [hne', List.eraseDups_cons, kx, ky, Expr.pos, hl']
  intro h
  exfalso
  rcases h with h | h
  · cases a <;> first | (cases na; done) | (cases h; done)
  · cases b <;> first | (cases nb; done) | (cases h; done)
theorem swap3 {env : Env} {x y z : Str} {px py pz pt pt2 : Pos} {kt k2 : Nat} {a b d : Expr} (hk : env.scope.kind = .function) (hx : env.scope.names.lookup x = some .local) (hy : env.scope.names.lookup y = some .local) (hz : env.scope.names.lookup z = some .local)
    (hl : (px.line == py.line) = true) (hl2 : (px.line == pz.line) = true) (hne : (x != y) = true) (hne2 : (x != z) = true) (hne3 : (y != z) = true)
    (na : noStar a = true) (nb : noStar b = true) (nd : noStar d = true) (h1 : [a, b, d].all (foldedForSure 8) = false) (h2 : [a, b, d].all (constantsAlone 8) = false) :
    swappedStores [.Tuple [.Name x px, .Name y py, .Name z pz] kt pt] (.Tuple [a, b, d] k2 pt2) env = pure (some [x, y, z]) := by
  have hb : env.blockKind = .function := by unfold Env.blockKind; rw [hk]; rfl
  have kx : env.kindOf x = some .local := hx
  have ky : env.kindOf y = some .local := hy
  have kz : env.kindOf z = some .local := hz
  have e1 : ¬ y = x := fun e => by subst e; simp at hne
  have e2 : ¬ z = x := fun e => by subst e; simp at hne2
  have e3 : ¬ z = y := fun e => by subst e; simp at hne3
  have hl' : px.line = py.line := by simpa using hl
  have hl2' : px.line = pz.line := by simpa using hl2
  unfold swappedStores
  simp only [hb, h1, h2, Expr.pos, kx, ky, kz, List.length_cons, List.length_nil, List.head?_cons, Option.map_some, Option.getD_some, List.filterMap_cons, List.filterMap_nil, pure_bind, hl', hl2']
  simp [e1, e2, e3, List.eraseDups_cons, kx, ky, kz, Expr.pos, ← hl', ← hl2']
  intro h
  exfalso
  rcases h with h | h | h
  · cases a <;> first | (cases na; done) | (cases h; done)
  · cases b <;> first | (cases nb; done) | (cases h; done)
  · cases d <;> first | (cases nd; done) | (cases h; done)
theorem swapF {env : Env} {ts vs : List Expr} {kt k2 : Nat} {pt pt2 : Pos} (h1 : vs.all (foldedForSure 8) = true) : swappedStores [.Tuple ts kt pt] (.Tuple vs k2 pt2) env = pure none := by
  unfold swappedStores
  simp only [h1, if_true]
  repeat' (first | rfl | split)
theorem swapN {env : Env} {ts : List Expr} {kt : Nat} {pt : Pos} {v : Expr} (h : (match v with | .Tuple .. => false | _ => true) = true) : swappedStores [.Tuple ts kt pt] v env = pure none := by
  cases v <;> first | rfl | cases h
theorem swapSub {env : Env} {o i : Expr} {p : Pos} {v : Expr} : swappedStores [.Subscript o i p] v env = pure none := by
  cases v <;> rfl
theorem noComp {v : Expr} (h : isComp v = false) (t : Option Expr) (l : Nat) (env : Env) : swapsWith v t l env = pure false := by
  cases v <;> first | rfl | cases h
end
end Kp

/-! Kp, part 12: every statement; defs. -/
namespace Kp
open PySem PySem.Spec PyProof.Rows L2
section
variable {c : Cfg} {sc : Scope} {F : Fx} {W : WX} {Φ : Nat → List D → Sto → R Rv} {k : Nat} {X : Cx}
theorem noCompS {v : Expr} (h : isComp v = false) (t : Expr) (l : Nat) (env : Env) : swapsWithSole [t] v l env = pure false := noComp h (some t) l env
theorem nameP_inv : ∀ {ts : List Expr} {xs : List (Str × Pos)}, ts.mapM nameP = some xs → ts = xs.map fun p => .Name p.1 p.2
  | [], xs, h => by have h : [] = xs := by simpa using h
                    subst h; rfl
  | t :: ts, xs, h => by
    rw [List.mapM_cons] at h
    cases t <;> try (cases h; done)
    rename_i x px
    cases q : ts.mapM nameP with
    | none => rw [q] at h; cases h
    | some ys =>
      rw [q] at h
      have h : (x, px) :: ys = xs := by simpa [nameP] using h
      subst h
      rw [nameP_inv q]
      rfl
theorem nameOf_map : ∀ {xs : List (Str × Pos)}, (xs.map fun p => Expr.Name p.1 p.2).mapM nameOf = some (xs.map (·.1))
  | [] => rfl
  | x :: xs => by
    rw [List.map_cons, List.mapM_cons, nameOf_map]
    rfl
theorem isLocal_ok {x : Str} (h : isLocal sc x = true) : sc.names.lookup x = some .local := by
  unfold isLocal at h
  split at h
  · assumption
  · cases h
theorem setDs2 {env : Ev} {i j : Nat} {d e : Kp.D} : setDs env [i, j] [d, e] = (env.set i (some d)).set j (some e) := rfl
theorem ne_of_slots {x y : Str} {i j : Nat} {N : List Str} (h1 : N[i]? = some x) (h2 : N[j]? = some y) (hne : (x != y) = true) : i ≠ j := fun e => by
  subst e
  rw [h1] at h2
  have : x = y := Option.some.inj h2
  subst this
  simp at hne
theorem s_par2 (C : Cxs c sc F W Φ k X) {x y : Str} {i j : Nat} {a b : Expr} {es : List (Bool × Kp.X)} {px py pt pt2 pos : Pos} {kt k2 : Nat} (hx : slotOwn c sc x = some i) (hy : slotOwn c sc y = some j) (lx : isLocal sc x = true) (ly : isLocal sc y = true)
    (hl : (px.line == py.line) = true) (hne : (x != y) = true) (na : noStar a = true) (nb : noStar b = true) (h1 : [a, b].all (foldedForSure 8) = false) (h2 : [a, b].all (constantsAlone 8) = false) (ha : PA X [a, b] (tP F W Φ es)) :
    PS X (.Assign [.Tuple [.Name x px, .Name y py] kt pt] (.Tuple [a, b] k2 pt2) pos) (tSt F W Φ (.par [i, j] es)) := by
  obtain ⟨n1, n2, n3⟩ := C.nm hx
  obtain ⟨m1, m2, m3⟩ := C.nm hy
  have lx' : X.env.scope.names.lookup x = some .local := by rw [C.sc]; exact isLocal_ok lx
  have ly' : X.env.scope.names.lookup y = some .local := by rw [C.sc]; exact isLocal_ok ly
  refine (ps_par C.calm (by rw [C.hN]; exact C.nd) n1 m1 (ne_of_slots n1 m1 hne) lx' ly' ha (swap2 C.fun_ lx' ly' hl hne na nb h1 h2) rfl).imp fun D σ H q => ?_
  refine (par_then D σ H q).imp fun vs H1 ⟨ds, st1, α1, env, r1, hE, hS, ho⟩ => ?_
  split at ho
  · rename_i hlen
    rcases ds with _ | ⟨d, _ | ⟨e, _ | ⟨g, ds⟩⟩⟩
    · cases hlen
    · cases hlen
    · obtain ⟨v, r, e1, q1, r2⟩ := r1
      obtain ⟨w, r', e2, q2, r3⟩ := r2
      have r3 : r' = [] := r3
      subst r3 e2
      exact ⟨v, w, e1, ho _ H1 α1 Pre.refl Ext.refl ((hE.set i q1).set j q2) hS⟩
    · cases hlen
  · exact ho.elim
theorem s_par3 (C : Cxs c sc F W Φ k X) {x y z : Str} {i j l : Nat} {a b d : Expr} {es : List (Bool × Kp.X)} {px py pz pt pt2 pos : Pos} {kt k2 : Nat} (hx : slotOwn c sc x = some i) (hy : slotOwn c sc y = some j) (hz : slotOwn c sc z = some l) (lx : isLocal sc x = true) (ly : isLocal sc y = true) (lz : isLocal sc z = true)
    (hl : (px.line == py.line) = true) (hl2 : (px.line == pz.line) = true) (hne : (x != y) = true) (hne2 : (x != z) = true) (hne3 : (y != z) = true) (na : noStar a = true) (nb : noStar b = true) (nd : noStar d = true)
    (h1 : [a, b, d].all (foldedForSure 8) = false) (h2 : [a, b, d].all (constantsAlone 8) = false) (ha : PA X [a, b, d] (tP F W Φ es)) :
    PS X (.Assign [.Tuple [.Name x px, .Name y py, .Name z pz] kt pt] (.Tuple [a, b, d] k2 pt2) pos) (tSt F W Φ (.par [i, j, l] es)) := by
  obtain ⟨n1, n2, n3⟩ := C.nm hx
  obtain ⟨m1, m2, m3⟩ := C.nm hy
  obtain ⟨o1, o2, o3⟩ := C.nm hz
  have lx' : X.env.scope.names.lookup x = some .local := by rw [C.sc]; exact isLocal_ok lx
  have ly' : X.env.scope.names.lookup y = some .local := by rw [C.sc]; exact isLocal_ok ly
  have lz' : X.env.scope.names.lookup z = some .local := by rw [C.sc]; exact isLocal_ok lz
  refine (ps_par3 C.calm (by rw [C.hN]; exact C.nd) n1 m1 o1 (ne_of_slots n1 m1 hne) (ne_of_slots n1 o1 hne2) (ne_of_slots m1 o1 hne3) lx' ly' lz' ha (swap3 C.fun_ lx' ly' lz' hl hl2 hne hne2 hne3 na nb nd h1 h2) rfl).imp fun D σ H q => ?_
  refine (par_then D σ H q).imp fun vs H1 ⟨ds, st1, α1, env, r1, hE, hS, ho⟩ => ?_
  split at ho
  · rename_i hlen
    rcases ds with _ | ⟨d, _ | ⟨e, _ | ⟨g, _ | ⟨g2, ds⟩⟩⟩⟩
    · cases hlen
    · cases hlen
    · cases hlen
    · obtain ⟨v, r, e1, q1, r2⟩ := r1
      obtain ⟨w, r', e2, q2, r3⟩ := r2
      obtain ⟨w3, r'', e3, q3, r4⟩ := r3
      have r4 : r'' = [] := r4
      subst r4 e3 e2
      exact ⟨v, w, w3, e1, ho _ H1 α1 Pre.refl Ext.refl (((hE.set i q1).set j q2).set l q3) hS⟩
    · cases hlen
  · exact ho.elim
theorem s_unp (C : Cxs c sc F W Φ k X) {ts : List Expr} {xs : List (Str × Pos)} {is : List Nat} {v : Expr} {i : Kp.X} {kt : Nat} {pt pos : Pos} (ht : ts.mapM nameP = some xs) (hi : xs.mapM (fun p => slotOwn c sc p.1) = some is) (he : PE X v (tE F W Φ i)) (hc : isComp v = false)
    (hsw : swappedStores [.Tuple ts kt pt] v X.env = pure none) : PS X (.Assign [.Tuple ts kt pt] v pos) (tSt F W Φ (.unp is i)) := by
  have hN : X.N.Nodup := by rw [C.hN]; exact C.nd
  have hl := mapM_len hi
  obtain ⟨g1, g2, g3⟩ := pgs_names (X := X) hN (es := ts) (xs := xs.map (·.1)) (is := is) (by rw [nameP_inv ht]; exact nameOf_map) (by rw [List.length_map]; exact hl) fun p hp => by
    rw [List.zip_map_left] at hp
    obtain ⟨q, hq, e⟩ := List.mem_map.mp hp
    subst e
    exact C.nm (mapM_mem hi q hq)
  refine (ps_asg he (pg_tup C.calm g1 g2 g3) (noCompS hc _ _ _) hsw rfl).imp fun D σ H q => ?_
  obtain ⟨env, st, α, hE, hS, ho⟩ := q
  simp only [evS] at ho
  refine (tM.then hE hS ho).imp fun v H1 ⟨r, st1, α1, a1, r1, ho⟩ => ?_
  split at ho
  · rename_i ys
    split at ho
    · rename_i hlen
      obtain ⟨a, vs, e, h1, z1, i1⟩ := r1
      refine ⟨a, vs, e, C.hF ▸ h1, by rw [← i1.length]; exact hlen, gNs_bind a1.E i1 hlen fun σ1 E1 _ => ho σ1 H1 α1 Pre.refl Ext.refl E1 a1.S⟩
    · exact ho.elim
  · exact ho.elim
/-- name = value -/
theorem s_asgE (C : Cxs c sc F W Φ k X) {x : Str} {i : Nat} {new : Bool} {v : Expr} {e : Kp.X} {px pos : Pos} (hx : slotOwn c sc x = some i) (hv : compE c sc v = some e) (hok : (okAsg sc x px v).isSome = true) : PS X (.Assign [.Name x px] v pos) (tSt F W Φ (.asg i new e)) := by
  have he := (sndE v c sc F W Φ k X C.toCxt e hv).1
  by_cases hc : isComp v = true
  · cases v <;> try (cases hc; done)
    · rename_i elt gens scope lpos
      simp only [okAsg] at hok
      split at hok
      · rename_i hk
        split at hok
        · rename_i hcnd
          rw [Bool.and_eq_true] at hcnd
          obtain ⟨n1, n2, n3⟩ := C.nm hx
          have hxl : X.env.scope.names.lookup x = some .local := by rw [C.sc]; exact hk
          -- the comprehension's parts
          have hg : ∃ tg iter ifs, gens = [⟨tg, iter, ifs, 0⟩] := by
            rcases gens with _ | ⟨⟨tg, iter, ifs, nn⟩, _ | ⟨g2, gs⟩⟩
            · simp only [compE] at hv; cases hv
            · by_cases z : nn = 0
              · exact ⟨tg, iter, ifs, by rw [z]⟩
              · exfalso
                rw [compE] at hv
                · cases hv
                all_goals (intros; simp_all)
            · simp only [compE] at hv; cases hv
          obtain ⟨tg, iter, ifs, eg⟩ := hg
          subst eg
          simp only [compE] at hv
          split at hv
          · rename_i t own ht
            split at hv
            · rename_i hb
              rw [Bool.and_eq_true] at hb
              split at hv
              · rename_i ik is fs xx hi hf hxx
                cases hv
                have L : LcOk C.toCxt tg iter elt ifs scope t own ik is fs xx := ⟨ht, hb.1, (i_any C.toCxt hi (fun i hi => (sndE iter c sc F W Φ k X C.toCxt i hi).1) (sndA iter c sc F W Φ k X C.toCxt)).1, (i_any (tg := tg) C.toCxt hi (fun i hi => (sndE iter c sc F W Φ k X C.toCxt i hi).1) (sndA iter c sc F W Φ k X C.toCxt)).2, fun X' C' => pts_of (of_decide_eq_true hb.2) (noStars_of hf).2 (sndF ifs c (relS scope sc) F NoW Φ k X' C' fs hf), fun X' C' => (sndE elt c (relS scope sc) F NoW Φ k X' C' xx hxx).1⟩
                have hsw : swapsWith (.ListComp elt [⟨tg, iter, ifs, 0⟩] scope lpos) (some (.Name x px)) pos.line X.env = pure true := sw_true C.fun_ hxl hcnd.1 (by simpa using hcnd.2)
                exact (ps_frz (s_asgLc (pos := lpos) (spos := pos) C.toCxt L n1 hxl hsw)).imp asg_imp
              · cases hv
            · cases hv
          · cases hv
        · cases hok
      · rename_i hk
        refine s_asg C hx he ?_
        have kx : X.env.kindOf x = some .cell := by show X.env.scope.names.lookup x = _; rw [C.sc]; exact hk
        have hz : (NameKind.cell == NameKind.local) = false := rfl
        unfold swapsWith
        simp only [kx]
        show pure (X.env.blockKind == ScopeKind.function && (NameKind.cell == NameKind.local) && _ && _) = pure false
        rw [hz]
        simp
      · cases hok
    · simp only [compE] at hv; cases hv
    · simp only [compE] at hv; cases hv
  · exact s_asg C hx he (noComp (by simpa using hc) _ _ _)
theorem sndP (C : Cxt c sc F W Φ k X) : ∀ {vs : List Expr} {es : List Kp.X} (bs : List Bool), compEs c sc vs = some es → bs.length = es.length → PA X vs (tP F W Φ (bs.zip es))
  | [], es, bs, h, hl => by
    simp only [compEs] at h
    cases h
    rw [List.zip_nil_right]
    exact p_nil
  | v :: vs, es, bs, h, hl => by
    simp only [compEs] at h
    split at h
    · rename_i x xs h1 h2
      cases h
      cases bs with
      | nil => cases hl
      | cons b bs =>
        rw [List.zip_cons_cons]
        exact p_cons (sndE v c sc F W Φ k X C x h1).1 (sndP C bs h2 (by simpa using hl)) (noStar_of h1)
    · cases h
theorem slotsM_inv {xs : List (Str × Pos)} {is : List Nat} (h : xs.mapM (fun p => slotOwn c sc p.1) = some is) : xs.length = is.length ∧ ∀ p ∈ xs.zip is, slotOwn c sc p.1.1 = some p.2 := ⟨mapM_len h, fun p hp => mapM_mem h p hp⟩
theorem parOk_two {x y : Str} {px py : Pos} {vs : List Expr} (h : parOk sc [(x, px), (y, py)] vs = true) : ∃ a b, vs = [a, b] ∧ (px.line == py.line) = true ∧ (x != y) = true ∧ isLocal sc x = true ∧ isLocal sc y = true ∧ vs.all (foldedForSure 8) = false ∧ vs.all (constantsAlone 8) = false := by
  simp only [parOk, Bool.and_eq_true, List.all_cons, List.all_nil, Bool.not_eq_true'] at h
  obtain ⟨⟨⟨⟨h1, h2⟩, h3⟩, h4⟩, h5⟩ := h
  have h5 : vs.length = 2 := by simpa using h5
  rcases vs with _ | ⟨a, _ | ⟨b, _ | ⟨d, vs⟩⟩⟩ <;> try (cases h5; done)
  exact ⟨a, b, rfl, h1.1, h1.2, h2.1, h2.2.1, h3, h4⟩
theorem parOk_three {x y z : Str} {px py pz : Pos} {vs : List Expr} (h : parOk sc [(x, px), (y, py), (z, pz)] vs = true) : ∃ a b d, vs = [a, b, d] ∧ (px.line == py.line) = true ∧ (px.line == pz.line) = true ∧ (x != y) = true ∧ (x != z) = true ∧ (y != z) = true ∧ isLocal sc x = true ∧ isLocal sc y = true ∧ isLocal sc z = true ∧
    vs.all (foldedForSure 8) = false ∧ vs.all (constantsAlone 8) = false := by
  simp only [parOk, Bool.and_eq_true, List.all_cons, List.all_nil, Bool.not_eq_true'] at h
  obtain ⟨⟨⟨⟨h1, h2⟩, h3⟩, h4⟩, h5⟩ := h
  have h5 : vs.length = 3 := by simpa using h5
  rcases vs with _ | ⟨a, _ | ⟨b, _ | ⟨d, _ | ⟨g, vs⟩⟩⟩⟩ <;> try (cases h5; done)
  exact ⟨a, b, d, rfl, h1.1.1.1.1, h1.1.1.1.2, h1.1.1.2, h1.1.2, h1.2, h2.1, h2.2.1, h2.2.2.1, h3, h4⟩
/-- a, b = x, y -/
theorem s_par (C : Cxs c sc F W Φ k X) {xs : List (Str × Pos)} {is : List Nat} {vs : List Expr} {es : List Kp.X} {bs : List Bool} {kt k2 : Nat} {pt pt2 pos : Pos} (hi : xs.mapM (fun p => slotOwn c sc p.1) = some is) (hv : compEs c sc vs = some es) (hok : parOk sc xs vs = true) (hb : bs.length = xs.length) :
    PS X (.Assign [.Tuple (xs.map fun p => .Name p.1 p.2) kt pt] (.Tuple vs k2 pt2) pos) (tSt F W Φ (.par is (bs.zip es))) := by
  obtain ⟨hl, hm⟩ := slotsM_inv hi
  obtain ⟨ns, nl⟩ := noStars_of hv
  rcases xs with _ | ⟨⟨x, px⟩, _ | ⟨⟨y, py⟩, _ | ⟨⟨z, pz⟩, _ | ⟨q, xs⟩⟩⟩⟩
  · exact absurd hok (by simp [parOk])
  · exact absurd hok (by simp [parOk])
  · obtain ⟨a, b, e, c1, c2, c3, c4, c5, c6⟩ := parOk_two hok
    subst e
    rcases is with _ | ⟨i, _ | ⟨j, _ | ⟨l, is⟩⟩⟩ <;> try (cases hl; done)
    rw [List.all_cons, List.all_cons, Bool.and_eq_true, Bool.and_eq_true] at ns
    exact s_par2 C (hm ((x, px), i) (by simp)) (hm ((y, py), j) (by simp)) c3 c4 c1 c2 ns.1 ns.2.1 c5 c6 (sndP C.toCxt bs hv (by rw [hb, ← nl]; rfl))
  · obtain ⟨a, b, d, e, c1, c2, c3, c4, c5, c6, c7, c8, c9, c10⟩ := parOk_three hok
    subst e
    rcases is with _ | ⟨i, _ | ⟨j, _ | ⟨l, _ | ⟨m, is⟩⟩⟩⟩ <;> try (cases hl; done)
    rw [List.all_cons, List.all_cons, List.all_cons, Bool.and_eq_true, Bool.and_eq_true, Bool.and_eq_true] at ns
    exact s_par3 C (hm ((x, px), i) (by simp)) (hm ((y, py), j) (by simp)) (hm ((z, pz), l) (by simp)) c6 c7 c8 c1 c2 c3 c4 c5 ns.1 ns.2.1 ns.2.2.1 c9 c10 (sndP C.toCxt bs hv (by rw [hb, ← nl]; rfl))
  · exact absurd hok (by simp [parOk])
/-- an assignment -/
theorem s_assignAny (C : Cxs c sc F W Φ k X) {ts : List Expr} {v : Expr} {pos : Pos} {i : S} (h : compS c sc (.Assign ts v pos) = some i) : PS X (.Assign ts v pos) (tSt F W Φ i) := by
  match ts, h with
  | [.Name x px], h =>
    simp only [compS] at h
    split at h
    · rename_i j e h1 h2
      split at h
      · rename_i hok
        cases h
        exact s_asgE C h1 h2 hok
      · cases h
    · cases h
  | [.Subscript o i p], h =>
    simp only [compS] at h
    split at h
    · cases h
    · rename_i hc
      split at h
      · rename_i x y z h1 h2 h3
        cases h
        exact s_setI C (sndE o c sc F W Φ k X C.toCxt x h1).1 (sndE i c sc F W Φ k X C.toCxt y h2).1 (sndE v c sc F W Φ k X C.toCxt z h3).1 (by cases i <;> first | rfl | (simp only [compE] at h2; cases h2)) (noCompS (by simpa using hc) _ _ _) swapSub
      · cases h
  | [.Tuple ts kt pt], h =>
    simp only [compS] at h
    split at h
    · rename_i xs hx
      split at h
      · rename_i is hi
        split at h
        · rename_i vs k2 pt2
          split at h
          · rename_i hok
            obtain ⟨es, e1, e2⟩ := opt_map h
            subst e2
            rw [nameP_inv hx]
            exact s_par C hi e1 hok (by rw [List.length_map])
          · split at h
            · rename_i hf
              obtain ⟨e, e1, e2⟩ := opt_map h
              subst e2
              exact s_unp C hx hi (sndE _ c sc F W Φ k X C.toCxt e e1).1 rfl (swapF hf)
            · cases h
        · rename_i v' hnt
          split at h
          · cases h
          · rename_i hc
            obtain ⟨e, e1, e2⟩ := opt_map h
            subst e2
            refine s_unp C hx hi (sndE _ c sc F W Φ k X C.toCxt e e1).1 (by simpa using hc) (swapN ?_)
            cases v <;> first | rfl | (exfalso; exact hnt _ _ _ rfl)
      · cases h
    · cases h
  | [], h => simp only [compS] at h; cases h
  | t :: t2 :: ts, h => cases t <;> exact absurd (show none = some i from h) (by simp)
  | [.BoolOp ..], h => simp only [compS] at h; cases h
  | [.NamedExpr ..], h => simp only [compS] at h; cases h
  | [.BinOp ..], h => simp only [compS] at h; cases h
  | [.UnaryOp ..], h => simp only [compS] at h; cases h
  | [.Lambda ..], h => simp only [compS] at h; cases h
  | [.IfExp ..], h => simp only [compS] at h; cases h
  | [.Dict ..], h => simp only [compS] at h; cases h
  | [.Set ..], h => simp only [compS] at h; cases h
  | [.ListComp ..], h => simp only [compS] at h; cases h
  | [.SetComp ..], h => simp only [compS] at h; cases h
  | [.DictComp ..], h => simp only [compS] at h; cases h
  | [.GeneratorExp ..], h => simp only [compS] at h; cases h
  | [.Await ..], h => simp only [compS] at h; cases h
  | [.Yield ..], h => simp only [compS] at h; cases h
  | [.YieldFrom ..], h => simp only [compS] at h; cases h
  | [.Compare ..], h => simp only [compS] at h; cases h
  | [.Call ..], h => simp only [compS] at h; cases h
  | [.FormattedValue ..], h => simp only [compS] at h; cases h
  | [.JoinedStr ..], h => simp only [compS] at h; cases h
  | [.Constant ..], h => simp only [compS] at h; cases h
  | [.Attribute ..], h => simp only [compS] at h; cases h
  | [.Starred ..], h => simp only [compS] at h; cases h
  | [.List ..], h => simp only [compS] at h; cases h
  | [.Slice ..], h => simp only [compS] at h; cases h
/-- a value dropped -/
theorem s_exprAny (C : Cxs c sc F W Φ k X) {e : Expr} {pos : Pos} {i : S} (h : compS c sc (.Expr e pos) = some i) : PS X (.Expr e pos) (tSt F W Φ i) := by
  by_cases hd : ∃ x j p, e = .Constant (.str x) j p
  · obtain ⟨x, j, p, e1⟩ := hd
    subst e1
    simp only [compS] at h
    cases h
    exact s_pass ps_doc
  · rw [compS] at h
    · split at h
      · cases h
      · rename_i hc
        obtain ⟨y, e1, e2⟩ := opt_map h
        subst e2
        exact s_expr (sndE e c sc F W Φ k X C.toCxt y e1).1 (noComp (by simpa using hc) _ _ _)
    · intro x j p e1
      exact hd ⟨x, j, p, e1⟩
end

mutual
theorem sndS (s : Stmt) (c : Cfg) (sc : Scope) (F : Fx) (W : WX) (Φ : Nat → List D → Sto → R Rv) (k : Nat) (X : Cx) (C : Cxs c sc F W Φ k X) (i : S) (h : compS c sc s = some i) : PS X s (tSt F W Φ i) := by
  match s, h with
  | .Assign ts v pos, h => exact s_assignAny C h
  | .Return (some e) pos, h =>
    simp only [compS] at h
    obtain ⟨x, e1, e2⟩ := opt_map h
    subst e2
    exact s_ret (sndE e c sc F W Φ k X C.toCxt x e1).1
  | .Return none pos, h =>
    simp only [compS] at h
    cases h
    exact s_retN
  | .If t a b pos, h =>
    simp only [compS] at h
    split at h
    · rename_i x y z h1 h2 h3
      cases h
      exact s_if (sndE t c sc F W Φ k X C.toCxt x h1).2 (sndSs a c sc F W Φ k X C y h2) (sndSs b c sc F W Φ k X C z h3)
    · cases h
  | .For tg iter body [] pos, h =>
    simp only [compS] at h
    split at h
    · rename_i t own ik is ss h1 h2 h3
      cases h
      have hI := i_any (tg := tg) C.toCxt h2 (fun i hi => (sndE iter c sc F W Φ k X C.toCxt i hi).1) (sndA iter c sc F W Φ k X C.toCxt)
      exact s_for C h1 hI.1 (sndSs body c sc F W Φ k X C ss h3) hI.2
    · cases h
  | .Pass pos, h =>
    simp only [compS] at h
    cases h
    exact s_pass ps_pass
  | .Expr e pos, h => exact s_exprAny C h
  | .FunctionDef .., h => simp only [compS] at h; cases h
  | .AsyncFunctionDef .., h => simp only [compS] at h; cases h
  | .ClassDef .., h => simp only [compS] at h; cases h
  | .Delete .., h => simp only [compS] at h; cases h
  | .TypeAlias .., h => simp only [compS] at h; cases h
  | .AugAssign .., h => simp only [compS] at h; cases h
  | .AnnAssign .., h => simp only [compS] at h; cases h
  | .AsyncFor .., h => simp only [compS] at h; cases h
  | .While .., h => simp only [compS] at h; cases h
  | .With .., h => simp only [compS] at h; cases h
  | .AsyncWith .., h => simp only [compS] at h; cases h
  | .Match .., h => simp only [compS] at h; cases h
  | .Raise .., h => simp only [compS] at h; cases h
  | .Try .., h => simp only [compS] at h; cases h
  | .TryStar .., h => simp only [compS] at h; cases h
  | .Assert .., h => simp only [compS] at h; cases h
  | .Import .., h => simp only [compS] at h; cases h
  | .ImportFrom .., h => simp only [compS] at h; cases h
  | .Global .., h => simp only [compS] at h; cases h
  | .Nonlocal .., h => simp only [compS] at h; cases h
  | .Break .., h => simp only [compS] at h; cases h
  | .Continue .., h => simp only [compS] at h; cases h
  | .For tg iter body (o :: os) pos, h => simp only [compS] at h; cases h
termination_by structural s
theorem sndSs (ss : List Stmt) (c : Cfg) (sc : Scope) (F : Fx) (W : WX) (Φ : Nat → List D → Sto → R Rv) (k : Nat) (X : Cx) (C : Cxs c sc F W Φ k X) (is : List S) (h : compSs c sc ss = some is) : PSs X ss (tSts F W Φ is) := by
  match ss, h with
  | [], h =>
    simp only [compSs] at h
    cases h
    exact ss_nil
  | s :: ss, h =>
    simp only [compSs] at h
    split at h
    · rename_i x xs h1 h2
      cases h
      exact ss_cons (sndS s c sc F W Φ k X C x h1) (sndSs ss c sc F W Φ k X C xs h2)
    · cases h
termination_by structural ss
end
end Kp

/-! Kp, part 13: defs, the law's end. -/
namespace Kp
open PySem PySem.Spec PyProof.Rows L2

def truncR (n m : Nat) (st : Sto) : R Rv :=
  match st[m]? with
  | some (.lst xs) => .ok (.nl xs) (st.take n)
  | some (.dct kvs) => .ok (.nd kvs) (st.take n)
  | _ => .bad
theorem Pre.app {α α' : List Addr} (h : Pre α α') : ∃ β, α' = α ++ β := h
/-- what a body comes to, as the call's result -/
theorem fin_out {F : Fx} {W : WX} {α : List Addr} {H : Hp} {Q : VK} {m : SR} {σ : L2.St} (hW : ∀ c d σ σ' H, W c d σ H → W c d σ' H) (ho : Out F W (RvR F.K) σ α H (fin α.length m) Q) : OutS F W α H m { nx := fun _ H' => Q .non H', rt := Q } := by
  cases m with
  | bad => exact ho
  | nx env st =>
    intro σ' H' α' p x hE hS
    obtain ⟨β, rfl⟩ := p
    exact ho .non H' α Pre.refl x hS.take rfl
  | exc c fs env st =>
    intro d σ' H' α' p x hE hS hx
    obtain ⟨β, rfl⟩ := p
    exact hW _ _ _ _ _ (ho d H' α Pre.refl x hS.take hx)
  | rt r st =>
    intro v H' α' p x hS hr
    obtain ⟨β, rfl⟩ := p
    have ho : Out F W (RvR F.K) σ α H (trunc α.length r st) Q := ho
    cases r with
    | nd kvs => exact hr.elim
    | nl xs =>
      obtain ⟨a, vs, e, h1, h2, h3, h4⟩ := hr
      exact ho v H' α Pre.refl x hS.take ⟨a, vs, e, h1, h2, h3, fun z => h4 (List.mem_append_left _ z)⟩
    | im d =>
      cases d with
      | py p => exact ho v H' α Pre.refl x hS.take hr
      | ref n =>
        obtain ⟨a, h1, h2⟩ := hr
        by_cases hn : n < α.length
        · have e : trunc α.length (.im (.ref n)) st = .ok (.im (.ref n)) (st.take α.length) := by simp only [trunc]; rw [if_pos hn]
          rw [e] at ho
          exact ho v H' α Pre.refl x hS.take ⟨a, by rw [List.getElem?_append_left hn] at h1; exact h1, h2⟩
        · have e : trunc α.length (.im (.ref n)) st = truncR α.length n st := by simp only [trunc]; rw [if_neg hn]; rfl
          rw [e] at ho
          unfold truncR at ho
          cases eo : st[n]? with
          | none => rw [eo] at ho; exact ho.elim
          | some ob =>
            rw [eo] at ho
            have q := hS.ob n ob a eo h1
            cases ob with
            | dead => exact (show False from ho).elim
            | dct _ => exact q.elim
            | lst xs =>
              obtain ⟨vs, q1, q2, q3⟩ := q
              refine ho v H' α Pre.refl x hS.take ⟨a, vs, h2, q1, q2, q3, fun z => ?_⟩
              rw [List.getElem?_append_right (by omega)] at h1
              exact (List.nodup_append.mp hS.nd).2.2 a z a (List.mem_of_getElem? h1) rfl

/-- a def of the module: its compiled form -/
def DefOk (K : PySem.W.Frag) (mg : Str → Option Value) (G : Str → Option G) (fs : List Fn) (x : Str) (j : Nat) : Prop :=
  ∃ (f : Addr) (fd : FuncData) (nm qual : Str) (params : Arguments) (body : List Stmt) (scope : Scope) (N ps : List Str) (new : Str → Bool) (ss : List S), mg x = some (.ref f) ∧ FunD K nm qual params body scope [] [] f fd ∧ FnScope N ps scope ∧ Binds K fd ps [] ∧
    compSs ⟨G, N, new⟩ scope body = some ss ∧ fs[j]? = some ⟨ps.length, N.length, ss⟩
section
variable {P : Program} {w : World} {K : PySem.W.Frag} {mg : Str → Option Value} {base : Heap} {G : Str → Option G} {fs : List Fn} {F : Fx}
theorem start_rel {α : List Addr} {H : Hp} {ds : List D} {vs : List V} {N : List Str} {np : Nat} (h : DRs F.K α H ds vs) (hl : vs.length = np) : EvR F.K α H (ds.map some ++ List.replicate (N.length - np) none) (L2.start N vs) := by
  have hl' : ds.length = np := by rw [h.length]; exact hl
  unfold L2.start
  rw [hl]
  refine ⟨by simp [hl, hl'], fun i d q => ?_⟩
  have get : ∀ {ds : List D} {vs : List V} {i : Nat} {d : D}, DRs F.K α H ds vs → ds[i]? = some d → ∃ v, vs[i]? = some v ∧ DR F.K α H d v := by
    intro ds
    induction ds with
    | nil => intro vs i d _ e; simp at e
    | cons d0 ds ih =>
      intro vs i d hd e
      obtain ⟨v, r, e1, h1, h2⟩ := hd
      subst e1
      cases i with
      | zero =>
        have e : d0 = d := by simpa using e
        subst e
        exact ⟨v, rfl, h1⟩
      | succ i =>
        obtain ⟨u, q1, q2⟩ := ih h2 (by simpa using e)
        exact ⟨u, by simpa using q1, q2⟩
  by_cases hi : i < ds.length
  · rw [List.getElem?_append_left (by simpa using hi), List.getElem?_map] at q
    cases e : ds[i]? with
    | none => rw [e] at q; cases q
    | some d' =>
      rw [e] at q
      have q : d' = d := by simpa using q
      subst q
      obtain ⟨v, q1, q2⟩ := get h e
      refine ⟨v, ?_, q2⟩
      rw [List.getElem?_append_left (by rw [List.length_map, hl, ← hl']; exact hi), List.getElem?_map, q1]
      rfl
  · rw [List.getElem?_append_right (by rw [List.length_map]; omega), List.getElem?_replicate] at q
    split at q <;> cases q
theorem def_fn (hF : F.K = K) {k : Nat} {j : Nat} (hG : ∀ x g, G x = some g → GlobOk P w K mg base F (evFn fs k) k x g) {f : Addr} {fd : FuncData} {nm qual : Str} {params : Arguments} {body : List Stmt} {scope : Scope} {N ps : List Str} {new : Str → Bool} {ss : List S}
    (hD : FunD K nm qual params body scope [] [] f fd) (hS : FnScope N ps scope) (hC : compSs ⟨G, N, new⟩ scope body = some ss) (hj : fs[j]? = some ⟨ps.length, N.length, ss⟩) : FnOk P w K mg base (L2.CX P w) (k + 1) f fd ps (spFn F (evFn fs (k + 1)) j ps.length) := by
  refine hD.ok hS (fun vs H Q E h => ?_) fun cdv A outer s H vs Q E hr h => ⟨tSts F (fun c d _ H' => E c d H') (evFn fs k) ss, ?_, ?_⟩
  · obtain ⟨ds, st, α, h1, _⟩ := h
    exact h1
  · refine sndSs body ⟨G, N, new⟩ scope F _ (evFn fs k) k _ ⟨⟨hF, rfl, hS.nd, rfl, rfl, ?_, hr, takes_of rfl rfl rfl rfl, hG⟩, fun _ => rfl, passes_of rfl, hS.kind⟩ ss hC
    have := hr.un
    show (A.deeper (envOfC qual scope s.heap.objs.size f cdv)).units + 150 < cLine
    omega
  · obtain ⟨ds, st, α, h1, h2, h3, ho⟩ := h
    refine ⟨ds.map some ++ List.replicate (N.length - ps.length) none, st, α, start_rel h2 h1, h3, ?_⟩
    refine fin_out (σ := []) (fun _ _ _ _ _ h => h) ?_
    have hl : ds.length = ps.length := by rw [h2.length]; exact h1
    have e : evFn fs (k + 1) j ds st = fin st.length (evSs (evFn fs k) ss (ds.map some ++ List.replicate (N.length - ps.length) none) st) := by
      show (match fs[j]? with
        | some f => if ds.length = f.np then fin st.length (evSs (evFn fs k) f.body (ds.map some ++ List.replicate (f.ns - f.np) none) st) else .bad
        | none => .bad) = _
      rw [hj]
      simp only []
      rw [if_pos hl]
    rw [e, ← h3.len] at ho
    exact ho
theorem def_ok (hF : F.K = K) {k : Nat} {x : Str} {j : Nat} (hG : ∀ x g, G x = some g → GlobOk P w K mg base F (evFn fs k) k x g) (h : DefOk K mg G fs x j) : GlobOk P w K mg base F (evFn fs (k + 1)) (k + 1) x (.fn j) := by
  obtain ⟨f, fd, nm, qual, params, body, scope, N, ps, new, ss, hm, hD, hS, hB, hC, hj⟩ := h
  have hbad : ∀ ds st, ds.length ≠ ps.length → evFn fs (k + 1) j ds st = .bad := fun ds st hne => by
    unfold evFn
    simp only [hj]
    rw [if_neg hne]
  exact ⟨f, fd, ps, hm, hD.kp, hB, def_fn hF hG hD hS hC hj, hbad⟩
theorem def_zero {x : Str} {j : Nat} (h : DefOk K mg G fs x j) : GlobOk P w K mg base F (evFn fs 0) 0 x (.fn j) := by
  obtain ⟨f, fd, nm, qual, params, body, scope, N, ps, new, ss, hm, hD, hS, hB, hC, hj⟩ := h
  refine ⟨f, fd, ps, hm, hD.kp, hB, ⟨fun vs H Q E h => ?_, fun A outer s H args us vs Q E hr e0 hb r h => ?_⟩, fun ds st _ => rfl⟩
  · obtain ⟨ds, st, α, h1, _⟩ := h
    exact h1
  · obtain ⟨ds, st, α, h1, h2, h3, ho⟩ := h
    exact (show False from ho).elim
/-- a global that is no def -/
def NoFn : Kp.G → Prop
  | .fn _ => False
  | _ => True
theorem glob_mono {Φ Φ' : Nat → List D → Sto → R Rv} {k k' : Nat} {x : Str} {g : Kp.G} (hn : NoFn g) (h : GlobOk P w K mg base F Φ k x g) : GlobOk P w K mg base F Φ' k' x g := by
  cases g with
  | fn j => exact hn.elim
  | con p => exact h
  | blt b => exact h
  | ty t => exact h
  | isi => exact h
  | range => exact h
  | set => exact h
theorem glob_all (hF : F.K = K) (hd : ∀ x j, G x = some (.fn j) → DefOk K mg G fs x j) (ho : ∀ x g, G x = some g → NoFn g → GlobOk P w K mg base F (evFn fs 0) 0 x g) : ∀ k x g, G x = some g → GlobOk P w K mg base F (evFn fs k) k x g
  | 0, x, g, e => by
    cases g with
    | fn j => exact def_zero (hd x j e)
    | _ => exact ho x _ e trivial
  | k + 1, x, g, e => by
    cases g with
    | fn j => exact def_ok hF (glob_all hF hd ho k) (hd x j e)
    | _ => exact glob_mono trivial (ho x _ e trivial)
/-- the law's def, asked with a list of ints -/
theorem law_sp (hF : F.K = K) {k j : Nat} {H : Hp} {a : Addr} {ns : List Int} (hl : ns.length ≤ 63) (hS : SqL K H a (ns.map V.int))
    (hv : ∀ d st, (d = .py (.list (ns.map .int)) ∧ st = []) ∨ (d = .ref 0 ∧ st = [.lst (ns.map .int)]) → ∃ st', evFn fs k j [d] st = .ok (imp (.bool true)) st') :
    spFn F (evFn fs k) j 1 [.ref a] H (fun v _ => v = .bl true) fun _ _ _ => False := by
  have im : ∀ ns : List Int, ImAll F.K H (ns.map .int) (ns.map V.int) := by
    intro ns
    induction ns with
    | nil => exact ImAll.nil
    | cons n ns ih => exact ImAll.cons rfl ih
  have hz : (ns.map V.int).length ≤ sizeLine := by
    rw [List.length_map, sizeLine_eq]; omega
  have out : ∀ d st α, (d = .py (.list (ns.map .int)) ∧ st = []) ∨ (d = .ref 0 ∧ st = [.lst (ns.map .int)]) → Out F (fun c d _ H' => False) (RvR F.K) [] α H (evFn fs k j [d] st) (fun v _ => v = .bl true) := fun d st α hd => by
    obtain ⟨st', e⟩ := hv d st hd
    rw [e]
    intro v H' α' p x S r
    exact r
  have fz : FzL K H a (ns.map V.int) → spFn F (evFn fs k) j 1 [.ref a] H (fun v _ => v = .bl true) fun _ _ _ => False := fun h => by
    refine ⟨[.py (.list (ns.map .int))], [], [], rfl, ⟨.ref a, [], rfl, ⟨a, _, rfl, hF ▸ h, hz, im ns⟩, rfl⟩, ⟨rfl, by simp, fun n o b q => by simp at q⟩, out _ _ _ (.inl ⟨rfl, rfl⟩)⟩
  rcases hS with (h | ⟨o, h⟩) | h
  · refine ⟨[.ref 0], [.lst (ns.map .int)], [a], rfl, ⟨.ref a, [], rfl, ⟨a, rfl, rfl⟩, rfl⟩, ⟨rfl, by simp, fun n o b q1 q2 => ?_⟩, out _ _ _ (.inr ⟨rfl, rfl⟩)⟩
    cases n with
    | zero =>
      have e1 : Ob.lst (ns.map .int) = o := by simpa using q1
      have e2 : a = b := by simpa using q2
      subst e1 e2
      exact ⟨_, h, hz, im ns⟩
    | succ n => simp at q1
  · exact fz (.inl ⟨o, h⟩)
  · exact fz (.inr h)
end
end Kp

/-! Kp, part 14: the head's facts: defs, constants that are plain data. -/
namespace Kp
open PySem PySem.Spec PyProof.Rows L2

mutual
/-- the value in the module's own objects is this data -/
def imB (K : PySem.W.Frag) : P → Value → Bool
  | .none, .none => true
  | .bool b, .bool c => b == c
  | .int i, .int j _ => decide (i = j)
  | .str x, .str y _ => decide (x = y)
  | .list ps, .ref a => (match K.lookup a with
    | some ⟨.type c, none, .seq its _, _⟩ => decide (c = "list") && (decide (its.size ≤ sizeLine) && imBs K ps its.toList)
    | _ => false)
  | .tuple ps, .ref a => (match K.lookup a with
    | some ⟨.type c, _, .seq its _, _⟩ => decide (c = "tuple") && (decide (its.size ≤ sizeLine) && imBs K ps its.toList)
    | _ => false)
  | _, _ => false
def imBs (K : PySem.W.Frag) : List P → List Value → Bool
  | [], us => us.isEmpty
  | p :: ps, us => match us with
    | u :: us => imB K p u && imBs K ps us
    | [] => false
end
mutual
theorem imB_ok {K : PySem.W.Frag} : ∀ (p : P) (u : Value), imB K p u = true → ∃ v, RelV v u ∧ ∀ H, Im K H p v
  | .none, u, h => by
    cases u <;> first | exact ⟨.non, rfl, fun H => rfl⟩ | (simp only [imB] at h; cases h)
  | .bool b, u, h => by
    cases u <;> first | (simp only [imB] at h; cases h; done) | skip
    rename_i c
    simp only [imB] at h
    have e : b = c := eq_of_beq h
    subst e
    exact ⟨.bl b, rfl, fun H => rfl⟩
  | .int i, u, h => by
    cases u <;> first | (simp only [imB] at h; cases h; done) | skip
    rename_i j t
    simp only [imB] at h
    have e : i = j := of_decide_eq_true h
    subst e
    exact ⟨.int i, ⟨t, rfl⟩, fun H => rfl⟩
  | .str x, u, h => by
    cases u <;> first | (simp only [imB] at h; cases h; done) | skip
    rename_i y t
    simp only [imB] at h
    have e : x = y := of_decide_eq_true h
    subst e
    exact ⟨.str x, ⟨t, rfl⟩, fun H => rfl⟩
  | .list ps, u, h => by
    cases u <;> first | (simp only [imB] at h; cases h; done) | skip
    rename_i a
    simp only [imB] at h
    split at h
    · rename_i c its n sl e
      rw [Bool.and_eq_true, Bool.and_eq_true] at h
      obtain ⟨h1, h2, h3⟩ := h
      obtain ⟨vs, r, i⟩ := imBs_ok ps its.toList h3
      have h2 := of_decide_eq_true h2
      have hl := r.length
      refine ⟨.ref a, rfl, fun H => ⟨a, vs, rfl, .inr ⟨_, its, n, e, by rw [of_decide_eq_true h1], rfl, rfl, h2, r⟩, ?_, i H⟩⟩
      rw [hl]; simpa using h2
    · cases h
  | .tuple ps, u, h => by
    cases u <;> first | (simp only [imB] at h; cases h; done) | skip
    rename_i a
    simp only [imB] at h
    split at h
    · rename_i c od its n sl e
      rw [Bool.and_eq_true, Bool.and_eq_true] at h
      obtain ⟨h1, h2, h3⟩ := h
      obtain ⟨vs, r, i⟩ := imBs_ok ps its.toList h3
      have h2 := of_decide_eq_true h2
      have hl := r.length
      refine ⟨.ref a, rfl, fun H => ⟨a, vs, rfl, .inr ⟨_, its, n, e, by rw [of_decide_eq_true h1], rfl, h2, r⟩, ?_, i H⟩⟩
      rw [hl]; simpa using h2
    · cases h
  | .dict kvs, u, h => by
    cases u <;> (simp only [imB] at h; cases h)
theorem imBs_ok {K : PySem.W.Frag} : ∀ (ps : List P) (us : List Value), imBs K ps us = true → ∃ vs, Vals vs us ∧ ∀ H, ImAll K H ps vs
  | [], us, h => by
    simp only [imBs] at h
    have e : us = [] := List.isEmpty_iff.mp h
    subst e
    exact ⟨[], .nil, fun H => ImAll.nil⟩
  | p :: ps, us, h => by
    cases us with
    | nil => simp only [imBs] at h; cases h
    | cons u us =>
      simp only [imBs] at h
      rw [Bool.and_eq_true] at h
      obtain ⟨v, r1, i1⟩ := imB_ok p u h.1
      obtain ⟨vs, r2, i2⟩ := imBs_ok ps us h.2
      exact ⟨v :: vs, .cons r1 r2, fun H => ImAll.cons (i1 H) (i2 H)⟩
end
/-- the module's constants -/
def consB (cs : List (Str × P)) (K : PySem.W.Frag) : Bool := cs.all fun q => match PySem.W.nsIn K mainGlobals q.1 with
  | some (some u) => imB K q.2 u
  | _ => false
theorem consB_ok {cs : List (Str × P)} {K : PySem.W.Frag} {h : Heap} {mg : Str → Option Value} (X : K.In h) (N : h.Ns mainGlobals mg) (c : consB cs K = true) {x : Str} {p : P} (hx : (x, p) ∈ cs) : ∃ u v, mg x = some u ∧ RelV v u ∧ ∀ H, Im K H p v := by
  have q := List.all_eq_true.mp c (x, p) hx
  simp only [] at q
  split at q
  · rename_i u e
    obtain ⟨v, r, i⟩ := imB_ok p u q
    exact ⟨u, v, PySem.W.mg_of X N e, r, i⟩
  · cases q

/-! ### the Hook: defs, facts, constants -/
abbrev AlC : Type := He.AlD × Bool
def obsC (fa : List He.Fa) (fn : List He.DefD) (cs : List (Str × P)) (K : PySem.W.Frag) : AlC := (He.obsD fa fn K, consB cs K)
def valC (fn : List He.DefD) : AlC := (He.valD fn, true)
def obsCG (n : Nat) (fa : List He.Fa) (fn : List He.DefD) (cs : List (Str × P)) (g : Addr → Option Obj) : AlC := obsC fa fn cs (He.frG g (He.asD g n))
def SaysC (fa : List He.Fa) (fn : List He.DefD) (cs : List (Str × P)) (K : PySem.W.Frag) : Prop := obsC fa fn cs K = valC fn
def hookC (n : Nat) (fa : List He.Fa) (fn : List He.DefD) (cs : List (Str × P)) : PySem.W.Hook where
  α := AlC
  obs := fun s => obsCG n fa fn cs s.heap.get?
  val := fun _ => valC fn
  says := fun _ h => ∃ K : PySem.W.Frag, K.In h ∧ SaysC fa fn cs K
  of := fun _ _ e => ⟨_, He.frG_in, e⟩
  keeps := fun _ _ _ ⟨K, hK, c⟩ k => ⟨K, PySem.W.Frag.In.keeps hK k, c⟩
theorem obsCG_eq {n : Nat} {fa : List He.Fa} {fn : List He.DefD} {cs : List (Str × P)} {g : Addr → Option Obj} {s : Shared} (h : ∀ a, g a = s.heap.get? a) : obsCG n fa fn cs g = (hookC n fa fn cs).obs s := by
  have e : g = s.heap.get? := funext h
  rw [e] <;> rfl
theorem SaysC.d {fa : List He.Fa} {fn : List He.DefD} {cs : List (Str × P)} {K : PySem.W.Frag} (c : SaysC fa fn cs K) : He.SaysD fa fn K := congrArg (fun z : AlC => z.1) c
theorem SaysC.c {fa : List He.Fa} {fn : List He.DefD} {cs : List (Str × P)} {K : PySem.W.Frag} (c : SaysC fa fn cs K) : consB cs K = true := congrArg (fun z : AlC => z.2) c

/-! ### the table of globals -/
/-- a compiled def: where it stands in the text, its names (parameters first), the number of its parameters, the names that change a list, its body -/
structure Dfn where
  st : Stmt
  N : List Str
  np : Nat
  new : List Str
  body : List S
def Dfn.fn (d : Dfn) : Fn := ⟨d.np, d.N.length, d.body⟩
def Dfn.params (d : Dfn) : Arguments := match d.st with
  | .FunctionDef _ a .. => a
  | _ => ⟨[], [], none, [], [], none, []⟩
def Dfn.stmts (d : Dfn) : List Stmt := match d.st with
  | .FunctionDef _ _ b .. => b
  | _ => []
def Dfn.scope (d : Dfn) : Scope := match d.st with
  | .FunctionDef _ _ _ _ _ _ sc .. => sc
  | _ => ⟨.function, [], false, false, []⟩
def Dfn.name (d : Dfn) : Str := match d.st with
  | .FunctionDef n .. => n
  | _ => Str.empty
def Dfn.dd (d : Dfn) : He.DefD := ⟨(d.name, none), d.name, d.name, d.params, d.stmts, d.scope, [], []⟩
def memNew (l : List Str) (x : Str) : Bool := l.contains x
/-- the globals: defs by place, constants, built-ins -/
def gTab (ds : List Str) (cs : List (Str × P)) (bs : List (Str × Kp.G)) (x : Str) : Option Kp.G :=
  match ds.idxOf? x with
  | some j => some (.fn j)
  | none => match cs.lookup x with
    | some p => some (.con p)
    | none => bs.lookup x
/-- the built-ins that are known -/
def bltTab : List (Str × Kp.G) := [("len", .blt .len), ("all", .blt .all), ("any", .blt .any), ("max", .blt .max), ("min", .blt .min), ("isinstance", .isi), ("range", .range), ("str", .ty .str), ("tuple", .ty .tup), ("bool", .ty .bool), ("list", .ty .list), ("int", .ty .int)]
def scopeB (N ps : List Str) (sc : Scope) : Bool :=
  (match sc.kind with | .function => true | _ => false) && !sc.isCoroutine && !sc.isGenerator && decide N.Nodup && decide (N.take ps.length = ps) &&
    ps.all (fun x => match sc.names.lookup x with | some .local => true | some .cell => true | _ => false) && sc.names.all (fun y => match y.2 with | .free => false | _ => true)
theorem scopeB_ok {N ps : List Str} {sc : Scope} (h : scopeB N ps sc = true) : FnScope N ps sc := by
  unfold scopeB at h
  simp only [Bool.and_eq_true, Bool.not_eq_true', List.all_eq_true, decide_eq_true_eq] at h
  obtain ⟨⟨⟨⟨⟨⟨h1, h2⟩, h3⟩, h4⟩, h5⟩, h6⟩, h7⟩ := h
  refine ⟨?_, h2, h3, h4, h5, fun x hx => ?_, fun y hy e => ?_⟩
  · split at h1
    · assumption
    · cases h1
  · have q := h6 x hx
    split at q
    · exact .inl (by assumption)
    · exact .inr (by assumption)
    · cases q
  · have q := h7 y hy
    rw [e] at q
    cases q
/-- only positional parameters -/
def plainArgs (a : Arguments) : Bool := a.posonlyargs.isEmpty && a.vararg.isNone && a.kwonlyargs.isEmpty && a.kwarg.isNone && a.defaults.isEmpty
theorem idxOf_none {x : Str} : ∀ {l : List Str}, l.idxOf? x = none → x ∉ l := by
  intro l h hx
  rw [List.idxOf?_eq_none_iff] at h
  exact h hx
structure DfnOk (G : Str → Option Kp.G) (d : Dfn) : Prop where
  comp : compSs ⟨G, d.N, memNew d.new⟩ d.scope d.stmts = some d.body
  sc : FnScope d.N (d.N.take d.np) d.scope
  np : d.np ≤ d.N.length
  bnd : ∀ (kV doc pm : Value) (an : Option Addr) (cdv ct : Value) (us : List Value), us.length = (d.N.take d.np).length → bindArgs (PySem.W.fnOf d.name d.name d.params d.stmts d.scope .none kV doc pm an cdv ct) ⟨us, []⟩ = pure ((d.N.take d.np).zip us)
theorem lookup_mem {α : Type} {x : Str} {p : α} : ∀ {l : List (Str × α)}, l.lookup x = some p → (x, p) ∈ l
  | [], h => by cases h
  | (k, v) :: r, h => by
    rw [List.lookup_cons] at h
    cases hb : x == k with
    | true =>
      rw [hb] at h
      have e : x = k := eq_of_beq hb
      subst e
      cases h
      exact List.mem_cons_self
    | false =>
      rw [hb] at h
      exact List.mem_cons_of_mem _ (lookup_mem h)
/-- built-ins: what they are at the boot -/
def BootOk (x : Str) : Kp.G → Prop
  | .blt b => bootBuiltins x = some (bltV b)
  | .ty t => bootBuiltins x = some (.type (tyName t))
  | .isi => bootBuiltins x = some (.builtin "isinstance")
  | .range => x = ("range" : Str)
  | .set => x = ("set" : Str)
  | _ => False
theorem boot_tab : ∀ q ∈ bltTab, BootOk q.1 q.2 := by
  intro q hq
  simp only [bltTab, List.mem_cons, List.not_mem_nil, or_false] at hq
  rcases hq with rfl | rfl | rfl | rfl | rfl | rfl | rfl | rfl | rfl | rfl | rfl | rfl
  · exact boot_len
  · exact boot_all
  · exact boot_any
  · exact boot_max
  · exact boot_min
  · exact boot_isinstance
  · exact rfl
  · exact boot_str
  · exact boot_tuple
  · exact boot_bool
  · exact boot_list
  · exact boot_int
def factsOf (names : List Str) : List He.Fa := names.map He.Fa.glo ++ bltTab.map fun q => He.Fa.free q.1
section
variable {Pg : Program} {w : World} {K : PySem.W.Frag} {mg : Str → Option Value} {h : Heap} {ds : List Dfn} {names : List Str} {cs : List (Str × P)}
theorem blt_noFn : ∀ q ∈ bltTab, NoFn q.2 := by
  intro q hq
  simp only [bltTab, List.mem_cons, List.not_mem_nil, or_false] at hq
  rcases hq with rfl | rfl | rfl | rfl | rfl | rfl | rfl | rfl | rfl | rfl | rfl | rfl <;> trivial
theorem gTab_fn {x : Str} {j : Nat} {bs : List (Str × Kp.G)} (hb : ∀ q ∈ bs, NoFn q.2) (e : gTab names cs bs x = some (.fn j)) : names[j]? = some x := by
  unfold gTab at e
  split at e
  · rename_i i hi
    cases e
    exact idxOf_get hi
  · split at e
    · cases e
    · have q := hb _ (lookup_mem e)
      exact q.elim
theorem tab_def (X : K.In h) (N : h.Ns mainGlobals mg) (c : SaysC (factsOf names) (ds.map Dfn.dd) cs K) (hn : ds.map Dfn.name = names) (hd : ∀ d ∈ ds, DfnOk (gTab names cs bltTab) d) :
    ∀ x j, gTab names cs bltTab x = some (.fn j) → DefOk K mg (gTab names cs bltTab) (ds.map Dfn.fn) x j := fun x j e => by
  have hx := gTab_fn blt_noFn e
  have hj : ∃ d, ds[j]? = some d ∧ d.name = x := by
    rw [← hn, List.getElem?_map] at hx
    exact opt_map hx
  obtain ⟨d, hj, en⟩ := hj
  obtain ⟨fd, F⟩ := c.d.def_ j (d := d.dd) (by rw [List.getElem?_map, hj]; rfl)
  have ok := hd d (List.mem_of_getElem? hj)
  have F : FunD K d.name d.name d.params d.stmts d.scope [] [] (He.ga K d.name) fd := F
  have hlen : (d.N.take d.np).length = d.np := by rw [List.length_take]; have := ok.np; omega
  refine ⟨He.ga K d.name, fd, d.name, d.name, d.params, d.stmts, d.scope, d.N, d.N.take d.np, memNew d.new, d.body, ?_, F, ok.sc, F.bindsN ok.bnd, ok.comp, ?_⟩
  · rw [en]
    refine He.glo_ok X N (c.d.fact j (f := .glo x) ?_)
    unfold factsOf
    have hl : j < names.length := (List.getElem?_eq_some_iff.mp hx).1
    rw [List.getElem?_append_left (by rw [List.length_map]; exact hl), List.getElem?_map, hx]
    rfl
  · rw [List.getElem?_map, hj, hlen]
    rfl
theorem tab_oth {base : Heap} {F : Fx} (hF : F.K = K) (X : K.In h) (N : h.Ns mainGlobals mg) (c : SaysC (factsOf names) (ds.map Dfn.dd) cs K) {fs : List Fn} :
    ∀ x g, gTab names cs bltTab x = some g → NoFn g → GlobOk Pg w K mg base F (evFn fs 0) 0 x g := fun x g e hn => by
  have con : ∀ p, cs.lookup x = some p → GlobOk Pg w K mg base F (evFn fs 0) 0 x (.con p) := fun p hp => by
    obtain ⟨u, v, h1, h2, h3⟩ := consB_ok X N c.c (lookup_mem hp)
    exact ⟨u, v, h1, h2, fun H => hF ▸ h3 H⟩
  have blt : bltTab.lookup x = some g → GlobOk Pg w K mg base F (evFn fs 0) 0 x g := fun hb => by
    have hm := lookup_mem hb
    have hb2 : BootOk x g := boot_tab (x, g) hm
    have hf : mg x = none := by
      obtain ⟨i, hi⟩ := List.getElem?_of_mem hm
      refine He.free_ok X N (c.d.fact (names.length + i) (f := .free x) ?_)
      unfold factsOf
      rw [List.getElem?_append_right (by rw [List.length_map]; omega), List.length_map, Nat.add_sub_cancel_left, List.getElem?_map, hi]
      rfl
    cases g with
    | fn j => exact hn.elim
    | con p => exact hb2.elim
    | blt b => exact ⟨hf, hb2⟩
    | ty t => exact ⟨hf, hb2⟩
    | isi => exact ⟨hf, hb2⟩
    | range => exact ⟨hf, hb2⟩
    | set => exact ⟨hf, hb2⟩
  unfold gTab at e
  split at e
  · cases e
    exact hn.elim
  · split at e
    · rename_i p hp
      cases e
      exact con p hp
    · exact blt e
/-- the law: what is to be shown of the evaluator alone -/
def LawEv (ds : List Dfn) (k j : Nat) : Prop := ∀ (ns : List Int), ns.length ≤ 63 → ∀ d st, (d = D.py (.list (ns.map .int)) ∧ st = []) ∨ (d = .ref 0 ∧ st = [.lst (ns.map .int)]) → ∃ st', evFn (ds.map Dfn.fn) k j [d] st = .ok (imp (.bool true)) st'
theorem law_facts {k j : Nat} {law : Str} {dl : Dfn} (X : K.In h) (N : h.Ns mainGlobals mg) (c : SaysC (factsOf names) (ds.map Dfn.dd) cs K) (hn : ds.map Dfn.name = names) (hd : ∀ d ∈ ds, DfnOk (gTab names cs bltTab) d)
    (hl : gTab names cs bltTab law = some (.fn j)) (hj : ds[j]? = some dl) (h1 : dl.N.take dl.np = [("script" : Str)]) {f : Addr} (hf : mg law = some (.ref f)) (ev : LawEv ds (k + 1) j) :
    ∃ (fd : FuncData) (sp : Sp), (∀ (s : Shared) (u : Value), BindsTo s fd ⟨[u], []⟩ [("script", u)]) ∧
      (∀ (H : Hp) (a : Addr) (ns : List Int), ns.length ≤ 63 → Only H → SqL K H a (ns.map V.int) → sp [.ref a] H (fun v _ => v = .bl true) fun _ _ _ => False) ∧
      ∀ base : Heap, K.In base → base.Ns mainGlobals mg → FnOk Pg w K mg base (L2.CX Pg w) (k + 1) f fd ["script"] sp := by
  have hx : names[j]? = some law := gTab_fn blt_noFn hl
  have en : dl.name = law := by
    rw [← hn, List.getElem?_map, hj] at hx
    exact Option.some.inj hx
  obtain ⟨fd, F⟩ := c.d.def_ j (d := dl.dd) (by rw [List.getElem?_map, hj]; rfl)
  have F : FunD K dl.name dl.name dl.params dl.stmts dl.scope [] [] (He.ga K dl.name) fd := F
  have ok := hd dl (List.mem_of_getElem? hj)
  have ef : f = He.ga K dl.name := by
    obtain ⟨f', _, _, _, _, _, _, _, _, _, _, hm, _⟩ := tab_def X N c hn hd law j hl
    have q : mg law = some (.ref (He.ga K dl.name)) := by
      rw [en]
      refine He.glo_ok X N (c.d.fact j (f := .glo law) ?_)
      unfold factsOf
      have hlt : j < names.length := (List.getElem?_eq_some_iff.mp hx).1
      rw [List.getElem?_append_left (by rw [List.length_map]; exact hlt), List.getElem?_map, hx]
      rfl
    rw [hf] at q
    cases q
    rfl
  subst ef
  have fdj : (ds.map Dfn.fn)[j]? = some dl.fn := by rw [List.getElem?_map, hj]; rfl
  refine ⟨fd, spFn ⟨K, fun _ => .none⟩ (evFn (ds.map Dfn.fn) (k + 1)) j 1, fun s u => ?_, fun H a ns hlen _ hS => law_sp (F := ⟨K, fun _ => .none⟩) rfl hlen hS fun d st hd => ?_, fun base kb nb => ?_⟩
  · have b := F.bindsA ok.bnd s [u] (by rw [h1]; rfl)
    rw [h1] at b
    exact b
  · exact ev ns hlen d st hd
  · have hlen : (dl.N.take dl.np).length = dl.np := by rw [List.length_take]; have := ok.np; omega
    have q := def_fn (P := Pg) (w := w) (mg := mg) (base := base) (F := ⟨K, fun _ => .none⟩) (fs := ds.map Dfn.fn) (j := j) rfl (glob_all (P := Pg) (w := w) (base := base) (F := ⟨K, fun _ => .none⟩) (fs := ds.map Dfn.fn) rfl (tab_def X N c hn hd) (tab_oth rfl X N c) k) F ok.sc ok.comp (by rw [fdj, hlen]; rfl)
    rw [h1] at q
    exact q
end
/-- a law's walk: as the evaluator has it -/
theorem walk_kp {l : PySem.W.OpenLaw} {n k : Nat} {q : Program} {loose : List Str} {XP : (Str → Option Value) → Heap → Prop} {YP : World → Heap → Prop} {d : DefRec} {x : Str}
    (hn : l.most = some n) (hn2 : n ≤ sizeLine) (hdf : d.params.defaults = []) (hr : Room k callerA)
    (F : ∀ (w : World) (mg : Str → Option Value) (fa : Addr) (h : Heap), YP w h → h.Ns mainGlobals mg → mg d.name = some (.ref fa) →
      ∃ (K : PySem.W.Frag) (fd : FuncData) (sp : Sp), K.In h ∧ (∀ (s : Shared) (u : Value), BindsTo s fd ⟨[u], []⟩ [(x, u)]) ∧
        (∀ (H : Hp) (a : Addr) (ns : List Int), ns.length ≤ n → Only H → SqL K H a (ns.map V.int) → sp [.ref a] H (fun v _ => v = .bl true) fun _ _ _ => False) ∧
        ∀ base : Heap, K.In base → base.Ns mainGlobals mg → FnOk l.prog w K mg base (L2.CX l.prog w) k fa fd [x] sp) :
    PySem.W.WalkO q loose XP YP l.row.toRowW d [] (fun f vs => PySem.call f vs) := by
  refine Att.attach_call hn hdf fun w s₀ s₁ mg mb fa o pm cd doc a vs ns G Y ho hd hcd hmg hobj hints hlen hg => ?_
  obtain ⟨K, fd, sp, KX, hb, hsp, hF⟩ := F w mg fa _ Y G.T.g hmg
  refine law_call KX G.T.g G.T.b G.T.builtins G.T.nolimit hg hobj hints (Nat.le_trans hlen hn2) hr hF hb (fun H hO hS => hsp H a ns hlen hO hS) fun H e s' h => ?_
  obtain ⟨_, _, _, _, _, _, _, _, _, _, _, _, h⟩ := h
  exact h
end Kp

/-! Kp, part 15: rules for the evaluator, by which a def's meaning is found. -/
namespace Kp
open PySem
theorem evFn_def {fs : List Fn} {k j : Nat} {args : List D} {st : Sto} {f : Fn} (hj : fs[j]? = some f) (hl : args.length = f.np) :
    evFn fs (k + 1) j args st = fin st.length (evSs (evFn fs k) f.body (args.map some ++ List.replicate (f.ns - f.np) none) st) := by
  show (match fs[j]? with
    | some f => if args.length = f.np then fin st.length (evSs (evFn fs k) f.body (args.map some ++ List.replicate (f.ns - f.np) none) st) else .bad
    | none => .bad) = _
  rw [hj]
  simp only []
  rw [if_pos hl]
section
variable {α β : Type} {Φ : Nat → List D → Sto → R Rv} {env : Ev} {st : Sto}
theorem x_bind (p : P) (st : Sto) (f : Rv → Sto → R β) : (ok1 p st).bind f = f (imp p) st := rfl
theorem x_then (p : P) (st : Sto) (env : Ev) (f : Rv → Sto → SR) : (ok1 p st).then env f = f (imp p) st := rfl
theorem ok_then (a : α) (st : Sto) (env : Ev) (f : α → Sto → SR) : (R.ok a st).then env f = f a st := rfl
theorem nx_then (env : Ev) (st : Sto) (f : Ev → Sto → SR) : (SR.nx env st).then f = f env st := rfl
theorem rt_then (r : Rv) (st : Sto) (f : Ev → Sto → SR) : (SR.rt r st).then f = .rt r st := rfl
theorem np_imp (p : P) (st : Sto) (f : P → R β) : needP (imp p) st f = f p := rfl
theorem np_nl (xs : List P) (st : Sto) (f : P → R β) : needP (.nl xs) st f = f (.list xs) := rfl
theorem np_py (p : P) (st : Sto) (f : P → R β) : needP (.im (.py p)) st f = f p := rfl
theorem ni_imp (p : P) (f : P → R β) : needI (imp p) f = f p := rfl
theorem ni_py (p : P) (f : P → R β) : needI (.im (.py p)) f = f p := rfl
theorem ni_nl (xs : List P) (f : P → R β) : needI (.nl xs) f = f (.list xs) := rfl
theorem nb_imp (b : Bool) (f : Bool → R β) : needB (imp (.bool b)) f = f b := rfl
theorem nb_py (b : Bool) (f : Bool → R β) : needB (.im (.py (.bool b))) f = f b := rfl
theorem no_none (f : Option Int → R β) : needO (imp .none) f = f none := rfl
theorem no_int (i : Int) (f : Option Int → R β) : needO (imp (.int i)) f = f (some i) := rfl
theorem no_intp (i : Int) (f : Option Int → R β) : needO (.im (.py (.int i))) f = f (some i) := rfl
theorem fz_imp (p : P) : (imp p).frz = .py p := rfl
theorem fz_im (d : D) : (Rv.im d).frz = d := rfl
theorem fz_nl (xs : List P) : (Rv.nl xs).frz = .py (.list xs) := rfl
theorem im_py (p : P) (st : Sto) : R.ok (Rv.im (.py p)) st = ok1 p st := rfl
theorem ok_imp (p : P) (st : Sto) : R.ok (imp p) st = ok1 p st := rfl
theorem im_imp (p : P) : Rv.im (.py p) = imp p := rfl
theorem dm_nil (st : Sto) : List.mapM (deref st) [] = some [] := rfl
theorem dm_one (p : P) (st : Sto) : List.mapM (deref st) [.py p] = some [p] := rfl
theorem dm_two (p q : P) (st : Sto) : List.mapM (deref st) [.py p, .py q] = some [p, q] := rfl
theorem dr_py (p : P) (st : Sto) : deref st (.py p) = some p := rfl
theorem tp_nil : toPs [] = some [] := rfl
theorem tp_cons (p : P) (ds : List D) : toPs (.py p :: ds) = (toPs ds).map (p :: ·) := rfl
theorem ck_true (m : R β) : chk true m = m := rfl
theorem fin_rt (n : Nat) (r : Rv) (st : Sto) : fin n (.rt r st) = trunc n r st := rfl
theorem fin_nx (n : Nat) (env : Ev) (st : Sto) : fin n (.nx env st) = trunc n (imp .none) st := rfl
theorem tr_imp (p : P) (st : Sto) : trunc st.length (imp p) st = ok1 p st := by
  show R.ok (imp p) (st.take st.length) = _
  rw [List.take_length]; rfl
theorem tr_nl (xs : List P) (st : Sto) : trunc st.length (.nl xs) st = .ok (.nl xs) st := by
  show R.ok (Rv.nl xs) (st.take st.length) = _
  rw [List.take_length]
theorem st_im (i : Nat) (new : Bool) (d : D) (env : Ev) (st : Sto) : store i new (.im d) env st = .nx (env.set i (some d)) st := by cases new <;> rfl
theorem st_imp (i : Nat) (new : Bool) (p : P) (env : Ev) (st : Sto) : store i new (imp p) env st = .nx (env.set i (some (.py p))) st := by cases new <;> rfl
theorem st_nl (i : Nat) (xs : List P) (env : Ev) (st : Sto) : store i false (.nl xs) env st = .nx (env.set i (some (.py (.list xs)))) st := rfl
theorem st_nlt (i : Nat) (xs : List P) (env : Ev) (st : Sto) : store i true (.nl xs) env st = .nx (env.set i (some (.ref st.length))) (st ++ [.lst xs]) := rfl
end
section
variable {Φ : Nat → List D → Sto → R Rv} {env : Ev} {st : Sto}
theorem e_var (i : Nat) : evE Φ env (.var i) st = match env[i]? with
    | some (some d) => .ok (.im d) st
    | _ => .bad := by simp only [evE] <;> rfl
theorem e_const (p : P) : evE Φ env (.const p) st = ok1 p st := by simp only [evE] <;> rfl
theorem e_tup (es : List X) : evE Φ env (.tup es) st = (evDs Φ env es st).bind fun ds st1 => match toPs ds with
    | some xs => chk (decide (xs.length ≤ SZ)) (ok1 (.tuple xs) st1)
    | none => .bad := by simp only [evE] <;> rfl
theorem e_lst (es : List X) : evE Φ env (.lst es) st = (evDs Φ env es st).bind fun ds st1 => match toPs ds with
    | some xs => chk (decide (xs.length ≤ SZ)) (.ok (.nl xs) st1)
    | none => .bad := by simp only [evE] <;> rfl
theorem e_bin (o : Bop) (a b : X) : evE Φ env (.bin o a b) st = (evE Φ env a st).bind fun x st1 => (evE Φ env b st1).bind fun y st2 =>
      needP x st2 fun p => needP y st2 fun q => binop o p q st2 := by simp only [evE] <;> rfl
theorem e_neg (a : X) : evE Φ env (.neg a) st = (evE Φ env a st).bind fun x st1 => match x with
    | .im (.py (.int i)) => ok1 (.int (-i)) st1
    | _ => .bad := by simp only [evE] <;> rfl
theorem e_not (a : X) : evE Φ env (.not a) st = (evE Φ env a st).bind fun x st1 => needB x fun k => ok1 (.bool (!k)) st1 := by simp only [evE] <;> rfl
theorem e_and (a b : X) : evE Φ env (.and a b) st = (evE Φ env a st).bind fun x st1 => needB x fun k => if k then evE Φ env b st1 else ok1 (.bool false) st1 := by simp only [evE] <;> rfl
theorem e_or (a b : X) : evE Φ env (.or a b) st = (evE Φ env a st).bind fun x st1 => needB x fun k => if k then ok1 (.bool true) st1 else evE Φ env b st1 := by simp only [evE] <;> rfl
theorem e_cmp (o : Cop) (a b : X) : evE Φ env (.cmp o a b) st = (evE Φ env a st).bind fun x st1 => (evE Φ env b st1).bind fun y st2 =>
      needP x st2 fun p => needP y st2 fun q => match cmpop o p q with
        | some k => ok1 (.bool k) st2
        | none => .bad := by simp only [evE] <;> rfl
theorem e_chain (o o' : Cop) (a b c : X) : evE Φ env (.chain o o' a b c) st = (evE Φ env a st).bind fun x st1 => (evE Φ env b st1).bind fun y st2 =>
      needP x st2 fun p => needP y st2 fun q => match cmpop o p q with
        | some true => (evE Φ env c st2).bind fun z st3 => needP y st3 fun q' => needP z st3 fun r => match cmpop o' q' r with
          | some k => ok1 (.bool k) st3
          | none => .bad
        | some false => ok1 (.bool false) st2
        | none => .bad := by simp only [evE] <;> rfl
theorem e_ife (c a b : X) : evE Φ env (.ife c a b) st = (evE Φ env c st).bind fun x st1 => needB x fun k => if k then evE Φ env a st1 else evE Φ env b st1 := by simp only [evE] <;> rfl
theorem e_idx (a b : X) : evE Φ env (.idx a b) st = (evE Φ env a st).bind fun x st1 => (evE Φ env b st1).bind fun y st2 =>
      needP x st2 fun p => needP y st2 fun q => match idxop p q with
        | some r => ok1 r st2
        | none => .bad := by simp only [evE] <;> rfl
theorem e_slc (a lo hi : X) : evE Φ env (.slc a lo hi) st = (evE Φ env a st).bind fun x st1 => (evE Φ env lo st1).bind fun l st2 => needO l fun lo' => (evE Φ env hi st2).bind fun h st3 => needO h fun hi' =>
      needP x st3 fun p => slcop p lo' hi' st3 := by simp only [evE] <;> rfl
theorem e_call (f : Nat) (es : List X) : evE Φ env (.call f es) st = (evDs Φ env es st).bind fun xs st1 => Φ f xs st1 := by simp only [evE] <;> rfl
theorem e_isi (t : Ty) (a : X) : evE Φ env (.isi t a) st = (evE Φ env a st).bind fun x st1 => needP x st1 fun p => ok1 (.bool (isTy t p)) st1 := by simp only [evE] <;> rfl
theorem e_blt (b : Blt) (es : List X) : evE Φ env (.blt b es) st = (evDs Φ env es st).bind fun xs st1 => match xs.mapM (deref st1) with
    | some ps => bltop b ps st1
    | none => .bad := by simp only [evE] <;> rfl
end
def unpR (is : List Nat) (env : Ev) (r : Rv) (st : Sto) : SR := match r with
  | .im (.py (.tuple ys)) => if ys.length = is.length then .nx (setName env is ys) st else .bad
  | _ => .bad
theorem un_imp (is : List Nat) (env : Ev) (ys : List P) (st : Sto) : unpR is env (imp (.tuple ys)) st = if ys.length = is.length then .nx (setName env is ys) st else .bad := rfl
theorem o_lstc (xs ys : List P) (st : Sto) : binop .add (.list xs) (.list ys) st = chk (decide (xs.length + ys.length ≤ SZ)) (.ok (.nl (xs ++ ys)) st) := rfl
theorem o_tupc (xs ys : List P) (st : Sto) : binop .add (.tuple xs) (.tuple ys) st = chk (decide (xs.length + ys.length ≤ SZ)) (ok1 (.tuple (xs ++ ys)) st) := rfl
section
variable {Φ : Nat → List D → Sto → R Rv} {env : Ev} {st : Sto}
theorem v_asg (i : Nat) (new : Bool) (e : X) : evS Φ (.asg i new e) env st = (evE Φ env e st).then env fun r st1 => store i new r env st1 := by simp only [evS] <;> rfl
theorem v_par (is : List Nat) (es : List (Bool × X)) : evS Φ (.par is es) env st = (evPar Φ env es st).then env fun ds st1 => if ds.length = is.length then .nx (setDs env is ds) st1 else .bad := by simp only [evS] <;> rfl
theorem v_unp (is : List Nat) (e : X) : evS Φ (.unp is e) env st = (evE Φ env e st).then env fun r st1 => unpR is env r st1 := by simp only [evS] <;> rfl
theorem v_setI (o i e : X) : evS Φ (.setI o i e) env st = (evE Φ env e st).then env fun v st1 => (evE Φ env o st1).then env fun x st2 => (evE Φ env i st2).then env fun y st3 =>
      match v.frz, x, y with
      | .py p, .im d, .im (.py k) => match setop d k p st3 with
        | some st4 => .nx env st4
        | none => .bad
      | _, _, _ => .bad := by simp only [evS] <;> rfl
theorem v_expr (e : X) : evS Φ (.expr e) env st = (evE Φ env e st).then env fun _ st1 => .nx env st1 := by simp only [evS] <;> rfl
theorem v_ret (e : X) : evS Φ (.ret e) env st = (evE Φ env e st).then env fun r st1 => .rt r st1 := by simp only [evS] <;> rfl
theorem v_ife (c : X) (t f : List S) : evS Φ (.ife c t f) env st = ((evE Φ env c st).bind fun r st1 => needB r fun k => R.ok k st1).then env fun k st1 => if k then evSs Φ t env st1 else evSs Φ f env st1 := by
  simp only [evS]
  cases evE Φ env c st with
  | ok r st1 =>
    simp only [ok_bind, R.then]
    unfold needB
    split <;> rfl
  | exc c fs st1 => rfl
  | bad => rfl
theorem v_pass  : evS Φ (.pass ) env st = .nx env st := by simp only [evS] <;> rfl
theorem v_for (t : Tg) (ik : Ik) (is : List X) (body : List S) : evS Φ (.for t ik is body) env st = (evI Φ env ik is st).then env fun ys st1 => forL (turnF Φ t body) ys env st1 := evS_for
theorem v_nil : evSs Φ [] env st = .nx env st := by simp only [evSs]
theorem v_cons (s : S) (ss : List S) : evSs Φ (s :: ss) env st = (evS Φ s env st).then fun env1 st1 => evSs Φ ss env1 st1 := by simp only [evSs]
end
theorem e_negc {Φ : Nat → List D → Sto → R Rv} {env : Ev} {st : Sto} (i : Int) : evE Φ env (.neg (.const (.int i))) st = ok1 (.int (-i)) st := by
  simp only [evE, x_bind]
  rfl
/-- behind a loop with one name -/
def lastE (env : Ev) (i : Nat) (ys : List P) : Ev := match ys.getLast? with
  | some y => env.set i (some (.py y))
  | none => env
theorem lastE_cons (env : Ev) (i : Nat) (y : P) (ys : List P) : lastE env i (y :: ys) = lastE (env.set i (some (.py y))) i ys := by
  unfold lastE
  cases ys with
  | nil => rfl
  | cons z zs =>
    have e : (y :: z :: zs).getLast? = (z :: zs).getLast? := by simp [List.getLast?_cons_cons]
    rw [e]
    cases h : (z :: zs).getLast? with
    | none => simp at h
    | some w => simp only [List.set_set]
/-- a loop that stops with False at the first item that is not good -/
theorem forL_all {Φ : Nat → List D → Sto → R Rv} {i : Nat} {body : List S} {st : Sto} {good : P → Bool} : ∀ (ys : List P) (env : Ev), (∀ y ∈ ys, evSs Φ body (env.set i (some (.py y))) st = if good y then .nx (env.set i (some (.py y))) st else .rt (imp (.bool false)) st) →
    forL (turnF Φ (.one i) body) ys env st = if ys.all good then .nx (lastE env i ys) st else .rt (imp (.bool false)) st
  | [], env, _ => rfl
  | y :: ys, env, h => by
    have h1 := h y List.mem_cons_self
    rw [forL]
    unfold turnF
    simp only [bindT]
    rw [h1]
    cases hg : good y with
    | false => simp only [Bool.false_eq_true, if_false, rt_then, List.all_cons, hg, Bool.false_and]
    | true =>
      simp only [if_true, nx_then, List.all_cons, hg, Bool.true_and]
      rw [lastE_cons]
      exact forL_all ys (env.set i (some (.py y))) fun z hz => by
        rw [List.set_set]
        exact h z (List.mem_cons_of_mem _ hz)
section
variable {Φ : Nat → List D → Sto → R Rv} {env : Ev}
theorem compL_gen {β : Type} {n : Nat} {f : P → Sto → R (Option P)} {st : Sto} (hn : st.length = n) (e : β → P) (g : β → Option P) : ∀ (zs : List β) (acc : List P), (∀ z ∈ zs, ∀ acc, f (e z) (st ++ [.lst acc]) = .ok (g z) (st ++ [.lst acc])) → acc.length + zs.length ≤ SZ →
    compL n f (zs.map e) (st ++ [.lst acc]) = .ok () (st ++ [.lst (acc ++ zs.filterMap g)])
  | [], acc, _, _ => by
    simp [compL, chk, hn]
  | y :: ys, acc, h, hz => by
    have hz : acc.length + (ys.length + 1) ≤ SZ := hz
    rw [List.map_cons, compL, h y List.mem_cons_self acc]
    cases e0 : g y with
    | none =>
      have q := compL_gen hn e g ys acc (fun y hy => h y (List.mem_cons_of_mem _ hy)) (by omega)
      simp only [R.noexc, ok_bind, List.filterMap_cons, e0]
      exact q
    | some z =>
      have q := compL_gen hn e g ys (acc ++ [z]) (fun y hy => h y (List.mem_cons_of_mem _ hy)) (by rw [List.length_append]; show acc.length + 1 + ys.length ≤ SZ; omega)
      have e1 : (st ++ [Ob.lst acc])[n]? = some (.lst acc) := by rw [List.getElem?_append_right (by omega), hn, Nat.sub_self]; rfl
      have e2 : List.set (st ++ [Ob.lst acc]) n (.lst (acc ++ [z])) = st ++ [.lst (acc ++ [z])] := by
        subst hn
        rw [List.set_append]
        simp
      have e3 : decide (acc.length < SZ) = true := decide_eq_true (by omega)
      simp only [R.noexc, ok_bind, e1, e2, e3, chk, if_true, List.filterMap_cons, e0]
      rw [q, List.append_assoc]
      rfl
theorem comp_gen {β : Type} {elt : X} {t : Tg} {ik : Ik} {is ifs : List X} {st : Sto} {ds : List D} (e : β → P) (g : β → Option P) (zs : List β) (h1 : evDs Φ env is st = .ok ds st) (h2 : itemsD ik ds = some (zs.map e))
    (h : ∀ z ∈ zs, ∀ st, turnL Φ env t ifs elt (e z) st = .ok (g z) st) (hz : zs.length ≤ SZ) : evE Φ env (.comp elt t ik is ifs) st = .ok (.nl (zs.filterMap g)) st := by
  rw [evE_comp]
  unfold evI
  rw [h1]
  simp only [ok_bind, h2]
  have q := compL_gen (st := st) rfl e g zs [] (fun y hy acc => h y hy _) (by simpa using hz)
  rw [q]
  simp [compEnd, R.bind]
theorem comp_pure {elt : X} {t : Tg} {ik : Ik} {is ifs : List X} {st : Sto} {ds : List D} {ys : List P} (g : P → Option P) (h1 : evDs Φ env is st = .ok ds st) (h2 : itemsD ik ds = some ys)
    (h : ∀ y ∈ ys, ∀ st, turnL Φ env t ifs elt y st = .ok (g y) st) (hz : ys.length ≤ SZ) : evE Φ env (.comp elt t ik is ifs) st = .ok (.nl (ys.filterMap g)) st :=
  comp_gen id g ys h1 (by rw [List.map_id]; exact h2) h hz
theorem comp_map {elt : X} {t : Tg} {ik : Ik} {is : List X} {st : Sto} {ds : List D} {ys : List P} (g : P → P) (h1 : evDs Φ env is st = .ok ds st) (h2 : itemsD ik ds = some ys)
    (h : ∀ y ∈ ys, ∀ st, turnL Φ env t [] elt y st = .ok (some (g y)) st) (hz : ys.length ≤ SZ) : evE Φ env (.comp elt t ik is []) st = .ok (.nl (ys.map g)) st := by
  rw [comp_pure (fun y => some (g y)) h1 h2 h hz, List.filterMap_eq_map']
theorem comp_mapB {β : Type} {elt : X} {t : Tg} {ik : Ik} {is : List X} {st : Sto} {ds : List D} (e g : β → P) (zs : List β) (h1 : evDs Φ env is st = .ok ds st) (h2 : itemsD ik ds = some (zs.map e))
    (h : ∀ z ∈ zs, ∀ st, turnL Φ env t [] elt (e z) st = .ok (some (g z)) st) (hz : zs.length ≤ SZ) : evE Φ env (.comp elt t ik is []) st = .ok (.nl (zs.map g)) st := by
  rw [comp_gen e (fun y => some (g y)) zs h1 h2 h hz, List.filterMap_eq_map']
/-- the integers below n -/
theorem comp_rng1 {elt : X} {t : Tg} {is : List X} {st : Sto} {j : Int} {n : Nat} (g : Nat → P) (h1 : evDs Φ env is st = .ok [.py (.int j)] st) (hj : j.toNat = n) (hz : n ≤ 1000000) (hj2 : -1000000 ≤ j)
    (h : ∀ i, i < n → ∀ st, turnL Φ env t [] elt (.int (i : Nat)) st = .ok (some (g i)) st) : evE Φ env (.comp elt t .rng1 is []) st = .ok (.nl ((List.range n).map g)) st := by
  refine comp_mapB (fun (i : Nat) => .int (0 + (i : Int))) g (List.range n) h1 ?_ (fun i hi st => ?_) ?_
  · show (if -(2 ^ 62) ≤ j ∧ j < 2 ^ 62 then some ((List.range j.toNat).map fun (i : Nat) => PyData.int (0 + (i : Int))) else none) = _
    rw [if_pos (by omega), hj]
  · have e : (0 : Int) + (i : Int) = (i : Nat) := by omega
    rw [e]
    exact h i (List.mem_range.mp hi) st
  · rw [List.length_range]
    exact Nat.le_trans hz (by decide)
/-- a turn without a test -/
theorem turn_elt {t : Tg} {elt : X} {y : P} {st : Sto} {env1 : Ev} {r : P} (h1 : bindT t (wipeE env (tgSlots t)) y = some env1) (h2 : evE Φ env1 elt st = ok1 r st) : turnL Φ env t [] elt y st = .ok (some r) st := by
  unfold turnL
  rw [h1]
  simp only [evAnd, ok_bind, if_true, h2, x_bind, ni_imp]
/-- .. with a test -/
theorem turn_if {t : Tg} {elt c : X} {y : P} {st : Sto} {env1 : Ev} {b : Bool} {r : P} (h1 : bindT t (wipeE env (tgSlots t)) y = some env1) (hc : evE Φ env1 c st = ok1 (.bool b) st) (h2 : b = true → evE Φ env1 elt st = ok1 r st) :
    turnL Φ env t [c] elt y st = .ok (if b then some r else none) st := by
  unfold turnL
  rw [h1]
  simp only [evAnd, hc, x_bind, nb_imp]
  cases b with
  | true => simp only [if_true, ok_bind, h2 rfl, x_bind, ni_imp]
  | false => simp only [Bool.false_eq_true, if_false, ok_bind]
theorem comp_filter {elt c : X} {t : Tg} {ik : Ik} {is : List X} {st : Sto} {ds : List D} {ys : List P} (p : P → Bool) (h1 : evDs Φ env is st = .ok ds st) (h2 : itemsD ik ds = some ys)
    (h : ∀ y ∈ ys, ∀ st, turnL Φ env t [c] elt y st = .ok (if p y then some y else none) st) (hz : ys.length ≤ SZ) : evE Φ env (.comp elt t ik is [c]) st = .ok (.nl (ys.filter p)) st := by
  rw [comp_pure (fun y => if p y then some y else none) h1 h2 h hz]
  congr 2
  clear h h2 hz h1
  induction ys with
  | nil => rfl
  | cons y ys ih =>
    rw [List.filterMap_cons, List.filter_cons]
    cases p y with
    | true => simp only [if_true]; rw [ih]
    | false => simp only [Bool.false_eq_true, if_false]; rw [ih]
theorem bools_map' {α : Type} (h : α → Bool) : ∀ ys : List α, bools (ys.map fun y => PyData.bool (h y)) = some (ys.map h)
  | [] => rfl
  | y :: ys => by
    show (bools (ys.map fun y => PyData.bool (h y))).map (h y :: ·) = _
    rw [bools_map' h ys]; rfl
theorem b_len (a : P) (st : Sto) : bltop .len [a] st = match lenP a with | some n => ok1 (.int n) st | none => .bad := rfl
theorem b_all (ys : List P) (st : Sto) : bltop .all [.list ys] st = match bools ys with | some bs => ok1 (.bool (bs.all id)) st | none => .bad := rfl
theorem b_any (ys : List P) (st : Sto) : bltop .any [.list ys] st = match bools ys with | some bs => ok1 (.bool (bs.any id)) st | none => .bad := rfl
theorem b_max (i j : Int) (st : Sto) : bltop .max [.int i, .int j] st = ok1 (.int (if j > i then j else i)) st := rfl
theorem b_min (i j : Int) (st : Sto) : bltop .min [.int i, .int j] st = ok1 (.int (if j < i then j else i)) st := rfl
theorem b_int (i : Int) (st : Sto) : bltop .int [.int i] st = ok1 (.int i) st := rfl
theorem b_intb (k : Bool) (st : Sto) : bltop .int [.bool k] st = ok1 (.int (if k then 1 else 0)) st := rfl
theorem b_ll (ys : List P) (st : Sto) : bltop .list [.list ys] st = .ok (.nl ys) st := rfl
theorem b_lt (ys : List P) (st : Sto) : bltop .list [.tuple ys] st = .ok (.nl ys) st := rfl
theorem b_tl (ys : List P) (st : Sto) : bltop .tuple [.list ys] st = ok1 (.tuple ys) st := rfl
theorem b_tt (ys : List P) (st : Sto) : bltop .tuple [.tuple ys] st = ok1 (.tuple ys) st := rfl
theorem len_l (ys : List P) : lenP (.list ys) = some ys.length := rfl
theorem len_t (ys : List P) : lenP (.tuple ys) = some ys.length := rfl
theorem it_sl (ys : List P) : itemsD .seq [.py (.list ys)] = some ys := rfl
theorem it_st (ys : List P) : itemsD .seq [.py (.tuple ys)] = some ys := rfl
theorem it_ss (s : Str) : itemsD .seq [.py (.str s)] = some (s.cps.toList.map fun c => .str ⟨#[c]⟩) := rfl
theorem it_r1 (j : Int) (h : -(2 ^ 62) ≤ j ∧ j < 2 ^ 62) : itemsD .rng1 [.py (.int j)] = some ((List.range j.toNat).map fun (i : Nat) => .int (0 + (i : Int))) := by
  show (if -(2 ^ 62) ≤ j ∧ j < 2 ^ 62 then _ else none) = _
  rw [if_pos h]
theorem it_r2 (i j : Int) (h : -(2 ^ 62) ≤ i ∧ i < 2 ^ 62 ∧ -(2 ^ 62) ≤ j ∧ j < 2 ^ 62) : itemsD .rng2 [.py (.int i), .py (.int j)] = some ((List.range (j - i).toNat).map fun (n : Nat) => .int (i + (n : Int))) := by
  show (if -(2 ^ 62) ≤ i ∧ i < 2 ^ 62 ∧ -(2 ^ 62) ≤ j ∧ j < 2 ^ 62 then _ else none) = _
  rw [if_pos h]
theorem ty_str (s : Str) : isTy .str (.str s) = true := rfl
theorem ty_tup (ys : List P) : isTy .tup (.tuple ys) = true := rfl
theorem c_le (i j : Int) : cmpop .le (.int i) (.int j) = some (decide (i ≤ j)) := by
  have e : cmpop .le (.int i) (.int j) = some (!PySem.W.dataLt (.int j) (.int i)) := rfl
  rw [e, PySem.W.dataLt_int j i]
  congr 1
  by_cases h : i ≤ j
  · have : ¬ j < i := by omega
    simp [h, this]
  · have : j < i := by omega
    simp [h, this]
theorem c_ge (i j : Int) : cmpop .ge (.int i) (.int j) = some (decide (j ≤ i)) := by
  have e : cmpop .ge (.int i) (.int j) = some (!PySem.W.dataLt (.int i) (.int j)) := rfl
  rw [e, PySem.W.dataLt_int i j]
  congr 1
  by_cases h : j ≤ i
  · have : ¬ i < j := by omega
    simp [h, this]
  · have : i < j := by omega
    simp [h, this]
theorem c_lt (i j : Int) : cmpop .lt (.int i) (.int j) = some (decide (i < j)) := by
  have e : cmpop .lt (.int i) (.int j) = some (PySem.W.dataLt (.int i) (.int j)) := rfl
  rw [e, PySem.W.dataLt_int i j]
theorem c_gt (i j : Int) : cmpop .gt (.int i) (.int j) = some (decide (j < i)) := by
  have e : cmpop .gt (.int i) (.int j) = some (PySem.W.dataLt (.int j) (.int i)) := rfl
  rw [e, PySem.W.dataLt_int j i]
theorem c_eqi (i j : Int) : cmpop .eq (.int i) (.int j) = some (i == j) := rfl
theorem c_nei (i j : Int) : cmpop .ne (.int i) (.int j) = some (!(i == j)) := rfl
theorem c_eqs (x y : Str) : cmpop .eq (.str x) (.str y) = some (x == y) := rfl
theorem c_nes (x y : Str) : cmpop .ne (.str x) (.str y) = some (!(x == y)) := rfl
theorem c_eqb (x y : Bool) : cmpop .eq (.bool x) (.bool y) = some (x == y) := rfl
theorem c_isb (x y : Bool) : cmpop .is (.bool x) (.bool y) = some (x == y) := rfl
theorem c_isnb (x y : Bool) : cmpop .isnot (.bool x) (.bool y) = some (!(x == y)) := rfl
theorem c_les (x y : Str) : cmpop .le (.str x) (.str y) = some (!decide (y.cps.toList < x.cps.toList)) := by
  have e : cmpop .le (.str x) (.str y) = some (!PySem.W.dataLt (.str y) (.str x)) := rfl
  rw [e, PySem.W.dataLt_str y x]
theorem c_eqe (ys : List P) (h : fit (.list ys) = true) : cmpop .eq (.list ys) (.list []) = some ys.isEmpty := by
  show (if (fit (.list ys) && fit (.list [])) = true then some ((PyData.list ys).eqv (.list [])) else none) = _
  have e : fit (PyData.list []) = true := rfl
  rw [h, e, Bool.and_self, if_pos rfl]
  cases ys with
  | nil => rfl
  | cons _ _ => rfl
theorem c_nee (ys : List P) (h : fit (.list ys) = true) : cmpop .ne (.list ys) (.list []) = some (!ys.isEmpty) := by
  show (if (fit (.list ys) && fit (.list [])) = true then some (!(PyData.list ys).eqv (.list [])) else none) = _
  have e : fit (PyData.list []) = true := rfl
  rw [h, e, Bool.and_self, if_pos rfl]
  cases ys with
  | nil => rfl
  | cons _ _ => rfl
theorem o_add (i j : Int) (st : Sto) : binop .add (.int i) (.int j) st = ok1 (.int (i + j)) st := rfl
theorem o_sub (i j : Int) (st : Sto) : binop .sub (.int i) (.int j) st = ok1 (.int (i - j)) st := rfl
theorem o_mul (i j : Int) (st : Sto) (h : -(2 ^ 64) < j ∧ j < 2 ^ 64) : binop .mul (.int i) (.int j) st = ok1 (.int (i * j)) st := by
  show chk (decide (-(2 ^ 64) < j) && decide (j < 2 ^ 64)) _ = _
  rw [decide_eq_true h.1, decide_eq_true h.2]; rfl
theorem o_fdiv (i j : Int) (st : Sto) (h : 0 < j ∧ j < 1073741824) : binop .fdiv (.int i) (.int j) st = ok1 (.int (i / j)) st := by
  show chk (decide (0 < j) && decide (j < 1073741824)) _ = _
  rw [decide_eq_true h.1, decide_eq_true h.2]; rfl
theorem o_mod (i j : Int) (st : Sto) (h : 0 < j) : binop .mod (.int i) (.int j) st = ok1 (.int (i % j)) st := by
  show chk (decide (0 < j)) _ = _
  rw [decide_eq_true h]; rfl
theorem o_tup (xs ys : List P) (st : Sto) (h : xs.length + ys.length ≤ SZ) : binop .add (.tuple xs) (.tuple ys) st = ok1 (.tuple (xs ++ ys)) st := by
  show chk (decide (xs.length + ys.length ≤ SZ)) _ = _
  rw [decide_eq_true h]; rfl
theorem o_lst (xs ys : List P) (st : Sto) (h : xs.length + ys.length ≤ SZ) : binop .add (.list xs) (.list ys) st = .ok (.nl (xs ++ ys)) st := by
  show chk (decide (xs.length + ys.length ≤ SZ)) _ = _
  rw [decide_eq_true h]; rfl
theorem idx_t (xs : List P) (i : Int) : idxop (.tuple xs) (.int i) = L2.atI xs i := rfl
theorem idx_l (xs : List P) (i : Int) : idxop (.list xs) (.int i) = L2.atI xs i := rfl
theorem atI_nat {xs : List P} {i : Nat} (h : i < xs.length) : L2.atI xs (i : Int) = some xs[i] := by
  have e : L2.ixN xs.length (i : Int) = some i := by
    unfold L2.ixN
    split <;> first | (simp; omega) | omega | simp_all
  unfold L2.atI
  rw [e]
  exact List.getElem?_eq_getElem h
theorem at0 (a : P) (r : List P) : L2.atI (a :: r) 0 = some a := atI_nat (xs := a :: r) (i := 0) (by simp)
theorem at1 (a b : P) (r : List P) : L2.atI (a :: b :: r) 1 = some b := atI_nat (xs := a :: b :: r) (i := 1) (by simp)
theorem at2 (a b c : P) (r : List P) : L2.atI (a :: b :: c :: r) 2 = some c := atI_nat (xs := a :: b :: c :: r) (i := 2) (by simp)
theorem at3 (a b c d : P) (r : List P) : L2.atI (a :: b :: c :: d :: r) 3 = some d := atI_nat (xs := a :: b :: c :: d :: r) (i := 3) (by simp)
end
end Kp

/-! Kp, part 16: bodies that the laws have in common (written by a program). -/
namespace Kp
open PySem
/-- is_label -/
def t_is_label : List S := [(.ret (.and (.isi .str (.var 0)) (.and (.chain .le .le (.const (.int 1)) (.blt .len [(.var 0)]) (.const (.int 8))) (.blt .all [(.comp (.chain .le .le (.const (.str ⟨#[97]⟩)) (.var 1) (.const (.str ⟨#[122]⟩))) (.one 1) .seq [(.var 0)] [])]))))]
/-- is_one_of -/
def t_is_one_of : List S := [(.ret (.and (.isi .str (.var 1)) (.cmp .in_ (.var 1) (.var 0))))]
/-- ascends -/
def t_ascends : List S := [(.ret (.blt .all [(.comp (.cmp .lt (.idx (.var 0) (.var 1)) (.idx (.var 0) (.bin .add (.var 1) (.const (.int 1))))) (.one 1) .rng1 [(.bin .sub (.blt .len [(.var 0)]) (.const (.int 1)))] [])]))]
/-- are_names -/
def t_are_names (iis_one_of : Nat) (iascends : Nat) : List S := [(.ret (.and (.isi .tup (.var 1)) (.and (.blt .all [(.comp (.call iis_one_of [(.var 0), (.var 2)]) (.one 2) .seq [(.var 1)] [])]) (.call iascends [(.var 1)]))))]
/-- is_tool -/
def t_is_tool (iis_label : Nat) (iis_one_of : Nat) : List S := [(.ife (.or (.not (.isi .tup (.var 0))) (.or (.cmp .ne (.blt .len [(.var 0)]) (.const (.int 4))) (.or (.not (.call iis_label [(.idx (.var 0) (.const (.int 0)))])) (.not (.call iis_one_of [(.const (.tuple [(.str ⟨#[97, 108, 108]⟩), (.str ⟨#[110, 101, 119]⟩), (.str ⟨#[110, 111]⟩), (.str ⟨#[121, 101, 115]⟩)])), (.idx (.var 0) (.const (.int 1)))]))))) [(.ret (.const (.bool false)))] []),
    (.ret (.and (.isi .tup (.idx (.var 0) (.const (.int 2)))) (.isi .bool (.idx (.var 0) (.const (.int 3))))))]
/-- are_tools -/
def t_are_tools (iis_tool : Nat) (iascends : Nat) (iare_names : Nat) : List S := [(.ife (.or (.not (.isi .tup (.var 0))) (.or (.not (.chain .le .le (.const (.int 2)) (.blt .len [(.var 0)]) (.const (.int 3)))) (.not (.blt .all [(.comp (.call iis_tool [(.var 2)]) (.one 2) .seq [(.var 0)] [])])))) [(.ret (.const (.bool false)))] []),
    (.asg 1 false (.comp (.idx (.var 3) (.const (.int 0))) (.one 3) .seq [(.var 0)] [])),
    (.ife (.not (.call iascends [(.var 1)])) [(.ret (.const (.bool false)))] []),
    (.ret (.blt .all [(.comp (.call iare_names [(.comp (.var 4) (.one 4) .seq [(.var 1)] [(.cmp .ne (.var 4) (.idx (.var 3) (.const (.int 0))))]), (.idx (.var 3) (.const (.int 2)))]) (.one 3) .seq [(.var 0)] [])]))]
/-- are_hooks -/
def t_are_hooks (iis_one_of : Nat) (iascends : Nat) : List S := [(.ife (.not (.isi .tup (.var 1))) [(.ret (.const (.bool false)))] []),
    (.for (.one 2) .seq [(.var 1)] [(.ife (.or (.not (.isi .tup (.var 2))) (.or (.cmp .ne (.blt .len [(.var 2)]) (.const (.int 2))) (.not (.blt .all [(.comp (.call iis_one_of [(.var 0), (.var 3)]) (.one 3) .seq [(.var 2)] [])])))) [(.ret (.const (.bool false)))] []),
    (.ife (.cmp .eq (.idx (.var 2) (.const (.int 0))) (.idx (.var 2) (.const (.int 1)))) [(.ret (.const (.bool false)))] [])]),
    (.ret (.call iascends [(.var 1)]))]
/-- is_setup -/
def t_is_setup (iare_tools : Nat) (iare_hooks : Nat) (iare_names : Nat) : List S := [(.ife (.or (.not (.isi .tup (.var 0))) (.or (.cmp .ne (.blt .len [(.var 0)]) (.const (.int 3))) (.not (.call iare_tools [(.idx (.var 0) (.const (.int 0)))])))) [(.ret (.const (.bool false)))] []),
    (.asg 1 false (.comp (.idx (.var 2) (.const (.int 0))) (.one 2) .seq [(.idx (.var 0) (.const (.int 0)))] [])),
    (.ife (.or (.not (.call iare_hooks [(.var 1), (.idx (.var 0) (.const (.int 1)))])) (.or (.not (.isi .tup (.idx (.var 0) (.const (.int 2))))) (.cmp .ne (.blt .len [(.idx (.var 0) (.const (.int 2)))]) (.const (.int 2))))) [(.ret (.const (.bool false)))] []),
    (.ret (.and (.call iare_names [(.var 1), (.idx (.idx (.var 0) (.const (.int 2))) (.const (.int 0)))]) (.call iare_names [(.var 1), (.idx (.idx (.var 0) (.const (.int 2))) (.const (.int 1)))])))]
/-- _law_jar -/
def t_law_jar : List S := [(.asg 2 false (.ife (.cmp .ge (.var 0) (.bin .pow (.const (.int 10)) (.const (.int 18)))) (.bin .sub (.var 0) (.bin .pow (.const (.int 10)) (.const (.int 18)))) (.const (.int 0)))),
    (.ret (.lst [(.blt .max [(.const (.int 0)), (.var 2)]), (.bin .add (.bin .mod (.blt .int [(.bin .add (.bin .mul (.var 0) (.const (.int 17))) (.bin .mul (.const (.int 5003)) (.var 1)))]) (.const (.int 1610612741))) (.const (.int 2)))]))]
/-- _law_less -/
def t_law_less : List S := [(.ife (.cmp .gt (.idx (.var 0) (.const (.int 0))) (.const (.int 0))) [(.asg 2 false (.bin .mod (.blt .int [(.idx (.var 0) (.const (.int 0)))]) (.var 1))),
    (.setI (.var 0) (.const (.int 0)) (.bin .fdiv (.idx (.var 0) (.const (.int 0))) (.var 1))),
    (.ret (.var 2))] []),
    (.setI (.var 0) (.const (.int 1)) (.bin .mod (.blt .int [(.bin .add (.bin .mul (.idx (.var 0) (.const (.int 1))) (.const (.int 362437))) (.const (.int 521288629)))]) (.const (.int 3221225473)))),
    (.ret (.bin .mod (.blt .int [(.bin .fdiv (.bin .mod (.blt .int [(.bin .add (.bin .mul (.idx (.var 0) (.const (.int 1))) (.idx (.var 0) (.const (.int 1)))) (.const (.int 88675123)))]) (.const (.int 2971215073))) (.const (.int 8191)))]) (.var 1)))]
/-- _law_some -/
def t_law_some (i_law_less : Nat) : List S := [(.ret (.idx (.var 1) (.call i_law_less [(.var 0), (.blt .len [(.var 1)])])))]
/-- _law_part -/
def t_law_part (i_law_less : Nat) : List S := [(.ret (.blt .tuple [(.comp (.var 3) (.one 3) .seq [(.var 1)] [(.cmp .lt (.call i_law_less [(.var 0), (.const (.int 6))]) (.var 2))])]))]
/-- _law_tool -/
def t_law_tool (i_law_some : Nat) (i_law_part : Nat) (i_law_less : Nat) : List S := [(.asg 3 false (.comp (.var 5) (.one 5) .seq [(.var 1)] [(.cmp .ne (.var 5) (.var 2))])),
    (.asg 4 false (.call i_law_some [(.var 0), (.lst [(.const (.str ⟨#[97, 108, 108]⟩)), (.const (.str ⟨#[97, 108, 108]⟩)), (.const (.str ⟨#[110, 101, 119]⟩)), (.const (.str ⟨#[110, 111]⟩)), (.const (.str ⟨#[110, 111]⟩)), (.const (.str ⟨#[121, 101, 115]⟩))])])),
    (.ret (.tup [(.var 2), (.var 4), (.call i_law_part [(.var 0), (.var 3), (.const (.int 4))]), (.cmp .eq (.call i_law_less [(.var 0), (.const (.int 3))]) (.const (.int 0)))]))]
/-- _law_setup -/
def t_law_setup (i_law_some : Nat) (i_law_less : Nat) (i_law_setup_of : Nat) : List S := [(.asg 2 false (.call i_law_some [(.var 0), (.lst [(.lst [(.const (.str ⟨#[97]⟩)), (.const (.str ⟨#[98]⟩))]), (.lst [(.const (.str ⟨#[100, 101, 115, 107]⟩)), (.const (.str ⟨#[110, 101, 119, 115]⟩))]), (.lst [(.const (.str ⟨#[115, 104, 111, 112]⟩)), (.const (.str ⟨#[122, 105, 110, 101]⟩))])])])),
    (.ife (.and (.var 1) (.cmp .eq (.call i_law_less [(.var 0), (.const (.int 3))]) (.const (.int 0)))) [(.asg 2 false (.lst [(.const (.str ⟨#[100, 101, 115, 107]⟩)), (.const (.str ⟨#[110, 101, 119, 115]⟩)), (.const (.str ⟨#[115, 104, 111, 112]⟩))]))] []),
    (.ret (.call i_law_setup_of [(.var 0), (.var 2)]))]
/-- _law_setup_of -/
def t_law_setup_of (i_law_tool : Nat) (i_law_less : Nat) (i_law_part : Nat) : List S := [(.asg 2 false (.blt .tuple [(.comp (.call i_law_tool [(.var 0), (.var 1), (.var 6)]) (.one 6) .seq [(.var 1)] [])])),
    (.asg 3 false (.tup [])),
    (.for (.one 4) .seq [(.var 1)] [(.for (.one 5) .seq [(.var 1)] [(.ife (.and (.cmp .ne (.var 4) (.var 5)) (.cmp .lt (.call i_law_less [(.var 0), (.const (.int 5))]) (.const (.int 2)))) [(.asg 3 false (.bin .add (.var 3) (.tup [(.tup [(.var 4), (.var 5)])])))] [])])]),
    (.ret (.tup [(.var 2), (.var 3), (.tup [(.call i_law_part [(.var 0), (.var 1), (.const (.int 3))]), (.call i_law_part [(.var 0), (.var 1), (.const (.int 2))])])]))]
end Kp

/-! Kp, part 17: setups: what the program's defs say of data. -/
namespace Kp
open PySem

mutual
/-- data with short texts, not too long rows, no dicts -/
def small : P → Bool
  | .str s => decide (s.length ≤ 1000)
  | .list xs => decide (xs.length ≤ 1000000) && smallAll xs
  | .tuple xs => decide (xs.length ≤ 1000000) && smallAll xs
  | .dict _ => false
  | _ => true
def smallAll : List P → Bool
  | [] => true
  | x :: xs => small x && smallAll xs
end
theorem smallAll_mem : ∀ {xs : List P}, smallAll xs = true → ∀ x ∈ xs, small x = true
  | [], _, x, hx => by simp at hx
  | y :: ys, h, x, hx => by
    rw [smallAll, Bool.and_eq_true] at h
    rcases List.mem_cons.mp hx with e | hx
    · rw [e]; exact h.1
    · exact smallAll_mem h.2 x hx
theorem small_tup {xs : List P} (h : small (.tuple xs) = true) : xs.length ≤ 1000000 ∧ ∀ x ∈ xs, small x = true := by
  rw [small, Bool.and_eq_true] at h
  exact ⟨of_decide_eq_true h.1, smallAll_mem h.2⟩
theorem sz_big : (1000000 : Nat) ≤ SZ := by decide
theorem fit_str (s : Str) : fit (.str s) = true := rfl
theorem fit_int (i : Int) : fit (.int i) = true := rfl
theorem fit_bool (b : Bool) : fit (.bool b) = true := rfl
theorem lenP_str {s : Str} (h : s.length ≤ 1000) : lenP (.str s) = some s.length := by
  show (if s.length ≤ SZ then some s.length else none) = _
  rw [if_pos (Nat.le_trans h (by decide))]
theorem one_lt (a b : Nat) : ([a] < [b]) = (a < b) := by
  simp [List.cons_lt_cons_iff]
def isLabel : P → Bool
  | .str s => decide (1 ≤ s.length) && (decide (s.length ≤ 8) && s.cps.toList.all fun c => decide (97 ≤ c) && decide (c ≤ 122))
  | _ => false
section
variable {Φ : Nat → List D → Sto → R Rv} {st : Sto}
theorem sem_isLabel {v : P} (hv : small v = true) : fin st.length (evSs Φ t_is_label [some (.py v), none] st) = ok1 (.bool (isLabel v)) st := by
  unfold t_is_label
  cases v with
  | str s =>
    have hs : s.length ≤ 1000 := by rw [small] at hv; exact of_decide_eq_true hv
    have hl : (s.cps.toList.map fun c => PyData.str ⟨#[c]⟩).length = s.length := by rw [List.length_map]; rfl
    have hc : ∀ st, evE Φ [some (.py (.str s)), none] (.comp (.chain .le .le (.const (.str ⟨#[97]⟩)) (.var 1) (.const (.str ⟨#[122]⟩))) (.one 1) .seq [(.var 0)] []) st =
        .ok (.nl ((s.cps.toList.map fun c => PyData.str ⟨#[c]⟩).map fun y => .bool (match y with | .str z => (match z.cps.toList with | [c] => decide (97 ≤ c) && decide (c ≤ 122) | _ => false) | _ => false))) st := fun st => by
      refine comp_map _ (ds := [.py (.str s)]) (by simp only [v_nil, v_cons, v_for, v_asg, v_par, v_unp, v_setI, v_expr, v_ret, v_ife, v_pass, e_var, e_const, e_tup, e_lst, e_bin, e_negc, e_not, e_and, e_or, e_cmp, e_chain, e_ife, e_idx, e_slc, e_call, e_isi, e_blt, evDs, evPar, evAnd, x_bind, x_then, ok_bind, ok_then, nx_then, rt_then, np_imp, np_nl, np_py, ni_imp, ni_py, ni_nl, nb_imp, nb_py, no_none, no_int, no_intp, fz_imp, fz_im, fz_nl, im_py, im_imp, ok_imp, dm_nil, dm_one, dm_two, dr_py, tp_nil, tp_cons, ck_true, fin_rt, fin_nx, tr_imp, tr_nl, st_im, st_imp, st_nl, st_nlt, un_imp, b_len, b_all, b_any, b_max, b_min, b_int, b_intb, b_ll, b_lt, b_tl, b_tt, len_l, len_t, it_sl, it_st, it_ss, ty_str, ty_tup, c_le, c_ge, c_lt, c_gt, c_eqi, c_nei, c_eqs, c_nes, c_eqb, c_isb, c_isnb, o_add, o_sub, idx_t, idx_l, at0, at1, at2, at3, Bool.not_true, Bool.not_false, Bool.true_and, Bool.false_and, tgSlots, wipeE, bindT, List.getElem?_cons_zero, List.getElem?_cons_succ, List.set_cons_zero, List.set_cons_succ, Option.map_some, if_true, Bool.false_eq_true, if_false]) (by simp only [v_nil, v_cons, v_for, v_asg, v_par, v_unp, v_setI, v_expr, v_ret, v_ife, v_pass, e_var, e_const, e_tup, e_lst, e_bin, e_negc, e_not, e_and, e_or, e_cmp, e_chain, e_ife, e_idx, e_slc, e_call, e_isi, e_blt, evDs, evPar, evAnd, x_bind, x_then, ok_bind, ok_then, nx_then, rt_then, np_imp, np_nl, np_py, ni_imp, ni_py, ni_nl, nb_imp, nb_py, no_none, no_int, no_intp, fz_imp, fz_im, fz_nl, im_py, im_imp, ok_imp, dm_nil, dm_one, dm_two, dr_py, tp_nil, tp_cons, ck_true, fin_rt, fin_nx, tr_imp, tr_nl, st_im, st_imp, st_nl, st_nlt, un_imp, b_len, b_all, b_any, b_max, b_min, b_int, b_intb, b_ll, b_lt, b_tl, b_tt, len_l, len_t, it_sl, it_st, it_ss, ty_str, ty_tup, c_le, c_ge, c_lt, c_gt, c_eqi, c_nei, c_eqs, c_nes, c_eqb, c_isb, c_isnb, o_add, o_sub, idx_t, idx_l, at0, at1, at2, at3, Bool.not_true, Bool.not_false, Bool.true_and, Bool.false_and, tgSlots, wipeE, bindT, List.getElem?_cons_zero, List.getElem?_cons_succ, List.set_cons_zero, List.set_cons_succ, Option.map_some, if_true, Bool.false_eq_true, if_false]) (fun y hy st => ?_) (by rw [hl]; exact Nat.le_trans hs (by decide))
      obtain ⟨c, _, rfl⟩ := List.mem_map.mp hy
      refine turn_elt (env1 := [some (.py (.str s)), some (.py (.str ⟨#[c]⟩))]) (by simp only [v_nil, v_cons, v_for, v_asg, v_par, v_unp, v_setI, v_expr, v_ret, v_ife, v_pass, e_var, e_const, e_tup, e_lst, e_bin, e_negc, e_not, e_and, e_or, e_cmp, e_chain, e_ife, e_idx, e_slc, e_call, e_isi, e_blt, evDs, evPar, evAnd, x_bind, x_then, ok_bind, ok_then, nx_then, rt_then, np_imp, np_nl, np_py, ni_imp, ni_py, ni_nl, nb_imp, nb_py, no_none, no_int, no_intp, fz_imp, fz_im, fz_nl, im_py, im_imp, ok_imp, dm_nil, dm_one, dm_two, dr_py, tp_nil, tp_cons, ck_true, fin_rt, fin_nx, tr_imp, tr_nl, st_im, st_imp, st_nl, st_nlt, un_imp, b_len, b_all, b_any, b_max, b_min, b_int, b_intb, b_ll, b_lt, b_tl, b_tt, len_l, len_t, it_sl, it_st, it_ss, ty_str, ty_tup, c_le, c_ge, c_lt, c_gt, c_eqi, c_nei, c_eqs, c_nes, c_eqb, c_isb, c_isnb, o_add, o_sub, idx_t, idx_l, at0, at1, at2, at3, Bool.not_true, Bool.not_false, Bool.true_and, Bool.false_and, tgSlots, wipeE, bindT, List.getElem?_cons_zero, List.getElem?_cons_succ, List.set_cons_zero, List.set_cons_succ, Option.map_some, if_true, Bool.false_eq_true, if_false]) ?_
      simp only [v_nil, v_cons, v_for, v_asg, v_par, v_unp, v_setI, v_expr, v_ret, v_ife, v_pass, e_var, e_const, e_tup, e_lst, e_bin, e_negc, e_not, e_and, e_or, e_cmp, e_chain, e_ife, e_idx, e_slc, e_call, e_isi, e_blt, evDs, evPar, evAnd, x_bind, x_then, ok_bind, ok_then, nx_then, rt_then, np_imp, np_nl, np_py, ni_imp, ni_py, ni_nl, nb_imp, nb_py, no_none, no_int, no_intp, fz_imp, fz_im, fz_nl, im_py, im_imp, ok_imp, dm_nil, dm_one, dm_two, dr_py, tp_nil, tp_cons, ck_true, fin_rt, fin_nx, tr_imp, tr_nl, st_im, st_imp, st_nl, st_nlt, un_imp, b_len, b_all, b_any, b_max, b_min, b_int, b_intb, b_ll, b_lt, b_tl, b_tt, len_l, len_t, it_sl, it_st, it_ss, ty_str, ty_tup, c_le, c_ge, c_lt, c_gt, c_eqi, c_nei, c_eqs, c_nes, c_eqb, c_isb, c_isnb, o_add, o_sub, idx_t, idx_l, at0, at1, at2, at3, Bool.not_true, Bool.not_false, Bool.true_and, Bool.false_and, tgSlots, wipeE, bindT, List.getElem?_cons_zero, List.getElem?_cons_succ, List.set_cons_zero, List.set_cons_succ, Option.map_some, if_true, Bool.false_eq_true, if_false, c_les, one_lt]
      by_cases h1 : c < 97
      · have h2 : ¬ 97 ≤ c := by omega
        simp [h1, h2]
      · have h2 : 97 ≤ c := by omega
        by_cases h3 : 122 < c
        · have h4 : ¬ c ≤ 122 := by omega
          simp [h1, h2, h3, h4]
        · have h4 : c ≤ 122 := by omega
          simp [h1, h2, h3, h4]
    have h1 : decide ((1 : Int) ≤ ((s.length : Nat) : Int)) = decide (1 ≤ s.length) := decide_eq_decide.mpr (by omega)
    have h2 : decide (((s.length : Nat) : Int) ≤ 8) = decide (s.length ≤ 8) := decide_eq_decide.mpr (by omega)
    simp only [List.map_map, Function.comp_def] at hc
    simp only [v_nil, v_cons, v_for, v_asg, v_par, v_unp, v_setI, v_expr, v_ret, v_ife, v_pass, e_var, e_const, e_tup, e_lst, e_bin, e_negc, e_not, e_and, e_or, e_cmp, e_chain, e_ife, e_idx, e_slc, e_call, e_isi, e_blt, evDs, evPar, evAnd, x_bind, x_then, ok_bind, ok_then, nx_then, rt_then, np_imp, np_nl, np_py, ni_imp, ni_py, ni_nl, nb_imp, nb_py, no_none, no_int, no_intp, fz_imp, fz_im, fz_nl, im_py, im_imp, ok_imp, dm_nil, dm_one, dm_two, dr_py, tp_nil, tp_cons, ck_true, fin_rt, fin_nx, tr_imp, tr_nl, st_im, st_imp, st_nl, st_nlt, un_imp, b_len, b_all, b_any, b_max, b_min, b_int, b_intb, b_ll, b_lt, b_tl, b_tt, len_l, len_t, it_sl, it_st, it_ss, ty_str, ty_tup, c_le, c_ge, c_lt, c_gt, c_eqi, c_nei, c_eqs, c_nes, c_eqb, c_isb, c_isnb, o_add, o_sub, idx_t, idx_l, at0, at1, at2, at3, Bool.not_true, Bool.not_false, Bool.true_and, Bool.false_and, tgSlots, wipeE, bindT, List.getElem?_cons_zero, List.getElem?_cons_succ, List.set_cons_zero, List.set_cons_succ, Option.map_some, if_true, Bool.false_eq_true, if_false, lenP_str hs, hc, isLabel, h1, h2, bools_map']
    generalize decide (1 ≤ s.length) = b1
    generalize decide (s.length ≤ 8) = b2
    cases b1 <;> cases b2 <;> simp only [v_nil, v_cons, v_for, v_asg, v_par, v_unp, v_setI, v_expr, v_ret, v_ife, v_pass, e_var, e_const, e_tup, e_lst, e_bin, e_negc, e_not, e_and, e_or, e_cmp, e_chain, e_ife, e_idx, e_slc, e_call, e_isi, e_blt, evDs, evPar, evAnd, x_bind, x_then, ok_bind, ok_then, nx_then, rt_then, np_imp, np_nl, np_py, ni_imp, ni_py, ni_nl, nb_imp, nb_py, no_none, no_int, no_intp, fz_imp, fz_im, fz_nl, im_py, im_imp, ok_imp, dm_nil, dm_one, dm_two, dr_py, tp_nil, tp_cons, ck_true, fin_rt, fin_nx, tr_imp, tr_nl, st_im, st_imp, st_nl, st_nlt, un_imp, b_len, b_all, b_any, b_max, b_min, b_int, b_intb, b_ll, b_lt, b_tl, b_tt, len_l, len_t, it_sl, it_st, it_ss, ty_str, ty_tup, c_le, c_ge, c_lt, c_gt, c_eqi, c_nei, c_eqs, c_nes, c_eqb, c_isb, c_isnb, o_add, o_sub, idx_t, idx_l, at0, at1, at2, at3, Bool.not_true, Bool.not_false, Bool.true_and, Bool.false_and, tgSlots, wipeE, bindT, List.getElem?_cons_zero, List.getElem?_cons_succ, List.set_cons_zero, List.set_cons_succ, Option.map_some, if_true, Bool.false_eq_true, if_false, Bool.true_and, Bool.false_and]
    simp [List.all_map, Function.comp_def, tr_imp]
  | _ => simp only [v_nil, v_cons, v_for, v_asg, v_par, v_unp, v_setI, v_expr, v_ret, v_ife, v_pass, e_var, e_const, e_tup, e_lst, e_bin, e_negc, e_not, e_and, e_or, e_cmp, e_chain, e_ife, e_idx, e_slc, e_call, e_isi, e_blt, evDs, evPar, evAnd, x_bind, x_then, ok_bind, ok_then, nx_then, rt_then, np_imp, np_nl, np_py, ni_imp, ni_py, ni_nl, nb_imp, nb_py, no_none, no_int, no_intp, fz_imp, fz_im, fz_nl, im_py, im_imp, ok_imp, dm_nil, dm_one, dm_two, dr_py, tp_nil, tp_cons, ck_true, fin_rt, fin_nx, tr_imp, tr_nl, st_im, st_imp, st_nl, st_nlt, un_imp, b_len, b_all, b_any, b_max, b_min, b_int, b_intb, b_ll, b_lt, b_tl, b_tt, len_l, len_t, it_sl, it_st, it_ss, ty_str, ty_tup, c_le, c_ge, c_lt, c_gt, c_eqi, c_nei, c_eqs, c_nes, c_eqb, c_isb, c_isnb, o_add, o_sub, idx_t, idx_l, at0, at1, at2, at3, Bool.not_true, Bool.not_false, Bool.true_and, Bool.false_and, tgSlots, wipeE, bindT, List.getElem?_cons_zero, List.getElem?_cons_succ, List.set_cons_zero, List.set_cons_succ, Option.map_some, if_true, Bool.false_eq_true, if_false, isTy, isLabel]
/-! rows -/
/-- may be compared with one another -/
def RowOk (xs : List P) : Prop := (∀ x ∈ xs, ∃ s, x = .str s) ∨ (∀ x ∈ xs, ∃ s t, x = .tuple [.str s, .str t])
theorem RowOk.lt {xs : List P} (h : RowOk xs) {x y : P} (hx : x ∈ xs) (hy : y ∈ xs) : cmpop .lt x y = some (PySem.W.dataLt x y) := by
  rcases h with h | h
  · obtain ⟨s, rfl⟩ := h x hx
    obtain ⟨t, rfl⟩ := h y hy
    rfl
  · obtain ⟨s, s', rfl⟩ := h x hx
    obtain ⟨t, t', rfl⟩ := h y hy
    rfl
theorem RowOk.ge {xs : List P} (h : RowOk xs) {x y : P} (hx : x ∈ xs) (hy : y ∈ xs) : cmpop .ge x y = some (!PySem.W.dataLt x y) := by
  rcases h with h | h
  · obtain ⟨s, rfl⟩ := h x hx
    obtain ⟨t, rfl⟩ := h y hy
    rfl
  · obtain ⟨s, s', rfl⟩ := h x hx
    obtain ⟨t, t', rfl⟩ := h y hy
    rfl
/-- each before the next -/
def asc (xs : List P) : Bool := (List.range (xs.length - 1)).all fun i => PySem.W.dataLt (xs.getD i .none) (xs.getD (i + 1) .none)
theorem getD_of {xs : List P} {i : Nat} (h : i < xs.length) : xs.getD i .none = xs[i] := by
  rw [List.getD_eq_getElem?_getD, List.getElem?_eq_getElem h]; rfl
theorem sem_ascends {v : P} {xs : List P} (hv : v = .list xs ∨ v = .tuple xs) (hr : RowOk xs) (hz : xs.length ≤ 1000000) : fin st.length (evSs Φ t_ascends [some (.py v), none] st) = ok1 (.bool (asc xs)) st := by
  unfold t_ascends
  have hlen : lenP v = some xs.length := by rcases hv with rfl | rfl <;> rfl
  have hix : ∀ i, idxop v (.int i) = L2.atI xs i := fun i => by rcases hv with rfl | rfl <;> rfl
  have hc : ∀ st, evE Φ [some (.py v), none] (.comp (.cmp .lt (.idx (.var 0) (.var 1)) (.idx (.var 0) (.bin .add (.var 1) (.const (.int 1))))) (.one 1) .rng1 [(.bin .sub (.blt .len [(.var 0)]) (.const (.int 1)))] []) st =
      .ok (.nl ((List.range (xs.length - 1)).map fun i => .bool (PySem.W.dataLt (xs.getD i .none) (xs.getD (i + 1) .none)))) st := fun st => by
    refine comp_rng1 (j := ((xs.length : Nat) : Int) - 1) _ (by simp only [v_nil, v_cons, v_for, v_asg, v_par, v_unp, v_setI, v_expr, v_ret, v_ife, v_pass, e_var, e_const, e_tup, e_lst, e_bin, e_negc, e_not, e_and, e_or, e_cmp, e_chain, e_ife, e_idx, e_slc, e_call, e_isi, e_blt, evDs, evPar, evAnd, x_bind, x_then, ok_bind, ok_then, nx_then, rt_then, np_imp, np_nl, np_py, ni_imp, ni_py, ni_nl, nb_imp, nb_py, no_none, no_int, no_intp, fz_imp, fz_im, fz_nl, im_py, im_imp, ok_imp, dm_nil, dm_one, dm_two, dr_py, tp_nil, tp_cons, ck_true, fin_rt, fin_nx, tr_imp, tr_nl, st_im, st_imp, st_nl, st_nlt, un_imp, b_len, b_all, b_any, b_max, b_min, b_int, b_intb, b_ll, b_lt, b_tl, b_tt, len_l, len_t, it_sl, it_st, it_ss, ty_str, ty_tup, c_le, c_ge, c_lt, c_gt, c_eqi, c_nei, c_eqs, c_nes, c_eqb, c_isb, c_isnb, o_add, o_sub, idx_t, idx_l, at0, at1, at2, at3, Bool.not_true, Bool.not_false, Bool.true_and, Bool.false_and, tgSlots, wipeE, bindT, List.getElem?_cons_zero, List.getElem?_cons_succ, List.set_cons_zero, List.set_cons_succ, Option.map_some, if_true, Bool.false_eq_true, if_false, hlen]) (by omega) (by omega) (by omega) fun i hi st => ?_
    have h1 : i < xs.length := by omega
    have h2 : i + 1 < xs.length := by omega
    refine turn_elt (env1 := [some (.py v), some (.py (.int i))]) (by simp only [v_nil, v_cons, v_for, v_asg, v_par, v_unp, v_setI, v_expr, v_ret, v_ife, v_pass, e_var, e_const, e_tup, e_lst, e_bin, e_negc, e_not, e_and, e_or, e_cmp, e_chain, e_ife, e_idx, e_slc, e_call, e_isi, e_blt, evDs, evPar, evAnd, x_bind, x_then, ok_bind, ok_then, nx_then, rt_then, np_imp, np_nl, np_py, ni_imp, ni_py, ni_nl, nb_imp, nb_py, no_none, no_int, no_intp, fz_imp, fz_im, fz_nl, im_py, im_imp, ok_imp, dm_nil, dm_one, dm_two, dr_py, tp_nil, tp_cons, ck_true, fin_rt, fin_nx, tr_imp, tr_nl, st_im, st_imp, st_nl, st_nlt, un_imp, b_len, b_all, b_any, b_max, b_min, b_int, b_intb, b_ll, b_lt, b_tl, b_tt, len_l, len_t, it_sl, it_st, it_ss, ty_str, ty_tup, c_le, c_ge, c_lt, c_gt, c_eqi, c_nei, c_eqs, c_nes, c_eqb, c_isb, c_isnb, o_add, o_sub, idx_t, idx_l, at0, at1, at2, at3, Bool.not_true, Bool.not_false, Bool.true_and, Bool.false_and, tgSlots, wipeE, bindT, List.getElem?_cons_zero, List.getElem?_cons_succ, List.set_cons_zero, List.set_cons_succ, Option.map_some, if_true, Bool.false_eq_true, if_false]) ?_
    simp only [v_nil, v_cons, v_for, v_asg, v_par, v_unp, v_setI, v_expr, v_ret, v_ife, v_pass, e_var, e_const, e_tup, e_lst, e_bin, e_negc, e_not, e_and, e_or, e_cmp, e_chain, e_ife, e_idx, e_slc, e_call, e_isi, e_blt, evDs, evPar, evAnd, x_bind, x_then, ok_bind, ok_then, nx_then, rt_then, np_imp, np_nl, np_py, ni_imp, ni_py, ni_nl, nb_imp, nb_py, no_none, no_int, no_intp, fz_imp, fz_im, fz_nl, im_py, im_imp, ok_imp, dm_nil, dm_one, dm_two, dr_py, tp_nil, tp_cons, ck_true, fin_rt, fin_nx, tr_imp, tr_nl, st_im, st_imp, st_nl, st_nlt, un_imp, b_len, b_all, b_any, b_max, b_min, b_int, b_intb, b_ll, b_lt, b_tl, b_tt, len_l, len_t, it_sl, it_st, it_ss, ty_str, ty_tup, c_le, c_ge, c_lt, c_gt, c_eqi, c_nei, c_eqs, c_nes, c_eqb, c_isb, c_isnb, o_add, o_sub, idx_t, idx_l, at0, at1, at2, at3, Bool.not_true, Bool.not_false, Bool.true_and, Bool.false_and, tgSlots, wipeE, bindT, List.getElem?_cons_zero, List.getElem?_cons_succ, List.set_cons_zero, List.set_cons_succ, Option.map_some, if_true, Bool.false_eq_true, if_false, hix]
    rw [show ((i : Nat) : Int) + 1 = ((i + 1 : Nat) : Int) from by omega]
    simp only [atI_nat h1, atI_nat h2, v_nil, v_cons, v_for, v_asg, v_par, v_unp, v_setI, v_expr, v_ret, v_ife, v_pass, e_var, e_const, e_tup, e_lst, e_bin, e_negc, e_not, e_and, e_or, e_cmp, e_chain, e_ife, e_idx, e_slc, e_call, e_isi, e_blt, evDs, evPar, evAnd, x_bind, x_then, ok_bind, ok_then, nx_then, rt_then, np_imp, np_nl, np_py, ni_imp, ni_py, ni_nl, nb_imp, nb_py, no_none, no_int, no_intp, fz_imp, fz_im, fz_nl, im_py, im_imp, ok_imp, dm_nil, dm_one, dm_two, dr_py, tp_nil, tp_cons, ck_true, fin_rt, fin_nx, tr_imp, tr_nl, st_im, st_imp, st_nl, st_nlt, un_imp, b_len, b_all, b_any, b_max, b_min, b_int, b_intb, b_ll, b_lt, b_tl, b_tt, len_l, len_t, it_sl, it_st, it_ss, ty_str, ty_tup, c_le, c_ge, c_lt, c_gt, c_eqi, c_nei, c_eqs, c_nes, c_eqb, c_isb, c_isnb, o_add, o_sub, idx_t, idx_l, at0, at1, at2, at3, Bool.not_true, Bool.not_false, Bool.true_and, Bool.false_and, tgSlots, wipeE, bindT, List.getElem?_cons_zero, List.getElem?_cons_succ, List.set_cons_zero, List.set_cons_succ, Option.map_some, if_true, Bool.false_eq_true, if_false, hr.lt (List.getElem_mem h1) (List.getElem_mem h2), getD_of h1, getD_of h2]
  simp only [v_nil, v_cons, v_for, v_asg, v_par, v_unp, v_setI, v_expr, v_ret, v_ife, v_pass, e_var, e_const, e_tup, e_lst, e_bin, e_negc, e_not, e_and, e_or, e_cmp, e_chain, e_ife, e_idx, e_slc, e_call, e_isi, e_blt, evDs, evPar, evAnd, x_bind, x_then, ok_bind, ok_then, nx_then, rt_then, np_imp, np_nl, np_py, ni_imp, ni_py, ni_nl, nb_imp, nb_py, no_none, no_int, no_intp, fz_imp, fz_im, fz_nl, im_py, im_imp, ok_imp, dm_nil, dm_one, dm_two, dr_py, tp_nil, tp_cons, ck_true, fin_rt, fin_nx, tr_imp, tr_nl, st_im, st_imp, st_nl, st_nlt, un_imp, b_len, b_all, b_any, b_max, b_min, b_int, b_intb, b_ll, b_lt, b_tl, b_tt, len_l, len_t, it_sl, it_st, it_ss, ty_str, ty_tup, c_le, c_ge, c_lt, c_gt, c_eqi, c_nei, c_eqs, c_nes, c_eqb, c_isb, c_isnb, o_add, o_sub, idx_t, idx_l, at0, at1, at2, at3, Bool.not_true, Bool.not_false, Bool.true_and, Bool.false_and, tgSlots, wipeE, bindT, List.getElem?_cons_zero, List.getElem?_cons_succ, List.set_cons_zero, List.set_cons_succ, Option.map_some, if_true, Bool.false_eq_true, if_false, hc, bools_map', tr_imp]
  congr 2
  unfold asc
  rw [List.all_map]
  rfl
/-! a word of a list -/
def oneOf (ws : List P) : P → Bool
  | .str s => ws.any fun y => y.eqv (.str s)
  | _ => false
def Strs (ws : List P) : Prop := ∀ w ∈ ws, ∃ s, w = .str s
theorem Strs.fit {ws : List P} (h : Strs ws) : ws.all fit = true := by
  rw [List.all_eq_true]
  intro x hx
  obtain ⟨s, rfl⟩ := h x hx
  rfl
theorem c_in_l (x : P) (ys : List P) (h : fit x = true) (h2 : ys.all fit = true) : cmpop .in_ x (.list ys) = some (ys.any fun y => y.eqv x) := by
  show (if (fit x && ys.all fit) = true then _ else none) = _
  rw [h, h2, Bool.and_self, if_pos rfl]
theorem c_in_t (x : P) (ys : List P) (h : fit x = true) (h2 : ys.all fit = true) : cmpop .in_ x (.tuple ys) = some (ys.any fun y => y.eqv x) := by
  show (if (fit x && ys.all fit) = true then _ else none) = _
  rw [h, h2, Bool.and_self, if_pos rfl]
theorem c_ni_l (x : P) (ys : List P) (h : fit x = true) (h2 : ys.all fit = true) : cmpop .notin x (.list ys) = some (!ys.any fun y => y.eqv x) := by
  show (isIn x (.list ys)).map (!·) = _
  have e : isIn x (.list ys) = some (ys.any fun y => y.eqv x) := c_in_l x ys h h2
  rw [e]; rfl
theorem c_ni_t (x : P) (ys : List P) (h : fit x = true) (h2 : ys.all fit = true) : cmpop .notin x (.tuple ys) = some (!ys.any fun y => y.eqv x) := by
  show (isIn x (.tuple ys)).map (!·) = _
  have e : isIn x (.tuple ys) = some (ys.any fun y => y.eqv x) := c_in_t x ys h h2
  rw [e]; rfl
theorem sem_oneOf {W v : P} {ws : List P} (hW : W = .list ws ∨ W = .tuple ws) (hs : Strs ws) : fin st.length (evSs Φ t_is_one_of [some (.py W), some (.py v)] st) = ok1 (.bool (oneOf ws v)) st := by
  unfold t_is_one_of
  cases v with
  | str s => rcases hW with rfl | rfl <;> simp only [v_nil, v_cons, v_for, v_asg, v_par, v_unp, v_setI, v_expr, v_ret, v_ife, v_pass, e_var, e_const, e_tup, e_lst, e_bin, e_negc, e_not, e_and, e_or, e_cmp, e_chain, e_ife, e_idx, e_slc, e_call, e_isi, e_blt, evDs, evPar, evAnd, x_bind, x_then, ok_bind, ok_then, nx_then, rt_then, np_imp, np_nl, np_py, ni_imp, ni_py, ni_nl, nb_imp, nb_py, no_none, no_int, no_intp, fz_imp, fz_im, fz_nl, im_py, im_imp, ok_imp, dm_nil, dm_one, dm_two, dr_py, tp_nil, tp_cons, ck_true, fin_rt, fin_nx, tr_imp, tr_nl, st_im, st_imp, st_nl, st_nlt, un_imp, b_len, b_all, b_any, b_max, b_min, b_int, b_intb, b_ll, b_lt, b_tl, b_tt, len_l, len_t, it_sl, it_st, it_ss, ty_str, ty_tup, c_le, c_ge, c_lt, c_gt, c_eqi, c_nei, c_eqs, c_nes, c_eqb, c_isb, c_isnb, o_add, o_sub, idx_t, idx_l, at0, at1, at2, at3, Bool.not_true, Bool.not_false, Bool.true_and, Bool.false_and, tgSlots, wipeE, bindT, List.getElem?_cons_zero, List.getElem?_cons_succ, List.set_cons_zero, List.set_cons_succ, Option.map_some, if_true, Bool.false_eq_true, if_false, c_in_l _ _ (fit_str s) hs.fit, c_in_t _ _ (fit_str s) hs.fit, oneOf]
  | _ => simp only [v_nil, v_cons, v_for, v_asg, v_par, v_unp, v_setI, v_expr, v_ret, v_ife, v_pass, e_var, e_const, e_tup, e_lst, e_bin, e_negc, e_not, e_and, e_or, e_cmp, e_chain, e_ife, e_idx, e_slc, e_call, e_isi, e_blt, evDs, evPar, evAnd, x_bind, x_then, ok_bind, ok_then, nx_then, rt_then, np_imp, np_nl, np_py, ni_imp, ni_py, ni_nl, nb_imp, nb_py, no_none, no_int, no_intp, fz_imp, fz_im, fz_nl, im_py, im_imp, ok_imp, dm_nil, dm_one, dm_two, dr_py, tp_nil, tp_cons, ck_true, fin_rt, fin_nx, tr_imp, tr_nl, st_im, st_imp, st_nl, st_nlt, un_imp, b_len, b_all, b_any, b_max, b_min, b_int, b_intb, b_ll, b_lt, b_tl, b_tt, len_l, len_t, it_sl, it_st, it_ss, ty_str, ty_tup, c_le, c_ge, c_lt, c_gt, c_eqi, c_nei, c_eqs, c_nes, c_eqb, c_isb, c_isnb, o_add, o_sub, idx_t, idx_l, at0, at1, at2, at3, Bool.not_true, Bool.not_false, Bool.true_and, Bool.false_and, tgSlots, wipeE, bindT, List.getElem?_cons_zero, List.getElem?_cons_succ, List.set_cons_zero, List.set_cons_succ, Option.map_some, if_true, Bool.false_eq_true, if_false, isTy, oneOf]

/-! callees -/
def LabelF (Φ : Nat → List D → Sto → R Rv) (i : Nat) : Prop := ∀ v st, small v = true → Φ i [.py v] st = ok1 (.bool (isLabel v)) st
def OneF (Φ : Nat → List D → Sto → R Rv) (i : Nat) : Prop := ∀ W ws v st, (W = .list ws ∨ W = .tuple ws) → Strs ws → Φ i [.py W, .py v] st = ok1 (.bool (oneOf ws v)) st
def AscF (Φ : Nat → List D → Sto → R Rv) (i : Nat) : Prop := ∀ v xs st, (v = .list xs ∨ v = .tuple xs) → RowOk xs → xs.length ≤ 1000000 → Φ i [.py v] st = ok1 (.bool (asc xs)) st
theorem oneOf_str {ws : List P} {v : P} (h : oneOf ws v = true) : ∃ s, v = .str s := by
  cases v with
  | str s => exact ⟨s, rfl⟩
  | _ => cases h
theorem all_oneOf {ws vs : List P} (h : vs.all (oneOf ws) = true) : Strs vs := fun v hv => oneOf_str (List.all_eq_true.mp h v hv)
def areNames (ns : List P) : P → Bool
  | .tuple vs => vs.all (oneOf ns) && asc vs
  | _ => false
theorem sem_areNames {i1 i2 : Nat} (h1 : OneF Φ i1) (h2 : AscF Φ i2) {W v : P} {ns : List P} (hW : W = .list ns ∨ W = .tuple ns) (hs : Strs ns) (hv : small v = true) :
    fin st.length (evSs Φ (t_are_names i1 i2) [some (.py W), some (.py v), none] st) = ok1 (.bool (areNames ns v)) st := by
  unfold t_are_names
  cases v with
  | tuple vs =>
    obtain ⟨z, _⟩ := small_tup hv
    have hc : ∀ st, evE Φ [some (.py W), some (.py (.tuple vs)), none] (.comp (.call i1 [(.var 0), (.var 2)]) (.one 2) .seq [(.var 1)] []) st = .ok (.nl (vs.map fun y => .bool (oneOf ns y))) st := fun st => by
      refine comp_map _ (ds := [.py (.tuple vs)]) (by simp only [v_nil, v_cons, v_for, v_asg, v_par, v_unp, v_setI, v_expr, v_ret, v_ife, v_pass, e_var, e_const, e_tup, e_lst, e_bin, e_negc, e_not, e_and, e_or, e_cmp, e_chain, e_ife, e_idx, e_slc, e_call, e_isi, e_blt, evDs, evPar, evAnd, x_bind, x_then, ok_bind, ok_then, nx_then, rt_then, np_imp, np_nl, np_py, ni_imp, ni_py, ni_nl, nb_imp, nb_py, no_none, no_int, no_intp, fz_imp, fz_im, fz_nl, im_py, im_imp, ok_imp, dm_nil, dm_one, dm_two, dr_py, tp_nil, tp_cons, ck_true, fin_rt, fin_nx, tr_imp, tr_nl, st_im, st_imp, st_nl, st_nlt, un_imp, b_len, b_all, b_any, b_max, b_min, b_int, b_intb, b_ll, b_lt, b_tl, b_tt, len_l, len_t, it_sl, it_st, it_ss, ty_str, ty_tup, c_le, c_ge, c_lt, c_gt, c_eqi, c_nei, c_eqs, c_nes, c_eqb, c_isb, c_isnb, o_add, o_sub, idx_t, idx_l, at0, at1, at2, at3, Bool.not_true, Bool.not_false, Bool.true_and, Bool.false_and, tgSlots, wipeE, bindT, List.getElem?_cons_zero, List.getElem?_cons_succ, List.set_cons_zero, List.set_cons_succ, Option.map_some, if_true, Bool.false_eq_true, if_false]) (by simp only [v_nil, v_cons, v_for, v_asg, v_par, v_unp, v_setI, v_expr, v_ret, v_ife, v_pass, e_var, e_const, e_tup, e_lst, e_bin, e_negc, e_not, e_and, e_or, e_cmp, e_chain, e_ife, e_idx, e_slc, e_call, e_isi, e_blt, evDs, evPar, evAnd, x_bind, x_then, ok_bind, ok_then, nx_then, rt_then, np_imp, np_nl, np_py, ni_imp, ni_py, ni_nl, nb_imp, nb_py, no_none, no_int, no_intp, fz_imp, fz_im, fz_nl, im_py, im_imp, ok_imp, dm_nil, dm_one, dm_two, dr_py, tp_nil, tp_cons, ck_true, fin_rt, fin_nx, tr_imp, tr_nl, st_im, st_imp, st_nl, st_nlt, un_imp, b_len, b_all, b_any, b_max, b_min, b_int, b_intb, b_ll, b_lt, b_tl, b_tt, len_l, len_t, it_sl, it_st, it_ss, ty_str, ty_tup, c_le, c_ge, c_lt, c_gt, c_eqi, c_nei, c_eqs, c_nes, c_eqb, c_isb, c_isnb, o_add, o_sub, idx_t, idx_l, at0, at1, at2, at3, Bool.not_true, Bool.not_false, Bool.true_and, Bool.false_and, tgSlots, wipeE, bindT, List.getElem?_cons_zero, List.getElem?_cons_succ, List.set_cons_zero, List.set_cons_succ, Option.map_some, if_true, Bool.false_eq_true, if_false]) (fun y hy st => ?_) (Nat.le_trans z sz_big)
      exact turn_elt (env1 := [some (.py W), some (.py (.tuple vs)), some (.py y)]) (by simp only [v_nil, v_cons, v_for, v_asg, v_par, v_unp, v_setI, v_expr, v_ret, v_ife, v_pass, e_var, e_const, e_tup, e_lst, e_bin, e_negc, e_not, e_and, e_or, e_cmp, e_chain, e_ife, e_idx, e_slc, e_call, e_isi, e_blt, evDs, evPar, evAnd, x_bind, x_then, ok_bind, ok_then, nx_then, rt_then, np_imp, np_nl, np_py, ni_imp, ni_py, ni_nl, nb_imp, nb_py, no_none, no_int, no_intp, fz_imp, fz_im, fz_nl, im_py, im_imp, ok_imp, dm_nil, dm_one, dm_two, dr_py, tp_nil, tp_cons, ck_true, fin_rt, fin_nx, tr_imp, tr_nl, st_im, st_imp, st_nl, st_nlt, un_imp, b_len, b_all, b_any, b_max, b_min, b_int, b_intb, b_ll, b_lt, b_tl, b_tt, len_l, len_t, it_sl, it_st, it_ss, ty_str, ty_tup, c_le, c_ge, c_lt, c_gt, c_eqi, c_nei, c_eqs, c_nes, c_eqb, c_isb, c_isnb, o_add, o_sub, idx_t, idx_l, at0, at1, at2, at3, Bool.not_true, Bool.not_false, Bool.true_and, Bool.false_and, tgSlots, wipeE, bindT, List.getElem?_cons_zero, List.getElem?_cons_succ, List.set_cons_zero, List.set_cons_succ, Option.map_some, if_true, Bool.false_eq_true, if_false]) (by simp only [v_nil, v_cons, v_for, v_asg, v_par, v_unp, v_setI, v_expr, v_ret, v_ife, v_pass, e_var, e_const, e_tup, e_lst, e_bin, e_negc, e_not, e_and, e_or, e_cmp, e_chain, e_ife, e_idx, e_slc, e_call, e_isi, e_blt, evDs, evPar, evAnd, x_bind, x_then, ok_bind, ok_then, nx_then, rt_then, np_imp, np_nl, np_py, ni_imp, ni_py, ni_nl, nb_imp, nb_py, no_none, no_int, no_intp, fz_imp, fz_im, fz_nl, im_py, im_imp, ok_imp, dm_nil, dm_one, dm_two, dr_py, tp_nil, tp_cons, ck_true, fin_rt, fin_nx, tr_imp, tr_nl, st_im, st_imp, st_nl, st_nlt, un_imp, b_len, b_all, b_any, b_max, b_min, b_int, b_intb, b_ll, b_lt, b_tl, b_tt, len_l, len_t, it_sl, it_st, it_ss, ty_str, ty_tup, c_le, c_ge, c_lt, c_gt, c_eqi, c_nei, c_eqs, c_nes, c_eqb, c_isb, c_isnb, o_add, o_sub, idx_t, idx_l, at0, at1, at2, at3, Bool.not_true, Bool.not_false, Bool.true_and, Bool.false_and, tgSlots, wipeE, bindT, List.getElem?_cons_zero, List.getElem?_cons_succ, List.set_cons_zero, List.set_cons_succ, Option.map_some, if_true, Bool.false_eq_true, if_false, h1 W ns y _ hW hs])
    simp only [v_nil, v_cons, v_for, v_asg, v_par, v_unp, v_setI, v_expr, v_ret, v_ife, v_pass, e_var, e_const, e_tup, e_lst, e_bin, e_negc, e_not, e_and, e_or, e_cmp, e_chain, e_ife, e_idx, e_slc, e_call, e_isi, e_blt, evDs, evPar, evAnd, x_bind, x_then, ok_bind, ok_then, nx_then, rt_then, np_imp, np_nl, np_py, ni_imp, ni_py, ni_nl, nb_imp, nb_py, no_none, no_int, no_intp, fz_imp, fz_im, fz_nl, im_py, im_imp, ok_imp, dm_nil, dm_one, dm_two, dr_py, tp_nil, tp_cons, ck_true, fin_rt, fin_nx, tr_imp, tr_nl, st_im, st_imp, st_nl, st_nlt, un_imp, b_len, b_all, b_any, b_max, b_min, b_int, b_intb, b_ll, b_lt, b_tl, b_tt, len_l, len_t, it_sl, it_st, it_ss, ty_str, ty_tup, c_le, c_ge, c_lt, c_gt, c_eqi, c_nei, c_eqs, c_nes, c_eqb, c_isb, c_isnb, o_add, o_sub, idx_t, idx_l, at0, at1, at2, at3, Bool.not_true, Bool.not_false, Bool.true_and, Bool.false_and, tgSlots, wipeE, bindT, List.getElem?_cons_zero, List.getElem?_cons_succ, List.set_cons_zero, List.set_cons_succ, Option.map_some, if_true, Bool.false_eq_true, if_false, hc, bools_map', areNames]
    have e : (vs.map fun y => oneOf ns y).all id = vs.all (oneOf ns) := by rw [List.all_map]; rfl
    rw [e]
    cases hb : vs.all (oneOf ns) with
    | false => simp only [v_nil, v_cons, v_for, v_asg, v_par, v_unp, v_setI, v_expr, v_ret, v_ife, v_pass, e_var, e_const, e_tup, e_lst, e_bin, e_negc, e_not, e_and, e_or, e_cmp, e_chain, e_ife, e_idx, e_slc, e_call, e_isi, e_blt, evDs, evPar, evAnd, x_bind, x_then, ok_bind, ok_then, nx_then, rt_then, np_imp, np_nl, np_py, ni_imp, ni_py, ni_nl, nb_imp, nb_py, no_none, no_int, no_intp, fz_imp, fz_im, fz_nl, im_py, im_imp, ok_imp, dm_nil, dm_one, dm_two, dr_py, tp_nil, tp_cons, ck_true, fin_rt, fin_nx, tr_imp, tr_nl, st_im, st_imp, st_nl, st_nlt, un_imp, b_len, b_all, b_any, b_max, b_min, b_int, b_intb, b_ll, b_lt, b_tl, b_tt, len_l, len_t, it_sl, it_st, it_ss, ty_str, ty_tup, c_le, c_ge, c_lt, c_gt, c_eqi, c_nei, c_eqs, c_nes, c_eqb, c_isb, c_isnb, o_add, o_sub, idx_t, idx_l, at0, at1, at2, at3, Bool.not_true, Bool.not_false, Bool.true_and, Bool.false_and, tgSlots, wipeE, bindT, List.getElem?_cons_zero, List.getElem?_cons_succ, List.set_cons_zero, List.set_cons_succ, Option.map_some, if_true, Bool.false_eq_true, if_false, Bool.false_and]
    | true => simp only [v_nil, v_cons, v_for, v_asg, v_par, v_unp, v_setI, v_expr, v_ret, v_ife, v_pass, e_var, e_const, e_tup, e_lst, e_bin, e_negc, e_not, e_and, e_or, e_cmp, e_chain, e_ife, e_idx, e_slc, e_call, e_isi, e_blt, evDs, evPar, evAnd, x_bind, x_then, ok_bind, ok_then, nx_then, rt_then, np_imp, np_nl, np_py, ni_imp, ni_py, ni_nl, nb_imp, nb_py, no_none, no_int, no_intp, fz_imp, fz_im, fz_nl, im_py, im_imp, ok_imp, dm_nil, dm_one, dm_two, dr_py, tp_nil, tp_cons, ck_true, fin_rt, fin_nx, tr_imp, tr_nl, st_im, st_imp, st_nl, st_nlt, un_imp, b_len, b_all, b_any, b_max, b_min, b_int, b_intb, b_ll, b_lt, b_tl, b_tt, len_l, len_t, it_sl, it_st, it_ss, ty_str, ty_tup, c_le, c_ge, c_lt, c_gt, c_eqi, c_nei, c_eqs, c_nes, c_eqb, c_isb, c_isnb, o_add, o_sub, idx_t, idx_l, at0, at1, at2, at3, Bool.not_true, Bool.not_false, Bool.true_and, Bool.false_and, tgSlots, wipeE, bindT, List.getElem?_cons_zero, List.getElem?_cons_succ, List.set_cons_zero, List.set_cons_succ, Option.map_some, if_true, Bool.false_eq_true, if_false, h2 (.tuple vs) vs _ (.inr rfl) (.inl (all_oneOf hb)) z, Bool.true_and]
  | _ => simp only [v_nil, v_cons, v_for, v_asg, v_par, v_unp, v_setI, v_expr, v_ret, v_ife, v_pass, e_var, e_const, e_tup, e_lst, e_bin, e_negc, e_not, e_and, e_or, e_cmp, e_chain, e_ife, e_idx, e_slc, e_call, e_isi, e_blt, evDs, evPar, evAnd, x_bind, x_then, ok_bind, ok_then, nx_then, rt_then, np_imp, np_nl, np_py, ni_imp, ni_py, ni_nl, nb_imp, nb_py, no_none, no_int, no_intp, fz_imp, fz_im, fz_nl, im_py, im_imp, ok_imp, dm_nil, dm_one, dm_two, dr_py, tp_nil, tp_cons, ck_true, fin_rt, fin_nx, tr_imp, tr_nl, st_im, st_imp, st_nl, st_nlt, un_imp, b_len, b_all, b_any, b_max, b_min, b_int, b_intb, b_ll, b_lt, b_tl, b_tt, len_l, len_t, it_sl, it_st, it_ss, ty_str, ty_tup, c_le, c_ge, c_lt, c_gt, c_eqi, c_nei, c_eqs, c_nes, c_eqb, c_isb, c_isnb, o_add, o_sub, idx_t, idx_l, at0, at1, at2, at3, Bool.not_true, Bool.not_false, Bool.true_and, Bool.false_and, tgSlots, wipeE, bindT, List.getElem?_cons_zero, List.getElem?_cons_succ, List.set_cons_zero, List.set_cons_succ, Option.map_some, if_true, Bool.false_eq_true, if_false, isTy, areNames]
def NamesF (Φ : Nat → List D → Sto → R Rv) (i : Nat) : Prop := ∀ W ns v st, (W = .list ns ∨ W = .tuple ns) → Strs ns → small v = true → Φ i [.py W, .py v] st = ok1 (.bool (areNames ns v)) st
def RULES : List P := [(.str ⟨#[97, 108, 108]⟩), (.str ⟨#[110, 101, 119]⟩), (.str ⟨#[110, 111]⟩), (.str ⟨#[121, 101, 115]⟩)]
theorem rules_strs : Strs RULES := by
  intro w hw
  simp only [RULES, List.mem_cons, List.not_mem_nil, or_false] at hw
  rcases hw with rfl | rfl | rfl | rfl <;> exact ⟨_, rfl⟩
def isTool : P → Bool
  | .tuple [a, b, c, d] => isLabel a && (oneOf RULES b && (isTy .tup c && isTy .bool d))
  | _ => false
theorem sem_isTool {i0 i1 : Nat} (h0 : LabelF Φ i0) (h1 : OneF Φ i1) {v : P} (hv : small v = true) : fin st.length (evSs Φ (t_is_tool i0 i1) [some (.py v)] st) = ok1 (.bool (isTool v)) st := by
  unfold t_is_tool
  cases v with
  | tuple vs =>
    obtain ⟨z, hs⟩ := small_tup hv
    by_cases hl : vs.length = 4
    · rcases vs with _ | ⟨a, _ | ⟨b, _ | ⟨c, _ | ⟨d, _ | ⟨e, vs⟩⟩⟩⟩⟩ <;> try (simp at hl; done)
      have ha : small a = true := hs a (by simp)
      have e1 := h1 (.tuple RULES) RULES b
      unfold RULES at e1
      have e2 := fun st => e1 st (.inr rfl) rules_strs
      have e3 : (((0 + 1 + 1 + 1 + 1 : Nat) : Int) == 4) = true := rfl
      simp only [v_nil, v_cons, v_for, v_asg, v_par, v_unp, v_setI, v_expr, v_ret, v_ife, v_pass, e_var, e_const, e_tup, e_lst, e_bin, e_negc, e_not, e_and, e_or, e_cmp, e_chain, e_ife, e_idx, e_slc, e_call, e_isi, e_blt, evDs, evPar, evAnd, x_bind, x_then, ok_bind, ok_then, nx_then, rt_then, np_imp, np_nl, np_py, ni_imp, ni_py, ni_nl, nb_imp, nb_py, no_none, no_int, no_intp, fz_imp, fz_im, fz_nl, im_py, im_imp, ok_imp, dm_nil, dm_one, dm_two, dr_py, tp_nil, tp_cons, ck_true, fin_rt, fin_nx, tr_imp, tr_nl, st_im, st_imp, st_nl, st_nlt, un_imp, b_len, b_all, b_any, b_max, b_min, b_int, b_intb, b_ll, b_lt, b_tl, b_tt, len_l, len_t, it_sl, it_st, it_ss, ty_str, ty_tup, c_le, c_ge, c_lt, c_gt, c_eqi, c_nei, c_eqs, c_nes, c_eqb, c_isb, c_isnb, o_add, o_sub, idx_t, idx_l, at0, at1, at2, at3, Bool.not_true, Bool.not_false, Bool.true_and, Bool.false_and, tgSlots, wipeE, bindT, List.getElem?_cons_zero, List.getElem?_cons_succ, List.set_cons_zero, List.set_cons_succ, Option.map_some, if_true, Bool.false_eq_true, if_false, List.length_cons, List.length_nil, h0 a _ ha, e2, e3, isTool]
      unfold RULES
      cases isLabel a <;> simp only [v_nil, v_cons, v_for, v_asg, v_par, v_unp, v_setI, v_expr, v_ret, v_ife, v_pass, e_var, e_const, e_tup, e_lst, e_bin, e_negc, e_not, e_and, e_or, e_cmp, e_chain, e_ife, e_idx, e_slc, e_call, e_isi, e_blt, evDs, evPar, evAnd, x_bind, x_then, ok_bind, ok_then, nx_then, rt_then, np_imp, np_nl, np_py, ni_imp, ni_py, ni_nl, nb_imp, nb_py, no_none, no_int, no_intp, fz_imp, fz_im, fz_nl, im_py, im_imp, ok_imp, dm_nil, dm_one, dm_two, dr_py, tp_nil, tp_cons, ck_true, fin_rt, fin_nx, tr_imp, tr_nl, st_im, st_imp, st_nl, st_nlt, un_imp, b_len, b_all, b_any, b_max, b_min, b_int, b_intb, b_ll, b_lt, b_tl, b_tt, len_l, len_t, it_sl, it_st, it_ss, ty_str, ty_tup, c_le, c_ge, c_lt, c_gt, c_eqi, c_nei, c_eqs, c_nes, c_eqb, c_isb, c_isnb, o_add, o_sub, idx_t, idx_l, at0, at1, at2, at3, Bool.not_true, Bool.not_false, Bool.true_and, Bool.false_and, tgSlots, wipeE, bindT, List.getElem?_cons_zero, List.getElem?_cons_succ, List.set_cons_zero, List.set_cons_succ, Option.map_some, if_true, Bool.false_eq_true, if_false]
      cases (oneOf _ b) <;> simp only [v_nil, v_cons, v_for, v_asg, v_par, v_unp, v_setI, v_expr, v_ret, v_ife, v_pass, e_var, e_const, e_tup, e_lst, e_bin, e_negc, e_not, e_and, e_or, e_cmp, e_chain, e_ife, e_idx, e_slc, e_call, e_isi, e_blt, evDs, evPar, evAnd, x_bind, x_then, ok_bind, ok_then, nx_then, rt_then, np_imp, np_nl, np_py, ni_imp, ni_py, ni_nl, nb_imp, nb_py, no_none, no_int, no_intp, fz_imp, fz_im, fz_nl, im_py, im_imp, ok_imp, dm_nil, dm_one, dm_two, dr_py, tp_nil, tp_cons, ck_true, fin_rt, fin_nx, tr_imp, tr_nl, st_im, st_imp, st_nl, st_nlt, un_imp, b_len, b_all, b_any, b_max, b_min, b_int, b_intb, b_ll, b_lt, b_tl, b_tt, len_l, len_t, it_sl, it_st, it_ss, ty_str, ty_tup, c_le, c_ge, c_lt, c_gt, c_eqi, c_nei, c_eqs, c_nes, c_eqb, c_isb, c_isnb, o_add, o_sub, idx_t, idx_l, at0, at1, at2, at3, Bool.not_true, Bool.not_false, Bool.true_and, Bool.false_and, tgSlots, wipeE, bindT, List.getElem?_cons_zero, List.getElem?_cons_succ, List.set_cons_zero, List.set_cons_succ, Option.map_some, if_true, Bool.false_eq_true, if_false]
      cases (isTy .tup c) <;> simp only [v_nil, v_cons, v_for, v_asg, v_par, v_unp, v_setI, v_expr, v_ret, v_ife, v_pass, e_var, e_const, e_tup, e_lst, e_bin, e_negc, e_not, e_and, e_or, e_cmp, e_chain, e_ife, e_idx, e_slc, e_call, e_isi, e_blt, evDs, evPar, evAnd, x_bind, x_then, ok_bind, ok_then, nx_then, rt_then, np_imp, np_nl, np_py, ni_imp, ni_py, ni_nl, nb_imp, nb_py, no_none, no_int, no_intp, fz_imp, fz_im, fz_nl, im_py, im_imp, ok_imp, dm_nil, dm_one, dm_two, dr_py, tp_nil, tp_cons, ck_true, fin_rt, fin_nx, tr_imp, tr_nl, st_im, st_imp, st_nl, st_nlt, un_imp, b_len, b_all, b_any, b_max, b_min, b_int, b_intb, b_ll, b_lt, b_tl, b_tt, len_l, len_t, it_sl, it_st, it_ss, ty_str, ty_tup, c_le, c_ge, c_lt, c_gt, c_eqi, c_nei, c_eqs, c_nes, c_eqb, c_isb, c_isnb, o_add, o_sub, idx_t, idx_l, at0, at1, at2, at3, Bool.not_true, Bool.not_false, Bool.true_and, Bool.false_and, tgSlots, wipeE, bindT, List.getElem?_cons_zero, List.getElem?_cons_succ, List.set_cons_zero, List.set_cons_succ, Option.map_some, if_true, Bool.false_eq_true, if_false]
    · have e3 : (((vs.length : Nat) : Int) == 4) = false := by
        rw [beq_eq_false_iff_ne]
        omega
      have e4 : isTool (.tuple vs) = false := by
        rcases vs with _ | ⟨a, _ | ⟨b, _ | ⟨c, _ | ⟨d, _ | ⟨e, vs⟩⟩⟩⟩⟩ <;> first | rfl | (simp at hl)
      simp only [v_nil, v_cons, v_for, v_asg, v_par, v_unp, v_setI, v_expr, v_ret, v_ife, v_pass, e_var, e_const, e_tup, e_lst, e_bin, e_negc, e_not, e_and, e_or, e_cmp, e_chain, e_ife, e_idx, e_slc, e_call, e_isi, e_blt, evDs, evPar, evAnd, x_bind, x_then, ok_bind, ok_then, nx_then, rt_then, np_imp, np_nl, np_py, ni_imp, ni_py, ni_nl, nb_imp, nb_py, no_none, no_int, no_intp, fz_imp, fz_im, fz_nl, im_py, im_imp, ok_imp, dm_nil, dm_one, dm_two, dr_py, tp_nil, tp_cons, ck_true, fin_rt, fin_nx, tr_imp, tr_nl, st_im, st_imp, st_nl, st_nlt, un_imp, b_len, b_all, b_any, b_max, b_min, b_int, b_intb, b_ll, b_lt, b_tl, b_tt, len_l, len_t, it_sl, it_st, it_ss, ty_str, ty_tup, c_le, c_ge, c_lt, c_gt, c_eqi, c_nei, c_eqs, c_nes, c_eqb, c_isb, c_isnb, o_add, o_sub, idx_t, idx_l, at0, at1, at2, at3, Bool.not_true, Bool.not_false, Bool.true_and, Bool.false_and, tgSlots, wipeE, bindT, List.getElem?_cons_zero, List.getElem?_cons_succ, List.set_cons_zero, List.set_cons_succ, Option.map_some, if_true, Bool.false_eq_true, if_false, e3, e4, Bool.not_true, Bool.not_false]
  | _ => simp only [v_nil, v_cons, v_for, v_asg, v_par, v_unp, v_setI, v_expr, v_ret, v_ife, v_pass, e_var, e_const, e_tup, e_lst, e_bin, e_negc, e_not, e_and, e_or, e_cmp, e_chain, e_ife, e_idx, e_slc, e_call, e_isi, e_blt, evDs, evPar, evAnd, x_bind, x_then, ok_bind, ok_then, nx_then, rt_then, np_imp, np_nl, np_py, ni_imp, ni_py, ni_nl, nb_imp, nb_py, no_none, no_int, no_intp, fz_imp, fz_im, fz_nl, im_py, im_imp, ok_imp, dm_nil, dm_one, dm_two, dr_py, tp_nil, tp_cons, ck_true, fin_rt, fin_nx, tr_imp, tr_nl, st_im, st_imp, st_nl, st_nlt, un_imp, b_len, b_all, b_any, b_max, b_min, b_int, b_intb, b_ll, b_lt, b_tl, b_tt, len_l, len_t, it_sl, it_st, it_ss, ty_str, ty_tup, c_le, c_ge, c_lt, c_gt, c_eqi, c_nei, c_eqs, c_nes, c_eqb, c_isb, c_isnb, o_add, o_sub, idx_t, idx_l, at0, at1, at2, at3, Bool.not_true, Bool.not_false, Bool.true_and, Bool.false_and, tgSlots, wipeE, bindT, List.getElem?_cons_zero, List.getElem?_cons_succ, List.set_cons_zero, List.set_cons_succ, Option.map_some, if_true, Bool.false_eq_true, if_false, isTy, isTool, Bool.not_true, Bool.not_false]
def ToolF (Φ : Nat → List D → Sto → R Rv) (i : Nat) : Prop := ∀ v st, small v = true → Φ i [.py v] st = ok1 (.bool (isTool v)) st
/-- the first item, the third -/
def nm : P → P
  | .tuple (a :: _) => a
  | _ => .none
def may : P → P
  | .tuple (_ :: _ :: c :: _) => c
  | _ => .none
def names (ts : List P) : List P := ts.map nm
/-- all but one name -/
def others (ns : List P) (n : P) : List P := ns.filter fun x => !x.eqv n
def areTools : P → Bool
  | .tuple ts => (decide (2 ≤ ts.length) && decide (ts.length ≤ 3)) && (ts.all isTool && (asc (names ts) && ts.all fun t => areNames (others (names ts) (nm t)) (may t)))
  | _ => false
theorem isTool_shape {v : P} (h : isTool v = true) : ∃ s b c d, v = .tuple [.str s, b, c, d] := by
  unfold isTool at h
  split at h
  · rename_i a b c d
    rw [Bool.and_eq_true] at h
    cases a with
    | str s => exact ⟨s, b, c, d, rfl⟩
    | _ => cases h.1
  · cases h
theorem names_strs {ts : List P} (h : ts.all isTool = true) : Strs (names ts) := by
  intro w hw
  obtain ⟨t, ht, rfl⟩ := List.mem_map.mp hw
  obtain ⟨s, b, c, d, rfl⟩ := isTool_shape (List.all_eq_true.mp h t ht)
  exact ⟨s, rfl⟩
theorem others_strs {ns : List P} (h : Strs ns) (n : P) : Strs (others ns n) := fun w hw => h w (List.mem_filter.mp hw).1
theorem len_c (z : Nat) (h : z ≤ 1000000) : decide (z < SZ) = true := decide_eq_true (Nat.lt_of_le_of_lt h (by decide))
theorem sem_areTools {i1 i2 i3 : Nat} (h1 : ToolF Φ i1) (h2 : AscF Φ i2) (h3 : NamesF Φ i3) {v : P} (hv : small v = true) :
    fin st.length (evSs Φ (t_are_tools i1 i2 i3) [some (.py v), none, none, none, none] st) = ok1 (.bool (areTools v)) st := by
  unfold t_are_tools
  cases v with
  | tuple ts =>
    obtain ⟨z, hs⟩ := small_tup hv
    have zb := Nat.le_trans z sz_big
    have hc1 : ∀ e1 e2 e3 e4 st, evE Φ [some (.py (.tuple ts)), e1, e2, e3, e4] (.comp (.call i1 [(.var 2)]) (.one 2) .seq [(.var 0)] []) st = .ok (.nl (ts.map fun y => .bool (isTool y))) st := fun e1 e2 e3 e4 st => by
      refine comp_map _ (ds := [.py (.tuple ts)]) (by simp only [v_nil, v_cons, v_for, v_asg, v_par, v_unp, v_setI, v_expr, v_ret, v_ife, v_pass, e_var, e_const, e_tup, e_lst, e_bin, e_negc, e_not, e_and, e_or, e_cmp, e_chain, e_ife, e_idx, e_slc, e_call, e_isi, e_blt, evDs, evPar, evAnd, x_bind, x_then, ok_bind, ok_then, nx_then, rt_then, np_imp, np_nl, np_py, ni_imp, ni_py, ni_nl, nb_imp, nb_py, no_none, no_int, no_intp, fz_imp, fz_im, fz_nl, im_py, im_imp, ok_imp, dm_nil, dm_one, dm_two, dr_py, tp_nil, tp_cons, ck_true, fin_rt, fin_nx, tr_imp, tr_nl, st_im, st_imp, st_nl, st_nlt, un_imp, b_len, b_all, b_any, b_max, b_min, b_int, b_intb, b_ll, b_lt, b_tl, b_tt, len_l, len_t, it_sl, it_st, it_ss, ty_str, ty_tup, c_le, c_ge, c_lt, c_gt, c_eqi, c_nei, c_eqs, c_nes, c_eqb, c_isb, c_isnb, o_add, o_sub, idx_t, idx_l, at0, at1, at2, at3, Bool.not_true, Bool.not_false, Bool.true_and, Bool.false_and, tgSlots, wipeE, bindT, List.getElem?_cons_zero, List.getElem?_cons_succ, List.set_cons_zero, List.set_cons_succ, Option.map_some, if_true, Bool.false_eq_true, if_false]) (by simp only [v_nil, v_cons, v_for, v_asg, v_par, v_unp, v_setI, v_expr, v_ret, v_ife, v_pass, e_var, e_const, e_tup, e_lst, e_bin, e_negc, e_not, e_and, e_or, e_cmp, e_chain, e_ife, e_idx, e_slc, e_call, e_isi, e_blt, evDs, evPar, evAnd, x_bind, x_then, ok_bind, ok_then, nx_then, rt_then, np_imp, np_nl, np_py, ni_imp, ni_py, ni_nl, nb_imp, nb_py, no_none, no_int, no_intp, fz_imp, fz_im, fz_nl, im_py, im_imp, ok_imp, dm_nil, dm_one, dm_two, dr_py, tp_nil, tp_cons, ck_true, fin_rt, fin_nx, tr_imp, tr_nl, st_im, st_imp, st_nl, st_nlt, un_imp, b_len, b_all, b_any, b_max, b_min, b_int, b_intb, b_ll, b_lt, b_tl, b_tt, len_l, len_t, it_sl, it_st, it_ss, ty_str, ty_tup, c_le, c_ge, c_lt, c_gt, c_eqi, c_nei, c_eqs, c_nes, c_eqb, c_isb, c_isnb, o_add, o_sub, idx_t, idx_l, at0, at1, at2, at3, Bool.not_true, Bool.not_false, Bool.true_and, Bool.false_and, tgSlots, wipeE, bindT, List.getElem?_cons_zero, List.getElem?_cons_succ, List.set_cons_zero, List.set_cons_succ, Option.map_some, if_true, Bool.false_eq_true, if_false]) (fun y hy st => ?_) zb
      exact turn_elt (env1 := [some (.py (.tuple ts)), e1, some (.py y), e3, e4]) (by simp only [v_nil, v_cons, v_for, v_asg, v_par, v_unp, v_setI, v_expr, v_ret, v_ife, v_pass, e_var, e_const, e_tup, e_lst, e_bin, e_negc, e_not, e_and, e_or, e_cmp, e_chain, e_ife, e_idx, e_slc, e_call, e_isi, e_blt, evDs, evPar, evAnd, x_bind, x_then, ok_bind, ok_then, nx_then, rt_then, np_imp, np_nl, np_py, ni_imp, ni_py, ni_nl, nb_imp, nb_py, no_none, no_int, no_intp, fz_imp, fz_im, fz_nl, im_py, im_imp, ok_imp, dm_nil, dm_one, dm_two, dr_py, tp_nil, tp_cons, ck_true, fin_rt, fin_nx, tr_imp, tr_nl, st_im, st_imp, st_nl, st_nlt, un_imp, b_len, b_all, b_any, b_max, b_min, b_int, b_intb, b_ll, b_lt, b_tl, b_tt, len_l, len_t, it_sl, it_st, it_ss, ty_str, ty_tup, c_le, c_ge, c_lt, c_gt, c_eqi, c_nei, c_eqs, c_nes, c_eqb, c_isb, c_isnb, o_add, o_sub, idx_t, idx_l, at0, at1, at2, at3, Bool.not_true, Bool.not_false, Bool.true_and, Bool.false_and, tgSlots, wipeE, bindT, List.getElem?_cons_zero, List.getElem?_cons_succ, List.set_cons_zero, List.set_cons_succ, Option.map_some, if_true, Bool.false_eq_true, if_false]) (by simp only [v_nil, v_cons, v_for, v_asg, v_par, v_unp, v_setI, v_expr, v_ret, v_ife, v_pass, e_var, e_const, e_tup, e_lst, e_bin, e_negc, e_not, e_and, e_or, e_cmp, e_chain, e_ife, e_idx, e_slc, e_call, e_isi, e_blt, evDs, evPar, evAnd, x_bind, x_then, ok_bind, ok_then, nx_then, rt_then, np_imp, np_nl, np_py, ni_imp, ni_py, ni_nl, nb_imp, nb_py, no_none, no_int, no_intp, fz_imp, fz_im, fz_nl, im_py, im_imp, ok_imp, dm_nil, dm_one, dm_two, dr_py, tp_nil, tp_cons, ck_true, fin_rt, fin_nx, tr_imp, tr_nl, st_im, st_imp, st_nl, st_nlt, un_imp, b_len, b_all, b_any, b_max, b_min, b_int, b_intb, b_ll, b_lt, b_tl, b_tt, len_l, len_t, it_sl, it_st, it_ss, ty_str, ty_tup, c_le, c_ge, c_lt, c_gt, c_eqi, c_nei, c_eqs, c_nes, c_eqb, c_isb, c_isnb, o_add, o_sub, idx_t, idx_l, at0, at1, at2, at3, Bool.not_true, Bool.not_false, Bool.true_and, Bool.false_and, tgSlots, wipeE, bindT, List.getElem?_cons_zero, List.getElem?_cons_succ, List.set_cons_zero, List.set_cons_succ, Option.map_some, if_true, Bool.false_eq_true, if_false, h1 y _ (hs y hy)])
    have k1 : decide ((2 : Int) ≤ ((ts.length : Nat) : Int)) = decide (2 ≤ ts.length) := decide_eq_decide.mpr (by omega)
    have k2 : decide (((ts.length : Nat) : Int) ≤ 3) = decide (ts.length ≤ 3) := decide_eq_decide.mpr (by omega)
    have ea : (ts.map fun y => isTool y).all id = ts.all isTool := by rw [List.all_map]; rfl
    simp only [v_nil, v_cons, v_for, v_asg, v_par, v_unp, v_setI, v_expr, v_ret, v_ife, v_pass, e_var, e_const, e_tup, e_lst, e_bin, e_negc, e_not, e_and, e_or, e_cmp, e_chain, e_ife, e_idx, e_slc, e_call, e_isi, e_blt, evDs, evPar, evAnd, x_bind, x_then, ok_bind, ok_then, nx_then, rt_then, np_imp, np_nl, np_py, ni_imp, ni_py, ni_nl, nb_imp, nb_py, no_none, no_int, no_intp, fz_imp, fz_im, fz_nl, im_py, im_imp, ok_imp, dm_nil, dm_one, dm_two, dr_py, tp_nil, tp_cons, ck_true, fin_rt, fin_nx, tr_imp, tr_nl, st_im, st_imp, st_nl, st_nlt, un_imp, b_len, b_all, b_any, b_max, b_min, b_int, b_intb, b_ll, b_lt, b_tl, b_tt, len_l, len_t, it_sl, it_st, it_ss, ty_str, ty_tup, c_le, c_ge, c_lt, c_gt, c_eqi, c_nei, c_eqs, c_nes, c_eqb, c_isb, c_isnb, o_add, o_sub, idx_t, idx_l, at0, at1, at2, at3, Bool.not_true, Bool.not_false, Bool.true_and, Bool.false_and, tgSlots, wipeE, bindT, List.getElem?_cons_zero, List.getElem?_cons_succ, List.set_cons_zero, List.set_cons_succ, Option.map_some, if_true, Bool.false_eq_true, if_false, hc1, k1, k2, bools_map', areTools, ea]
    generalize decide (2 ≤ ts.length) = b1
    generalize decide (ts.length ≤ 3) = b2
    cases b1 <;> cases b2 <;> simp only [v_nil, v_cons, v_for, v_asg, v_par, v_unp, v_setI, v_expr, v_ret, v_ife, v_pass, e_var, e_const, e_tup, e_lst, e_bin, e_negc, e_not, e_and, e_or, e_cmp, e_chain, e_ife, e_idx, e_slc, e_call, e_isi, e_blt, evDs, evPar, evAnd, x_bind, x_then, ok_bind, ok_then, nx_then, rt_then, np_imp, np_nl, np_py, ni_imp, ni_py, ni_nl, nb_imp, nb_py, no_none, no_int, no_intp, fz_imp, fz_im, fz_nl, im_py, im_imp, ok_imp, dm_nil, dm_one, dm_two, dr_py, tp_nil, tp_cons, ck_true, fin_rt, fin_nx, tr_imp, tr_nl, st_im, st_imp, st_nl, st_nlt, un_imp, b_len, b_all, b_any, b_max, b_min, b_int, b_intb, b_ll, b_lt, b_tl, b_tt, len_l, len_t, it_sl, it_st, it_ss, ty_str, ty_tup, c_le, c_ge, c_lt, c_gt, c_eqi, c_nei, c_eqs, c_nes, c_eqb, c_isb, c_isnb, o_add, o_sub, idx_t, idx_l, at0, at1, at2, at3, Bool.not_true, Bool.not_false, Bool.true_and, Bool.false_and, tgSlots, wipeE, bindT, List.getElem?_cons_zero, List.getElem?_cons_succ, List.set_cons_zero, List.set_cons_succ, Option.map_some, if_true, Bool.false_eq_true, if_false]
    cases hb : ts.all isTool with
    | false => simp only [v_nil, v_cons, v_for, v_asg, v_par, v_unp, v_setI, v_expr, v_ret, v_ife, v_pass, e_var, e_const, e_tup, e_lst, e_bin, e_negc, e_not, e_and, e_or, e_cmp, e_chain, e_ife, e_idx, e_slc, e_call, e_isi, e_blt, evDs, evPar, evAnd, x_bind, x_then, ok_bind, ok_then, nx_then, rt_then, np_imp, np_nl, np_py, ni_imp, ni_py, ni_nl, nb_imp, nb_py, no_none, no_int, no_intp, fz_imp, fz_im, fz_nl, im_py, im_imp, ok_imp, dm_nil, dm_one, dm_two, dr_py, tp_nil, tp_cons, ck_true, fin_rt, fin_nx, tr_imp, tr_nl, st_im, st_imp, st_nl, st_nlt, un_imp, b_len, b_all, b_any, b_max, b_min, b_int, b_intb, b_ll, b_lt, b_tl, b_tt, len_l, len_t, it_sl, it_st, it_ss, ty_str, ty_tup, c_le, c_ge, c_lt, c_gt, c_eqi, c_nei, c_eqs, c_nes, c_eqb, c_isb, c_isnb, o_add, o_sub, idx_t, idx_l, at0, at1, at2, at3, Bool.not_true, Bool.not_false, Bool.true_and, Bool.false_and, tgSlots, wipeE, bindT, List.getElem?_cons_zero, List.getElem?_cons_succ, List.set_cons_zero, List.set_cons_succ, Option.map_some, if_true, Bool.false_eq_true, if_false]
    | true =>
      have hn := names_strs hb
      have hc2 : ∀ e1 e2 e3 e4 st, evE Φ [some (.py (.tuple ts)), e1, e2, e3, e4] (.comp (.idx (.var 3) (.const (.int 0))) (.one 3) .seq [(.var 0)] []) st = .ok (.nl (names ts)) st := fun e1 e2 e3 e4 st => by
        refine comp_map _ (ds := [.py (.tuple ts)]) (by simp only [v_nil, v_cons, v_for, v_asg, v_par, v_unp, v_setI, v_expr, v_ret, v_ife, v_pass, e_var, e_const, e_tup, e_lst, e_bin, e_negc, e_not, e_and, e_or, e_cmp, e_chain, e_ife, e_idx, e_slc, e_call, e_isi, e_blt, evDs, evPar, evAnd, x_bind, x_then, ok_bind, ok_then, nx_then, rt_then, np_imp, np_nl, np_py, ni_imp, ni_py, ni_nl, nb_imp, nb_py, no_none, no_int, no_intp, fz_imp, fz_im, fz_nl, im_py, im_imp, ok_imp, dm_nil, dm_one, dm_two, dr_py, tp_nil, tp_cons, ck_true, fin_rt, fin_nx, tr_imp, tr_nl, st_im, st_imp, st_nl, st_nlt, un_imp, b_len, b_all, b_any, b_max, b_min, b_int, b_intb, b_ll, b_lt, b_tl, b_tt, len_l, len_t, it_sl, it_st, it_ss, ty_str, ty_tup, c_le, c_ge, c_lt, c_gt, c_eqi, c_nei, c_eqs, c_nes, c_eqb, c_isb, c_isnb, o_add, o_sub, idx_t, idx_l, at0, at1, at2, at3, Bool.not_true, Bool.not_false, Bool.true_and, Bool.false_and, tgSlots, wipeE, bindT, List.getElem?_cons_zero, List.getElem?_cons_succ, List.set_cons_zero, List.set_cons_succ, Option.map_some, if_true, Bool.false_eq_true, if_false]) (by simp only [v_nil, v_cons, v_for, v_asg, v_par, v_unp, v_setI, v_expr, v_ret, v_ife, v_pass, e_var, e_const, e_tup, e_lst, e_bin, e_negc, e_not, e_and, e_or, e_cmp, e_chain, e_ife, e_idx, e_slc, e_call, e_isi, e_blt, evDs, evPar, evAnd, x_bind, x_then, ok_bind, ok_then, nx_then, rt_then, np_imp, np_nl, np_py, ni_imp, ni_py, ni_nl, nb_imp, nb_py, no_none, no_int, no_intp, fz_imp, fz_im, fz_nl, im_py, im_imp, ok_imp, dm_nil, dm_one, dm_two, dr_py, tp_nil, tp_cons, ck_true, fin_rt, fin_nx, tr_imp, tr_nl, st_im, st_imp, st_nl, st_nlt, un_imp, b_len, b_all, b_any, b_max, b_min, b_int, b_intb, b_ll, b_lt, b_tl, b_tt, len_l, len_t, it_sl, it_st, it_ss, ty_str, ty_tup, c_le, c_ge, c_lt, c_gt, c_eqi, c_nei, c_eqs, c_nes, c_eqb, c_isb, c_isnb, o_add, o_sub, idx_t, idx_l, at0, at1, at2, at3, Bool.not_true, Bool.not_false, Bool.true_and, Bool.false_and, tgSlots, wipeE, bindT, List.getElem?_cons_zero, List.getElem?_cons_succ, List.set_cons_zero, List.set_cons_succ, Option.map_some, if_true, Bool.false_eq_true, if_false]) (fun y hy st => ?_) zb
        obtain ⟨s, b, c, d, rfl⟩ := isTool_shape (List.all_eq_true.mp hb y hy)
        exact turn_elt (env1 := [some (.py (.tuple ts)), e1, e2, some (.py (.tuple [.str s, b, c, d])), e4]) (by simp only [v_nil, v_cons, v_for, v_asg, v_par, v_unp, v_setI, v_expr, v_ret, v_ife, v_pass, e_var, e_const, e_tup, e_lst, e_bin, e_negc, e_not, e_and, e_or, e_cmp, e_chain, e_ife, e_idx, e_slc, e_call, e_isi, e_blt, evDs, evPar, evAnd, x_bind, x_then, ok_bind, ok_then, nx_then, rt_then, np_imp, np_nl, np_py, ni_imp, ni_py, ni_nl, nb_imp, nb_py, no_none, no_int, no_intp, fz_imp, fz_im, fz_nl, im_py, im_imp, ok_imp, dm_nil, dm_one, dm_two, dr_py, tp_nil, tp_cons, ck_true, fin_rt, fin_nx, tr_imp, tr_nl, st_im, st_imp, st_nl, st_nlt, un_imp, b_len, b_all, b_any, b_max, b_min, b_int, b_intb, b_ll, b_lt, b_tl, b_tt, len_l, len_t, it_sl, it_st, it_ss, ty_str, ty_tup, c_le, c_ge, c_lt, c_gt, c_eqi, c_nei, c_eqs, c_nes, c_eqb, c_isb, c_isnb, o_add, o_sub, idx_t, idx_l, at0, at1, at2, at3, Bool.not_true, Bool.not_false, Bool.true_and, Bool.false_and, tgSlots, wipeE, bindT, List.getElem?_cons_zero, List.getElem?_cons_succ, List.set_cons_zero, List.set_cons_succ, Option.map_some, if_true, Bool.false_eq_true, if_false]) (by simp only [v_nil, v_cons, v_for, v_asg, v_par, v_unp, v_setI, v_expr, v_ret, v_ife, v_pass, e_var, e_const, e_tup, e_lst, e_bin, e_negc, e_not, e_and, e_or, e_cmp, e_chain, e_ife, e_idx, e_slc, e_call, e_isi, e_blt, evDs, evPar, evAnd, x_bind, x_then, ok_bind, ok_then, nx_then, rt_then, np_imp, np_nl, np_py, ni_imp, ni_py, ni_nl, nb_imp, nb_py, no_none, no_int, no_intp, fz_imp, fz_im, fz_nl, im_py, im_imp, ok_imp, dm_nil, dm_one, dm_two, dr_py, tp_nil, tp_cons, ck_true, fin_rt, fin_nx, tr_imp, tr_nl, st_im, st_imp, st_nl, st_nlt, un_imp, b_len, b_all, b_any, b_max, b_min, b_int, b_intb, b_ll, b_lt, b_tl, b_tt, len_l, len_t, it_sl, it_st, it_ss, ty_str, ty_tup, c_le, c_ge, c_lt, c_gt, c_eqi, c_nei, c_eqs, c_nes, c_eqb, c_isb, c_isnb, o_add, o_sub, idx_t, idx_l, at0, at1, at2, at3, Bool.not_true, Bool.not_false, Bool.true_and, Bool.false_and, tgSlots, wipeE, bindT, List.getElem?_cons_zero, List.getElem?_cons_succ, List.set_cons_zero, List.set_cons_succ, Option.map_some, if_true, Bool.false_eq_true, if_false, nm])
      have hc3 : ∀ (t : P), t ∈ ts → ∀ e2 e4 st, evE Φ [some (.py (.tuple ts)), some (.py (.list (names ts))), e2, some (.py t), e4] (.comp (.var 4) (.one 4) .seq [(.var 1)] [(.cmp .ne (.var 4) (.idx (.var 3) (.const (.int 0))))]) st =
          .ok (.nl (others (names ts) (nm t))) st := fun t ht e2 e4 st => by
        obtain ⟨s, b, c, d, rfl⟩ := isTool_shape (List.all_eq_true.mp hb t ht)
        refine comp_filter _ (ds := [.py (.list (names ts))]) (by simp only [v_nil, v_cons, v_for, v_asg, v_par, v_unp, v_setI, v_expr, v_ret, v_ife, v_pass, e_var, e_const, e_tup, e_lst, e_bin, e_negc, e_not, e_and, e_or, e_cmp, e_chain, e_ife, e_idx, e_slc, e_call, e_isi, e_blt, evDs, evPar, evAnd, x_bind, x_then, ok_bind, ok_then, nx_then, rt_then, np_imp, np_nl, np_py, ni_imp, ni_py, ni_nl, nb_imp, nb_py, no_none, no_int, no_intp, fz_imp, fz_im, fz_nl, im_py, im_imp, ok_imp, dm_nil, dm_one, dm_two, dr_py, tp_nil, tp_cons, ck_true, fin_rt, fin_nx, tr_imp, tr_nl, st_im, st_imp, st_nl, st_nlt, un_imp, b_len, b_all, b_any, b_max, b_min, b_int, b_intb, b_ll, b_lt, b_tl, b_tt, len_l, len_t, it_sl, it_st, it_ss, ty_str, ty_tup, c_le, c_ge, c_lt, c_gt, c_eqi, c_nei, c_eqs, c_nes, c_eqb, c_isb, c_isnb, o_add, o_sub, idx_t, idx_l, at0, at1, at2, at3, Bool.not_true, Bool.not_false, Bool.true_and, Bool.false_and, tgSlots, wipeE, bindT, List.getElem?_cons_zero, List.getElem?_cons_succ, List.set_cons_zero, List.set_cons_succ, Option.map_some, if_true, Bool.false_eq_true, if_false]) (by simp only [v_nil, v_cons, v_for, v_asg, v_par, v_unp, v_setI, v_expr, v_ret, v_ife, v_pass, e_var, e_const, e_tup, e_lst, e_bin, e_negc, e_not, e_and, e_or, e_cmp, e_chain, e_ife, e_idx, e_slc, e_call, e_isi, e_blt, evDs, evPar, evAnd, x_bind, x_then, ok_bind, ok_then, nx_then, rt_then, np_imp, np_nl, np_py, ni_imp, ni_py, ni_nl, nb_imp, nb_py, no_none, no_int, no_intp, fz_imp, fz_im, fz_nl, im_py, im_imp, ok_imp, dm_nil, dm_one, dm_two, dr_py, tp_nil, tp_cons, ck_true, fin_rt, fin_nx, tr_imp, tr_nl, st_im, st_imp, st_nl, st_nlt, un_imp, b_len, b_all, b_any, b_max, b_min, b_int, b_intb, b_ll, b_lt, b_tl, b_tt, len_l, len_t, it_sl, it_st, it_ss, ty_str, ty_tup, c_le, c_ge, c_lt, c_gt, c_eqi, c_nei, c_eqs, c_nes, c_eqb, c_isb, c_isnb, o_add, o_sub, idx_t, idx_l, at0, at1, at2, at3, Bool.not_true, Bool.not_false, Bool.true_and, Bool.false_and, tgSlots, wipeE, bindT, List.getElem?_cons_zero, List.getElem?_cons_succ, List.set_cons_zero, List.set_cons_succ, Option.map_some, if_true, Bool.false_eq_true, if_false]) (fun y hy st => ?_) (by rw [names, List.length_map]; exact zb)
        obtain ⟨s', rfl⟩ := hn y hy
        exact turn_if (env1 := [some (.py (.tuple ts)), some (.py (.list (names ts))), e2, some (.py (.tuple [.str s, b, c, d])), some (.py (.str s'))]) (by simp only [v_nil, v_cons, v_for, v_asg, v_par, v_unp, v_setI, v_expr, v_ret, v_ife, v_pass, e_var, e_const, e_tup, e_lst, e_bin, e_negc, e_not, e_and, e_or, e_cmp, e_chain, e_ife, e_idx, e_slc, e_call, e_isi, e_blt, evDs, evPar, evAnd, x_bind, x_then, ok_bind, ok_then, nx_then, rt_then, np_imp, np_nl, np_py, ni_imp, ni_py, ni_nl, nb_imp, nb_py, no_none, no_int, no_intp, fz_imp, fz_im, fz_nl, im_py, im_imp, ok_imp, dm_nil, dm_one, dm_two, dr_py, tp_nil, tp_cons, ck_true, fin_rt, fin_nx, tr_imp, tr_nl, st_im, st_imp, st_nl, st_nlt, un_imp, b_len, b_all, b_any, b_max, b_min, b_int, b_intb, b_ll, b_lt, b_tl, b_tt, len_l, len_t, it_sl, it_st, it_ss, ty_str, ty_tup, c_le, c_ge, c_lt, c_gt, c_eqi, c_nei, c_eqs, c_nes, c_eqb, c_isb, c_isnb, o_add, o_sub, idx_t, idx_l, at0, at1, at2, at3, Bool.not_true, Bool.not_false, Bool.true_and, Bool.false_and, tgSlots, wipeE, bindT, List.getElem?_cons_zero, List.getElem?_cons_succ, List.set_cons_zero, List.set_cons_succ, Option.map_some, if_true, Bool.false_eq_true, if_false]) (by simp only [v_nil, v_cons, v_for, v_asg, v_par, v_unp, v_setI, v_expr, v_ret, v_ife, v_pass, e_var, e_const, e_tup, e_lst, e_bin, e_negc, e_not, e_and, e_or, e_cmp, e_chain, e_ife, e_idx, e_slc, e_call, e_isi, e_blt, evDs, evPar, evAnd, x_bind, x_then, ok_bind, ok_then, nx_then, rt_then, np_imp, np_nl, np_py, ni_imp, ni_py, ni_nl, nb_imp, nb_py, no_none, no_int, no_intp, fz_imp, fz_im, fz_nl, im_py, im_imp, ok_imp, dm_nil, dm_one, dm_two, dr_py, tp_nil, tp_cons, ck_true, fin_rt, fin_nx, tr_imp, tr_nl, st_im, st_imp, st_nl, st_nlt, un_imp, b_len, b_all, b_any, b_max, b_min, b_int, b_intb, b_ll, b_lt, b_tl, b_tt, len_l, len_t, it_sl, it_st, it_ss, ty_str, ty_tup, c_le, c_ge, c_lt, c_gt, c_eqi, c_nei, c_eqs, c_nes, c_eqb, c_isb, c_isnb, o_add, o_sub, idx_t, idx_l, at0, at1, at2, at3, Bool.not_true, Bool.not_false, Bool.true_and, Bool.false_and, tgSlots, wipeE, bindT, List.getElem?_cons_zero, List.getElem?_cons_succ, List.set_cons_zero, List.set_cons_succ, Option.map_some, if_true, Bool.false_eq_true, if_false]; rfl) (fun _ => by simp only [v_nil, v_cons, v_for, v_asg, v_par, v_unp, v_setI, v_expr, v_ret, v_ife, v_pass, e_var, e_const, e_tup, e_lst, e_bin, e_negc, e_not, e_and, e_or, e_cmp, e_chain, e_ife, e_idx, e_slc, e_call, e_isi, e_blt, evDs, evPar, evAnd, x_bind, x_then, ok_bind, ok_then, nx_then, rt_then, np_imp, np_nl, np_py, ni_imp, ni_py, ni_nl, nb_imp, nb_py, no_none, no_int, no_intp, fz_imp, fz_im, fz_nl, im_py, im_imp, ok_imp, dm_nil, dm_one, dm_two, dr_py, tp_nil, tp_cons, ck_true, fin_rt, fin_nx, tr_imp, tr_nl, st_im, st_imp, st_nl, st_nlt, un_imp, b_len, b_all, b_any, b_max, b_min, b_int, b_intb, b_ll, b_lt, b_tl, b_tt, len_l, len_t, it_sl, it_st, it_ss, ty_str, ty_tup, c_le, c_ge, c_lt, c_gt, c_eqi, c_nei, c_eqs, c_nes, c_eqb, c_isb, c_isnb, o_add, o_sub, idx_t, idx_l, at0, at1, at2, at3, Bool.not_true, Bool.not_false, Bool.true_and, Bool.false_and, tgSlots, wipeE, bindT, List.getElem?_cons_zero, List.getElem?_cons_succ, List.set_cons_zero, List.set_cons_succ, Option.map_some, if_true, Bool.false_eq_true, if_false])
      have hc4 : ∀ e2 e3 e4 st, evE Φ [some (.py (.tuple ts)), some (.py (.list (names ts))), e2, e3, e4] (.comp (.call i3 [(.comp (.var 4) (.one 4) .seq [(.var 1)] [(.cmp .ne (.var 4) (.idx (.var 3) (.const (.int 0))))]), (.idx (.var 3) (.const (.int 2)))]) (.one 3) .seq [(.var 0)] []) st =
          .ok (.nl (ts.map fun t => .bool (areNames (others (names ts) (nm t)) (may t)))) st := fun e2 e3 e4 st => by
        refine comp_map _ (ds := [.py (.tuple ts)]) (by simp only [v_nil, v_cons, v_for, v_asg, v_par, v_unp, v_setI, v_expr, v_ret, v_ife, v_pass, e_var, e_const, e_tup, e_lst, e_bin, e_negc, e_not, e_and, e_or, e_cmp, e_chain, e_ife, e_idx, e_slc, e_call, e_isi, e_blt, evDs, evPar, evAnd, x_bind, x_then, ok_bind, ok_then, nx_then, rt_then, np_imp, np_nl, np_py, ni_imp, ni_py, ni_nl, nb_imp, nb_py, no_none, no_int, no_intp, fz_imp, fz_im, fz_nl, im_py, im_imp, ok_imp, dm_nil, dm_one, dm_two, dr_py, tp_nil, tp_cons, ck_true, fin_rt, fin_nx, tr_imp, tr_nl, st_im, st_imp, st_nl, st_nlt, un_imp, b_len, b_all, b_any, b_max, b_min, b_int, b_intb, b_ll, b_lt, b_tl, b_tt, len_l, len_t, it_sl, it_st, it_ss, ty_str, ty_tup, c_le, c_ge, c_lt, c_gt, c_eqi, c_nei, c_eqs, c_nes, c_eqb, c_isb, c_isnb, o_add, o_sub, idx_t, idx_l, at0, at1, at2, at3, Bool.not_true, Bool.not_false, Bool.true_and, Bool.false_and, tgSlots, wipeE, bindT, List.getElem?_cons_zero, List.getElem?_cons_succ, List.set_cons_zero, List.set_cons_succ, Option.map_some, if_true, Bool.false_eq_true, if_false]) (by simp only [v_nil, v_cons, v_for, v_asg, v_par, v_unp, v_setI, v_expr, v_ret, v_ife, v_pass, e_var, e_const, e_tup, e_lst, e_bin, e_negc, e_not, e_and, e_or, e_cmp, e_chain, e_ife, e_idx, e_slc, e_call, e_isi, e_blt, evDs, evPar, evAnd, x_bind, x_then, ok_bind, ok_then, nx_then, rt_then, np_imp, np_nl, np_py, ni_imp, ni_py, ni_nl, nb_imp, nb_py, no_none, no_int, no_intp, fz_imp, fz_im, fz_nl, im_py, im_imp, ok_imp, dm_nil, dm_one, dm_two, dr_py, tp_nil, tp_cons, ck_true, fin_rt, fin_nx, tr_imp, tr_nl, st_im, st_imp, st_nl, st_nlt, un_imp, b_len, b_all, b_any, b_max, b_min, b_int, b_intb, b_ll, b_lt, b_tl, b_tt, len_l, len_t, it_sl, it_st, it_ss, ty_str, ty_tup, c_le, c_ge, c_lt, c_gt, c_eqi, c_nei, c_eqs, c_nes, c_eqb, c_isb, c_isnb, o_add, o_sub, idx_t, idx_l, at0, at1, at2, at3, Bool.not_true, Bool.not_false, Bool.true_and, Bool.false_and, tgSlots, wipeE, bindT, List.getElem?_cons_zero, List.getElem?_cons_succ, List.set_cons_zero, List.set_cons_succ, Option.map_some, if_true, Bool.false_eq_true, if_false]) (fun y hy st => ?_) zb
        have hc := hc3 y hy e2 e4
        have hsy := hs y hy
        obtain ⟨s, b, c, d, rfl⟩ := isTool_shape (List.all_eq_true.mp hb y hy)
        have hsc : small c = true := (small_tup hsy).2 c (by simp)
        exact turn_elt (env1 := [some (.py (.tuple ts)), some (.py (.list (names ts))), e2, some (.py (.tuple [.str s, b, c, d])), e4]) (by simp only [v_nil, v_cons, v_for, v_asg, v_par, v_unp, v_setI, v_expr, v_ret, v_ife, v_pass, e_var, e_const, e_tup, e_lst, e_bin, e_negc, e_not, e_and, e_or, e_cmp, e_chain, e_ife, e_idx, e_slc, e_call, e_isi, e_blt, evDs, evPar, evAnd, x_bind, x_then, ok_bind, ok_then, nx_then, rt_then, np_imp, np_nl, np_py, ni_imp, ni_py, ni_nl, nb_imp, nb_py, no_none, no_int, no_intp, fz_imp, fz_im, fz_nl, im_py, im_imp, ok_imp, dm_nil, dm_one, dm_two, dr_py, tp_nil, tp_cons, ck_true, fin_rt, fin_nx, tr_imp, tr_nl, st_im, st_imp, st_nl, st_nlt, un_imp, b_len, b_all, b_any, b_max, b_min, b_int, b_intb, b_ll, b_lt, b_tl, b_tt, len_l, len_t, it_sl, it_st, it_ss, ty_str, ty_tup, c_le, c_ge, c_lt, c_gt, c_eqi, c_nei, c_eqs, c_nes, c_eqb, c_isb, c_isnb, o_add, o_sub, idx_t, idx_l, at0, at1, at2, at3, Bool.not_true, Bool.not_false, Bool.true_and, Bool.false_and, tgSlots, wipeE, bindT, List.getElem?_cons_zero, List.getElem?_cons_succ, List.set_cons_zero, List.set_cons_succ, Option.map_some, if_true, Bool.false_eq_true, if_false]) (by simp only [v_nil, v_cons, v_for, v_asg, v_par, v_unp, v_setI, v_expr, v_ret, v_ife, v_pass, e_var, e_const, e_tup, e_lst, e_bin, e_negc, e_not, e_and, e_or, e_cmp, e_chain, e_ife, e_idx, e_slc, e_call, e_isi, e_blt, evDs, evPar, evAnd, x_bind, x_then, ok_bind, ok_then, nx_then, rt_then, np_imp, np_nl, np_py, ni_imp, ni_py, ni_nl, nb_imp, nb_py, no_none, no_int, no_intp, fz_imp, fz_im, fz_nl, im_py, im_imp, ok_imp, dm_nil, dm_one, dm_two, dr_py, tp_nil, tp_cons, ck_true, fin_rt, fin_nx, tr_imp, tr_nl, st_im, st_imp, st_nl, st_nlt, un_imp, b_len, b_all, b_any, b_max, b_min, b_int, b_intb, b_ll, b_lt, b_tl, b_tt, len_l, len_t, it_sl, it_st, it_ss, ty_str, ty_tup, c_le, c_ge, c_lt, c_gt, c_eqi, c_nei, c_eqs, c_nes, c_eqb, c_isb, c_isnb, o_add, o_sub, idx_t, idx_l, at0, at1, at2, at3, Bool.not_true, Bool.not_false, Bool.true_and, Bool.false_and, tgSlots, wipeE, bindT, List.getElem?_cons_zero, List.getElem?_cons_succ, List.set_cons_zero, List.set_cons_succ, Option.map_some, if_true, Bool.false_eq_true, if_false, hc, h3 _ _ c _ (.inl rfl) (others_strs hn _) hsc, may])
      simp only [v_nil, v_cons, v_for, v_asg, v_par, v_unp, v_setI, v_expr, v_ret, v_ife, v_pass, e_var, e_const, e_tup, e_lst, e_bin, e_negc, e_not, e_and, e_or, e_cmp, e_chain, e_ife, e_idx, e_slc, e_call, e_isi, e_blt, evDs, evPar, evAnd, x_bind, x_then, ok_bind, ok_then, nx_then, rt_then, np_imp, np_nl, np_py, ni_imp, ni_py, ni_nl, nb_imp, nb_py, no_none, no_int, no_intp, fz_imp, fz_im, fz_nl, im_py, im_imp, ok_imp, dm_nil, dm_one, dm_two, dr_py, tp_nil, tp_cons, ck_true, fin_rt, fin_nx, tr_imp, tr_nl, st_im, st_imp, st_nl, st_nlt, un_imp, b_len, b_all, b_any, b_max, b_min, b_int, b_intb, b_ll, b_lt, b_tl, b_tt, len_l, len_t, it_sl, it_st, it_ss, ty_str, ty_tup, c_le, c_ge, c_lt, c_gt, c_eqi, c_nei, c_eqs, c_nes, c_eqb, c_isb, c_isnb, o_add, o_sub, idx_t, idx_l, at0, at1, at2, at3, Bool.not_true, Bool.not_false, Bool.true_and, Bool.false_and, tgSlots, wipeE, bindT, List.getElem?_cons_zero, List.getElem?_cons_succ, List.set_cons_zero, List.set_cons_succ, Option.map_some, if_true, Bool.false_eq_true, if_false, hc2, h2 _ _ _ (.inl rfl) (.inl hn) (by rw [names, List.length_map]; exact z)]
      cases asc (names ts) with
      | false => simp only [v_nil, v_cons, v_for, v_asg, v_par, v_unp, v_setI, v_expr, v_ret, v_ife, v_pass, e_var, e_const, e_tup, e_lst, e_bin, e_negc, e_not, e_and, e_or, e_cmp, e_chain, e_ife, e_idx, e_slc, e_call, e_isi, e_blt, evDs, evPar, evAnd, x_bind, x_then, ok_bind, ok_then, nx_then, rt_then, np_imp, np_nl, np_py, ni_imp, ni_py, ni_nl, nb_imp, nb_py, no_none, no_int, no_intp, fz_imp, fz_im, fz_nl, im_py, im_imp, ok_imp, dm_nil, dm_one, dm_two, dr_py, tp_nil, tp_cons, ck_true, fin_rt, fin_nx, tr_imp, tr_nl, st_im, st_imp, st_nl, st_nlt, un_imp, b_len, b_all, b_any, b_max, b_min, b_int, b_intb, b_ll, b_lt, b_tl, b_tt, len_l, len_t, it_sl, it_st, it_ss, ty_str, ty_tup, c_le, c_ge, c_lt, c_gt, c_eqi, c_nei, c_eqs, c_nes, c_eqb, c_isb, c_isnb, o_add, o_sub, idx_t, idx_l, at0, at1, at2, at3, Bool.not_true, Bool.not_false, Bool.true_and, Bool.false_and, tgSlots, wipeE, bindT, List.getElem?_cons_zero, List.getElem?_cons_succ, List.set_cons_zero, List.set_cons_succ, Option.map_some, if_true, Bool.false_eq_true, if_false]
      | true =>
        simp only [v_nil, v_cons, v_for, v_asg, v_par, v_unp, v_setI, v_expr, v_ret, v_ife, v_pass, e_var, e_const, e_tup, e_lst, e_bin, e_negc, e_not, e_and, e_or, e_cmp, e_chain, e_ife, e_idx, e_slc, e_call, e_isi, e_blt, evDs, evPar, evAnd, x_bind, x_then, ok_bind, ok_then, nx_then, rt_then, np_imp, np_nl, np_py, ni_imp, ni_py, ni_nl, nb_imp, nb_py, no_none, no_int, no_intp, fz_imp, fz_im, fz_nl, im_py, im_imp, ok_imp, dm_nil, dm_one, dm_two, dr_py, tp_nil, tp_cons, ck_true, fin_rt, fin_nx, tr_imp, tr_nl, st_im, st_imp, st_nl, st_nlt, un_imp, b_len, b_all, b_any, b_max, b_min, b_int, b_intb, b_ll, b_lt, b_tl, b_tt, len_l, len_t, it_sl, it_st, it_ss, ty_str, ty_tup, c_le, c_ge, c_lt, c_gt, c_eqi, c_nei, c_eqs, c_nes, c_eqb, c_isb, c_isnb, o_add, o_sub, idx_t, idx_l, at0, at1, at2, at3, Bool.not_true, Bool.not_false, Bool.true_and, Bool.false_and, tgSlots, wipeE, bindT, List.getElem?_cons_zero, List.getElem?_cons_succ, List.set_cons_zero, List.set_cons_succ, Option.map_some, if_true, Bool.false_eq_true, if_false, hc4, bools_map']
        congr 2
        rw [List.all_map]; rfl
  | _ => simp only [v_nil, v_cons, v_for, v_asg, v_par, v_unp, v_setI, v_expr, v_ret, v_ife, v_pass, e_var, e_const, e_tup, e_lst, e_bin, e_negc, e_not, e_and, e_or, e_cmp, e_chain, e_ife, e_idx, e_slc, e_call, e_isi, e_blt, evDs, evPar, evAnd, x_bind, x_then, ok_bind, ok_then, nx_then, rt_then, np_imp, np_nl, np_py, ni_imp, ni_py, ni_nl, nb_imp, nb_py, no_none, no_int, no_intp, fz_imp, fz_im, fz_nl, im_py, im_imp, ok_imp, dm_nil, dm_one, dm_two, dr_py, tp_nil, tp_cons, ck_true, fin_rt, fin_nx, tr_imp, tr_nl, st_im, st_imp, st_nl, st_nlt, un_imp, b_len, b_all, b_any, b_max, b_min, b_int, b_intb, b_ll, b_lt, b_tl, b_tt, len_l, len_t, it_sl, it_st, it_ss, ty_str, ty_tup, c_le, c_ge, c_lt, c_gt, c_eqi, c_nei, c_eqs, c_nes, c_eqb, c_isb, c_isnb, o_add, o_sub, idx_t, idx_l, at0, at1, at2, at3, Bool.not_true, Bool.not_false, Bool.true_and, Bool.false_and, tgSlots, wipeE, bindT, List.getElem?_cons_zero, List.getElem?_cons_succ, List.set_cons_zero, List.set_cons_succ, Option.map_some, if_true, Bool.false_eq_true, if_false, isTy, areTools]
def ToolsF (Φ : Nat → List D → Sto → R Rv) (i : Nat) : Prop := ∀ v st, small v = true → Φ i [.py v] st = ok1 (.bool (areTools v)) st
def hookOk (ns : List P) : P → Bool
  | .tuple [a, b] => (oneOf ns a && oneOf ns b) && !a.eqv b
  | _ => false
def areHooks (ns : List P) : P → Bool
  | .tuple hs => hs.all (hookOk ns) && asc hs
  | _ => false
theorem hookOk_shape {ns : List P} {v : P} (h : hookOk ns v = true) : ∃ s t, v = .tuple [.str s, .str t] := by
  unfold hookOk at h
  split at h
  · rename_i a b
    rw [Bool.and_eq_true, Bool.and_eq_true] at h
    obtain ⟨s, rfl⟩ := oneOf_str h.1.1
    obtain ⟨t, rfl⟩ := oneOf_str h.1.2
    exact ⟨s, t, rfl⟩
  · cases h
theorem sem_areHooks {i1 i2 : Nat} (h1 : OneF Φ i1) (h2 : AscF Φ i2) {W v : P} {ns : List P} (hW : W = .list ns ∨ W = .tuple ns) (hs : Strs ns) (hv : small v = true) :
    fin st.length (evSs Φ (t_are_hooks i1 i2) [some (.py W), some (.py v), none, none] st) = ok1 (.bool (areHooks ns v)) st := by
  unfold t_are_hooks
  cases v with
  | tuple hs' =>
    obtain ⟨z, hsm⟩ := small_tup hv
    have hb : ∀ y ∈ hs', ∀ e3, evSs Φ [(.ife (.or (.not (.isi .tup (.var 2))) (.or (.cmp .ne (.blt .len [(.var 2)]) (.const (.int 2))) (.not (.blt .all [(.comp (.call i1 [(.var 0), (.var 3)]) (.one 3) .seq [(.var 2)] [])])))) [(.ret (.const (.bool false)))] []),
        (.ife (.cmp .eq (.idx (.var 2) (.const (.int 0))) (.idx (.var 2) (.const (.int 1)))) [(.ret (.const (.bool false)))] [])] [some (.py W), some (.py (.tuple hs')), some (.py y), e3] st =
        if hookOk ns y then .nx [some (.py W), some (.py (.tuple hs')), some (.py y), e3] st else .rt (imp (.bool false)) st := fun y hy e3 => by
      have hsy := hsm y hy
      cases y with
      | tuple vs =>
        obtain ⟨z2, hs2⟩ := small_tup hsy
        have hc : ∀ st, evE Φ [some (.py W), some (.py (.tuple hs')), some (.py (.tuple vs)), e3] (.comp (.call i1 [(.var 0), (.var 3)]) (.one 3) .seq [(.var 2)] []) st = .ok (.nl (vs.map fun y => .bool (oneOf ns y))) st := fun st => by
          refine comp_map _ (ds := [.py (.tuple vs)]) (by simp only [v_nil, v_cons, v_for, v_asg, v_par, v_unp, v_setI, v_expr, v_ret, v_ife, v_pass, e_var, e_const, e_tup, e_lst, e_bin, e_negc, e_not, e_and, e_or, e_cmp, e_chain, e_ife, e_idx, e_slc, e_call, e_isi, e_blt, evDs, evPar, evAnd, x_bind, x_then, ok_bind, ok_then, nx_then, rt_then, np_imp, np_nl, np_py, ni_imp, ni_py, ni_nl, nb_imp, nb_py, no_none, no_int, no_intp, fz_imp, fz_im, fz_nl, im_py, im_imp, ok_imp, dm_nil, dm_one, dm_two, dr_py, tp_nil, tp_cons, ck_true, fin_rt, fin_nx, tr_imp, tr_nl, st_im, st_imp, st_nl, st_nlt, un_imp, b_len, b_all, b_any, b_max, b_min, b_int, b_intb, b_ll, b_lt, b_tl, b_tt, len_l, len_t, it_sl, it_st, it_ss, ty_str, ty_tup, c_le, c_ge, c_lt, c_gt, c_eqi, c_nei, c_eqs, c_nes, c_eqb, c_isb, c_isnb, o_add, o_sub, idx_t, idx_l, at0, at1, at2, at3, Bool.not_true, Bool.not_false, Bool.true_and, Bool.false_and, tgSlots, wipeE, bindT, List.getElem?_cons_zero, List.getElem?_cons_succ, List.set_cons_zero, List.set_cons_succ, Option.map_some, if_true, Bool.false_eq_true, if_false]) (by simp only [v_nil, v_cons, v_for, v_asg, v_par, v_unp, v_setI, v_expr, v_ret, v_ife, v_pass, e_var, e_const, e_tup, e_lst, e_bin, e_negc, e_not, e_and, e_or, e_cmp, e_chain, e_ife, e_idx, e_slc, e_call, e_isi, e_blt, evDs, evPar, evAnd, x_bind, x_then, ok_bind, ok_then, nx_then, rt_then, np_imp, np_nl, np_py, ni_imp, ni_py, ni_nl, nb_imp, nb_py, no_none, no_int, no_intp, fz_imp, fz_im, fz_nl, im_py, im_imp, ok_imp, dm_nil, dm_one, dm_two, dr_py, tp_nil, tp_cons, ck_true, fin_rt, fin_nx, tr_imp, tr_nl, st_im, st_imp, st_nl, st_nlt, un_imp, b_len, b_all, b_any, b_max, b_min, b_int, b_intb, b_ll, b_lt, b_tl, b_tt, len_l, len_t, it_sl, it_st, it_ss, ty_str, ty_tup, c_le, c_ge, c_lt, c_gt, c_eqi, c_nei, c_eqs, c_nes, c_eqb, c_isb, c_isnb, o_add, o_sub, idx_t, idx_l, at0, at1, at2, at3, Bool.not_true, Bool.not_false, Bool.true_and, Bool.false_and, tgSlots, wipeE, bindT, List.getElem?_cons_zero, List.getElem?_cons_succ, List.set_cons_zero, List.set_cons_succ, Option.map_some, if_true, Bool.false_eq_true, if_false]) (fun y hy st => ?_) (Nat.le_trans z2 sz_big)
          exact turn_elt (env1 := [some (.py W), some (.py (.tuple hs')), some (.py (.tuple vs)), some (.py y)]) (by simp only [v_nil, v_cons, v_for, v_asg, v_par, v_unp, v_setI, v_expr, v_ret, v_ife, v_pass, e_var, e_const, e_tup, e_lst, e_bin, e_negc, e_not, e_and, e_or, e_cmp, e_chain, e_ife, e_idx, e_slc, e_call, e_isi, e_blt, evDs, evPar, evAnd, x_bind, x_then, ok_bind, ok_then, nx_then, rt_then, np_imp, np_nl, np_py, ni_imp, ni_py, ni_nl, nb_imp, nb_py, no_none, no_int, no_intp, fz_imp, fz_im, fz_nl, im_py, im_imp, ok_imp, dm_nil, dm_one, dm_two, dr_py, tp_nil, tp_cons, ck_true, fin_rt, fin_nx, tr_imp, tr_nl, st_im, st_imp, st_nl, st_nlt, un_imp, b_len, b_all, b_any, b_max, b_min, b_int, b_intb, b_ll, b_lt, b_tl, b_tt, len_l, len_t, it_sl, it_st, it_ss, ty_str, ty_tup, c_le, c_ge, c_lt, c_gt, c_eqi, c_nei, c_eqs, c_nes, c_eqb, c_isb, c_isnb, o_add, o_sub, idx_t, idx_l, at0, at1, at2, at3, Bool.not_true, Bool.not_false, Bool.true_and, Bool.false_and, tgSlots, wipeE, bindT, List.getElem?_cons_zero, List.getElem?_cons_succ, List.set_cons_zero, List.set_cons_succ, Option.map_some, if_true, Bool.false_eq_true, if_false]) (by simp only [v_nil, v_cons, v_for, v_asg, v_par, v_unp, v_setI, v_expr, v_ret, v_ife, v_pass, e_var, e_const, e_tup, e_lst, e_bin, e_negc, e_not, e_and, e_or, e_cmp, e_chain, e_ife, e_idx, e_slc, e_call, e_isi, e_blt, evDs, evPar, evAnd, x_bind, x_then, ok_bind, ok_then, nx_then, rt_then, np_imp, np_nl, np_py, ni_imp, ni_py, ni_nl, nb_imp, nb_py, no_none, no_int, no_intp, fz_imp, fz_im, fz_nl, im_py, im_imp, ok_imp, dm_nil, dm_one, dm_two, dr_py, tp_nil, tp_cons, ck_true, fin_rt, fin_nx, tr_imp, tr_nl, st_im, st_imp, st_nl, st_nlt, un_imp, b_len, b_all, b_any, b_max, b_min, b_int, b_intb, b_ll, b_lt, b_tl, b_tt, len_l, len_t, it_sl, it_st, it_ss, ty_str, ty_tup, c_le, c_ge, c_lt, c_gt, c_eqi, c_nei, c_eqs, c_nes, c_eqb, c_isb, c_isnb, o_add, o_sub, idx_t, idx_l, at0, at1, at2, at3, Bool.not_true, Bool.not_false, Bool.true_and, Bool.false_and, tgSlots, wipeE, bindT, List.getElem?_cons_zero, List.getElem?_cons_succ, List.set_cons_zero, List.set_cons_succ, Option.map_some, if_true, Bool.false_eq_true, if_false, h1 W ns y _ hW hs])
        have ea : (vs.map fun y => oneOf ns y).all id = vs.all (oneOf ns) := by rw [List.all_map]; rfl
        by_cases hl : vs.length = 2
        · rcases vs with _ | ⟨a, _ | ⟨b, _ | ⟨c, vs⟩⟩⟩ <;> try (simp at hl; done)
          have e3 : (((0 + 1 + 1 : Nat) : Int) == 2) = true := rfl
          simp only [v_nil, v_cons, v_for, v_asg, v_par, v_unp, v_setI, v_expr, v_ret, v_ife, v_pass, e_var, e_const, e_tup, e_lst, e_bin, e_negc, e_not, e_and, e_or, e_cmp, e_chain, e_ife, e_idx, e_slc, e_call, e_isi, e_blt, evDs, evPar, evAnd, x_bind, x_then, ok_bind, ok_then, nx_then, rt_then, np_imp, np_nl, np_py, ni_imp, ni_py, ni_nl, nb_imp, nb_py, no_none, no_int, no_intp, fz_imp, fz_im, fz_nl, im_py, im_imp, ok_imp, dm_nil, dm_one, dm_two, dr_py, tp_nil, tp_cons, ck_true, fin_rt, fin_nx, tr_imp, tr_nl, st_im, st_imp, st_nl, st_nlt, un_imp, b_len, b_all, b_any, b_max, b_min, b_int, b_intb, b_ll, b_lt, b_tl, b_tt, len_l, len_t, it_sl, it_st, it_ss, ty_str, ty_tup, c_le, c_ge, c_lt, c_gt, c_eqi, c_nei, c_eqs, c_nes, c_eqb, c_isb, c_isnb, o_add, o_sub, idx_t, idx_l, at0, at1, at2, at3, Bool.not_true, Bool.not_false, Bool.true_and, Bool.false_and, tgSlots, wipeE, bindT, List.getElem?_cons_zero, List.getElem?_cons_succ, List.set_cons_zero, List.set_cons_succ, Option.map_some, if_true, Bool.false_eq_true, if_false, hc, bools_map', ea, List.length_cons, List.length_nil, e3]
          have eb : [a, b].all (oneOf ns) = (oneOf ns a && oneOf ns b) := by simp
          rw [eb]
          have eh : hookOk ns (.tuple [a, b]) = ((oneOf ns a && oneOf ns b) && !a.eqv b) := rfl
          rw [eh]
          cases hab : (oneOf ns a && oneOf ns b) with
          | false => simp only [v_nil, v_cons, v_for, v_asg, v_par, v_unp, v_setI, v_expr, v_ret, v_ife, v_pass, e_var, e_const, e_tup, e_lst, e_bin, e_negc, e_not, e_and, e_or, e_cmp, e_chain, e_ife, e_idx, e_slc, e_call, e_isi, e_blt, evDs, evPar, evAnd, x_bind, x_then, ok_bind, ok_then, nx_then, rt_then, np_imp, np_nl, np_py, ni_imp, ni_py, ni_nl, nb_imp, nb_py, no_none, no_int, no_intp, fz_imp, fz_im, fz_nl, im_py, im_imp, ok_imp, dm_nil, dm_one, dm_two, dr_py, tp_nil, tp_cons, ck_true, fin_rt, fin_nx, tr_imp, tr_nl, st_im, st_imp, st_nl, st_nlt, un_imp, b_len, b_all, b_any, b_max, b_min, b_int, b_intb, b_ll, b_lt, b_tl, b_tt, len_l, len_t, it_sl, it_st, it_ss, ty_str, ty_tup, c_le, c_ge, c_lt, c_gt, c_eqi, c_nei, c_eqs, c_nes, c_eqb, c_isb, c_isnb, o_add, o_sub, idx_t, idx_l, at0, at1, at2, at3, Bool.not_true, Bool.not_false, Bool.true_and, Bool.false_and, tgSlots, wipeE, bindT, List.getElem?_cons_zero, List.getElem?_cons_succ, List.set_cons_zero, List.set_cons_succ, Option.map_some, if_true, Bool.false_eq_true, if_false]
          | true =>
            rw [Bool.and_eq_true] at hab
            obtain ⟨s, rfl⟩ := oneOf_str hab.1
            obtain ⟨t, rfl⟩ := oneOf_str hab.2
            simp only [v_nil, v_cons, v_for, v_asg, v_par, v_unp, v_setI, v_expr, v_ret, v_ife, v_pass, e_var, e_const, e_tup, e_lst, e_bin, e_negc, e_not, e_and, e_or, e_cmp, e_chain, e_ife, e_idx, e_slc, e_call, e_isi, e_blt, evDs, evPar, evAnd, x_bind, x_then, ok_bind, ok_then, nx_then, rt_then, np_imp, np_nl, np_py, ni_imp, ni_py, ni_nl, nb_imp, nb_py, no_none, no_int, no_intp, fz_imp, fz_im, fz_nl, im_py, im_imp, ok_imp, dm_nil, dm_one, dm_two, dr_py, tp_nil, tp_cons, ck_true, fin_rt, fin_nx, tr_imp, tr_nl, st_im, st_imp, st_nl, st_nlt, un_imp, b_len, b_all, b_any, b_max, b_min, b_int, b_intb, b_ll, b_lt, b_tl, b_tt, len_l, len_t, it_sl, it_st, it_ss, ty_str, ty_tup, c_le, c_ge, c_lt, c_gt, c_eqi, c_nei, c_eqs, c_nes, c_eqb, c_isb, c_isnb, o_add, o_sub, idx_t, idx_l, at0, at1, at2, at3, Bool.not_true, Bool.not_false, Bool.true_and, Bool.false_and, tgSlots, wipeE, bindT, List.getElem?_cons_zero, List.getElem?_cons_succ, List.set_cons_zero, List.set_cons_succ, Option.map_some, if_true, Bool.false_eq_true, if_false]
            have ee : (PyData.str s).eqv (.str t) = (s == t) := rfl
            rw [ee]
            cases (s == t) <;> simp only [v_nil, v_cons, v_for, v_asg, v_par, v_unp, v_setI, v_expr, v_ret, v_ife, v_pass, e_var, e_const, e_tup, e_lst, e_bin, e_negc, e_not, e_and, e_or, e_cmp, e_chain, e_ife, e_idx, e_slc, e_call, e_isi, e_blt, evDs, evPar, evAnd, x_bind, x_then, ok_bind, ok_then, nx_then, rt_then, np_imp, np_nl, np_py, ni_imp, ni_py, ni_nl, nb_imp, nb_py, no_none, no_int, no_intp, fz_imp, fz_im, fz_nl, im_py, im_imp, ok_imp, dm_nil, dm_one, dm_two, dr_py, tp_nil, tp_cons, ck_true, fin_rt, fin_nx, tr_imp, tr_nl, st_im, st_imp, st_nl, st_nlt, un_imp, b_len, b_all, b_any, b_max, b_min, b_int, b_intb, b_ll, b_lt, b_tl, b_tt, len_l, len_t, it_sl, it_st, it_ss, ty_str, ty_tup, c_le, c_ge, c_lt, c_gt, c_eqi, c_nei, c_eqs, c_nes, c_eqb, c_isb, c_isnb, o_add, o_sub, idx_t, idx_l, at0, at1, at2, at3, Bool.not_true, Bool.not_false, Bool.true_and, Bool.false_and, tgSlots, wipeE, bindT, List.getElem?_cons_zero, List.getElem?_cons_succ, List.set_cons_zero, List.set_cons_succ, Option.map_some, if_true, Bool.false_eq_true, if_false]
        · have e3 : (((vs.length : Nat) : Int) == 2) = false := by
            rw [beq_eq_false_iff_ne]
            omega
          have e4 : hookOk ns (.tuple vs) = false := by
            rcases vs with _ | ⟨a, _ | ⟨b, _ | ⟨c, vs⟩⟩⟩ <;> first | rfl | (simp at hl)
          simp only [v_nil, v_cons, v_for, v_asg, v_par, v_unp, v_setI, v_expr, v_ret, v_ife, v_pass, e_var, e_const, e_tup, e_lst, e_bin, e_negc, e_not, e_and, e_or, e_cmp, e_chain, e_ife, e_idx, e_slc, e_call, e_isi, e_blt, evDs, evPar, evAnd, x_bind, x_then, ok_bind, ok_then, nx_then, rt_then, np_imp, np_nl, np_py, ni_imp, ni_py, ni_nl, nb_imp, nb_py, no_none, no_int, no_intp, fz_imp, fz_im, fz_nl, im_py, im_imp, ok_imp, dm_nil, dm_one, dm_two, dr_py, tp_nil, tp_cons, ck_true, fin_rt, fin_nx, tr_imp, tr_nl, st_im, st_imp, st_nl, st_nlt, un_imp, b_len, b_all, b_any, b_max, b_min, b_int, b_intb, b_ll, b_lt, b_tl, b_tt, len_l, len_t, it_sl, it_st, it_ss, ty_str, ty_tup, c_le, c_ge, c_lt, c_gt, c_eqi, c_nei, c_eqs, c_nes, c_eqb, c_isb, c_isnb, o_add, o_sub, idx_t, idx_l, at0, at1, at2, at3, Bool.not_true, Bool.not_false, Bool.true_and, Bool.false_and, tgSlots, wipeE, bindT, List.getElem?_cons_zero, List.getElem?_cons_succ, List.set_cons_zero, List.set_cons_succ, Option.map_some, if_true, Bool.false_eq_true, if_false, e3, e4]
      | _ => simp only [v_nil, v_cons, v_for, v_asg, v_par, v_unp, v_setI, v_expr, v_ret, v_ife, v_pass, e_var, e_const, e_tup, e_lst, e_bin, e_negc, e_not, e_and, e_or, e_cmp, e_chain, e_ife, e_idx, e_slc, e_call, e_isi, e_blt, evDs, evPar, evAnd, x_bind, x_then, ok_bind, ok_then, nx_then, rt_then, np_imp, np_nl, np_py, ni_imp, ni_py, ni_nl, nb_imp, nb_py, no_none, no_int, no_intp, fz_imp, fz_im, fz_nl, im_py, im_imp, ok_imp, dm_nil, dm_one, dm_two, dr_py, tp_nil, tp_cons, ck_true, fin_rt, fin_nx, tr_imp, tr_nl, st_im, st_imp, st_nl, st_nlt, un_imp, b_len, b_all, b_any, b_max, b_min, b_int, b_intb, b_ll, b_lt, b_tl, b_tt, len_l, len_t, it_sl, it_st, it_ss, ty_str, ty_tup, c_le, c_ge, c_lt, c_gt, c_eqi, c_nei, c_eqs, c_nes, c_eqb, c_isb, c_isnb, o_add, o_sub, idx_t, idx_l, at0, at1, at2, at3, Bool.not_true, Bool.not_false, Bool.true_and, Bool.false_and, tgSlots, wipeE, bindT, List.getElem?_cons_zero, List.getElem?_cons_succ, List.set_cons_zero, List.set_cons_succ, Option.map_some, if_true, Bool.false_eq_true, if_false, isTy, hookOk]
    have hi : ∀ env st, env[1]? = some (some (D.py (.tuple hs'))) → evI Φ env .seq [(.var 1)] st = .ok hs' st := fun env st he => by
      unfold evI
      simp only [evDs, e_var, he, ok_bind, fz_im, it_st]
    simp only [v_nil, v_cons, v_for, v_asg, v_par, v_unp, v_setI, v_expr, v_ret, v_ife, v_pass, e_var, e_const, e_tup, e_lst, e_bin, e_negc, e_not, e_and, e_or, e_cmp, e_chain, e_ife, e_idx, e_slc, e_call, e_isi, e_blt, evDs, evPar, evAnd, x_bind, x_then, ok_bind, ok_then, nx_then, rt_then, np_imp, np_nl, np_py, ni_imp, ni_py, ni_nl, nb_imp, nb_py, no_none, no_int, no_intp, fz_imp, fz_im, fz_nl, im_py, im_imp, ok_imp, dm_nil, dm_one, dm_two, dr_py, tp_nil, tp_cons, ck_true, fin_rt, fin_nx, tr_imp, tr_nl, st_im, st_imp, st_nl, st_nlt, un_imp, b_len, b_all, b_any, b_max, b_min, b_int, b_intb, b_ll, b_lt, b_tl, b_tt, len_l, len_t, it_sl, it_st, it_ss, ty_str, ty_tup, c_le, c_ge, c_lt, c_gt, c_eqi, c_nei, c_eqs, c_nes, c_eqb, c_isb, c_isnb, o_add, o_sub, idx_t, idx_l, at0, at1, at2, at3, Bool.not_true, Bool.not_false, Bool.true_and, Bool.false_and, tgSlots, wipeE, bindT, List.getElem?_cons_zero, List.getElem?_cons_succ, List.set_cons_zero, List.set_cons_succ, Option.map_some, if_true, Bool.false_eq_true, if_false]
    rw [hi _ _ rfl]
    simp only [v_nil, v_cons, v_for, v_asg, v_par, v_unp, v_setI, v_expr, v_ret, v_ife, v_pass, e_var, e_const, e_tup, e_lst, e_bin, e_negc, e_not, e_and, e_or, e_cmp, e_chain, e_ife, e_idx, e_slc, e_call, e_isi, e_blt, evDs, evPar, evAnd, x_bind, x_then, ok_bind, ok_then, nx_then, rt_then, np_imp, np_nl, np_py, ni_imp, ni_py, ni_nl, nb_imp, nb_py, no_none, no_int, no_intp, fz_imp, fz_im, fz_nl, im_py, im_imp, ok_imp, dm_nil, dm_one, dm_two, dr_py, tp_nil, tp_cons, ck_true, fin_rt, fin_nx, tr_imp, tr_nl, st_im, st_imp, st_nl, st_nlt, un_imp, b_len, b_all, b_any, b_max, b_min, b_int, b_intb, b_ll, b_lt, b_tl, b_tt, len_l, len_t, it_sl, it_st, it_ss, ty_str, ty_tup, c_le, c_ge, c_lt, c_gt, c_eqi, c_nei, c_eqs, c_nes, c_eqb, c_isb, c_isnb, o_add, o_sub, idx_t, idx_l, at0, at1, at2, at3, Bool.not_true, Bool.not_false, Bool.true_and, Bool.false_and, tgSlots, wipeE, bindT, List.getElem?_cons_zero, List.getElem?_cons_succ, List.set_cons_zero, List.set_cons_succ, Option.map_some, if_true, Bool.false_eq_true, if_false]
    rw [forL_all (good := hookOk ns) hs' _ (fun y hy => by simp only [List.set_cons_succ, List.set_cons_zero]; exact hb y hy none)]
    cases hg : hs'.all (hookOk ns) with
    | false => simp only [v_nil, v_cons, v_for, v_asg, v_par, v_unp, v_setI, v_expr, v_ret, v_ife, v_pass, e_var, e_const, e_tup, e_lst, e_bin, e_negc, e_not, e_and, e_or, e_cmp, e_chain, e_ife, e_idx, e_slc, e_call, e_isi, e_blt, evDs, evPar, evAnd, x_bind, x_then, ok_bind, ok_then, nx_then, rt_then, np_imp, np_nl, np_py, ni_imp, ni_py, ni_nl, nb_imp, nb_py, no_none, no_int, no_intp, fz_imp, fz_im, fz_nl, im_py, im_imp, ok_imp, dm_nil, dm_one, dm_two, dr_py, tp_nil, tp_cons, ck_true, fin_rt, fin_nx, tr_imp, tr_nl, st_im, st_imp, st_nl, st_nlt, un_imp, b_len, b_all, b_any, b_max, b_min, b_int, b_intb, b_ll, b_lt, b_tl, b_tt, len_l, len_t, it_sl, it_st, it_ss, ty_str, ty_tup, c_le, c_ge, c_lt, c_gt, c_eqi, c_nei, c_eqs, c_nes, c_eqb, c_isb, c_isnb, o_add, o_sub, idx_t, idx_l, at0, at1, at2, at3, Bool.not_true, Bool.not_false, Bool.true_and, Bool.false_and, tgSlots, wipeE, bindT, List.getElem?_cons_zero, List.getElem?_cons_succ, List.set_cons_zero, List.set_cons_succ, Option.map_some, if_true, Bool.false_eq_true, if_false, areHooks, hg]
    | true =>
      have hr : RowOk hs' := .inr fun x hx => hookOk_shape (List.all_eq_true.mp hg x hx)
      unfold lastE
      cases hs'.getLast? <;> simp only [v_nil, v_cons, v_for, v_asg, v_par, v_unp, v_setI, v_expr, v_ret, v_ife, v_pass, e_var, e_const, e_tup, e_lst, e_bin, e_negc, e_not, e_and, e_or, e_cmp, e_chain, e_ife, e_idx, e_slc, e_call, e_isi, e_blt, evDs, evPar, evAnd, x_bind, x_then, ok_bind, ok_then, nx_then, rt_then, np_imp, np_nl, np_py, ni_imp, ni_py, ni_nl, nb_imp, nb_py, no_none, no_int, no_intp, fz_imp, fz_im, fz_nl, im_py, im_imp, ok_imp, dm_nil, dm_one, dm_two, dr_py, tp_nil, tp_cons, ck_true, fin_rt, fin_nx, tr_imp, tr_nl, st_im, st_imp, st_nl, st_nlt, un_imp, b_len, b_all, b_any, b_max, b_min, b_int, b_intb, b_ll, b_lt, b_tl, b_tt, len_l, len_t, it_sl, it_st, it_ss, ty_str, ty_tup, c_le, c_ge, c_lt, c_gt, c_eqi, c_nei, c_eqs, c_nes, c_eqb, c_isb, c_isnb, o_add, o_sub, idx_t, idx_l, at0, at1, at2, at3, Bool.not_true, Bool.not_false, Bool.true_and, Bool.false_and, tgSlots, wipeE, bindT, List.getElem?_cons_zero, List.getElem?_cons_succ, List.set_cons_zero, List.set_cons_succ, Option.map_some, if_true, Bool.false_eq_true, if_false, areHooks, hg, h2 _ _ _ (.inr rfl) hr z]
  | _ => simp only [v_nil, v_cons, v_for, v_asg, v_par, v_unp, v_setI, v_expr, v_ret, v_ife, v_pass, e_var, e_const, e_tup, e_lst, e_bin, e_negc, e_not, e_and, e_or, e_cmp, e_chain, e_ife, e_idx, e_slc, e_call, e_isi, e_blt, evDs, evPar, evAnd, x_bind, x_then, ok_bind, ok_then, nx_then, rt_then, np_imp, np_nl, np_py, ni_imp, ni_py, ni_nl, nb_imp, nb_py, no_none, no_int, no_intp, fz_imp, fz_im, fz_nl, im_py, im_imp, ok_imp, dm_nil, dm_one, dm_two, dr_py, tp_nil, tp_cons, ck_true, fin_rt, fin_nx, tr_imp, tr_nl, st_im, st_imp, st_nl, st_nlt, un_imp, b_len, b_all, b_any, b_max, b_min, b_int, b_intb, b_ll, b_lt, b_tl, b_tt, len_l, len_t, it_sl, it_st, it_ss, ty_str, ty_tup, c_le, c_ge, c_lt, c_gt, c_eqi, c_nei, c_eqs, c_nes, c_eqb, c_isb, c_isnb, o_add, o_sub, idx_t, idx_l, at0, at1, at2, at3, Bool.not_true, Bool.not_false, Bool.true_and, Bool.false_and, tgSlots, wipeE, bindT, List.getElem?_cons_zero, List.getElem?_cons_succ, List.set_cons_zero, List.set_cons_succ, Option.map_some, if_true, Bool.false_eq_true, if_false, isTy, areHooks]
def HooksF (Φ : Nat → List D → Sto → R Rv) (i : Nat) : Prop := ∀ W ns v st, (W = .list ns ∨ W = .tuple ns) → Strs ns → small v = true → Φ i [.py W, .py v] st = ok1 (.bool (areHooks ns v)) st
def isSetup : P → Bool
  | .tuple [ts, hs, .tuple [x, y]] => areTools ts && (areHooks (match ts with | .tuple l => names l | _ => []) hs && (areNames (match ts with | .tuple l => names l | _ => []) x && areNames (match ts with | .tuple l => names l | _ => []) y))
  | _ => false
theorem areTools_shape {v : P} (h : areTools v = true) : ∃ ts, v = .tuple ts ∧ ts.all isTool = true := by
  unfold areTools at h
  split at h
  · rw [Bool.and_eq_true] at h
    obtain ⟨_, h⟩ := h
    rw [Bool.and_eq_true] at h
    exact ⟨_, rfl, h.1⟩
  · cases h
theorem sem_isSetup {i1 i2 i3 : Nat} (h1 : ToolsF Φ i1) (h2 : HooksF Φ i2) (h3 : NamesF Φ i3) {v : P} (hv : small v = true) :
    fin st.length (evSs Φ (t_is_setup i1 i2 i3) [some (.py v), none, none] st) = ok1 (.bool (isSetup v)) st := by
  unfold t_is_setup
  cases v with
  | tuple vs =>
    obtain ⟨z, hs⟩ := small_tup hv
    by_cases hl : vs.length = 3
    · rcases vs with _ | ⟨a, _ | ⟨b, _ | ⟨c, _ | ⟨d, vs⟩⟩⟩⟩ <;> try (simp at hl; done)
      have ha : small a = true := hs a (by simp)
      have hbb : small b = true := hs b (by simp)
      have hcc : small c = true := hs c (by simp)
      have e3 : (((0 + 1 + 1 + 1 : Nat) : Int) == 3) = true := rfl
      simp only [v_nil, v_cons, v_for, v_asg, v_par, v_unp, v_setI, v_expr, v_ret, v_ife, v_pass, e_var, e_const, e_tup, e_lst, e_bin, e_negc, e_not, e_and, e_or, e_cmp, e_chain, e_ife, e_idx, e_slc, e_call, e_isi, e_blt, evDs, evPar, evAnd, x_bind, x_then, ok_bind, ok_then, nx_then, rt_then, np_imp, np_nl, np_py, ni_imp, ni_py, ni_nl, nb_imp, nb_py, no_none, no_int, no_intp, fz_imp, fz_im, fz_nl, im_py, im_imp, ok_imp, dm_nil, dm_one, dm_two, dr_py, tp_nil, tp_cons, ck_true, fin_rt, fin_nx, tr_imp, tr_nl, st_im, st_imp, st_nl, st_nlt, un_imp, b_len, b_all, b_any, b_max, b_min, b_int, b_intb, b_ll, b_lt, b_tl, b_tt, len_l, len_t, it_sl, it_st, it_ss, ty_str, ty_tup, c_le, c_ge, c_lt, c_gt, c_eqi, c_nei, c_eqs, c_nes, c_eqb, c_isb, c_isnb, o_add, o_sub, idx_t, idx_l, at0, at1, at2, at3, Bool.not_true, Bool.not_false, Bool.true_and, Bool.false_and, tgSlots, wipeE, bindT, List.getElem?_cons_zero, List.getElem?_cons_succ, List.set_cons_zero, List.set_cons_succ, Option.map_some, if_true, Bool.false_eq_true, if_false, List.length_cons, List.length_nil, h1 a _ ha, e3]
      cases hg : areTools a with
      | false =>
        have e5 : isSetup (.tuple [a, b, c]) = false := by
          unfold isSetup
          split
          · rename_i e
            simp only [PyData.tuple.injEq, List.cons.injEq] at e
            obtain ⟨rfl, _⟩ := e
            rw [hg]; rfl
          · rfl
        simp only [v_nil, v_cons, v_for, v_asg, v_par, v_unp, v_setI, v_expr, v_ret, v_ife, v_pass, e_var, e_const, e_tup, e_lst, e_bin, e_negc, e_not, e_and, e_or, e_cmp, e_chain, e_ife, e_idx, e_slc, e_call, e_isi, e_blt, evDs, evPar, evAnd, x_bind, x_then, ok_bind, ok_then, nx_then, rt_then, np_imp, np_nl, np_py, ni_imp, ni_py, ni_nl, nb_imp, nb_py, no_none, no_int, no_intp, fz_imp, fz_im, fz_nl, im_py, im_imp, ok_imp, dm_nil, dm_one, dm_two, dr_py, tp_nil, tp_cons, ck_true, fin_rt, fin_nx, tr_imp, tr_nl, st_im, st_imp, st_nl, st_nlt, un_imp, b_len, b_all, b_any, b_max, b_min, b_int, b_intb, b_ll, b_lt, b_tl, b_tt, len_l, len_t, it_sl, it_st, it_ss, ty_str, ty_tup, c_le, c_ge, c_lt, c_gt, c_eqi, c_nei, c_eqs, c_nes, c_eqb, c_isb, c_isnb, o_add, o_sub, idx_t, idx_l, at0, at1, at2, at3, Bool.not_true, Bool.not_false, Bool.true_and, Bool.false_and, tgSlots, wipeE, bindT, List.getElem?_cons_zero, List.getElem?_cons_succ, List.set_cons_zero, List.set_cons_succ, Option.map_some, if_true, Bool.false_eq_true, if_false, e5]
      | true =>
        obtain ⟨ts, rfl, hall⟩ := areTools_shape hg
        have zt := (small_tup ha).1
        have hn := names_strs hall
        have hc : ∀ e1 e2 st, evE Φ [some (.py (.tuple [.tuple ts, b, c])), e1, e2] (.comp (.idx (.var 2) (.const (.int 0))) (.one 2) .seq [(.idx (.var 0) (.const (.int 0)))] []) st = .ok (.nl (names ts)) st := fun e1 e2 st => by
          refine comp_map _ (ds := [.py (.tuple ts)]) (by simp only [v_nil, v_cons, v_for, v_asg, v_par, v_unp, v_setI, v_expr, v_ret, v_ife, v_pass, e_var, e_const, e_tup, e_lst, e_bin, e_negc, e_not, e_and, e_or, e_cmp, e_chain, e_ife, e_idx, e_slc, e_call, e_isi, e_blt, evDs, evPar, evAnd, x_bind, x_then, ok_bind, ok_then, nx_then, rt_then, np_imp, np_nl, np_py, ni_imp, ni_py, ni_nl, nb_imp, nb_py, no_none, no_int, no_intp, fz_imp, fz_im, fz_nl, im_py, im_imp, ok_imp, dm_nil, dm_one, dm_two, dr_py, tp_nil, tp_cons, ck_true, fin_rt, fin_nx, tr_imp, tr_nl, st_im, st_imp, st_nl, st_nlt, un_imp, b_len, b_all, b_any, b_max, b_min, b_int, b_intb, b_ll, b_lt, b_tl, b_tt, len_l, len_t, it_sl, it_st, it_ss, ty_str, ty_tup, c_le, c_ge, c_lt, c_gt, c_eqi, c_nei, c_eqs, c_nes, c_eqb, c_isb, c_isnb, o_add, o_sub, idx_t, idx_l, at0, at1, at2, at3, Bool.not_true, Bool.not_false, Bool.true_and, Bool.false_and, tgSlots, wipeE, bindT, List.getElem?_cons_zero, List.getElem?_cons_succ, List.set_cons_zero, List.set_cons_succ, Option.map_some, if_true, Bool.false_eq_true, if_false]) (by simp only [v_nil, v_cons, v_for, v_asg, v_par, v_unp, v_setI, v_expr, v_ret, v_ife, v_pass, e_var, e_const, e_tup, e_lst, e_bin, e_negc, e_not, e_and, e_or, e_cmp, e_chain, e_ife, e_idx, e_slc, e_call, e_isi, e_blt, evDs, evPar, evAnd, x_bind, x_then, ok_bind, ok_then, nx_then, rt_then, np_imp, np_nl, np_py, ni_imp, ni_py, ni_nl, nb_imp, nb_py, no_none, no_int, no_intp, fz_imp, fz_im, fz_nl, im_py, im_imp, ok_imp, dm_nil, dm_one, dm_two, dr_py, tp_nil, tp_cons, ck_true, fin_rt, fin_nx, tr_imp, tr_nl, st_im, st_imp, st_nl, st_nlt, un_imp, b_len, b_all, b_any, b_max, b_min, b_int, b_intb, b_ll, b_lt, b_tl, b_tt, len_l, len_t, it_sl, it_st, it_ss, ty_str, ty_tup, c_le, c_ge, c_lt, c_gt, c_eqi, c_nei, c_eqs, c_nes, c_eqb, c_isb, c_isnb, o_add, o_sub, idx_t, idx_l, at0, at1, at2, at3, Bool.not_true, Bool.not_false, Bool.true_and, Bool.false_and, tgSlots, wipeE, bindT, List.getElem?_cons_zero, List.getElem?_cons_succ, List.set_cons_zero, List.set_cons_succ, Option.map_some, if_true, Bool.false_eq_true, if_false]) (fun y hy st => ?_) (Nat.le_trans zt sz_big)
          obtain ⟨s, b', c', d, rfl⟩ := isTool_shape (List.all_eq_true.mp hall y hy)
          exact turn_elt (env1 := [some (.py (.tuple [.tuple ts, b, c])), e1, some (.py (.tuple [.str s, b', c', d]))]) (by simp only [v_nil, v_cons, v_for, v_asg, v_par, v_unp, v_setI, v_expr, v_ret, v_ife, v_pass, e_var, e_const, e_tup, e_lst, e_bin, e_negc, e_not, e_and, e_or, e_cmp, e_chain, e_ife, e_idx, e_slc, e_call, e_isi, e_blt, evDs, evPar, evAnd, x_bind, x_then, ok_bind, ok_then, nx_then, rt_then, np_imp, np_nl, np_py, ni_imp, ni_py, ni_nl, nb_imp, nb_py, no_none, no_int, no_intp, fz_imp, fz_im, fz_nl, im_py, im_imp, ok_imp, dm_nil, dm_one, dm_two, dr_py, tp_nil, tp_cons, ck_true, fin_rt, fin_nx, tr_imp, tr_nl, st_im, st_imp, st_nl, st_nlt, un_imp, b_len, b_all, b_any, b_max, b_min, b_int, b_intb, b_ll, b_lt, b_tl, b_tt, len_l, len_t, it_sl, it_st, it_ss, ty_str, ty_tup, c_le, c_ge, c_lt, c_gt, c_eqi, c_nei, c_eqs, c_nes, c_eqb, c_isb, c_isnb, o_add, o_sub, idx_t, idx_l, at0, at1, at2, at3, Bool.not_true, Bool.not_false, Bool.true_and, Bool.false_and, tgSlots, wipeE, bindT, List.getElem?_cons_zero, List.getElem?_cons_succ, List.set_cons_zero, List.set_cons_succ, Option.map_some, if_true, Bool.false_eq_true, if_false]) (by simp only [v_nil, v_cons, v_for, v_asg, v_par, v_unp, v_setI, v_expr, v_ret, v_ife, v_pass, e_var, e_const, e_tup, e_lst, e_bin, e_negc, e_not, e_and, e_or, e_cmp, e_chain, e_ife, e_idx, e_slc, e_call, e_isi, e_blt, evDs, evPar, evAnd, x_bind, x_then, ok_bind, ok_then, nx_then, rt_then, np_imp, np_nl, np_py, ni_imp, ni_py, ni_nl, nb_imp, nb_py, no_none, no_int, no_intp, fz_imp, fz_im, fz_nl, im_py, im_imp, ok_imp, dm_nil, dm_one, dm_two, dr_py, tp_nil, tp_cons, ck_true, fin_rt, fin_nx, tr_imp, tr_nl, st_im, st_imp, st_nl, st_nlt, un_imp, b_len, b_all, b_any, b_max, b_min, b_int, b_intb, b_ll, b_lt, b_tl, b_tt, len_l, len_t, it_sl, it_st, it_ss, ty_str, ty_tup, c_le, c_ge, c_lt, c_gt, c_eqi, c_nei, c_eqs, c_nes, c_eqb, c_isb, c_isnb, o_add, o_sub, idx_t, idx_l, at0, at1, at2, at3, Bool.not_true, Bool.not_false, Bool.true_and, Bool.false_and, tgSlots, wipeE, bindT, List.getElem?_cons_zero, List.getElem?_cons_succ, List.set_cons_zero, List.set_cons_succ, Option.map_some, if_true, Bool.false_eq_true, if_false, nm])
        simp only [v_nil, v_cons, v_for, v_asg, v_par, v_unp, v_setI, v_expr, v_ret, v_ife, v_pass, e_var, e_const, e_tup, e_lst, e_bin, e_negc, e_not, e_and, e_or, e_cmp, e_chain, e_ife, e_idx, e_slc, e_call, e_isi, e_blt, evDs, evPar, evAnd, x_bind, x_then, ok_bind, ok_then, nx_then, rt_then, np_imp, np_nl, np_py, ni_imp, ni_py, ni_nl, nb_imp, nb_py, no_none, no_int, no_intp, fz_imp, fz_im, fz_nl, im_py, im_imp, ok_imp, dm_nil, dm_one, dm_two, dr_py, tp_nil, tp_cons, ck_true, fin_rt, fin_nx, tr_imp, tr_nl, st_im, st_imp, st_nl, st_nlt, un_imp, b_len, b_all, b_any, b_max, b_min, b_int, b_intb, b_ll, b_lt, b_tl, b_tt, len_l, len_t, it_sl, it_st, it_ss, ty_str, ty_tup, c_le, c_ge, c_lt, c_gt, c_eqi, c_nei, c_eqs, c_nes, c_eqb, c_isb, c_isnb, o_add, o_sub, idx_t, idx_l, at0, at1, at2, at3, Bool.not_true, Bool.not_false, Bool.true_and, Bool.false_and, tgSlots, wipeE, bindT, List.getElem?_cons_zero, List.getElem?_cons_succ, List.set_cons_zero, List.set_cons_succ, Option.map_some, if_true, Bool.false_eq_true, if_false, hc, h2 _ _ b _ (.inl rfl) hn hbb]
        cases hh : areHooks (names ts) b with
        | false =>
          have e5 : isSetup (.tuple [.tuple ts, b, c]) = false := by
            unfold isSetup
            split
            · rename_i e
              simp only [PyData.tuple.injEq, List.cons.injEq] at e
              obtain ⟨rfl, rfl, _⟩ := e
              simp only [hg, hh, Bool.false_and, Bool.and_false]
            · rfl
          simp only [v_nil, v_cons, v_for, v_asg, v_par, v_unp, v_setI, v_expr, v_ret, v_ife, v_pass, e_var, e_const, e_tup, e_lst, e_bin, e_negc, e_not, e_and, e_or, e_cmp, e_chain, e_ife, e_idx, e_slc, e_call, e_isi, e_blt, evDs, evPar, evAnd, x_bind, x_then, ok_bind, ok_then, nx_then, rt_then, np_imp, np_nl, np_py, ni_imp, ni_py, ni_nl, nb_imp, nb_py, no_none, no_int, no_intp, fz_imp, fz_im, fz_nl, im_py, im_imp, ok_imp, dm_nil, dm_one, dm_two, dr_py, tp_nil, tp_cons, ck_true, fin_rt, fin_nx, tr_imp, tr_nl, st_im, st_imp, st_nl, st_nlt, un_imp, b_len, b_all, b_any, b_max, b_min, b_int, b_intb, b_ll, b_lt, b_tl, b_tt, len_l, len_t, it_sl, it_st, it_ss, ty_str, ty_tup, c_le, c_ge, c_lt, c_gt, c_eqi, c_nei, c_eqs, c_nes, c_eqb, c_isb, c_isnb, o_add, o_sub, idx_t, idx_l, at0, at1, at2, at3, Bool.not_true, Bool.not_false, Bool.true_and, Bool.false_and, tgSlots, wipeE, bindT, List.getElem?_cons_zero, List.getElem?_cons_succ, List.set_cons_zero, List.set_cons_succ, Option.map_some, if_true, Bool.false_eq_true, if_false, e5]
        | true =>
          simp only [v_nil, v_cons, v_for, v_asg, v_par, v_unp, v_setI, v_expr, v_ret, v_ife, v_pass, e_var, e_const, e_tup, e_lst, e_bin, e_negc, e_not, e_and, e_or, e_cmp, e_chain, e_ife, e_idx, e_slc, e_call, e_isi, e_blt, evDs, evPar, evAnd, x_bind, x_then, ok_bind, ok_then, nx_then, rt_then, np_imp, np_nl, np_py, ni_imp, ni_py, ni_nl, nb_imp, nb_py, no_none, no_int, no_intp, fz_imp, fz_im, fz_nl, im_py, im_imp, ok_imp, dm_nil, dm_one, dm_two, dr_py, tp_nil, tp_cons, ck_true, fin_rt, fin_nx, tr_imp, tr_nl, st_im, st_imp, st_nl, st_nlt, un_imp, b_len, b_all, b_any, b_max, b_min, b_int, b_intb, b_ll, b_lt, b_tl, b_tt, len_l, len_t, it_sl, it_st, it_ss, ty_str, ty_tup, c_le, c_ge, c_lt, c_gt, c_eqi, c_nei, c_eqs, c_nes, c_eqb, c_isb, c_isnb, o_add, o_sub, idx_t, idx_l, at0, at1, at2, at3, Bool.not_true, Bool.not_false, Bool.true_and, Bool.false_and, tgSlots, wipeE, bindT, List.getElem?_cons_zero, List.getElem?_cons_succ, List.set_cons_zero, List.set_cons_succ, Option.map_some, if_true, Bool.false_eq_true, if_false]
          cases c with
          | tuple cs =>
            obtain ⟨z3, hs3⟩ := small_tup hcc
            by_cases hl2 : cs.length = 2
            · rcases cs with _ | ⟨x, _ | ⟨y, _ | ⟨d, cs⟩⟩⟩ <;> try (simp at hl2; done)
              have hx : small x = true := hs3 x (by simp)
              have hy : small y = true := hs3 y (by simp)
              have e4 : (((0 + 1 + 1 : Nat) : Int) == 2) = true := rfl
              have e5 : isSetup (.tuple [.tuple ts, b, .tuple [x, y]]) = (areTools (.tuple ts) && (areHooks (names ts) b && (areNames (names ts) x && areNames (names ts) y))) := rfl
              simp only [v_nil, v_cons, v_for, v_asg, v_par, v_unp, v_setI, v_expr, v_ret, v_ife, v_pass, e_var, e_const, e_tup, e_lst, e_bin, e_negc, e_not, e_and, e_or, e_cmp, e_chain, e_ife, e_idx, e_slc, e_call, e_isi, e_blt, evDs, evPar, evAnd, x_bind, x_then, ok_bind, ok_then, nx_then, rt_then, np_imp, np_nl, np_py, ni_imp, ni_py, ni_nl, nb_imp, nb_py, no_none, no_int, no_intp, fz_imp, fz_im, fz_nl, im_py, im_imp, ok_imp, dm_nil, dm_one, dm_two, dr_py, tp_nil, tp_cons, ck_true, fin_rt, fin_nx, tr_imp, tr_nl, st_im, st_imp, st_nl, st_nlt, un_imp, b_len, b_all, b_any, b_max, b_min, b_int, b_intb, b_ll, b_lt, b_tl, b_tt, len_l, len_t, it_sl, it_st, it_ss, ty_str, ty_tup, c_le, c_ge, c_lt, c_gt, c_eqi, c_nei, c_eqs, c_nes, c_eqb, c_isb, c_isnb, o_add, o_sub, idx_t, idx_l, at0, at1, at2, at3, Bool.not_true, Bool.not_false, Bool.true_and, Bool.false_and, tgSlots, wipeE, bindT, List.getElem?_cons_zero, List.getElem?_cons_succ, List.set_cons_zero, List.set_cons_succ, Option.map_some, if_true, Bool.false_eq_true, if_false, List.length_cons, List.length_nil, e4, e5, hg, hh, h3 _ _ x _ (.inl rfl) hn hx, h3 _ _ y _ (.inl rfl) hn hy]
              cases areNames (names ts) x <;> simp only [v_nil, v_cons, v_for, v_asg, v_par, v_unp, v_setI, v_expr, v_ret, v_ife, v_pass, e_var, e_const, e_tup, e_lst, e_bin, e_negc, e_not, e_and, e_or, e_cmp, e_chain, e_ife, e_idx, e_slc, e_call, e_isi, e_blt, evDs, evPar, evAnd, x_bind, x_then, ok_bind, ok_then, nx_then, rt_then, np_imp, np_nl, np_py, ni_imp, ni_py, ni_nl, nb_imp, nb_py, no_none, no_int, no_intp, fz_imp, fz_im, fz_nl, im_py, im_imp, ok_imp, dm_nil, dm_one, dm_two, dr_py, tp_nil, tp_cons, ck_true, fin_rt, fin_nx, tr_imp, tr_nl, st_im, st_imp, st_nl, st_nlt, un_imp, b_len, b_all, b_any, b_max, b_min, b_int, b_intb, b_ll, b_lt, b_tl, b_tt, len_l, len_t, it_sl, it_st, it_ss, ty_str, ty_tup, c_le, c_ge, c_lt, c_gt, c_eqi, c_nei, c_eqs, c_nes, c_eqb, c_isb, c_isnb, o_add, o_sub, idx_t, idx_l, at0, at1, at2, at3, Bool.not_true, Bool.not_false, Bool.true_and, Bool.false_and, tgSlots, wipeE, bindT, List.getElem?_cons_zero, List.getElem?_cons_succ, List.set_cons_zero, List.set_cons_succ, Option.map_some, if_true, Bool.false_eq_true, if_false]
            · have e4 : (((cs.length : Nat) : Int) == 2) = false := by
                rw [beq_eq_false_iff_ne]
                omega
              have e5 : isSetup (.tuple [.tuple ts, b, .tuple cs]) = false := by
                rcases cs with _ | ⟨x, _ | ⟨y, _ | ⟨d, cs⟩⟩⟩ <;> first | rfl | (simp at hl2)
              simp only [v_nil, v_cons, v_for, v_asg, v_par, v_unp, v_setI, v_expr, v_ret, v_ife, v_pass, e_var, e_const, e_tup, e_lst, e_bin, e_negc, e_not, e_and, e_or, e_cmp, e_chain, e_ife, e_idx, e_slc, e_call, e_isi, e_blt, evDs, evPar, evAnd, x_bind, x_then, ok_bind, ok_then, nx_then, rt_then, np_imp, np_nl, np_py, ni_imp, ni_py, ni_nl, nb_imp, nb_py, no_none, no_int, no_intp, fz_imp, fz_im, fz_nl, im_py, im_imp, ok_imp, dm_nil, dm_one, dm_two, dr_py, tp_nil, tp_cons, ck_true, fin_rt, fin_nx, tr_imp, tr_nl, st_im, st_imp, st_nl, st_nlt, un_imp, b_len, b_all, b_any, b_max, b_min, b_int, b_intb, b_ll, b_lt, b_tl, b_tt, len_l, len_t, it_sl, it_st, it_ss, ty_str, ty_tup, c_le, c_ge, c_lt, c_gt, c_eqi, c_nei, c_eqs, c_nes, c_eqb, c_isb, c_isnb, o_add, o_sub, idx_t, idx_l, at0, at1, at2, at3, Bool.not_true, Bool.not_false, Bool.true_and, Bool.false_and, tgSlots, wipeE, bindT, List.getElem?_cons_zero, List.getElem?_cons_succ, List.set_cons_zero, List.set_cons_succ, Option.map_some, if_true, Bool.false_eq_true, if_false, e4, e5]
          | _ => simp only [v_nil, v_cons, v_for, v_asg, v_par, v_unp, v_setI, v_expr, v_ret, v_ife, v_pass, e_var, e_const, e_tup, e_lst, e_bin, e_negc, e_not, e_and, e_or, e_cmp, e_chain, e_ife, e_idx, e_slc, e_call, e_isi, e_blt, evDs, evPar, evAnd, x_bind, x_then, ok_bind, ok_then, nx_then, rt_then, np_imp, np_nl, np_py, ni_imp, ni_py, ni_nl, nb_imp, nb_py, no_none, no_int, no_intp, fz_imp, fz_im, fz_nl, im_py, im_imp, ok_imp, dm_nil, dm_one, dm_two, dr_py, tp_nil, tp_cons, ck_true, fin_rt, fin_nx, tr_imp, tr_nl, st_im, st_imp, st_nl, st_nlt, un_imp, b_len, b_all, b_any, b_max, b_min, b_int, b_intb, b_ll, b_lt, b_tl, b_tt, len_l, len_t, it_sl, it_st, it_ss, ty_str, ty_tup, c_le, c_ge, c_lt, c_gt, c_eqi, c_nei, c_eqs, c_nes, c_eqb, c_isb, c_isnb, o_add, o_sub, idx_t, idx_l, at0, at1, at2, at3, Bool.not_true, Bool.not_false, Bool.true_and, Bool.false_and, tgSlots, wipeE, bindT, List.getElem?_cons_zero, List.getElem?_cons_succ, List.set_cons_zero, List.set_cons_succ, Option.map_some, if_true, Bool.false_eq_true, if_false, isTy, isSetup]
    · have e3 : (((vs.length : Nat) : Int) == 3) = false := by
        rw [beq_eq_false_iff_ne]
        omega
      have e4 : isSetup (.tuple vs) = false := by
        unfold isSetup
        split
        · rename_i e
          simp only [PyData.tuple.injEq] at e
          subst e
          exact absurd rfl hl
        · rfl
      simp only [v_nil, v_cons, v_for, v_asg, v_par, v_unp, v_setI, v_expr, v_ret, v_ife, v_pass, e_var, e_const, e_tup, e_lst, e_bin, e_negc, e_not, e_and, e_or, e_cmp, e_chain, e_ife, e_idx, e_slc, e_call, e_isi, e_blt, evDs, evPar, evAnd, x_bind, x_then, ok_bind, ok_then, nx_then, rt_then, np_imp, np_nl, np_py, ni_imp, ni_py, ni_nl, nb_imp, nb_py, no_none, no_int, no_intp, fz_imp, fz_im, fz_nl, im_py, im_imp, ok_imp, dm_nil, dm_one, dm_two, dr_py, tp_nil, tp_cons, ck_true, fin_rt, fin_nx, tr_imp, tr_nl, st_im, st_imp, st_nl, st_nlt, un_imp, b_len, b_all, b_any, b_max, b_min, b_int, b_intb, b_ll, b_lt, b_tl, b_tt, len_l, len_t, it_sl, it_st, it_ss, ty_str, ty_tup, c_le, c_ge, c_lt, c_gt, c_eqi, c_nei, c_eqs, c_nes, c_eqb, c_isb, c_isnb, o_add, o_sub, idx_t, idx_l, at0, at1, at2, at3, Bool.not_true, Bool.not_false, Bool.true_and, Bool.false_and, tgSlots, wipeE, bindT, List.getElem?_cons_zero, List.getElem?_cons_succ, List.set_cons_zero, List.set_cons_succ, Option.map_some, if_true, Bool.false_eq_true, if_false, e3, e4]
  | _ => simp only [v_nil, v_cons, v_for, v_asg, v_par, v_unp, v_setI, v_expr, v_ret, v_ife, v_pass, e_var, e_const, e_tup, e_lst, e_bin, e_negc, e_not, e_and, e_or, e_cmp, e_chain, e_ife, e_idx, e_slc, e_call, e_isi, e_blt, evDs, evPar, evAnd, x_bind, x_then, ok_bind, ok_then, nx_then, rt_then, np_imp, np_nl, np_py, ni_imp, ni_py, ni_nl, nb_imp, nb_py, no_none, no_int, no_intp, fz_imp, fz_im, fz_nl, im_py, im_imp, ok_imp, dm_nil, dm_one, dm_two, dr_py, tp_nil, tp_cons, ck_true, fin_rt, fin_nx, tr_imp, tr_nl, st_im, st_imp, st_nl, st_nlt, un_imp, b_len, b_all, b_any, b_max, b_min, b_int, b_intb, b_ll, b_lt, b_tl, b_tt, len_l, len_t, it_sl, it_st, it_ss, ty_str, ty_tup, c_le, c_ge, c_lt, c_gt, c_eqi, c_nei, c_eqs, c_nes, c_eqb, c_isb, c_isnb, o_add, o_sub, idx_t, idx_l, at0, at1, at2, at3, Bool.not_true, Bool.not_false, Bool.true_and, Bool.false_and, tgSlots, wipeE, bindT, List.getElem?_cons_zero, List.getElem?_cons_succ, List.set_cons_zero, List.set_cons_succ, Option.map_some, if_true, Bool.false_eq_true, if_false, isTy, isSetup]
def SetupF (Φ : Nat → List D → Sto → R Rv) (i : Nat) : Prop := ∀ v st, small v = true → Φ i [.py v] st = ok1 (.bool (isSetup v)) st
end
end Kp

/-! Kp, part 18: draws. -/
namespace Kp
open PySem
/-- a jar: two numbers -/
def JarAt (n : Nat) (st : Sto) : Prop := ∃ a b : Int, st[n]? = some (.lst [.int a, .int b]) ∧ 0 ≤ a ∧ 0 ≤ b ∧ b < 4294967296
/-- only the object n is changed -/
structure Same (n : Nat) (st st' : Sto) : Prop where
  len : st'.length = st.length
  at_ : ∀ m, m ≠ n → st'[m]? = st[m]?
theorem Same.refl {n : Nat} {st : Sto} : Same n st st := ⟨rfl, fun _ _ => rfl⟩
theorem Same.trans {n : Nat} {a b c : Sto} (x : Same n a b) (y : Same n b c) : Same n a c := ⟨y.len.trans x.len, fun m h => (y.at_ m h).trans (x.at_ m h)⟩
theorem Same.set {n : Nat} {st : Sto} {o : Ob} : Same n st (st.set n o) := ⟨List.length_set, fun m h => List.getElem?_set_ne (Ne.symm h)⟩
theorem JarAt.lt {n : Nat} {st : Sto} (h : JarAt n st) : n < st.length := by
  obtain ⟨a, b, e, _⟩ := h
  exact (List.getElem?_eq_some_iff.mp e).1
section
variable {Φ : Nat → List D → Sto → R Rv} {env : Ev}
theorem np_ref {β : Type} {n : Nat} {xs : List P} {st : Sto} (h : st[n]? = some (.lst xs)) (f : P → R β) : needP (.im (.ref n)) st f = f (.list xs) := by
  unfold needP asP deref
  simp only [Rv.frz, h]
theorem setI_ev {o i e : X} {p : P} {d : D} {k : P} {st st1 st2 st3 st4 : Sto} (h1 : evE Φ env e st = ok1 p st1) (h2 : evE Φ env o st1 = .ok (.im d) st2) (h3 : evE Φ env i st2 = ok1 k st3) (h4 : setop d k p st3 = some st4) : evS Φ (.setI o i e) env st = .nx env st4 := by
  simp only [evS, h1, h2, h3, x_then, ok_then]
  show (match D.py p, Rv.im d, Rv.im (.py k) with
    | .py p, .im d, .im (.py k) => (match setop d k p st3 with
      | some st4 => SR.nx env st4
      | none => .bad)
    | _, _, _ => .bad) = _
  simp only [h4]
theorem tr_len {n : Nat} {p : P} {st : Sto} (h : st.length = n) : trunc n (imp p) st = ok1 p st := by
  subst h
  exact tr_imp p st
theorem tr_nll {n : Nat} {xs : List P} {st : Sto} (h : st.length = n) : trunc n (.nl xs) st = .ok (.nl xs) st := by
  subst h
  exact tr_nl xs st
def LessF (Φ : Nat → List D → Sto → R Rv) (i : Nat) : Prop := ∀ n st (many : Int), JarAt n st → 0 < many → many < 1073741824 → ∃ r st', Φ i [.ref n, .py (.int many)] st = ok1 (.int r) st' ∧ 0 ≤ r ∧ r < many ∧ JarAt n st' ∧ Same n st st'
theorem sem_less {n : Nat} {st : Sto} {many : Int} (hj : JarAt n st) (h0 : 0 < many) (h1 : many < 1073741824) :
    ∃ r st', fin st.length (evSs Φ t_law_less [some (.ref n), some (.py (.int many)), none] st) = ok1 (.int r) st' ∧ 0 ≤ r ∧ r < many ∧ JarAt n st' ∧ Same n st st' := by
  obtain ⟨a, b, e, ha, hb, hb2⟩ := hj
  have hn : n < st.length := (List.getElem?_eq_some_iff.mp e).1
  unfold t_law_less
  by_cases hp : 0 < a
  · refine ⟨a % many, st.set n (.lst [.int (a / many), .int b]), ?_, Int.emod_nonneg _ (by omega), Int.emod_lt_of_pos _ h0, ⟨a / many, b, List.getElem?_set_self hn, Int.ediv_nonneg ha (by omega), hb, hb2⟩, Same.set⟩
    have hs : ∀ e2, evS Φ (.setI (.var 0) (.const (.int 0)) (.bin .fdiv (.idx (.var 0) (.const (.int 0))) (.var 1))) [some (D.ref n), some (D.py (.int many)), e2] st = .nx [some (D.ref n), some (D.py (.int many)), e2] (st.set n (.lst [.int (a / many), .int b])) := fun e2 => by
      refine setI_ev (p := .int (a / many)) (d := .ref n) (k := .int 0) (st1 := st) (st2 := st) (st3 := st) ?_ ?_ ?_ ?_
      · simp only [v_nil, v_cons, v_for, v_asg, v_par, v_unp, v_setI, v_expr, v_ret, v_ife, v_pass, e_var, e_const, e_tup, e_lst, e_bin, e_negc, e_not, e_and, e_or, e_cmp, e_chain, e_ife, e_idx, e_slc, e_call, e_isi, e_blt, evDs, evPar, evAnd, x_bind, x_then, ok_bind, ok_then, nx_then, rt_then, np_imp, np_nl, np_py, ni_imp, ni_py, ni_nl, nb_imp, nb_py, no_none, no_int, no_intp, fz_imp, fz_im, fz_nl, im_py, im_imp, ok_imp, dm_nil, dm_one, dm_two, dr_py, tp_nil, tp_cons, ck_true, fin_rt, fin_nx, tr_imp, tr_nl, st_im, st_imp, st_nl, st_nlt, un_imp, b_len, b_all, b_any, b_max, b_min, b_int, b_intb, b_ll, b_lt, b_tl, b_tt, len_l, len_t, it_sl, it_st, it_ss, ty_str, ty_tup, c_le, c_ge, c_lt, c_gt, c_eqi, c_nei, c_eqs, c_nes, c_eqb, c_isb, c_isnb, o_add, o_sub, idx_t, idx_l, at0, at1, at2, at3, Bool.not_true, Bool.not_false, Bool.true_and, Bool.false_and, tgSlots, wipeE, bindT, List.getElem?_cons_zero, List.getElem?_cons_succ, List.set_cons_zero, List.set_cons_succ, Option.map_some, if_true, Bool.false_eq_true, if_false, np_ref e, o_fdiv _ _ _ ⟨h0, h1⟩]
      · simp only [v_nil, v_cons, v_for, v_asg, v_par, v_unp, v_setI, v_expr, v_ret, v_ife, v_pass, e_var, e_const, e_tup, e_lst, e_bin, e_negc, e_not, e_and, e_or, e_cmp, e_chain, e_ife, e_idx, e_slc, e_call, e_isi, e_blt, evDs, evPar, evAnd, x_bind, x_then, ok_bind, ok_then, nx_then, rt_then, np_imp, np_nl, np_py, ni_imp, ni_py, ni_nl, nb_imp, nb_py, no_none, no_int, no_intp, fz_imp, fz_im, fz_nl, im_py, im_imp, ok_imp, dm_nil, dm_one, dm_two, dr_py, tp_nil, tp_cons, ck_true, fin_rt, fin_nx, tr_imp, tr_nl, st_im, st_imp, st_nl, st_nlt, un_imp, b_len, b_all, b_any, b_max, b_min, b_int, b_intb, b_ll, b_lt, b_tl, b_tt, len_l, len_t, it_sl, it_st, it_ss, ty_str, ty_tup, c_le, c_ge, c_lt, c_gt, c_eqi, c_nei, c_eqs, c_nes, c_eqb, c_isb, c_isnb, o_add, o_sub, idx_t, idx_l, at0, at1, at2, at3, Bool.not_true, Bool.not_false, Bool.true_and, Bool.false_and, tgSlots, wipeE, bindT, List.getElem?_cons_zero, List.getElem?_cons_succ, List.set_cons_zero, List.set_cons_succ, Option.map_some, if_true, Bool.false_eq_true, if_false]
      · simp only [v_nil, v_cons, v_for, v_asg, v_par, v_unp, v_setI, v_expr, v_ret, v_ife, v_pass, e_var, e_const, e_tup, e_lst, e_bin, e_negc, e_not, e_and, e_or, e_cmp, e_chain, e_ife, e_idx, e_slc, e_call, e_isi, e_blt, evDs, evPar, evAnd, x_bind, x_then, ok_bind, ok_then, nx_then, rt_then, np_imp, np_nl, np_py, ni_imp, ni_py, ni_nl, nb_imp, nb_py, no_none, no_int, no_intp, fz_imp, fz_im, fz_nl, im_py, im_imp, ok_imp, dm_nil, dm_one, dm_two, dr_py, tp_nil, tp_cons, ck_true, fin_rt, fin_nx, tr_imp, tr_nl, st_im, st_imp, st_nl, st_nlt, un_imp, b_len, b_all, b_any, b_max, b_min, b_int, b_intb, b_ll, b_lt, b_tl, b_tt, len_l, len_t, it_sl, it_st, it_ss, ty_str, ty_tup, c_le, c_ge, c_lt, c_gt, c_eqi, c_nei, c_eqs, c_nes, c_eqb, c_isb, c_isnb, o_add, o_sub, idx_t, idx_l, at0, at1, at2, at3, Bool.not_true, Bool.not_false, Bool.true_and, Bool.false_and, tgSlots, wipeE, bindT, List.getElem?_cons_zero, List.getElem?_cons_succ, List.set_cons_zero, List.set_cons_succ, Option.map_some, if_true, Bool.false_eq_true, if_false]
      · unfold setop
        simp only [e]
        rfl
    simp only [v_nil, v_cons, v_ife, v_asg, v_ret, e_cmp, e_idx, e_var, e_const, e_bin, e_blt, evDs, x_bind, ok_bind, ok_then, x_then, nx_then, rt_then, List.getElem?_cons_zero, List.getElem?_cons_succ, np_ref e, np_imp, np_py, idx_l, at0, at1, c_gt, decide_eq_true hp, nb_imp, if_true, dm_one, fz_imp, b_int, o_mod _ _ _ h0, st_imp, List.set_cons_zero, List.set_cons_succ, im_py, hs, fin_rt]
    exact tr_len (by rw [List.length_set])
  · have ha0 : a = 0 := by omega
    subst ha0
    have hc : 0 ≤ (b * 362437 + 521288629) % 3221225473 := Int.emod_nonneg _ (by omega)
    have hc2 : (b * 362437 + 521288629) % 3221225473 < 3221225473 := Int.emod_lt_of_pos _ (by omega)
    generalize hce : (b * 362437 + 521288629) % 3221225473 = c at hc hc2
    have e2 : (st.set n (.lst [.int 0, .int c]))[n]? = some (.lst [.int 0, .int c]) := List.getElem?_set_self hn
    refine ⟨((c * c + 88675123) % 2971215073 / 8191) % many, st.set n (.lst [.int 0, .int c]), ?_, Int.emod_nonneg _ (by omega), Int.emod_lt_of_pos _ h0, ⟨0, c, e2, by omega, hc, by omega⟩, Same.set⟩
    have hs : ∀ e1 e2, evS Φ (.setI (.var 0) (.const (.int 1)) (.bin .mod (.blt .int [(.bin .add (.bin .mul (.idx (.var 0) (.const (.int 1))) (.const (.int 362437))) (.const (.int 521288629)))]) (.const (.int 3221225473)))) [some (D.ref n), e1, e2] st = .nx [some (D.ref n), e1, e2] (st.set n (.lst [.int 0, .int c])) := fun e1 e2 => by
      refine setI_ev (p := .int c) (d := .ref n) (k := .int 1) (st1 := st) (st2 := st) (st3 := st) ?_ ?_ ?_ ?_
      · simp only [v_nil, v_cons, v_for, v_asg, v_par, v_unp, v_setI, v_expr, v_ret, v_ife, v_pass, e_var, e_const, e_tup, e_lst, e_bin, e_negc, e_not, e_and, e_or, e_cmp, e_chain, e_ife, e_idx, e_slc, e_call, e_isi, e_blt, evDs, evPar, evAnd, x_bind, x_then, ok_bind, ok_then, nx_then, rt_then, np_imp, np_nl, np_py, ni_imp, ni_py, ni_nl, nb_imp, nb_py, no_none, no_int, no_intp, fz_imp, fz_im, fz_nl, im_py, im_imp, ok_imp, dm_nil, dm_one, dm_two, dr_py, tp_nil, tp_cons, ck_true, fin_rt, fin_nx, tr_imp, tr_nl, st_im, st_imp, st_nl, st_nlt, un_imp, b_len, b_all, b_any, b_max, b_min, b_int, b_intb, b_ll, b_lt, b_tl, b_tt, len_l, len_t, it_sl, it_st, it_ss, ty_str, ty_tup, c_le, c_ge, c_lt, c_gt, c_eqi, c_nei, c_eqs, c_nes, c_eqb, c_isb, c_isnb, o_add, o_sub, idx_t, idx_l, at0, at1, at2, at3, Bool.not_true, Bool.not_false, Bool.true_and, Bool.false_and, tgSlots, wipeE, bindT, List.getElem?_cons_zero, List.getElem?_cons_succ, List.set_cons_zero, List.set_cons_succ, Option.map_some, if_true, Bool.false_eq_true, if_false, np_ref e, o_mul _ 362437 _ (by decide), o_mod _ 3221225473 _ (by decide), hce]
      · simp only [v_nil, v_cons, v_for, v_asg, v_par, v_unp, v_setI, v_expr, v_ret, v_ife, v_pass, e_var, e_const, e_tup, e_lst, e_bin, e_negc, e_not, e_and, e_or, e_cmp, e_chain, e_ife, e_idx, e_slc, e_call, e_isi, e_blt, evDs, evPar, evAnd, x_bind, x_then, ok_bind, ok_then, nx_then, rt_then, np_imp, np_nl, np_py, ni_imp, ni_py, ni_nl, nb_imp, nb_py, no_none, no_int, no_intp, fz_imp, fz_im, fz_nl, im_py, im_imp, ok_imp, dm_nil, dm_one, dm_two, dr_py, tp_nil, tp_cons, ck_true, fin_rt, fin_nx, tr_imp, tr_nl, st_im, st_imp, st_nl, st_nlt, un_imp, b_len, b_all, b_any, b_max, b_min, b_int, b_intb, b_ll, b_lt, b_tl, b_tt, len_l, len_t, it_sl, it_st, it_ss, ty_str, ty_tup, c_le, c_ge, c_lt, c_gt, c_eqi, c_nei, c_eqs, c_nes, c_eqb, c_isb, c_isnb, o_add, o_sub, idx_t, idx_l, at0, at1, at2, at3, Bool.not_true, Bool.not_false, Bool.true_and, Bool.false_and, tgSlots, wipeE, bindT, List.getElem?_cons_zero, List.getElem?_cons_succ, List.set_cons_zero, List.set_cons_succ, Option.map_some, if_true, Bool.false_eq_true, if_false]
      · simp only [v_nil, v_cons, v_for, v_asg, v_par, v_unp, v_setI, v_expr, v_ret, v_ife, v_pass, e_var, e_const, e_tup, e_lst, e_bin, e_negc, e_not, e_and, e_or, e_cmp, e_chain, e_ife, e_idx, e_slc, e_call, e_isi, e_blt, evDs, evPar, evAnd, x_bind, x_then, ok_bind, ok_then, nx_then, rt_then, np_imp, np_nl, np_py, ni_imp, ni_py, ni_nl, nb_imp, nb_py, no_none, no_int, no_intp, fz_imp, fz_im, fz_nl, im_py, im_imp, ok_imp, dm_nil, dm_one, dm_two, dr_py, tp_nil, tp_cons, ck_true, fin_rt, fin_nx, tr_imp, tr_nl, st_im, st_imp, st_nl, st_nlt, un_imp, b_len, b_all, b_any, b_max, b_min, b_int, b_intb, b_ll, b_lt, b_tl, b_tt, len_l, len_t, it_sl, it_st, it_ss, ty_str, ty_tup, c_le, c_ge, c_lt, c_gt, c_eqi, c_nei, c_eqs, c_nes, c_eqb, c_isb, c_isnb, o_add, o_sub, idx_t, idx_l, at0, at1, at2, at3, Bool.not_true, Bool.not_false, Bool.true_and, Bool.false_and, tgSlots, wipeE, bindT, List.getElem?_cons_zero, List.getElem?_cons_succ, List.set_cons_zero, List.set_cons_succ, Option.map_some, if_true, Bool.false_eq_true, if_false]
      · unfold setop
        simp only [e]
        rfl
    simp only [v_nil, v_cons, v_ife, v_asg, v_ret, e_cmp, e_idx, e_var, e_const, e_bin, e_blt, evDs, x_bind, ok_bind, ok_then, x_then, nx_then, rt_then, List.getElem?_cons_zero, List.getElem?_cons_succ, np_ref e, np_ref e2, np_imp, np_py, idx_l, at0, at1, c_gt, decide_eq_false hp, nb_imp, Bool.false_eq_true, if_false, dm_one, fz_imp, b_int, o_add, o_mul _ c _ (by omega), o_fdiv _ 8191 _ (by decide), o_mod _ 2971215073 _ (by decide), o_mod _ _ _ h0, st_imp, im_py, hs, fin_rt]
    exact tr_len (by rw [List.length_set])
/-- a new jar, of the number that is drawn -/
theorem c_ge18 (c : Int) : binop .pow (.int 10) (.int 18) = fun st => ok1 (.int 1000000000000000000) st := rfl
theorem sem_jar {st : Sto} (c salt : Int) (hs : 0 ≤ salt ∧ salt < 1000000) : ∃ a b : Int, fin st.length (evSs Φ t_law_jar [some (.py (.int c)), some (.py (.int salt)), none] st) = .ok (.nl [.int a, .int b]) st ∧ 0 ≤ a ∧ 0 ≤ b ∧ b < 4294967296 := by
  unfold t_law_jar
  have hp : ∀ st, binop .pow (.int 10) (.int 18) st = ok1 (.int 1000000000000000000) st := fun st => rfl
  refine ⟨if (if 1000000000000000000 ≤ c then c - 1000000000000000000 else 0) > 0 then (if 1000000000000000000 ≤ c then c - 1000000000000000000 else 0) else 0, (c * 17 + 5003 * salt) % 1610612741 + 2, ?_, ?_, ?_, ?_⟩
  · simp only [v_nil, v_cons, v_for, v_asg, v_par, v_unp, v_setI, v_expr, v_ret, v_ife, v_pass, e_var, e_const, e_tup, e_lst, e_bin, e_negc, e_not, e_and, e_or, e_cmp, e_chain, e_ife, e_idx, e_slc, e_call, e_isi, e_blt, evDs, evPar, evAnd, x_bind, x_then, ok_bind, ok_then, nx_then, rt_then, np_imp, np_nl, np_py, ni_imp, ni_py, ni_nl, nb_imp, nb_py, no_none, no_int, no_intp, fz_imp, fz_im, fz_nl, im_py, im_imp, ok_imp, dm_nil, dm_one, dm_two, dr_py, tp_nil, tp_cons, ck_true, fin_rt, fin_nx, tr_imp, tr_nl, st_im, st_imp, st_nl, st_nlt, un_imp, b_len, b_all, b_any, b_max, b_min, b_int, b_intb, b_ll, b_lt, b_tl, b_tt, len_l, len_t, it_sl, it_st, it_ss, ty_str, ty_tup, c_le, c_ge, c_lt, c_gt, c_eqi, c_nei, c_eqs, c_nes, c_eqb, c_isb, c_isnb, o_add, o_sub, idx_t, idx_l, at0, at1, at2, at3, Bool.not_true, Bool.not_false, Bool.true_and, Bool.false_and, tgSlots, wipeE, bindT, List.getElem?_cons_zero, List.getElem?_cons_succ, List.set_cons_zero, List.set_cons_succ, Option.map_some, if_true, Bool.false_eq_true, if_false, hp]
    by_cases h : 1000000000000000000 ≤ c
    · simp only [h, decide_true, v_nil, v_cons, v_for, v_asg, v_par, v_unp, v_setI, v_expr, v_ret, v_ife, v_pass, e_var, e_const, e_tup, e_lst, e_bin, e_negc, e_not, e_and, e_or, e_cmp, e_chain, e_ife, e_idx, e_slc, e_call, e_isi, e_blt, evDs, evPar, evAnd, x_bind, x_then, ok_bind, ok_then, nx_then, rt_then, np_imp, np_nl, np_py, ni_imp, ni_py, ni_nl, nb_imp, nb_py, no_none, no_int, no_intp, fz_imp, fz_im, fz_nl, im_py, im_imp, ok_imp, dm_nil, dm_one, dm_two, dr_py, tp_nil, tp_cons, ck_true, fin_rt, fin_nx, tr_imp, tr_nl, st_im, st_imp, st_nl, st_nlt, un_imp, b_len, b_all, b_any, b_max, b_min, b_int, b_intb, b_ll, b_lt, b_tl, b_tt, len_l, len_t, it_sl, it_st, it_ss, ty_str, ty_tup, c_le, c_ge, c_lt, c_gt, c_eqi, c_nei, c_eqs, c_nes, c_eqb, c_isb, c_isnb, o_add, o_sub, idx_t, idx_l, at0, at1, at2, at3, Bool.not_true, Bool.not_false, Bool.true_and, Bool.false_and, tgSlots, wipeE, bindT, List.getElem?_cons_zero, List.getElem?_cons_succ, List.set_cons_zero, List.set_cons_succ, Option.map_some, if_true, Bool.false_eq_true, if_false, o_mul c 17 _ (by decide), o_mul 5003 salt _ (by omega), o_mod _ 1610612741 _ (by decide), List.length_cons, List.length_nil, show decide (0 + 1 + 1 ≤ SZ) = true from by decide]
    · simp only [h, decide_false, v_nil, v_cons, v_for, v_asg, v_par, v_unp, v_setI, v_expr, v_ret, v_ife, v_pass, e_var, e_const, e_tup, e_lst, e_bin, e_negc, e_not, e_and, e_or, e_cmp, e_chain, e_ife, e_idx, e_slc, e_call, e_isi, e_blt, evDs, evPar, evAnd, x_bind, x_then, ok_bind, ok_then, nx_then, rt_then, np_imp, np_nl, np_py, ni_imp, ni_py, ni_nl, nb_imp, nb_py, no_none, no_int, no_intp, fz_imp, fz_im, fz_nl, im_py, im_imp, ok_imp, dm_nil, dm_one, dm_two, dr_py, tp_nil, tp_cons, ck_true, fin_rt, fin_nx, tr_imp, tr_nl, st_im, st_imp, st_nl, st_nlt, un_imp, b_len, b_all, b_any, b_max, b_min, b_int, b_intb, b_ll, b_lt, b_tl, b_tt, len_l, len_t, it_sl, it_st, it_ss, ty_str, ty_tup, c_le, c_ge, c_lt, c_gt, c_eqi, c_nei, c_eqs, c_nes, c_eqb, c_isb, c_isnb, o_add, o_sub, idx_t, idx_l, at0, at1, at2, at3, Bool.not_true, Bool.not_false, Bool.true_and, Bool.false_and, tgSlots, wipeE, bindT, List.getElem?_cons_zero, List.getElem?_cons_succ, List.set_cons_zero, List.set_cons_succ, Option.map_some, if_true, Bool.false_eq_true, if_false, o_mul c 17 _ (by decide), o_mul 5003 salt _ (by omega), o_mod _ 1610612741 _ (by decide), List.length_cons, List.length_nil, show decide (0 + 1 + 1 ≤ SZ) = true from by decide]
  · split <;> omega
  · have := Int.emod_nonneg (c * 17 + 5003 * salt) (b := 1610612741) (by omega)
    omega
  · have := Int.emod_lt_of_pos (c * 17 + 5003 * salt) (b := 1610612741) (by omega)
    omega
/-- one of several -/
def SomeF (Φ : Nat → List D → Sto → R Rv) (i : Nat) : Prop := ∀ n st (v : P) (xs : List P), (v = .list xs ∨ v = .tuple xs) → xs ≠ [] → xs.length ≤ 1000000 → JarAt n st → ∃ x st', Φ i [.ref n, .py v] st = ok1 x st' ∧ x ∈ xs ∧ JarAt n st' ∧ Same n st st'
theorem sem_some {i : Nat} (hl : LessF Φ i) {n : Nat} {st : Sto} {v : P} {xs : List P} (hv : v = .list xs ∨ v = .tuple xs) (hne : xs ≠ []) (hz : xs.length ≤ 1000000) (hj : JarAt n st) :
    ∃ x st', fin st.length (evSs Φ (t_law_some i) [some (.ref n), some (.py v)] st) = ok1 x st' ∧ x ∈ xs ∧ JarAt n st' ∧ Same n st st' := by
  unfold t_law_some
  have hlen : lenP v = some xs.length := by rcases hv with rfl | rfl <;> rfl
  have hix : ∀ i, idxop v (.int i) = L2.atI xs i := fun i => by rcases hv with rfl | rfl <;> rfl
  have hpos : 0 < xs.length := List.length_pos_iff.mpr hne
  obtain ⟨r, st', e, h1, h2, h3, h4⟩ := hl n st (xs.length : Nat) hj (by omega) (by omega)
  have hr : r.toNat < xs.length := by omega
  refine ⟨xs[r.toNat], st', ?_, List.getElem_mem hr, h3, h4⟩
  have hat : L2.atI xs r = some xs[r.toNat] := by
    have q := atI_nat hr
    rwa [show ((r.toNat : Nat) : Int) = r from by omega] at q
  simp only [v_nil, v_cons, v_for, v_asg, v_par, v_unp, v_setI, v_expr, v_ret, v_ife, v_pass, e_var, e_const, e_tup, e_lst, e_bin, e_negc, e_not, e_and, e_or, e_cmp, e_chain, e_ife, e_idx, e_slc, e_call, e_isi, e_blt, evDs, evPar, evAnd, x_bind, x_then, ok_bind, ok_then, nx_then, rt_then, np_imp, np_nl, np_py, ni_imp, ni_py, ni_nl, nb_imp, nb_py, no_none, no_int, no_intp, fz_imp, fz_im, fz_nl, im_py, im_imp, ok_imp, dm_nil, dm_one, dm_two, dr_py, tp_nil, tp_cons, ck_true, fin_rt, fin_nx, tr_imp, tr_nl, st_im, st_imp, st_nl, st_nlt, un_imp, b_len, b_all, b_any, b_max, b_min, b_int, b_intb, b_ll, b_lt, b_tl, b_tt, len_l, len_t, it_sl, it_st, it_ss, ty_str, ty_tup, c_le, c_ge, c_lt, c_gt, c_eqi, c_nei, c_eqs, c_nes, c_eqb, c_isb, c_isnb, o_add, o_sub, idx_t, idx_l, at0, at1, at2, at3, Bool.not_true, Bool.not_false, Bool.true_and, Bool.false_and, tgSlots, wipeE, bindT, List.getElem?_cons_zero, List.getElem?_cons_succ, List.set_cons_zero, List.set_cons_succ, Option.map_some, if_true, Bool.false_eq_true, if_false, hlen, e, hix, hat]
  exact tr_len h4.len

/-! comprehensions with draws -/
/-- item by item -/
def Al {α β : Type} (Rel : α → β → Prop) : List α → List β → Prop
  | [], os => os = []
  | y :: ys, os => ∃ o r, os = o :: r ∧ Rel y o ∧ Al Rel ys r
theorem compL_rel {n m : Nat} {f : P → Sto → R (Option P)} {Rel : P → Option P → Prop} (hnm : n < m) : ∀ (ys acc : List P) (st : Sto), (∀ y ∈ ys, ∀ st, JarAt n st → ∃ o st', f y st = .ok o st' ∧ Rel y o ∧ JarAt n st' ∧ Same n st st') →
    st.length = m + 1 → st[m]? = some (.lst acc) → JarAt n st → acc.length + ys.length ≤ SZ →
    ∃ os st', compL m f ys st = .ok () st' ∧ Al Rel ys os ∧ st'.length = m + 1 ∧ st'[m]? = some (.lst (acc ++ os.filterMap id)) ∧ JarAt n st' ∧ ∀ k, k ≠ n → k < m → st'[k]? = st[k]?
  | [], acc, st, hf, hl, ha, hj, hz => by
    refine ⟨[], st, ?_, rfl, hl, by simpa using ha, hj, fun _ _ _ => rfl⟩
    simp [compL, chk, hl]
  | y :: ys, acc, st, hf, hl, ha, hj, hz => by
    have hz : acc.length + (ys.length + 1) ≤ SZ := hz
    obtain ⟨o, st1, e, hr, hj1, hs1⟩ := hf y List.mem_cons_self st hj
    have ha1 : st1[m]? = some (.lst acc) := by rw [hs1.at_ m (by omega)]; exact ha
    have hl1 : st1.length = m + 1 := by rw [hs1.len]; exact hl
    rw [compL, e]
    cases o with
    | none =>
      obtain ⟨os, st', q1, q2, q3, q4, q5, q6⟩ := compL_rel hnm ys acc st1 (fun y hy => hf y (List.mem_cons_of_mem _ hy)) hl1 ha1 hj1 (by omega)
      exact ⟨none :: os, st', by simp only [R.noexc, ok_bind]; exact q1, ⟨none, os, rfl, hr, q2⟩, q3, by simpa using q4, q5, fun k h1 h2 => (q6 k h1 h2).trans (hs1.at_ k h1)⟩
    | some z =>
      have hj2 : JarAt n (st1.set m (.lst (acc ++ [z]))) := by
        obtain ⟨a, b, q1, q2⟩ := hj1
        exact ⟨a, b, by rw [List.getElem?_set_ne (by omega)]; exact q1, q2⟩
      obtain ⟨os, st', q1, q2, q3, q4, q5, q6⟩ := compL_rel hnm ys (acc ++ [z]) (st1.set m (.lst (acc ++ [z]))) (fun y hy => hf y (List.mem_cons_of_mem _ hy)) (by rw [List.length_set]; exact hl1) (List.getElem?_set_self (by omega)) hj2 (by rw [List.length_append]; show acc.length + 1 + ys.length ≤ SZ; omega)
      refine ⟨some z :: os, st', ?_, ⟨some z, os, rfl, hr, q2⟩, q3, by simpa using q4, q5, fun k h1 h2 => ?_⟩
      · have e3 : decide (acc.length < SZ) = true := decide_eq_true (by omega)
        simp only [R.noexc, ok_bind, ha1, e3, ck_true]
        exact q1
      · rw [q6 k h1 h2, List.getElem?_set_ne (by omega)]
        exact hs1.at_ k h1
theorem comp_rel {n : Nat} {elt : X} {t : Tg} {ik : Ik} {is ifs : List X} {st : Sto} {ds : List D} {ys : List P} {Rel : P → Option P → Prop} (h1 : evDs Φ env is st = .ok ds st) (h2 : itemsD ik ds = some ys) (hj : JarAt n st)
    (hf : ∀ y ∈ ys, ∀ st, JarAt n st → ∃ o st', turnL Φ env t ifs elt y st = .ok o st' ∧ Rel y o ∧ JarAt n st' ∧ Same n st st') (hz : ys.length ≤ SZ) :
    ∃ os st', evE Φ env (.comp elt t ik is ifs) st = .ok (.nl (os.filterMap id)) st' ∧ Al Rel ys os ∧ JarAt n st' ∧ Same n st st' := by
  have hn := hj.lt
  have hj0 : JarAt n (st ++ [.lst []]) := by
    obtain ⟨a, b, q1, q2⟩ := hj
    exact ⟨a, b, by rw [List.getElem?_append_left hn]; exact q1, q2⟩
  obtain ⟨os, st', q1, q2, q3, q4, q5, q6⟩ := compL_rel hn ys [] (st ++ [.lst []]) hf (by rw [List.length_append]; rfl) (by rw [List.getElem?_append_right (Nat.le_refl _), Nat.sub_self]; rfl) hj0 (by simpa using hz)
  have ht : ∀ k, k < st.length → (st'.take st.length)[k]? = st'[k]? := fun k hk => List.getElem?_take_of_lt hk
  refine ⟨os, st'.take st.length, ?_, q2, ?_, ⟨by rw [List.length_take, q3]; omega, fun k hk => ?_⟩⟩
  · rw [evE_comp]
    unfold evI
    rw [h1]
    simp only [ok_bind, h2]
    rw [q1]
    simp only [ok_bind]
    unfold compEnd
    rw [q4]
    rfl
  · obtain ⟨a, b, p1, p2⟩ := q5
    exact ⟨a, b, by rw [ht n hn]; exact p1, p2⟩
  · by_cases hk2 : k < st.length
    · rw [ht k hk2, q6 k hk hk2, List.getElem?_append_left hk2]
    · rw [List.getElem?_eq_none (by rw [List.length_take, q3]; omega), List.getElem?_eq_none (by omega)]
/-- some of the names, in their order -/
def PartF (Φ : Nat → List D → Sto → R Rv) (i : Nat) : Prop := ∀ n st (v : P) (xs : List P) (odds : Int), (v = .list xs ∨ v = .tuple xs) → xs.length ≤ 1000000 → JarAt n st → ∃ zs st', Φ i [.ref n, .py v, .py (.int odds)] st = ok1 (.tuple zs) st' ∧ zs.Sublist xs ∧ JarAt n st' ∧ Same n st st'
theorem al_sub : ∀ {ys : List P} {os : List (Option P)}, Al (fun y o => o = some y ∨ o = none) ys os → (os.filterMap id).Sublist ys
  | [], os, h => by have h : os = [] := h; subst h; exact List.Sublist.refl _
  | y :: ys, os, h => by
    obtain ⟨o, r, rfl, h1, h2⟩ := h
    rcases h1 with rfl | rfl
    · simp only [List.filterMap_cons, id]
      exact (al_sub h2).cons_cons y
    · simp only [List.filterMap_cons, id]
      exact (al_sub h2).cons y
theorem sem_part {i : Nat} (hl : LessF Φ i) {n : Nat} {st : Sto} {v : P} {xs : List P} {odds : Int} (hv : v = .list xs ∨ v = .tuple xs) (hz : xs.length ≤ 1000000) (hj : JarAt n st) :
    ∃ zs st', fin st.length (evSs Φ (t_law_part i) [some (.ref n), some (.py v), some (.py (.int odds)), none] st) = ok1 (.tuple zs) st' ∧ zs.Sublist xs ∧ JarAt n st' ∧ Same n st st' := by
  unfold t_law_part
  have hf : ∀ y ∈ xs, ∀ st, JarAt n st → ∃ o st', turnL Φ [some (.ref n), some (.py v), some (.py (.int odds)), none] (.one 3) [(.cmp .lt (.call i [(.var 0), (.const (.int 6))]) (.var 2))] (.var 3) y st = .ok o st' ∧ (o = some y ∨ o = none) ∧ JarAt n st' ∧ Same n st st' := fun y hy st hj => by
    obtain ⟨r, st', e, _, _, h3, h4⟩ := hl n st 6 hj (by omega) (by omega)
    refine ⟨if decide (r < odds) then some y else none, st', ?_, by split <;> simp, h3, h4⟩
    unfold turnL
    simp only [v_nil, v_cons, v_for, v_asg, v_par, v_unp, v_setI, v_expr, v_ret, v_ife, v_pass, e_var, e_const, e_tup, e_lst, e_bin, e_negc, e_not, e_and, e_or, e_cmp, e_chain, e_ife, e_idx, e_slc, e_call, e_isi, e_blt, evDs, evPar, evAnd, x_bind, x_then, ok_bind, ok_then, nx_then, rt_then, np_imp, np_nl, np_py, ni_imp, ni_py, ni_nl, nb_imp, nb_py, no_none, no_int, no_intp, fz_imp, fz_im, fz_nl, im_py, im_imp, ok_imp, dm_nil, dm_one, dm_two, dr_py, tp_nil, tp_cons, ck_true, fin_rt, fin_nx, tr_imp, tr_nl, st_im, st_imp, st_nl, st_nlt, un_imp, b_len, b_all, b_any, b_max, b_min, b_int, b_intb, b_ll, b_lt, b_tl, b_tt, len_l, len_t, it_sl, it_st, it_ss, ty_str, ty_tup, c_le, c_ge, c_lt, c_gt, c_eqi, c_nei, c_eqs, c_nes, c_eqb, c_isb, c_isnb, o_add, o_sub, idx_t, idx_l, at0, at1, at2, at3, Bool.not_true, Bool.not_false, Bool.true_and, Bool.false_and, tgSlots, wipeE, bindT, List.getElem?_cons_zero, List.getElem?_cons_succ, List.set_cons_zero, List.set_cons_succ, Option.map_some, if_true, Bool.false_eq_true, if_false, e]
    cases decide (r < odds) <;> simp only [v_nil, v_cons, v_for, v_asg, v_par, v_unp, v_setI, v_expr, v_ret, v_ife, v_pass, e_var, e_const, e_tup, e_lst, e_bin, e_negc, e_not, e_and, e_or, e_cmp, e_chain, e_ife, e_idx, e_slc, e_call, e_isi, e_blt, evDs, evPar, evAnd, x_bind, x_then, ok_bind, ok_then, nx_then, rt_then, np_imp, np_nl, np_py, ni_imp, ni_py, ni_nl, nb_imp, nb_py, no_none, no_int, no_intp, fz_imp, fz_im, fz_nl, im_py, im_imp, ok_imp, dm_nil, dm_one, dm_two, dr_py, tp_nil, tp_cons, ck_true, fin_rt, fin_nx, tr_imp, tr_nl, st_im, st_imp, st_nl, st_nlt, un_imp, b_len, b_all, b_any, b_max, b_min, b_int, b_intb, b_ll, b_lt, b_tl, b_tt, len_l, len_t, it_sl, it_st, it_ss, ty_str, ty_tup, c_le, c_ge, c_lt, c_gt, c_eqi, c_nei, c_eqs, c_nes, c_eqb, c_isb, c_isnb, o_add, o_sub, idx_t, idx_l, at0, at1, at2, at3, Bool.not_true, Bool.not_false, Bool.true_and, Bool.false_and, tgSlots, wipeE, bindT, List.getElem?_cons_zero, List.getElem?_cons_succ, List.set_cons_zero, List.set_cons_succ, Option.map_some, if_true, Bool.false_eq_true, if_false]
  obtain ⟨os, st', e, h1, h2, h3⟩ := comp_rel (Φ := Φ) (env := [some (.ref n), some (.py v), some (.py (.int odds)), none]) (ik := .seq) (is := [(.var 1)]) (ds := [.py v])
    (by simp only [v_nil, v_cons, v_for, v_asg, v_par, v_unp, v_setI, v_expr, v_ret, v_ife, v_pass, e_var, e_const, e_tup, e_lst, e_bin, e_negc, e_not, e_and, e_or, e_cmp, e_chain, e_ife, e_idx, e_slc, e_call, e_isi, e_blt, evDs, evPar, evAnd, x_bind, x_then, ok_bind, ok_then, nx_then, rt_then, np_imp, np_nl, np_py, ni_imp, ni_py, ni_nl, nb_imp, nb_py, no_none, no_int, no_intp, fz_imp, fz_im, fz_nl, im_py, im_imp, ok_imp, dm_nil, dm_one, dm_two, dr_py, tp_nil, tp_cons, ck_true, fin_rt, fin_nx, tr_imp, tr_nl, st_im, st_imp, st_nl, st_nlt, un_imp, b_len, b_all, b_any, b_max, b_min, b_int, b_intb, b_ll, b_lt, b_tl, b_tt, len_l, len_t, it_sl, it_st, it_ss, ty_str, ty_tup, c_le, c_ge, c_lt, c_gt, c_eqi, c_nei, c_eqs, c_nes, c_eqb, c_isb, c_isnb, o_add, o_sub, idx_t, idx_l, at0, at1, at2, at3, Bool.not_true, Bool.not_false, Bool.true_and, Bool.false_and, tgSlots, wipeE, bindT, List.getElem?_cons_zero, List.getElem?_cons_succ, List.set_cons_zero, List.set_cons_succ, Option.map_some, if_true, Bool.false_eq_true, if_false]) (by rcases hv with rfl | rfl <;> rfl) hj hf (Nat.le_trans hz sz_big)
  refine ⟨os.filterMap id, st', ?_, al_sub h1, h2, h3⟩
  simp only [v_nil, v_cons, v_for, v_asg, v_par, v_unp, v_setI, v_expr, v_ret, v_ife, v_pass, e_var, e_const, e_tup, e_lst, e_bin, e_negc, e_not, e_and, e_or, e_cmp, e_chain, e_ife, e_idx, e_slc, e_call, e_isi, e_blt, evDs, evPar, evAnd, x_bind, x_then, ok_bind, ok_then, nx_then, rt_then, np_imp, np_nl, np_py, ni_imp, ni_py, ni_nl, nb_imp, nb_py, no_none, no_int, no_intp, fz_imp, fz_im, fz_nl, im_py, im_imp, ok_imp, dm_nil, dm_one, dm_two, dr_py, tp_nil, tp_cons, ck_true, fin_rt, fin_nx, tr_imp, tr_nl, st_im, st_imp, st_nl, st_nlt, un_imp, b_len, b_all, b_any, b_max, b_min, b_int, b_intb, b_ll, b_lt, b_tl, b_tt, len_l, len_t, it_sl, it_st, it_ss, ty_str, ty_tup, c_le, c_ge, c_lt, c_gt, c_eqi, c_nei, c_eqs, c_nes, c_eqb, c_isb, c_isnb, o_add, o_sub, idx_t, idx_l, at0, at1, at2, at3, Bool.not_true, Bool.not_false, Bool.true_and, Bool.false_and, tgSlots, wipeE, bindT, List.getElem?_cons_zero, List.getElem?_cons_succ, List.set_cons_zero, List.set_cons_succ, Option.map_some, if_true, Bool.false_eq_true, if_false, e]
  exact tr_len h3.len
theorem l0 : decide (0 ≤ SZ) = true := by decide
theorem l1 : decide (0 + 1 ≤ SZ) = true := by decide
theorem l2 : decide (0 + 1 + 1 ≤ SZ) = true := by decide
theorem l3 : decide (0 + 1 + 1 + 1 ≤ SZ) = true := by decide
theorem l4 : decide (0 + 1 + 1 + 1 + 1 ≤ SZ) = true := by decide
theorem l6 : decide (0 + 1 + 1 + 1 + 1 + 1 + 1 ≤ SZ) = true := by decide
def RULES6 : List P := [.str ⟨#[97, 108, 108]⟩, .str ⟨#[97, 108, 108]⟩, .str ⟨#[110, 101, 119]⟩, .str ⟨#[110, 111]⟩, .str ⟨#[110, 111]⟩, .str ⟨#[121, 101, 115]⟩]
theorem rules6 {x : P} (h : x ∈ RULES6) : x ∈ RULES := by
  simp only [RULES6, RULES, List.mem_cons, List.not_mem_nil, or_false] at h ⊢
  rcases h with h | h | h | h | h | h <;> subst h <;> simp
/-- a tool -/
def DrawTool (ns : List P) (name : P) (t : P) : Prop := ∃ rule zs b, t = .tuple [name, rule, .tuple zs, .bool b] ∧ rule ∈ RULES ∧ zs.Sublist (others ns name)
def MkToolF (Φ : Nat → List D → Sto → R Rv) (i : Nat) : Prop := ∀ n st ns s, Strs ns → ns.length ≤ 1000000 → JarAt n st → ∃ t st', Φ i [.ref n, .py (.list ns), .py (.str s)] st = ok1 t st' ∧ DrawTool ns (.str s) t ∧ JarAt n st' ∧ Same n st st'
theorem sem_mkTool {i1 i2 i3 : Nat} (h1 : SomeF Φ i1) (h2 : PartF Φ i2) (h3 : LessF Φ i3) {n : Nat} {st : Sto} {ns : List P} {s : Str} (hs : Strs ns) (hz : ns.length ≤ 1000000) (hj : JarAt n st) :
    ∃ t st', fin st.length (evSs Φ (t_law_tool i1 i2 i3) [some (.ref n), some (.py (.list ns)), some (.py (.str s)), none, none, none] st) = ok1 t st' ∧ DrawTool ns (.str s) t ∧ JarAt n st' ∧ Same n st st' := by
  unfold t_law_tool
  have hc : ∀ st, evE Φ [some (D.ref n), some (.py (.list ns)), some (.py (.str s)), none, none, none] (.comp (.var 5) (.one 5) .seq [(.var 1)] [(.cmp .ne (.var 5) (.var 2))]) st = .ok (.nl (others ns (.str s))) st := fun st => by
    refine comp_filter _ (ds := [.py (.list ns)]) (by simp only [v_nil, v_cons, v_for, v_asg, v_par, v_unp, v_setI, v_expr, v_ret, v_ife, v_pass, e_var, e_const, e_tup, e_lst, e_bin, e_negc, e_not, e_and, e_or, e_cmp, e_chain, e_ife, e_idx, e_slc, e_call, e_isi, e_blt, evDs, evPar, evAnd, x_bind, x_then, ok_bind, ok_then, nx_then, rt_then, np_imp, np_nl, np_py, ni_imp, ni_py, ni_nl, nb_imp, nb_py, no_none, no_int, no_intp, fz_imp, fz_im, fz_nl, im_py, im_imp, ok_imp, dm_nil, dm_one, dm_two, dr_py, tp_nil, tp_cons, ck_true, fin_rt, fin_nx, tr_imp, tr_nl, st_im, st_imp, st_nl, st_nlt, un_imp, b_len, b_all, b_any, b_max, b_min, b_int, b_intb, b_ll, b_lt, b_tl, b_tt, len_l, len_t, it_sl, it_st, it_ss, ty_str, ty_tup, c_le, c_ge, c_lt, c_gt, c_eqi, c_nei, c_eqs, c_nes, c_eqb, c_isb, c_isnb, o_add, o_sub, idx_t, idx_l, at0, at1, at2, at3, Bool.not_true, Bool.not_false, Bool.true_and, Bool.false_and, tgSlots, wipeE, bindT, List.getElem?_cons_zero, List.getElem?_cons_succ, List.set_cons_zero, List.set_cons_succ, Option.map_some, if_true, Bool.false_eq_true, if_false]) (by simp only [v_nil, v_cons, v_for, v_asg, v_par, v_unp, v_setI, v_expr, v_ret, v_ife, v_pass, e_var, e_const, e_tup, e_lst, e_bin, e_negc, e_not, e_and, e_or, e_cmp, e_chain, e_ife, e_idx, e_slc, e_call, e_isi, e_blt, evDs, evPar, evAnd, x_bind, x_then, ok_bind, ok_then, nx_then, rt_then, np_imp, np_nl, np_py, ni_imp, ni_py, ni_nl, nb_imp, nb_py, no_none, no_int, no_intp, fz_imp, fz_im, fz_nl, im_py, im_imp, ok_imp, dm_nil, dm_one, dm_two, dr_py, tp_nil, tp_cons, ck_true, fin_rt, fin_nx, tr_imp, tr_nl, st_im, st_imp, st_nl, st_nlt, un_imp, b_len, b_all, b_any, b_max, b_min, b_int, b_intb, b_ll, b_lt, b_tl, b_tt, len_l, len_t, it_sl, it_st, it_ss, ty_str, ty_tup, c_le, c_ge, c_lt, c_gt, c_eqi, c_nei, c_eqs, c_nes, c_eqb, c_isb, c_isnb, o_add, o_sub, idx_t, idx_l, at0, at1, at2, at3, Bool.not_true, Bool.not_false, Bool.true_and, Bool.false_and, tgSlots, wipeE, bindT, List.getElem?_cons_zero, List.getElem?_cons_succ, List.set_cons_zero, List.set_cons_succ, Option.map_some, if_true, Bool.false_eq_true, if_false]) (fun y hy st => ?_) (Nat.le_trans hz sz_big)
    obtain ⟨s', rfl⟩ := hs y hy
    exact turn_if (env1 := [some (D.ref n), some (.py (.list ns)), some (.py (.str s)), none, none, some (.py (.str s'))]) (by simp only [v_nil, v_cons, v_for, v_asg, v_par, v_unp, v_setI, v_expr, v_ret, v_ife, v_pass, e_var, e_const, e_tup, e_lst, e_bin, e_negc, e_not, e_and, e_or, e_cmp, e_chain, e_ife, e_idx, e_slc, e_call, e_isi, e_blt, evDs, evPar, evAnd, x_bind, x_then, ok_bind, ok_then, nx_then, rt_then, np_imp, np_nl, np_py, ni_imp, ni_py, ni_nl, nb_imp, nb_py, no_none, no_int, no_intp, fz_imp, fz_im, fz_nl, im_py, im_imp, ok_imp, dm_nil, dm_one, dm_two, dr_py, tp_nil, tp_cons, ck_true, fin_rt, fin_nx, tr_imp, tr_nl, st_im, st_imp, st_nl, st_nlt, un_imp, b_len, b_all, b_any, b_max, b_min, b_int, b_intb, b_ll, b_lt, b_tl, b_tt, len_l, len_t, it_sl, it_st, it_ss, ty_str, ty_tup, c_le, c_ge, c_lt, c_gt, c_eqi, c_nei, c_eqs, c_nes, c_eqb, c_isb, c_isnb, o_add, o_sub, idx_t, idx_l, at0, at1, at2, at3, Bool.not_true, Bool.not_false, Bool.true_and, Bool.false_and, tgSlots, wipeE, bindT, List.getElem?_cons_zero, List.getElem?_cons_succ, List.set_cons_zero, List.set_cons_succ, Option.map_some, if_true, Bool.false_eq_true, if_false]) (by simp only [v_nil, v_cons, v_for, v_asg, v_par, v_unp, v_setI, v_expr, v_ret, v_ife, v_pass, e_var, e_const, e_tup, e_lst, e_bin, e_negc, e_not, e_and, e_or, e_cmp, e_chain, e_ife, e_idx, e_slc, e_call, e_isi, e_blt, evDs, evPar, evAnd, x_bind, x_then, ok_bind, ok_then, nx_then, rt_then, np_imp, np_nl, np_py, ni_imp, ni_py, ni_nl, nb_imp, nb_py, no_none, no_int, no_intp, fz_imp, fz_im, fz_nl, im_py, im_imp, ok_imp, dm_nil, dm_one, dm_two, dr_py, tp_nil, tp_cons, ck_true, fin_rt, fin_nx, tr_imp, tr_nl, st_im, st_imp, st_nl, st_nlt, un_imp, b_len, b_all, b_any, b_max, b_min, b_int, b_intb, b_ll, b_lt, b_tl, b_tt, len_l, len_t, it_sl, it_st, it_ss, ty_str, ty_tup, c_le, c_ge, c_lt, c_gt, c_eqi, c_nei, c_eqs, c_nes, c_eqb, c_isb, c_isnb, o_add, o_sub, idx_t, idx_l, at0, at1, at2, at3, Bool.not_true, Bool.not_false, Bool.true_and, Bool.false_and, tgSlots, wipeE, bindT, List.getElem?_cons_zero, List.getElem?_cons_succ, List.set_cons_zero, List.set_cons_succ, Option.map_some, if_true, Bool.false_eq_true, if_false]; rfl) (fun _ => by simp only [v_nil, v_cons, v_for, v_asg, v_par, v_unp, v_setI, v_expr, v_ret, v_ife, v_pass, e_var, e_const, e_tup, e_lst, e_bin, e_negc, e_not, e_and, e_or, e_cmp, e_chain, e_ife, e_idx, e_slc, e_call, e_isi, e_blt, evDs, evPar, evAnd, x_bind, x_then, ok_bind, ok_then, nx_then, rt_then, np_imp, np_nl, np_py, ni_imp, ni_py, ni_nl, nb_imp, nb_py, no_none, no_int, no_intp, fz_imp, fz_im, fz_nl, im_py, im_imp, ok_imp, dm_nil, dm_one, dm_two, dr_py, tp_nil, tp_cons, ck_true, fin_rt, fin_nx, tr_imp, tr_nl, st_im, st_imp, st_nl, st_nlt, un_imp, b_len, b_all, b_any, b_max, b_min, b_int, b_intb, b_ll, b_lt, b_tl, b_tt, len_l, len_t, it_sl, it_st, it_ss, ty_str, ty_tup, c_le, c_ge, c_lt, c_gt, c_eqi, c_nei, c_eqs, c_nes, c_eqb, c_isb, c_isnb, o_add, o_sub, idx_t, idx_l, at0, at1, at2, at3, Bool.not_true, Bool.not_false, Bool.true_and, Bool.false_and, tgSlots, wipeE, bindT, List.getElem?_cons_zero, List.getElem?_cons_succ, List.set_cons_zero, List.set_cons_succ, Option.map_some, if_true, Bool.false_eq_true, if_false])
  have hoz : (others ns (.str s)).length ≤ 1000000 := Nat.le_trans (List.length_filter_le _ _) hz
  obtain ⟨rule, st1, e1, r1, j1, s1⟩ := h1 n st (.list RULES6) RULES6 (.inl rfl) (by decide) (by decide) hj
  obtain ⟨zs, st2, e2, r2, j2, s2⟩ := h2 n st1 (.list (others ns (.str s))) (others ns (.str s)) 4 (.inl rfl) hoz j1
  obtain ⟨r, st3, e3, _, _, j3, s3⟩ := h3 n st2 3 j2 (by omega) (by omega)
  refine ⟨.tuple [.str s, rule, .tuple zs, .bool (r == 0)], st3, ?_, ⟨rule, zs, r == 0, rfl, rules6 r1, r2⟩, j3, s1.trans (s2.trans s3)⟩
  unfold RULES6 at e1
  simp only [v_nil, v_cons, v_for, v_asg, v_par, v_unp, v_setI, v_expr, v_ret, v_ife, v_pass, e_var, e_const, e_tup, e_lst, e_bin, e_negc, e_not, e_and, e_or, e_cmp, e_chain, e_ife, e_idx, e_slc, e_call, e_isi, e_blt, evDs, evPar, evAnd, x_bind, x_then, ok_bind, ok_then, nx_then, rt_then, np_imp, np_nl, np_py, ni_imp, ni_py, ni_nl, nb_imp, nb_py, no_none, no_int, no_intp, fz_imp, fz_im, fz_nl, im_py, im_imp, ok_imp, dm_nil, dm_one, dm_two, dr_py, tp_nil, tp_cons, ck_true, fin_rt, fin_nx, tr_imp, tr_nl, st_im, st_imp, st_nl, st_nlt, un_imp, b_len, b_all, b_any, b_max, b_min, b_int, b_intb, b_ll, b_lt, b_tl, b_tt, len_l, len_t, it_sl, it_st, it_ss, ty_str, ty_tup, c_le, c_ge, c_lt, c_gt, c_eqi, c_nei, c_eqs, c_nes, c_eqb, c_isb, c_isnb, o_add, o_sub, idx_t, idx_l, at0, at1, at2, at3, Bool.not_true, Bool.not_false, Bool.true_and, Bool.false_and, tgSlots, wipeE, bindT, List.getElem?_cons_zero, List.getElem?_cons_succ, List.set_cons_zero, List.set_cons_succ, Option.map_some, if_true, Bool.false_eq_true, if_false, hc, List.length_cons, List.length_nil, l6, l4, e1, e2, e3]
  exact tr_len (s1.trans (s2.trans s3)).len

/-! a setup -/
def Pairs (ns : List P) : List P := ns.flatMap fun a => (ns.filter fun b => !a.eqv b).map fun b => .tuple [a, b]
theorem forL_inv {f : P → Ev → Sto → SR} {Inv : List P → Ev → Sto → Prop} {ys0 : List P} (hf : ∀ done y rest env st, ys0 = done ++ y :: rest → Inv done env st → ∃ env' st', f y env st = .nx env' st' ∧ Inv (done ++ [y]) env' st') : ∀ (ys done : List P) (env : Ev) (st : Sto), ys0 = done ++ ys → Inv done env st →
    ∃ env' st', forL f ys env st = .nx env' st' ∧ Inv ys0 env' st'
  | [], done, env, st, e, h => ⟨env, st, rfl, by rw [e, List.append_nil]; exact h⟩
  | y :: ys, done, env, st, e, h => by
    obtain ⟨env1, st1, e1, h1⟩ := hf done y ys env st e h
    obtain ⟨env2, st2, e2, h2⟩ := forL_inv hf ys (done ++ [y]) env1 st1 (by rw [List.append_assoc]; exact e) h1
    exact ⟨env2, st2, by rw [forL, e1]; exact e2, h2⟩
def DrawSetup (ns : List P) (v : P) : Prop := ∃ ts ws p q, v = .tuple [.tuple ts, .tuple ws, .tuple [.tuple p, .tuple q]] ∧ Al (DrawTool ns) ns ts ∧ ws.Sublist (Pairs ns) ∧ p.Sublist ns ∧ q.Sublist ns
def SetupOfF (Φ : Nat → List D → Sto → R Rv) (i : Nat) : Prop := ∀ n st ns, Strs ns → ns.length ≤ 1000 → JarAt n st → ∃ v st', Φ i [.ref n, .py (.list ns)] st = ok1 v st' ∧ DrawSetup ns v ∧ JarAt n st' ∧ Same n st st'
theorem al_some {α : Type} {Rel : α → P → Prop} : ∀ {ys : List α} {os : List (Option P)}, Al (fun y o => ∃ t, o = some t ∧ Rel y t) ys os → Al Rel ys (os.filterMap id)
  | [], os, h => by have h : os = [] := h; subst h; rfl
  | y :: ys, os, h => by
    obtain ⟨o, r, rfl, ⟨t, rfl, h1⟩, h2⟩ := h
    exact ⟨t, r.filterMap id, by simp, h1, al_some h2⟩
theorem pairs_len (ns : List P) (h : ns.length ≤ 1000) : (Pairs ns).length ≤ 1000000 := by
  have : ∀ (xs : List P), (xs.flatMap fun a => (ns.filter fun b => !a.eqv b).map fun b => PyData.tuple [a, b]).length ≤ xs.length * 1000 := by
    intro xs
    induction xs with
    | nil => simp
    | cons x xs ih =>
      rw [List.flatMap_cons, List.length_append, List.length_map, List.length_cons]
      exact Nat.le_trans (Nat.add_le_add (List.length_filter_le _ ns) ih) (by rw [Nat.add_mul]; omega)
  have h2 := this ns
  unfold Pairs
  omega
theorem sem_setupOf {i1 i2 i3 : Nat} (h1 : MkToolF Φ i1) (h2 : LessF Φ i2) (h3 : PartF Φ i3) {n : Nat} {st : Sto} {ns : List P} (hs : Strs ns) (hz : ns.length ≤ 1000) (hj : JarAt n st) :
    ∃ v st', fin st.length (evSs Φ (t_law_setup_of i1 i2 i3) [some (.ref n), some (.py (.list ns)), none, none, none, none, none] st) = ok1 v st' ∧ DrawSetup ns v ∧ JarAt n st' ∧ Same n st st' := by
  unfold t_law_setup_of
  have hz6 : ns.length ≤ 1000000 := by omega
  have hf : ∀ y ∈ ns, ∀ st, JarAt n st → ∃ o st', turnL Φ [some (D.ref n), some (.py (.list ns)), none, none, none, none, none] (.one 6) [] (.call i1 [(.var 0), (.var 1), (.var 6)]) y st = .ok o st' ∧ (∃ t, o = some t ∧ DrawTool ns y t) ∧ JarAt n st' ∧ Same n st st' := fun y hy st hj => by
    obtain ⟨s, rfl⟩ := hs y hy
    obtain ⟨t, st', e, h, j, s'⟩ := h1 n st ns s hs hz6 hj
    refine ⟨some t, st', ?_, ⟨t, rfl, h⟩, j, s'⟩
    unfold turnL
    simp only [v_nil, v_cons, v_for, v_asg, v_par, v_unp, v_setI, v_expr, v_ret, v_ife, v_pass, e_var, e_const, e_tup, e_lst, e_bin, e_negc, e_not, e_and, e_or, e_cmp, e_chain, e_ife, e_idx, e_slc, e_call, e_isi, e_blt, evDs, evPar, evAnd, x_bind, x_then, ok_bind, ok_then, nx_then, rt_then, np_imp, np_nl, np_py, ni_imp, ni_py, ni_nl, nb_imp, nb_py, no_none, no_int, no_intp, fz_imp, fz_im, fz_nl, im_py, im_imp, ok_imp, dm_nil, dm_one, dm_two, dr_py, tp_nil, tp_cons, ck_true, fin_rt, fin_nx, tr_imp, tr_nl, st_im, st_imp, st_nl, st_nlt, un_imp, b_len, b_all, b_any, b_max, b_min, b_int, b_intb, b_ll, b_lt, b_tl, b_tt, len_l, len_t, it_sl, it_st, it_ss, ty_str, ty_tup, c_le, c_ge, c_lt, c_gt, c_eqi, c_nei, c_eqs, c_nes, c_eqb, c_isb, c_isnb, o_add, o_sub, idx_t, idx_l, at0, at1, at2, at3, Bool.not_true, Bool.not_false, Bool.true_and, Bool.false_and, tgSlots, wipeE, bindT, List.getElem?_cons_zero, List.getElem?_cons_succ, List.set_cons_zero, List.set_cons_succ, Option.map_some, if_true, Bool.false_eq_true, if_false, e]
  obtain ⟨os, st1, e1, a1, j1, s1⟩ := comp_rel (Φ := Φ) (env := [some (D.ref n), some (.py (.list ns)), none, none, none, none, none]) (ik := .seq) (is := [(.var 1)]) (ds := [.py (.list ns)]) (by simp only [v_nil, v_cons, v_for, v_asg, v_par, v_unp, v_setI, v_expr, v_ret, v_ife, v_pass, e_var, e_const, e_tup, e_lst, e_bin, e_negc, e_not, e_and, e_or, e_cmp, e_chain, e_ife, e_idx, e_slc, e_call, e_isi, e_blt, evDs, evPar, evAnd, x_bind, x_then, ok_bind, ok_then, nx_then, rt_then, np_imp, np_nl, np_py, ni_imp, ni_py, ni_nl, nb_imp, nb_py, no_none, no_int, no_intp, fz_imp, fz_im, fz_nl, im_py, im_imp, ok_imp, dm_nil, dm_one, dm_two, dr_py, tp_nil, tp_cons, ck_true, fin_rt, fin_nx, tr_imp, tr_nl, st_im, st_imp, st_nl, st_nlt, un_imp, b_len, b_all, b_any, b_max, b_min, b_int, b_intb, b_ll, b_lt, b_tl, b_tt, len_l, len_t, it_sl, it_st, it_ss, ty_str, ty_tup, c_le, c_ge, c_lt, c_gt, c_eqi, c_nei, c_eqs, c_nes, c_eqb, c_isb, c_isnb, o_add, o_sub, idx_t, idx_l, at0, at1, at2, at3, Bool.not_true, Bool.not_false, Bool.true_and, Bool.false_and, tgSlots, wipeE, bindT, List.getElem?_cons_zero, List.getElem?_cons_succ, List.set_cons_zero, List.set_cons_succ, Option.map_some, if_true, Bool.false_eq_true, if_false]) rfl hj hf (Nat.le_trans hz6 sz_big)
  have a1 := al_some a1
  generalize os.filterMap id = ts at e1 a1
  -- the wires
  have hI : ∀ e2 e3 e4 e5 e6 st, evI Φ [some (D.ref n), some (.py (.list ns)), e2, e3, e4, e5, e6] .seq [(.var 1)] st = .ok ns st := fun e2 e3 e4 e5 e6 st => by
    unfold evI
    simp only [v_nil, v_cons, v_for, v_asg, v_par, v_unp, v_setI, v_expr, v_ret, v_ife, v_pass, e_var, e_const, e_tup, e_lst, e_bin, e_negc, e_not, e_and, e_or, e_cmp, e_chain, e_ife, e_idx, e_slc, e_call, e_isi, e_blt, evDs, evPar, evAnd, x_bind, x_then, ok_bind, ok_then, nx_then, rt_then, np_imp, np_nl, np_py, ni_imp, ni_py, ni_nl, nb_imp, nb_py, no_none, no_int, no_intp, fz_imp, fz_im, fz_nl, im_py, im_imp, ok_imp, dm_nil, dm_one, dm_two, dr_py, tp_nil, tp_cons, ck_true, fin_rt, fin_nx, tr_imp, tr_nl, st_im, st_imp, st_nl, st_nlt, un_imp, b_len, b_all, b_any, b_max, b_min, b_int, b_intb, b_ll, b_lt, b_tl, b_tt, len_l, len_t, it_sl, it_st, it_ss, ty_str, ty_tup, c_le, c_ge, c_lt, c_gt, c_eqi, c_nei, c_eqs, c_nes, c_eqb, c_isb, c_isnb, o_add, o_sub, idx_t, idx_l, at0, at1, at2, at3, Bool.not_true, Bool.not_false, Bool.true_and, Bool.false_and, tgSlots, wipeE, bindT, List.getElem?_cons_zero, List.getElem?_cons_succ, List.set_cons_zero, List.set_cons_succ, Option.map_some, if_true, Bool.false_eq_true, if_false]
  have inner : ∀ (ws : List P) (D0 : List P) (a : P) (e5 e6 : Option D) (st0 : Sto), a ∈ ns → ws.Sublist D0 → D0.length ≤ 1000000 → JarAt n st0 → ∃ ws' e5' st', forL (turnF Φ (.one 5) [(.ife (.and (.cmp .ne (.var 4) (.var 5)) (.cmp .lt (.call i2 [(.var 0), (.const (.int 5))]) (.const (.int 2)))) [(.asg 3 false (.bin .add (.var 3) (.tup [(.tup [(.var 4), (.var 5)])])))] [])]) ns
      [some (D.ref n), some (.py (.list ns)), some (.py (.tuple ts)), some (.py (.tuple ws)), some (.py a), e5, e6] st0 = .nx [some (D.ref n), some (.py (.list ns)), some (.py (.tuple ts)), some (.py (.tuple ws')), some (.py a), e5', e6] st' ∧
      ws'.Sublist (D0 ++ (ns.filter fun b => !a.eqv b).map fun b => .tuple [a, b]) ∧ JarAt n st' ∧ Same n st0 st' := fun ws D0 a e5 e6 st0 ha hsub hD hj0 => by
    obtain ⟨s, rfl⟩ := hs a ha
    have step : ∀ done y rest env st, ns = done ++ y :: rest → (∃ ws' e5', env = [some (D.ref n), some (.py (.list ns)), some (.py (.tuple ts)), some (.py (.tuple ws')), some (.py (.str s)), e5', e6] ∧ ws'.Sublist (D0 ++ (done.filter fun b => !(PyData.str s).eqv b).map fun b => .tuple [.str s, b]) ∧ JarAt n st ∧ Same n st0 st) →
        ∃ env' st', turnF Φ (.one 5) [(.ife (.and (.cmp .ne (.var 4) (.var 5)) (.cmp .lt (.call i2 [(.var 0), (.const (.int 5))]) (.const (.int 2)))) [(.asg 3 false (.bin .add (.var 3) (.tup [(.tup [(.var 4), (.var 5)])])))] [])] y env st = .nx env' st' ∧
          (∃ ws' e5', env' = [some (D.ref n), some (.py (.list ns)), some (.py (.tuple ts)), some (.py (.tuple ws')), some (.py (.str s)), e5', e6] ∧ ws'.Sublist (D0 ++ ((done ++ [y]).filter fun b => !(PyData.str s).eqv b).map fun b => .tuple [.str s, b]) ∧ JarAt n st' ∧ Same n st0 st') := by
      rintro done y rest env st hd ⟨ws', e5', rfl, q1, q4, q5⟩
      have hy : y ∈ ns := by rw [hd]; simp
      have hdl : done.length ≤ 1000 := by
        have := congrArg List.length hd
        rw [List.length_append] at this
        omega
      have hwl : ws'.length ≤ 1001000 := by
        have a1 := q1.length_le
        rw [List.length_append, List.length_map] at a1
        have a2 : (done.filter fun b => !(PyData.str s).eqv b).length ≤ done.length := List.length_filter_le _ _
        omega
      obtain ⟨s2, rfl⟩ := hs y hy
      have ee : (PyData.str s).eqv (.str s2) = (s == s2) := rfl
      unfold turnF
      simp only [v_nil, v_cons, v_for, v_asg, v_par, v_unp, v_setI, v_expr, v_ret, v_ife, v_pass, e_var, e_const, e_tup, e_lst, e_bin, e_negc, e_not, e_and, e_or, e_cmp, e_chain, e_ife, e_idx, e_slc, e_call, e_isi, e_blt, evDs, evPar, evAnd, x_bind, x_then, ok_bind, ok_then, nx_then, rt_then, np_imp, np_nl, np_py, ni_imp, ni_py, ni_nl, nb_imp, nb_py, no_none, no_int, no_intp, fz_imp, fz_im, fz_nl, im_py, im_imp, ok_imp, dm_nil, dm_one, dm_two, dr_py, tp_nil, tp_cons, ck_true, fin_rt, fin_nx, tr_imp, tr_nl, st_im, st_imp, st_nl, st_nlt, un_imp, b_len, b_all, b_any, b_max, b_min, b_int, b_intb, b_ll, b_lt, b_tl, b_tt, len_l, len_t, it_sl, it_st, it_ss, ty_str, ty_tup, c_le, c_ge, c_lt, c_gt, c_eqi, c_nei, c_eqs, c_nes, c_eqb, c_isb, c_isnb, o_add, o_sub, idx_t, idx_l, at0, at1, at2, at3, Bool.not_true, Bool.not_false, Bool.true_and, Bool.false_and, tgSlots, wipeE, bindT, List.getElem?_cons_zero, List.getElem?_cons_succ, List.set_cons_zero, List.set_cons_succ, Option.map_some, if_true, Bool.false_eq_true, if_false]
      rw [List.filter_append, List.map_append, ← List.append_assoc, List.filter_cons, ee, List.filter_nil]
      rcases Bool.eq_false_or_eq_true (s == s2) with hq | hq
      · simp only [hq, v_nil, v_cons, v_for, v_asg, v_par, v_unp, v_setI, v_expr, v_ret, v_ife, v_pass, e_var, e_const, e_tup, e_lst, e_bin, e_negc, e_not, e_and, e_or, e_cmp, e_chain, e_ife, e_idx, e_slc, e_call, e_isi, e_blt, evDs, evPar, evAnd, x_bind, x_then, ok_bind, ok_then, nx_then, rt_then, np_imp, np_nl, np_py, ni_imp, ni_py, ni_nl, nb_imp, nb_py, no_none, no_int, no_intp, fz_imp, fz_im, fz_nl, im_py, im_imp, ok_imp, dm_nil, dm_one, dm_two, dr_py, tp_nil, tp_cons, ck_true, fin_rt, fin_nx, tr_imp, tr_nl, st_im, st_imp, st_nl, st_nlt, un_imp, b_len, b_all, b_any, b_max, b_min, b_int, b_intb, b_ll, b_lt, b_tl, b_tt, len_l, len_t, it_sl, it_st, it_ss, ty_str, ty_tup, c_le, c_ge, c_lt, c_gt, c_eqi, c_nei, c_eqs, c_nes, c_eqb, c_isb, c_isnb, o_add, o_sub, idx_t, idx_l, at0, at1, at2, at3, Bool.not_true, Bool.not_false, Bool.true_and, Bool.false_and, tgSlots, wipeE, bindT, List.getElem?_cons_zero, List.getElem?_cons_succ, List.set_cons_zero, List.set_cons_succ, Option.map_some, if_true, Bool.false_eq_true, if_false]
        exact ⟨_, _, rfl, ws', _, rfl, by simpa using q1, q4, q5⟩
      · obtain ⟨r, st', e, _, _, j', s'⟩ := h2 n st 5 q4 (by omega) (by omega)
        simp only [hq, v_nil, v_cons, v_for, v_asg, v_par, v_unp, v_setI, v_expr, v_ret, v_ife, v_pass, e_var, e_const, e_tup, e_lst, e_bin, e_negc, e_not, e_and, e_or, e_cmp, e_chain, e_ife, e_idx, e_slc, e_call, e_isi, e_blt, evDs, evPar, evAnd, x_bind, x_then, ok_bind, ok_then, nx_then, rt_then, np_imp, np_nl, np_py, ni_imp, ni_py, ni_nl, nb_imp, nb_py, no_none, no_int, no_intp, fz_imp, fz_im, fz_nl, im_py, im_imp, ok_imp, dm_nil, dm_one, dm_two, dr_py, tp_nil, tp_cons, ck_true, fin_rt, fin_nx, tr_imp, tr_nl, st_im, st_imp, st_nl, st_nlt, un_imp, b_len, b_all, b_any, b_max, b_min, b_int, b_intb, b_ll, b_lt, b_tl, b_tt, len_l, len_t, it_sl, it_st, it_ss, ty_str, ty_tup, c_le, c_ge, c_lt, c_gt, c_eqi, c_nei, c_eqs, c_nes, c_eqb, c_isb, c_isnb, o_add, o_sub, idx_t, idx_l, at0, at1, at2, at3, Bool.not_true, Bool.not_false, Bool.true_and, Bool.false_and, tgSlots, wipeE, bindT, List.getElem?_cons_zero, List.getElem?_cons_succ, List.set_cons_zero, List.set_cons_succ, Option.map_some, if_true, Bool.false_eq_true, if_false, e]
        rcases Bool.eq_false_or_eq_true (decide (r < 2)) with hr | hr
        · simp only [hr, v_nil, v_cons, v_for, v_asg, v_par, v_unp, v_setI, v_expr, v_ret, v_ife, v_pass, e_var, e_const, e_tup, e_lst, e_bin, e_negc, e_not, e_and, e_or, e_cmp, e_chain, e_ife, e_idx, e_slc, e_call, e_isi, e_blt, evDs, evPar, evAnd, x_bind, x_then, ok_bind, ok_then, nx_then, rt_then, np_imp, np_nl, np_py, ni_imp, ni_py, ni_nl, nb_imp, nb_py, no_none, no_int, no_intp, fz_imp, fz_im, fz_nl, im_py, im_imp, ok_imp, dm_nil, dm_one, dm_two, dr_py, tp_nil, tp_cons, ck_true, fin_rt, fin_nx, tr_imp, tr_nl, st_im, st_imp, st_nl, st_nlt, un_imp, b_len, b_all, b_any, b_max, b_min, b_int, b_intb, b_ll, b_lt, b_tl, b_tt, len_l, len_t, it_sl, it_st, it_ss, ty_str, ty_tup, c_le, c_ge, c_lt, c_gt, c_eqi, c_nei, c_eqs, c_nes, c_eqb, c_isb, c_isnb, o_add, o_sub, idx_t, idx_l, at0, at1, at2, at3, Bool.not_true, Bool.not_false, Bool.true_and, Bool.false_and, tgSlots, wipeE, bindT, List.getElem?_cons_zero, List.getElem?_cons_succ, List.set_cons_zero, List.set_cons_succ, Option.map_some, if_true, Bool.false_eq_true, if_false, List.length_cons, List.length_nil, l1, l2]
          rw [o_tup _ _ _ (by show ws'.length + 1 ≤ SZ; exact Nat.le_trans (by omega) (show 2000000 ≤ SZ by decide))]
          simp only [v_nil, v_cons, v_for, v_asg, v_par, v_unp, v_setI, v_expr, v_ret, v_ife, v_pass, e_var, e_const, e_tup, e_lst, e_bin, e_negc, e_not, e_and, e_or, e_cmp, e_chain, e_ife, e_idx, e_slc, e_call, e_isi, e_blt, evDs, evPar, evAnd, x_bind, x_then, ok_bind, ok_then, nx_then, rt_then, np_imp, np_nl, np_py, ni_imp, ni_py, ni_nl, nb_imp, nb_py, no_none, no_int, no_intp, fz_imp, fz_im, fz_nl, im_py, im_imp, ok_imp, dm_nil, dm_one, dm_two, dr_py, tp_nil, tp_cons, ck_true, fin_rt, fin_nx, tr_imp, tr_nl, st_im, st_imp, st_nl, st_nlt, un_imp, b_len, b_all, b_any, b_max, b_min, b_int, b_intb, b_ll, b_lt, b_tl, b_tt, len_l, len_t, it_sl, it_st, it_ss, ty_str, ty_tup, c_le, c_ge, c_lt, c_gt, c_eqi, c_nei, c_eqs, c_nes, c_eqb, c_isb, c_isnb, o_add, o_sub, idx_t, idx_l, at0, at1, at2, at3, Bool.not_true, Bool.not_false, Bool.true_and, Bool.false_and, tgSlots, wipeE, bindT, List.getElem?_cons_zero, List.getElem?_cons_succ, List.set_cons_zero, List.set_cons_succ, Option.map_some, if_true, Bool.false_eq_true, if_false]
          exact ⟨_, _, rfl, ws' ++ [.tuple [.str s, .str s2]], _, rfl, q1.append (List.Sublist.refl _), j', q5.trans s'⟩
        · simp only [hr, v_nil, v_cons, v_for, v_asg, v_par, v_unp, v_setI, v_expr, v_ret, v_ife, v_pass, e_var, e_const, e_tup, e_lst, e_bin, e_negc, e_not, e_and, e_or, e_cmp, e_chain, e_ife, e_idx, e_slc, e_call, e_isi, e_blt, evDs, evPar, evAnd, x_bind, x_then, ok_bind, ok_then, nx_then, rt_then, np_imp, np_nl, np_py, ni_imp, ni_py, ni_nl, nb_imp, nb_py, no_none, no_int, no_intp, fz_imp, fz_im, fz_nl, im_py, im_imp, ok_imp, dm_nil, dm_one, dm_two, dr_py, tp_nil, tp_cons, ck_true, fin_rt, fin_nx, tr_imp, tr_nl, st_im, st_imp, st_nl, st_nlt, un_imp, b_len, b_all, b_any, b_max, b_min, b_int, b_intb, b_ll, b_lt, b_tl, b_tt, len_l, len_t, it_sl, it_st, it_ss, ty_str, ty_tup, c_le, c_ge, c_lt, c_gt, c_eqi, c_nei, c_eqs, c_nes, c_eqb, c_isb, c_isnb, o_add, o_sub, idx_t, idx_l, at0, at1, at2, at3, Bool.not_true, Bool.not_false, Bool.true_and, Bool.false_and, tgSlots, wipeE, bindT, List.getElem?_cons_zero, List.getElem?_cons_succ, List.set_cons_zero, List.set_cons_succ, Option.map_some, if_true, Bool.false_eq_true, if_false]
          refine ⟨_, _, rfl, ws', _, rfl, ?_, j', q5.trans s'⟩
          exact q1.trans (List.sublist_append_left _ _)
    obtain ⟨env', st', e, ws', e5', rfl, q1, q3, q4⟩ := forL_inv step ns [] [some (D.ref n), some (.py (.list ns)), some (.py (.tuple ts)), some (.py (.tuple ws)), some (.py (.str s)), e5, e6] st0 rfl ⟨ws, e5, rfl, by simpa using hsub, hj0, Same.refl⟩
    exact ⟨ws', e5', st', e, q1, q3, q4⟩
  have outer : ∃ ws e4 e5 st', forL (turnF Φ (.one 4) [(.for (.one 5) .seq [(.var 1)] [(.ife (.and (.cmp .ne (.var 4) (.var 5)) (.cmp .lt (.call i2 [(.var 0), (.const (.int 5))]) (.const (.int 2)))) [(.asg 3 false (.bin .add (.var 3) (.tup [(.tup [(.var 4), (.var 5)])])))] [])])]) ns
      [some (D.ref n), some (.py (.list ns)), some (.py (.tuple ts)), some (.py (.tuple [])), none, none, none] st1 = .nx [some (D.ref n), some (.py (.list ns)), some (.py (.tuple ts)), some (.py (.tuple ws)), e4, e5, none] st' ∧ ws.Sublist (Pairs ns) ∧ JarAt n st' ∧ Same n st1 st' := by
    have step : ∀ done y rest env st, ns = done ++ y :: rest → (∃ ws e4 e5, env = [some (D.ref n), some (.py (.list ns)), some (.py (.tuple ts)), some (.py (.tuple ws)), e4, e5, none] ∧ ws.Sublist (done.flatMap fun a => (ns.filter fun b => !a.eqv b).map fun b => .tuple [a, b]) ∧ JarAt n st ∧ Same n st1 st) →
        ∃ env' st', turnF Φ (.one 4) [(.for (.one 5) .seq [(.var 1)] [(.ife (.and (.cmp .ne (.var 4) (.var 5)) (.cmp .lt (.call i2 [(.var 0), (.const (.int 5))]) (.const (.int 2)))) [(.asg 3 false (.bin .add (.var 3) (.tup [(.tup [(.var 4), (.var 5)])])))] [])])] y env st = .nx env' st' ∧
          (∃ ws e4 e5, env' = [some (D.ref n), some (.py (.list ns)), some (.py (.tuple ts)), some (.py (.tuple ws)), e4, e5, none] ∧ ws.Sublist ((done ++ [y]).flatMap fun a => (ns.filter fun b => !a.eqv b).map fun b => .tuple [a, b]) ∧ JarAt n st' ∧ Same n st1 st') := by
      rintro done y rest env st hd ⟨ws, e4, e5, rfl, q1, q4, q5⟩
      have hy : y ∈ ns := by rw [hd]; simp
      have hdl : (done.flatMap fun a => (ns.filter fun b => !a.eqv b).map fun b => PyData.tuple [a, b]).length ≤ 1000000 := by
        have a1 := pairs_len ns hz
        have a2 : (done.flatMap fun a => (ns.filter fun b => !a.eqv b).map fun b => PyData.tuple [a, b]).Sublist (Pairs ns) := by
          have e : Pairs ns = (done.flatMap fun a => (ns.filter fun b => !a.eqv b).map fun b => PyData.tuple [a, b]) ++ ((y :: rest).flatMap fun a => (ns.filter fun b => !a.eqv b).map fun b => PyData.tuple [a, b]) := by
            rw [← List.flatMap_append, ← hd]; rfl
          rw [e]
          exact List.sublist_append_left _ _
        have := a2.length_le
        omega
      obtain ⟨ws', e5', st', e, p1, p2, p3⟩ := inner ws _ y e5 none st hy q1 hdl q4
      refine ⟨_, st', ?_, ws', some (.py y), e5', rfl, ?_, p2, q5.trans p3⟩
      · unfold turnF
        simp only [v_nil, v_cons, v_for, v_asg, v_par, v_unp, v_setI, v_expr, v_ret, v_ife, v_pass, e_var, e_const, e_tup, e_lst, e_bin, e_negc, e_not, e_and, e_or, e_cmp, e_chain, e_ife, e_idx, e_slc, e_call, e_isi, e_blt, evDs, evPar, evAnd, x_bind, x_then, ok_bind, ok_then, nx_then, rt_then, np_imp, np_nl, np_py, ni_imp, ni_py, ni_nl, nb_imp, nb_py, no_none, no_int, no_intp, fz_imp, fz_im, fz_nl, im_py, im_imp, ok_imp, dm_nil, dm_one, dm_two, dr_py, tp_nil, tp_cons, ck_true, fin_rt, fin_nx, tr_imp, tr_nl, st_im, st_imp, st_nl, st_nlt, un_imp, b_len, b_all, b_any, b_max, b_min, b_int, b_intb, b_ll, b_lt, b_tl, b_tt, len_l, len_t, it_sl, it_st, it_ss, ty_str, ty_tup, c_le, c_ge, c_lt, c_gt, c_eqi, c_nei, c_eqs, c_nes, c_eqb, c_isb, c_isnb, o_add, o_sub, idx_t, idx_l, at0, at1, at2, at3, Bool.not_true, Bool.not_false, Bool.true_and, Bool.false_and, tgSlots, wipeE, bindT, List.getElem?_cons_zero, List.getElem?_cons_succ, List.set_cons_zero, List.set_cons_succ, Option.map_some, if_true, Bool.false_eq_true, if_false, hI]
        rw [e]
        simp only [v_nil, v_cons, v_for, v_asg, v_par, v_unp, v_setI, v_expr, v_ret, v_ife, v_pass, e_var, e_const, e_tup, e_lst, e_bin, e_negc, e_not, e_and, e_or, e_cmp, e_chain, e_ife, e_idx, e_slc, e_call, e_isi, e_blt, evDs, evPar, evAnd, x_bind, x_then, ok_bind, ok_then, nx_then, rt_then, np_imp, np_nl, np_py, ni_imp, ni_py, ni_nl, nb_imp, nb_py, no_none, no_int, no_intp, fz_imp, fz_im, fz_nl, im_py, im_imp, ok_imp, dm_nil, dm_one, dm_two, dr_py, tp_nil, tp_cons, ck_true, fin_rt, fin_nx, tr_imp, tr_nl, st_im, st_imp, st_nl, st_nlt, un_imp, b_len, b_all, b_any, b_max, b_min, b_int, b_intb, b_ll, b_lt, b_tl, b_tt, len_l, len_t, it_sl, it_st, it_ss, ty_str, ty_tup, c_le, c_ge, c_lt, c_gt, c_eqi, c_nei, c_eqs, c_nes, c_eqb, c_isb, c_isnb, o_add, o_sub, idx_t, idx_l, at0, at1, at2, at3, Bool.not_true, Bool.not_false, Bool.true_and, Bool.false_and, tgSlots, wipeE, bindT, List.getElem?_cons_zero, List.getElem?_cons_succ, List.set_cons_zero, List.set_cons_succ, Option.map_some, if_true, Bool.false_eq_true, if_false]
      · rw [List.flatMap_append]
        simpa using p1
    obtain ⟨env', st', e, ws, e4, e5, rfl, q1, q3, q4⟩ := forL_inv step ns [] _ st1 rfl ⟨[], none, none, rfl, by simp, j1, Same.refl⟩
    exact ⟨ws, e4, e5, st', e, q1, q3, q4⟩
  obtain ⟨ws, e4, e5, st2, ew, w1, j2, s2⟩ := outer
  obtain ⟨p, st3, e3, p1, j3, s3⟩ := h3 n st2 (.list ns) ns 3 (.inl rfl) hz6 j2
  obtain ⟨q, st4, e4', q1, j4, s4⟩ := h3 n st3 (.list ns) ns 2 (.inl rfl) hz6 j3
  refine ⟨.tuple [.tuple ts, .tuple ws, .tuple [.tuple p, .tuple q]], st4, ?_, ⟨ts, ws, p, q, rfl, a1, w1, p1, q1⟩, j4, s1.trans (s2.trans (s3.trans s4))⟩
  simp only [v_nil, v_cons, v_for, v_asg, v_par, v_unp, v_setI, v_expr, v_ret, v_ife, v_pass, e_var, e_const, e_tup, e_lst, e_bin, e_negc, e_not, e_and, e_or, e_cmp, e_chain, e_ife, e_idx, e_slc, e_call, e_isi, e_blt, evDs, evPar, evAnd, x_bind, x_then, ok_bind, ok_then, nx_then, rt_then, np_imp, np_nl, np_py, ni_imp, ni_py, ni_nl, nb_imp, nb_py, no_none, no_int, no_intp, fz_imp, fz_im, fz_nl, im_py, im_imp, ok_imp, dm_nil, dm_one, dm_two, dr_py, tp_nil, tp_cons, ck_true, fin_rt, fin_nx, tr_imp, tr_nl, st_im, st_imp, st_nl, st_nlt, un_imp, b_len, b_all, b_any, b_max, b_min, b_int, b_intb, b_ll, b_lt, b_tl, b_tt, len_l, len_t, it_sl, it_st, it_ss, ty_str, ty_tup, c_le, c_ge, c_lt, c_gt, c_eqi, c_nei, c_eqs, c_nes, c_eqb, c_isb, c_isnb, o_add, o_sub, idx_t, idx_l, at0, at1, at2, at3, Bool.not_true, Bool.not_false, Bool.true_and, Bool.false_and, tgSlots, wipeE, bindT, List.getElem?_cons_zero, List.getElem?_cons_succ, List.set_cons_zero, List.set_cons_succ, Option.map_some, if_true, Bool.false_eq_true, if_false, e1, List.length_nil, l0, hI, ew, e3, e4', List.length_cons, l2, l3]
  exact tr_len (s1.trans (s2.trans (s3.trans s4))).len
def N2 : List (List P) := [[.str ⟨#[97]⟩, .str ⟨#[98]⟩], [.str ⟨#[100, 101, 115, 107]⟩, .str ⟨#[110, 101, 119, 115]⟩], [.str ⟨#[115, 104, 111, 112]⟩, .str ⟨#[122, 105, 110, 101]⟩]]
def N3 : List P := [.str ⟨#[100, 101, 115, 107]⟩, .str ⟨#[110, 101, 119, 115]⟩, .str ⟨#[115, 104, 111, 112]⟩]
def DrawNs (ns : List P) : Prop := ns ∈ N2 ∨ ns = N3
theorem strs_of_all {ns : List P} (h : ns.all (fun x => match x with | .str _ => true | _ => false) = true) : Strs ns := by
  intro x hx
  have q := List.all_eq_true.mp h x hx
  cases x with
  | str s => exact ⟨s, rfl⟩
  | _ => cases q
theorem DrawNs.cases {ns : List P} (h : DrawNs ns) {p : List P → Prop} (h2 : ∀ l ∈ N2, p l) (h3 : p N3) : p ns := by
  rcases h with h | h
  · exact h2 ns h
  · rw [h]; exact h3
theorem drawNs_strs {ns : List P} (h : DrawNs ns) : Strs ns := strs_of_all (h.cases (p := fun ns => ns.all (fun x => match x with | .str _ => true | _ => false) = true) (by decide) (by decide))
theorem drawNs_len {ns : List P} (h : DrawNs ns) : 2 ≤ ns.length ∧ ns.length ≤ 3 := h.cases (p := fun ns => 2 ≤ ns.length ∧ ns.length ≤ 3) (by decide) (by decide)
def MkSetupF (Φ : Nat → List D → Sto → R Rv) (i : Nat) : Prop := ∀ n st (large : Bool), JarAt n st → ∃ ns v st', Φ i [.ref n, .py (.bool large)] st = ok1 v st' ∧ DrawNs ns ∧ DrawSetup ns v ∧ JarAt n st' ∧ Same n st st'
theorem sem_mkSetup {i1 i2 i3 : Nat} (h1 : SomeF Φ i1) (h2 : LessF Φ i2) (h3 : SetupOfF Φ i3) {n : Nat} {st : Sto} {large : Bool} (hj : JarAt n st) :
    ∃ ns v st', fin st.length (evSs Φ (t_law_setup i1 i2 i3) [some (.ref n), some (.py (.bool large)), none] st) = ok1 v st' ∧ DrawNs ns ∧ DrawSetup ns v ∧ JarAt n st' ∧ Same n st st' := by
  unfold t_law_setup
  obtain ⟨x, st1, e1, r1, j1, s1⟩ := h1 n st (.list (N2.map .list)) (N2.map .list) (.inl rfl) (by decide) (by decide) hj
  obtain ⟨l, hl, rfl⟩ := List.mem_map.mp r1
  have e1' : Φ i1 [.ref n, .py (.list [.list [.str ⟨#[97]⟩, .str ⟨#[98]⟩], .list [.str ⟨#[100, 101, 115, 107]⟩, .str ⟨#[110, 101, 119, 115]⟩], .list [.str ⟨#[115, 104, 111, 112]⟩, .str ⟨#[122, 105, 110, 101]⟩]])] st = ok1 (.list l) st1 := e1
  cases large with
  | false =>
    have hd : DrawNs l := .inl hl
    obtain ⟨v, st2, e2, d2, j2, s2⟩ := h3 n st1 l (drawNs_strs hd) (by have := drawNs_len hd; omega) j1
    refine ⟨l, v, st2, ?_, hd, d2, j2, s1.trans s2⟩
    simp only [v_nil, v_cons, v_for, v_asg, v_par, v_unp, v_setI, v_expr, v_ret, v_ife, v_pass, e_var, e_const, e_tup, e_lst, e_bin, e_negc, e_not, e_and, e_or, e_cmp, e_chain, e_ife, e_idx, e_slc, e_call, e_isi, e_blt, evDs, evPar, evAnd, x_bind, x_then, ok_bind, ok_then, nx_then, rt_then, np_imp, np_nl, np_py, ni_imp, ni_py, ni_nl, nb_imp, nb_py, no_none, no_int, no_intp, fz_imp, fz_im, fz_nl, im_py, im_imp, ok_imp, dm_nil, dm_one, dm_two, dr_py, tp_nil, tp_cons, ck_true, fin_rt, fin_nx, tr_imp, tr_nl, st_im, st_imp, st_nl, st_nlt, un_imp, b_len, b_all, b_any, b_max, b_min, b_int, b_intb, b_ll, b_lt, b_tl, b_tt, len_l, len_t, it_sl, it_st, it_ss, ty_str, ty_tup, c_le, c_ge, c_lt, c_gt, c_eqi, c_nei, c_eqs, c_nes, c_eqb, c_isb, c_isnb, o_add, o_sub, idx_t, idx_l, at0, at1, at2, at3, Bool.not_true, Bool.not_false, Bool.true_and, Bool.false_and, tgSlots, wipeE, bindT, List.getElem?_cons_zero, List.getElem?_cons_succ, List.set_cons_zero, List.set_cons_succ, Option.map_some, if_true, Bool.false_eq_true, if_false, List.length_cons, List.length_nil, l2, l3, e1', e2]
    exact tr_len (s1.trans s2).len
  | true =>
    obtain ⟨r, st2, e2, _, _, j2, s2⟩ := h2 n st1 3 j1 (by omega) (by omega)
    rcases Bool.eq_false_or_eq_true (r == 0) with hr | hr
    · have hd : DrawNs N3 := .inr rfl
      obtain ⟨v, st3, e3, d3, j3, s3⟩ := h3 n st2 N3 (drawNs_strs hd) (by decide) j2
      have e3' : Φ i3 [.ref n, .py (.list [.str ⟨#[100, 101, 115, 107]⟩, .str ⟨#[110, 101, 119, 115]⟩, .str ⟨#[115, 104, 111, 112]⟩])] st2 = ok1 v st3 := e3
      refine ⟨N3, v, st3, ?_, hd, d3, j3, s1.trans (s2.trans s3)⟩
      simp only [v_nil, v_cons, v_for, v_asg, v_par, v_unp, v_setI, v_expr, v_ret, v_ife, v_pass, e_var, e_const, e_tup, e_lst, e_bin, e_negc, e_not, e_and, e_or, e_cmp, e_chain, e_ife, e_idx, e_slc, e_call, e_isi, e_blt, evDs, evPar, evAnd, x_bind, x_then, ok_bind, ok_then, nx_then, rt_then, np_imp, np_nl, np_py, ni_imp, ni_py, ni_nl, nb_imp, nb_py, no_none, no_int, no_intp, fz_imp, fz_im, fz_nl, im_py, im_imp, ok_imp, dm_nil, dm_one, dm_two, dr_py, tp_nil, tp_cons, ck_true, fin_rt, fin_nx, tr_imp, tr_nl, st_im, st_imp, st_nl, st_nlt, un_imp, b_len, b_all, b_any, b_max, b_min, b_int, b_intb, b_ll, b_lt, b_tl, b_tt, len_l, len_t, it_sl, it_st, it_ss, ty_str, ty_tup, c_le, c_ge, c_lt, c_gt, c_eqi, c_nei, c_eqs, c_nes, c_eqb, c_isb, c_isnb, o_add, o_sub, idx_t, idx_l, at0, at1, at2, at3, Bool.not_true, Bool.not_false, Bool.true_and, Bool.false_and, tgSlots, wipeE, bindT, List.getElem?_cons_zero, List.getElem?_cons_succ, List.set_cons_zero, List.set_cons_succ, Option.map_some, if_true, Bool.false_eq_true, if_false, List.length_cons, List.length_nil, l2, l3, e1', e2, hr, e3']
      exact tr_len (s1.trans (s2.trans s3)).len
    · have hd : DrawNs l := .inl hl
      obtain ⟨v, st3, e3, d3, j3, s3⟩ := h3 n st2 l (drawNs_strs hd) (by have := drawNs_len hd; omega) j2
      refine ⟨l, v, st3, ?_, hd, d3, j3, s1.trans (s2.trans s3)⟩
      simp only [v_nil, v_cons, v_for, v_asg, v_par, v_unp, v_setI, v_expr, v_ret, v_ife, v_pass, e_var, e_const, e_tup, e_lst, e_bin, e_negc, e_not, e_and, e_or, e_cmp, e_chain, e_ife, e_idx, e_slc, e_call, e_isi, e_blt, evDs, evPar, evAnd, x_bind, x_then, ok_bind, ok_then, nx_then, rt_then, np_imp, np_nl, np_py, ni_imp, ni_py, ni_nl, nb_imp, nb_py, no_none, no_int, no_intp, fz_imp, fz_im, fz_nl, im_py, im_imp, ok_imp, dm_nil, dm_one, dm_two, dr_py, tp_nil, tp_cons, ck_true, fin_rt, fin_nx, tr_imp, tr_nl, st_im, st_imp, st_nl, st_nlt, un_imp, b_len, b_all, b_any, b_max, b_min, b_int, b_intb, b_ll, b_lt, b_tl, b_tt, len_l, len_t, it_sl, it_st, it_ss, ty_str, ty_tup, c_le, c_ge, c_lt, c_gt, c_eqi, c_nei, c_eqs, c_nes, c_eqb, c_isb, c_isnb, o_add, o_sub, idx_t, idx_l, at0, at1, at2, at3, Bool.not_true, Bool.not_false, Bool.true_and, Bool.false_and, tgSlots, wipeE, bindT, List.getElem?_cons_zero, List.getElem?_cons_succ, List.set_cons_zero, List.set_cons_succ, Option.map_some, if_true, Bool.false_eq_true, if_false, List.length_cons, List.length_nil, l2, l3, e1', e2, hr, e3]
      exact tr_len (s1.trans (s2.trans s3)).len
end

/-! what is drawn is a setup -/
def Lt (a b : P) : Prop := PySem.W.dataLt a b = true
theorem asc_of {xs : List P} (h : xs.Pairwise Lt) : asc xs = true := by
  unfold asc
  rw [List.all_eq_true]
  intro i hi
  rw [List.mem_range] at hi
  have h1 : i < xs.length := by omega
  have h2 : i + 1 < xs.length := by omega
  rw [getD_of h1, getD_of h2]
  exact List.pairwise_iff_getElem.mp h i (i + 1) h1 h2 (by omega)
theorem oneOf_mem {ns : List P} {s : Str} (h : PyData.str s ∈ ns) : oneOf ns (.str s) = true := by
  show (ns.any fun y => y.eqv (.str s)) = true
  rw [List.any_eq_true]
  refine ⟨_, h, ?_⟩
  show (s == s) = true
  exact beq_self_eq_true s
theorem areNames_sub {ns zs : List P} (hs : Strs ns) (hp : ns.Pairwise Lt) (h : zs.Sublist ns) : areNames ns (.tuple zs) = true := by
  show (zs.all (oneOf ns) && asc zs) = true
  rw [asc_of (hp.sublist h), Bool.and_true, List.all_eq_true]
  intro x hx
  obtain ⟨s, rfl⟩ := hs x (h.subset hx)
  exact oneOf_mem (h.subset hx)
theorem areHooks_sub {ns ws : List P} (hs : Strs ns) (hp : (Pairs ns).Pairwise Lt) (h : ws.Sublist (Pairs ns)) : areHooks ns (.tuple ws) = true := by
  show (ws.all (hookOk ns) && asc ws) = true
  rw [asc_of (hp.sublist h), Bool.and_true, List.all_eq_true]
  intro x hx
  have hx := h.subset hx
  unfold Pairs at hx
  obtain ⟨a, ha, hx⟩ := List.mem_flatMap.mp hx
  obtain ⟨b, hb, rfl⟩ := List.mem_map.mp hx
  obtain ⟨hb1, hb2⟩ := List.mem_filter.mp hb
  obtain ⟨s, rfl⟩ := hs a ha
  obtain ⟨t, rfl⟩ := hs b hb1
  show ((oneOf ns (.str s) && oneOf ns (.str t)) && !(PyData.str s).eqv (.str t)) = true
  rw [oneOf_mem ha, oneOf_mem hb1, hb2]; rfl
theorem al_names {ns0 : List P} : ∀ {ns ts : List P}, Al (DrawTool ns0) ns ts → names ts = ns ∧ ts.length = ns.length
  | [], ts, h => by have h : ts = [] := h; subst h; exact ⟨rfl, rfl⟩
  | y :: ys, ts, h => by
    obtain ⟨t, r, rfl, ⟨rule, zs, b, rfl, _, _⟩, h2⟩ := h
    obtain ⟨q1, q2⟩ := al_names h2
    exact ⟨by show nm _ :: names r = _; rw [q1]; rfl, by rw [List.length_cons, List.length_cons, q2]⟩
theorem al_mem {α β : Type} {Rel : α → β → Prop} : ∀ {ys : List α} {os : List β}, Al Rel ys os → ∀ o ∈ os, ∃ y ∈ ys, Rel y o
  | [], os, h, o, ho => by have h : os = [] := h; subst h; simp at ho
  | y :: ys, os, h, o, ho => by
    obtain ⟨o', r, rfl, h1, h2⟩ := h
    rcases List.mem_cons.mp ho with e | ho
    · subst e; exact ⟨y, List.mem_cons_self, h1⟩
    · obtain ⟨z, hz, q⟩ := al_mem h2 o ho
      exact ⟨z, List.mem_cons_of_mem _ hz, q⟩
/-- names good for a setup -/
structure GoodNs (ns : List P) : Prop where
  str_ : Strs ns
  lt : ns.Pairwise Lt
  lt2 : (Pairs ns).Pairwise Lt
  lab : ns.all isLabel = true
  len : 2 ≤ ns.length ∧ ns.length ≤ 3
instance (a b : P) : Decidable (Lt a b) := inferInstanceAs (Decidable (_ = true))
theorem drawNs_good {ns : List P} (h : DrawNs ns) : GoodNs ns :=
  ⟨drawNs_strs h, h.cases (p := fun ns => ns.Pairwise Lt) (by decide +kernel) (by decide +kernel), h.cases (p := fun ns => (Pairs ns).Pairwise Lt) (by decide +kernel) (by decide +kernel), h.cases (p := fun ns => ns.all isLabel = true) (by decide +kernel) (by decide +kernel), drawNs_len h⟩
theorem drawSetup_is {ns : List P} {v : P} (g : GoodNs ns) (h : DrawSetup ns v) : isSetup v = true := by
  obtain ⟨ts, ws, p, q, rfl, a1, w1, p1, q1⟩ := h
  obtain ⟨en, el⟩ := al_names a1
  have e5 : isSetup (.tuple [.tuple ts, .tuple ws, .tuple [.tuple p, .tuple q]]) = (areTools (.tuple ts) && (areHooks (names ts) (.tuple ws) && (areNames (names ts) (.tuple p) && areNames (names ts) (.tuple q)))) := rfl
  have eT : areTools (.tuple ts) = ((decide (2 ≤ ts.length) && decide (ts.length ≤ 3)) && (ts.all isTool && (asc (names ts) && ts.all fun t => areNames (others (names ts) (nm t)) (may t)))) := rfl
  rw [e5, en, areHooks_sub g.str_ g.lt2 w1, areNames_sub g.str_ g.lt p1, areNames_sub g.str_ g.lt q1, eT, en, asc_of g.lt, el, decide_eq_true g.len.1, decide_eq_true g.len.2]
  simp only [Bool.true_and, Bool.and_true, Bool.and_eq_true, List.all_eq_true]
  refine ⟨fun t ht => ?_, fun t ht => ?_⟩
  · obtain ⟨y, hy, rule, zs, b, rfl, hr, hz⟩ := al_mem a1 t ht
    obtain ⟨s, rfl⟩ := rules_strs rule hr
    show (isLabel y && (oneOf RULES (.str s) && (isTy .tup (.tuple zs) && isTy .bool (.bool b)))) = true
    rw [List.all_eq_true.mp g.lab y hy, oneOf_mem hr]; rfl
  · obtain ⟨y, hy, rule, zs, b, rfl, hr, hz⟩ := al_mem a1 t ht
    exact areNames_sub (others_strs g.str_ y) (g.lt.sublist List.filter_sublist) hz
end Kp

namespace K01
open PySem PySem.Spec PyProof.Rows L2 Kp
/-! ### the text, compiled (written by a program) -/
abbrev pw : Program := PySem.Challenge.pw_keptno_k01_setups_known
def top (i : Nat) : Stmt := pw.main.body.getD i (.Pass ⟨0, 0, 0, 0⟩)
def dnames : List Str := ["is_label", "is_one_of", "ascends", "are_names", "is_tool", "are_tools", "are_hooks", "is_setup", "_law_jar", "_law_less", "_law_some", "_law_part", "_law_tool", "_law_setup", "_law_setup_of", "_law_is_label", "_law_climbs", "_law_are_of", "_law_is_tool", "_law_is_setup", "_law_odd", "_law_bent", "_law_right", "law"]
def cs : List (Str × P) := [("RULES", (.tuple [(.str ⟨#[97, 108, 108]⟩), (.str ⟨#[110, 101, 119]⟩), (.str ⟨#[110, 111]⟩), (.str ⟨#[121, 101, 115]⟩)])), ("FEWEST", (.int 2)), ("MOST", (.int 3))]
abbrev G : Str → Option Kp.G := gTab dnames cs bltTab
/-- is_label -/
def b0 : List S := [(.ret (.and (.isi .str (.var 0)) (.and (.chain .le .le (.const (.int 1)) (.blt .len [(.var 0)]) (.const (.int 8))) (.blt .all [(.comp (.chain .le .le (.const (.str ⟨#[97]⟩)) (.var 1) (.const (.str ⟨#[122]⟩))) (.one 1) .seq [(.var 0)] [])]))))]
def d0 : Dfn := ⟨top 4, ["value", "sign"], 1, ["jar"], b0⟩
theorem dok0 : DfnOk G d0 := ⟨by kernel_rfl, scopeB_ok (by kernel_rfl), by decide, fun _ _ _ _ _ _ us hl => match us, hl with | [_], _ => rfl⟩
/-- is_one_of -/
def b1 : List S := [(.ret (.and (.isi .str (.var 1)) (.cmp .in_ (.var 1) (.var 0))))]
def d1 : Dfn := ⟨top 5, ["words", "value"], 2, ["jar"], b1⟩
theorem dok1 : DfnOk G d1 := ⟨by kernel_rfl, scopeB_ok (by kernel_rfl), by decide, fun _ _ _ _ _ _ us hl => match us, hl with | [_, _], _ => rfl⟩
/-- ascends -/
def b2 : List S := [(.ret (.blt .all [(.comp (.cmp .lt (.idx (.var 0) (.var 1)) (.idx (.var 0) (.bin .add (.var 1) (.const (.int 1))))) (.one 1) .rng1 [(.bin .sub (.blt .len [(.var 0)]) (.const (.int 1)))] [])]))]
def d2 : Dfn := ⟨top 6, ["row", "at"], 1, ["jar"], b2⟩
theorem dok2 : DfnOk G d2 := ⟨by kernel_rfl, scopeB_ok (by kernel_rfl), by decide, fun _ _ _ _ _ _ us hl => match us, hl with | [_], _ => rfl⟩
/-- are_names -/
def b3 : List S := [(.ret (.and (.isi .tup (.var 1)) (.and (.blt .all [(.comp (.call 1 [(.var 0), (.var 2)]) (.one 2) .seq [(.var 1)] [])]) (.call 2 [(.var 1)]))))]
def d3 : Dfn := ⟨top 7, ["names", "value", "one"], 2, ["jar"], b3⟩
theorem dok3 : DfnOk G d3 := ⟨by kernel_rfl, scopeB_ok (by kernel_rfl), by decide, fun _ _ _ _ _ _ us hl => match us, hl with | [_, _], _ => rfl⟩
/-- is_tool -/
def b4 : List S := [(.ife (.or (.not (.isi .tup (.var 0))) (.or (.cmp .ne (.blt .len [(.var 0)]) (.const (.int 4))) (.or (.not (.call 0 [(.idx (.var 0) (.const (.int 0)))])) (.not (.call 1 [(.const (.tuple [(.str ⟨#[97, 108, 108]⟩), (.str ⟨#[110, 101, 119]⟩), (.str ⟨#[110, 111]⟩), (.str ⟨#[121, 101, 115]⟩)])), (.idx (.var 0) (.const (.int 1)))]))))) [(.ret (.const (.bool false)))] []),
    (.ret (.and (.isi .tup (.idx (.var 0) (.const (.int 2)))) (.isi .bool (.idx (.var 0) (.const (.int 3))))))]
def d4 : Dfn := ⟨top 8, ["value"], 1, ["jar"], b4⟩
theorem dok4 : DfnOk G d4 := ⟨by kernel_rfl, scopeB_ok (by kernel_rfl), by decide, fun _ _ _ _ _ _ us hl => match us, hl with | [_], _ => rfl⟩
/-- are_tools -/
def b5 : List S := [(.ife (.or (.not (.isi .tup (.var 0))) (.or (.not (.chain .le .le (.const (.int 2)) (.blt .len [(.var 0)]) (.const (.int 3)))) (.not (.blt .all [(.comp (.call 4 [(.var 2)]) (.one 2) .seq [(.var 0)] [])])))) [(.ret (.const (.bool false)))] []),
    (.asg 1 false (.comp (.idx (.var 3) (.const (.int 0))) (.one 3) .seq [(.var 0)] [])),
    (.ife (.not (.call 2 [(.var 1)])) [(.ret (.const (.bool false)))] []),
    (.ret (.blt .all [(.comp (.call 3 [(.comp (.var 4) (.one 4) .seq [(.var 1)] [(.cmp .ne (.var 4) (.idx (.var 3) (.const (.int 0))))]), (.idx (.var 3) (.const (.int 2)))]) (.one 3) .seq [(.var 0)] [])]))]
def d5 : Dfn := ⟨top 9, ["value", "names", "one", "tool", "name"], 1, ["jar"], b5⟩
theorem dok5 : DfnOk G d5 := ⟨by kernel_rfl, scopeB_ok (by kernel_rfl), by decide, fun _ _ _ _ _ _ us hl => match us, hl with | [_], _ => rfl⟩
/-- are_hooks -/
def b6 : List S := [(.ife (.not (.isi .tup (.var 1))) [(.ret (.const (.bool false)))] []),
    (.for (.one 2) .seq [(.var 1)] [(.ife (.or (.not (.isi .tup (.var 2))) (.or (.cmp .ne (.blt .len [(.var 2)]) (.const (.int 2))) (.not (.blt .all [(.comp (.call 1 [(.var 0), (.var 3)]) (.one 3) .seq [(.var 2)] [])])))) [(.ret (.const (.bool false)))] []),
    (.ife (.cmp .eq (.idx (.var 2) (.const (.int 0))) (.idx (.var 2) (.const (.int 1)))) [(.ret (.const (.bool false)))] [])]),
    (.ret (.call 2 [(.var 1)]))]
def d6 : Dfn := ⟨top 10, ["names", "value", "hook", "one"], 2, ["jar"], b6⟩
theorem dok6 : DfnOk G d6 := ⟨by kernel_rfl, scopeB_ok (by kernel_rfl), by decide, fun _ _ _ _ _ _ us hl => match us, hl with | [_, _], _ => rfl⟩
/-- is_setup -/
def b7 : List S := [(.ife (.or (.not (.isi .tup (.var 0))) (.or (.cmp .ne (.blt .len [(.var 0)]) (.const (.int 3))) (.not (.call 5 [(.idx (.var 0) (.const (.int 0)))])))) [(.ret (.const (.bool false)))] []),
    (.asg 1 false (.comp (.idx (.var 2) (.const (.int 0))) (.one 2) .seq [(.idx (.var 0) (.const (.int 0)))] [])),
    (.ife (.or (.not (.call 6 [(.var 1), (.idx (.var 0) (.const (.int 1)))])) (.or (.not (.isi .tup (.idx (.var 0) (.const (.int 2))))) (.cmp .ne (.blt .len [(.idx (.var 0) (.const (.int 2)))]) (.const (.int 2))))) [(.ret (.const (.bool false)))] []),
    (.ret (.and (.call 3 [(.var 1), (.idx (.idx (.var 0) (.const (.int 2))) (.const (.int 0)))]) (.call 3 [(.var 1), (.idx (.idx (.var 0) (.const (.int 2))) (.const (.int 1)))])))]
def d7 : Dfn := ⟨top 11, ["value", "names", "tool"], 1, ["jar"], b7⟩
theorem dok7 : DfnOk G d7 := ⟨by kernel_rfl, scopeB_ok (by kernel_rfl), by decide, fun _ _ _ _ _ _ us hl => match us, hl with | [_], _ => rfl⟩
/-- _law_jar -/
def b8 : List S := [(.asg 2 false (.ife (.cmp .ge (.var 0) (.bin .pow (.const (.int 10)) (.const (.int 18)))) (.bin .sub (.var 0) (.bin .pow (.const (.int 10)) (.const (.int 18)))) (.const (.int 0)))),
    (.ret (.lst [(.blt .max [(.const (.int 0)), (.var 2)]), (.bin .add (.bin .mod (.blt .int [(.bin .add (.bin .mul (.var 0) (.const (.int 17))) (.bin .mul (.const (.int 5003)) (.var 1)))]) (.const (.int 1610612741))) (.const (.int 2)))]))]
def d8 : Dfn := ⟨top 13, ["cell", "salt", "whole"], 2, ["jar"], b8⟩
theorem dok8 : DfnOk G d8 := ⟨by kernel_rfl, scopeB_ok (by kernel_rfl), by decide, fun _ _ _ _ _ _ us hl => match us, hl with | [_, _], _ => rfl⟩
/-- _law_less -/
def b9 : List S := [(.ife (.cmp .gt (.idx (.var 0) (.const (.int 0))) (.const (.int 0))) [(.asg 2 false (.bin .mod (.blt .int [(.idx (.var 0) (.const (.int 0)))]) (.var 1))),
    (.setI (.var 0) (.const (.int 0)) (.bin .fdiv (.idx (.var 0) (.const (.int 0))) (.var 1))),
    (.ret (.var 2))] []),
    (.setI (.var 0) (.const (.int 1)) (.bin .mod (.blt .int [(.bin .add (.bin .mul (.idx (.var 0) (.const (.int 1))) (.const (.int 362437))) (.const (.int 521288629)))]) (.const (.int 3221225473)))),
    (.ret (.bin .mod (.blt .int [(.bin .fdiv (.bin .mod (.blt .int [(.bin .add (.bin .mul (.idx (.var 0) (.const (.int 1))) (.idx (.var 0) (.const (.int 1)))) (.const (.int 88675123)))]) (.const (.int 2971215073))) (.const (.int 8191)))]) (.var 1)))]
def d9 : Dfn := ⟨top 14, ["jar", "many", "found"], 2, ["jar"], b9⟩
theorem dok9 : DfnOk G d9 := ⟨by kernel_rfl, scopeB_ok (by kernel_rfl), by decide, fun _ _ _ _ _ _ us hl => match us, hl with | [_, _], _ => rfl⟩
/-- _law_some -/
def b10 : List S := [(.ret (.idx (.var 1) (.call 9 [(.var 0), (.blt .len [(.var 1)])])))]
def d10 : Dfn := ⟨top 15, ["jar", "things"], 2, ["jar"], b10⟩
theorem dok10 : DfnOk G d10 := ⟨by kernel_rfl, scopeB_ok (by kernel_rfl), by decide, fun _ _ _ _ _ _ us hl => match us, hl with | [_, _], _ => rfl⟩
/-- _law_part -/
def b11 : List S := [(.ret (.blt .tuple [(.comp (.var 3) (.one 3) .seq [(.var 1)] [(.cmp .lt (.call 9 [(.var 0), (.const (.int 6))]) (.var 2))])]))]
def d11 : Dfn := ⟨top 16, ["jar", "names", "odds", "name"], 3, ["jar"], b11⟩
theorem dok11 : DfnOk G d11 := ⟨by kernel_rfl, scopeB_ok (by kernel_rfl), by decide, fun _ _ _ _ _ _ us hl => match us, hl with | [_, _, _], _ => rfl⟩
/-- _law_tool -/
def b12 : List S := [(.asg 3 false (.comp (.var 5) (.one 5) .seq [(.var 1)] [(.cmp .ne (.var 5) (.var 2))])),
    (.asg 4 false (.call 10 [(.var 0), (.lst [(.const (.str ⟨#[97, 108, 108]⟩)), (.const (.str ⟨#[97, 108, 108]⟩)), (.const (.str ⟨#[110, 101, 119]⟩)), (.const (.str ⟨#[110, 111]⟩)), (.const (.str ⟨#[110, 111]⟩)), (.const (.str ⟨#[121, 101, 115]⟩))])])),
    (.ret (.tup [(.var 2), (.var 4), (.call 11 [(.var 0), (.var 3), (.const (.int 4))]), (.cmp .eq (.call 9 [(.var 0), (.const (.int 3))]) (.const (.int 0)))]))]
def d12 : Dfn := ⟨top 17, ["jar", "names", "name", "others", "rule", "other"], 3, ["jar"], b12⟩
theorem dok12 : DfnOk G d12 := ⟨by kernel_rfl, scopeB_ok (by kernel_rfl), by decide, fun _ _ _ _ _ _ us hl => match us, hl with | [_, _, _], _ => rfl⟩
/-- _law_setup -/
def b13 : List S := [(.asg 2 false (.call 10 [(.var 0), (.lst [(.lst [(.const (.str ⟨#[97]⟩)), (.const (.str ⟨#[98]⟩))]), (.lst [(.const (.str ⟨#[100, 101, 115, 107]⟩)), (.const (.str ⟨#[110, 101, 119, 115]⟩))]), (.lst [(.const (.str ⟨#[115, 104, 111, 112]⟩)), (.const (.str ⟨#[122, 105, 110, 101]⟩))])])])),
    (.ife (.and (.var 1) (.cmp .eq (.call 9 [(.var 0), (.const (.int 3))]) (.const (.int 0)))) [(.asg 2 false (.lst [(.const (.str ⟨#[100, 101, 115, 107]⟩)), (.const (.str ⟨#[110, 101, 119, 115]⟩)), (.const (.str ⟨#[115, 104, 111, 112]⟩))]))] []),
    (.ret (.call 14 [(.var 0), (.var 2)]))]
def d13 : Dfn := ⟨top 18, ["jar", "large", "names"], 2, ["jar"], b13⟩
theorem dok13 : DfnOk G d13 := ⟨by kernel_rfl, scopeB_ok (by kernel_rfl), by decide, fun _ _ _ _ _ _ us hl => match us, hl with | [_, _], _ => rfl⟩
/-- _law_setup_of -/
def b14 : List S := [(.asg 2 false (.blt .tuple [(.comp (.call 12 [(.var 0), (.var 1), (.var 6)]) (.one 6) .seq [(.var 1)] [])])),
    (.asg 3 false (.tup [])),
    (.for (.one 4) .seq [(.var 1)] [(.for (.one 5) .seq [(.var 1)] [(.ife (.and (.cmp .ne (.var 4) (.var 5)) (.cmp .lt (.call 9 [(.var 0), (.const (.int 5))]) (.const (.int 2)))) [(.asg 3 false (.bin .add (.var 3) (.tup [(.tup [(.var 4), (.var 5)])])))] [])])]),
    (.ret (.tup [(.var 2), (.var 3), (.tup [(.call 11 [(.var 0), (.var 1), (.const (.int 3))]), (.call 11 [(.var 0), (.var 1), (.const (.int 2))])])]))]
def d14 : Dfn := ⟨top 19, ["jar", "names", "tools", "wires", "one", "other", "name"], 2, ["jar"], b14⟩
theorem dok14 : DfnOk G d14 := ⟨by kernel_rfl, scopeB_ok (by kernel_rfl), by decide, fun _ _ _ _ _ _ us hl => match us, hl with | [_, _], _ => rfl⟩
/-- _law_is_label -/
def b15 : List S := [(.ife (.or (.not (.isi .str (.var 0))) (.not (.chain .le .le (.const (.int 1)) (.blt .len [(.var 0)]) (.const (.int 8))))) [(.ret (.const (.bool false)))] []),
    (.ret (.cmp .eq (.comp (.var 1) (.one 1) .seq [(.var 0)] [(.cmp .notin (.var 1) (.const (.str ⟨#[97, 98, 99, 100, 101, 102, 103, 104, 105, 106, 107, 108, 109, 110, 111, 112, 113, 114, 115, 116, 117, 118, 119, 120, 121, 122]⟩)))]) (.lst [])))]
def d15 : Dfn := ⟨top 20, ["value", "sign"], 1, ["jar"], b15⟩
theorem dok15 : DfnOk G d15 := ⟨by kernel_rfl, scopeB_ok (by kernel_rfl), by decide, fun _ _ _ _ _ _ us hl => match us, hl with | [_], _ => rfl⟩
/-- _law_climbs -/
def b16 : List S := [(.ret (.cmp .eq (.comp (.var 1) (.one 1) .rng2 [(.const (.int 1)), (.blt .len [(.var 0)])] [(.cmp .ge (.idx (.var 0) (.bin .sub (.var 1) (.const (.int 1)))) (.idx (.var 0) (.var 1)))]) (.lst [])))]
def d16 : Dfn := ⟨top 21, ["row", "at"], 1, ["jar"], b16⟩
theorem dok16 : DfnOk G d16 := ⟨by kernel_rfl, scopeB_ok (by kernel_rfl), by decide, fun _ _ _ _ _ _ us hl => match us, hl with | [_], _ => rfl⟩
/-- _law_are_of -/
def b17 : List S := [(.ife (.not (.isi .tup (.var 1))) [(.ret (.const (.bool false)))] []),
    (.ife (.cmp .ne (.comp (.var 2) (.one 2) .seq [(.var 1)] [(.or (.not (.isi .str (.var 2))) (.cmp .notin (.var 2) (.var 0)))]) (.lst [])) [(.ret (.const (.bool false)))] []),
    (.ret (.call 16 [(.var 1)]))]
def d17 : Dfn := ⟨top 22, ["names", "value", "one"], 2, ["jar"], b17⟩
theorem dok17 : DfnOk G d17 := ⟨by kernel_rfl, scopeB_ok (by kernel_rfl), by decide, fun _ _ _ _ _ _ us hl => match us, hl with | [_, _], _ => rfl⟩
/-- _law_is_tool -/
def b18 : List S := [(.ife (.or (.not (.isi .tup (.var 0))) (.or (.cmp .ne (.blt .len [(.var 0)]) (.const (.int 4))) (.not (.call 15 [(.idx (.var 0) (.const (.int 0)))])))) [(.ret (.const (.bool false)))] []),
    (.ife (.or (.not (.isi .str (.idx (.var 0) (.const (.int 1))))) (.cmp .notin (.idx (.var 0) (.const (.int 1))) (.tup [(.const (.str ⟨#[97, 108, 108]⟩)), (.const (.str ⟨#[110, 101, 119]⟩)), (.const (.str ⟨#[110, 111]⟩)), (.const (.str ⟨#[121, 101, 115]⟩))]))) [(.ret (.const (.bool false)))] []),
    (.ret (.and (.isi .tup (.idx (.var 0) (.const (.int 2)))) (.isi .bool (.idx (.var 0) (.const (.int 3))))))]
def d18 : Dfn := ⟨top 23, ["value"], 1, ["jar"], b18⟩
theorem dok18 : DfnOk G d18 := ⟨by kernel_rfl, scopeB_ok (by kernel_rfl), by decide, fun _ _ _ _ _ _ us hl => match us, hl with | [_], _ => rfl⟩
/-- _law_is_setup -/
def b19 : List S := [(.ife (.or (.not (.isi .tup (.var 0))) (.or (.cmp .ne (.blt .len [(.var 0)]) (.const (.int 3))) (.not (.isi .tup (.idx (.var 0) (.const (.int 0))))))) [(.ret (.const (.bool false)))] []),
    (.ife (.or (.cmp .notin (.blt .len [(.idx (.var 0) (.const (.int 0)))]) (.tup [(.const (.int 2)), (.const (.int 3))])) (.cmp .ne (.comp (.var 1) (.one 1) .seq [(.idx (.var 0) (.const (.int 0)))] [(.not (.call 18 [(.var 1)]))]) (.lst []))) [(.ret (.const (.bool false)))] []),
    (.asg 2 false (.comp (.idx (.var 1) (.const (.int 0))) (.one 1) .seq [(.idx (.var 0) (.const (.int 0)))] [])),
    (.ife (.or (.not (.call 16 [(.var 2)])) (.not (.isi .tup (.idx (.var 0) (.const (.int 1)))))) [(.ret (.const (.bool false)))] []),
    (.for (.one 1) .seq [(.idx (.var 0) (.const (.int 0)))] [(.ife (.not (.call 17 [(.comp (.var 4) (.one 4) .seq [(.var 2)] [(.cmp .ne (.var 4) (.idx (.var 1) (.const (.int 0))))]), (.idx (.var 1) (.const (.int 2)))])) [(.ret (.const (.bool false)))] [])]),
    (.for (.one 3) .seq [(.idx (.var 0) (.const (.int 1)))] [(.ife (.or (.not (.isi .tup (.var 3))) (.or (.cmp .ne (.blt .len [(.var 3)]) (.const (.int 2))) (.cmp .eq (.idx (.var 3) (.const (.int 0))) (.idx (.var 3) (.const (.int 1)))))) [(.ret (.const (.bool false)))] []),
    (.ife (.cmp .ne (.comp (.var 5) (.one 5) .seq [(.var 3)] [(.or (.not (.isi .str (.var 5))) (.cmp .notin (.var 5) (.var 2)))]) (.lst [])) [(.ret (.const (.bool false)))] [])]),
    (.ife (.or (.not (.call 16 [(.idx (.var 0) (.const (.int 1)))])) (.or (.not (.isi .tup (.idx (.var 0) (.const (.int 2))))) (.cmp .ne (.blt .len [(.idx (.var 0) (.const (.int 2)))]) (.const (.int 2))))) [(.ret (.const (.bool false)))] []),
    (.ret (.and (.call 17 [(.var 2), (.idx (.idx (.var 0) (.const (.int 2))) (.const (.int 0)))]) (.call 17 [(.var 2), (.idx (.idx (.var 0) (.const (.int 2))) (.const (.int 1)))])))]
def d19 : Dfn := ⟨top 24, ["value", "tool", "names", "hook", "name", "one"], 1, ["jar"], b19⟩
theorem dok19 : DfnOk G d19 := ⟨by kernel_rfl, scopeB_ok (by kernel_rfl), by decide, fun _ _ _ _ _ _ us hl => match us, hl with | [_], _ => rfl⟩
/-- _law_odd -/
def b20 : List S := [(.asg 1 false (.lst [(.const .none), (.const (.bool true)), (.const (.bool false)), (.const (.int 0)), (.const (.int 1)), (.neg (.const (.int 4))), (.bin .pow (.const (.int 10)) (.const (.int 30))), (.const (.str ⟨#[]⟩)), (.const (.str ⟨#[97]⟩)), (.const (.str ⟨#[100, 101, 115, 107]⟩)), (.const (.str ⟨#[110, 101, 119, 115]⟩)), (.const (.str ⟨#[97, 108, 108]⟩)), (.const (.str ⟨#[110, 111]⟩)), (.const (.str ⟨#[121, 101, 115]⟩)), (.const (.str ⟨#[110, 111, 110, 101]⟩)), (.const (.str ⟨#[97, 98, 99, 100, 101, 102, 103, 104, 105]⟩))])),
    (.asg 1 false (.bin .add (.var 1) (.lst [(.const (.str ⟨#[68, 101, 115, 107]⟩)), (.const (.str ⟨#[97, 32, 98]⟩)), (.tup []), (.lst []), (.tup [(.const (.str ⟨#[100, 101, 115, 107]⟩))]), (.tup [(.const (.str ⟨#[100, 101, 115, 107]⟩)), (.const (.str ⟨#[110, 101, 119, 115]⟩))]), (.tup [(.const (.str ⟨#[115, 97, 121]⟩)), (.const (.str ⟨#[100, 101, 115, 107]⟩)), (.const (.str ⟨#[110, 111]⟩))]), (.tup [(.const (.str ⟨#[100, 114, 111, 112]⟩)), (.const (.str ⟨#[100, 101, 115, 107]⟩))])]))),
    (.ret (.call 10 [(.var 0), (.bin .add (.var 1) (.lst [(.tup [(.const (.str ⟨#[100, 101, 115, 107]⟩)), (.const (.str ⟨#[121, 101, 115]⟩))]), (.tup [(.const (.str ⟨#[97, 115, 107, 115]⟩)), (.const (.str ⟨#[100, 101, 115, 107]⟩))]), (.tup [(.tup [(.const (.str ⟨#[115, 97, 121]⟩)), (.const (.str ⟨#[97]⟩)), (.const (.str ⟨#[110, 111]⟩))])])]))]))]
def d20 : Dfn := ⟨top 25, ["jar", "some"], 1, ["jar"], b20⟩
theorem dok20 : DfnOk G d20 := ⟨by kernel_rfl, scopeB_ok (by kernel_rfl), by decide, fun _ _ _ _ _ _ us hl => match us, hl with | [_], _ => rfl⟩
/-- _law_bent -/
def b21 : List S := [(.ife (.or (.not (.isi .tup (.var 1))) (.or (.cmp .eq (.var 1) (.tup [])) (.cmp .eq (.call 9 [(.var 0), (.const (.int 6))]) (.const (.int 0))))) [(.ret (.ife (.isi .bool (.var 1)) (.not (.var 1)) (.call 20 [(.var 0)])))] []),
    (.par [2, 3] [(false, (.call 9 [(.var 0), (.blt .len [(.var 1)])])), (false, (.call 9 [(.var 0), (.const (.int 10))]))]),
    (.ife (.cmp .eq (.var 3) (.const (.int 0))) [(.ret (.bin .add (.slc (.var 1) (.const .none) (.var 2)) (.slc (.var 1) (.bin .add (.var 2) (.const (.int 1))) (.const .none))))] []),
    (.ife (.cmp .eq (.var 3) (.const (.int 1))) [(.ret (.bin .add (.slc (.var 1) (.const .none) (.bin .add (.var 2) (.const (.int 1)))) (.slc (.var 1) (.var 2) (.const .none))))] []),
    (.ife (.cmp .eq (.var 3) (.const (.int 2))) [(.ret (.bin .add (.bin .add (.slc (.var 1) (.const .none) (.var 2)) (.tup [(.call 20 [(.var 0)])])) (.slc (.var 1) (.var 2) (.const .none))))] []),
    (.ife (.cmp .eq (.var 3) (.const (.int 3))) [(.ret (.blt .list [(.var 1)]))] []),
    (.ife (.cmp .eq (.var 3) (.const (.int 4))) [(.ret (.bin .add (.slc (.var 1) (.var 2) (.const .none)) (.slc (.var 1) (.const .none) (.var 2))))] []),
    (.ret (.bin .add (.bin .add (.slc (.var 1) (.const .none) (.var 2)) (.tup [(.call 21 [(.var 0), (.idx (.var 1) (.var 2))])])) (.slc (.var 1) (.bin .add (.var 2) (.const (.int 1))) (.const .none))))]
def d21 : Dfn := ⟨top 26, ["jar", "value", "at", "way"], 2, ["jar"], b21⟩
theorem dok21 : DfnOk G d21 := ⟨by kernel_rfl, scopeB_ok (by kernel_rfl), by decide, fun _ _ _ _ _ _ us hl => match us, hl with | [_, _], _ => rfl⟩
/-- _law_right -/
def b22 : List S := [(.asg 1 false (.call 7 [(.var 0)])),
    (.ret (.and (.isi .bool (.var 1)) (.cmp .eq (.var 1) (.call 19 [(.var 0)]))))]
def d22 : Dfn := ⟨top 27, ["value", "said"], 1, ["jar"], b22⟩
theorem dok22 : DfnOk G d22 := ⟨by kernel_rfl, scopeB_ok (by kernel_rfl), by decide, fun _ _ _ _ _ _ us hl => match us, hl with | [_], _ => rfl⟩
/-- law -/
def b23 : List S := [(.for (.one 1) .seq [(.slc (.bin .add (.lst [(.const (.int 0))]) (.var 0)) (.const .none) (.const (.int 8)))] [(.asg 2 true (.call 8 [(.var 1), (.const (.int 3))])),
    (.asg 3 false (.call 13 [(.var 2), (.const (.bool true))])),
    (.ife (.cmp .isnot (.call 7 [(.var 3)]) (.const (.bool true))) [(.ret (.const (.bool false)))] []),
    (.for (.one 4) .rng1 [(.const (.int 10))] [(.asg 5 false (.var 3)),
    (.for (.one 6) .rng1 [(.const (.int 3))] [(.asg 5 false (.call 21 [(.var 2), (.var 5)])),
    (.ife (.not (.call 22 [(.var 5)])) [(.ret (.const (.bool false)))] [])])]),
    (.ife (.not (.call 22 [(.call 20 [(.var 2)])])) [(.ret (.const (.bool false)))] [])]),
    (.unp [7, 8, 9] (.tup [(.tup [(.const (.str ⟨#[97]⟩)), (.const (.str ⟨#[97, 108, 108]⟩)), (.tup []), (.const (.bool false))]), (.tup [(.const (.str ⟨#[98]⟩)), (.const (.str ⟨#[121, 101, 115]⟩)), (.tup [(.const (.str ⟨#[97]⟩))]), (.const (.bool true))]), (.tup [(.const (.str ⟨#[99]⟩)), (.const (.str ⟨#[110, 101, 119]⟩)), (.tup [(.const (.str ⟨#[97]⟩)), (.const (.str ⟨#[98]⟩))]), (.const (.bool false))])])),
    (.asg 10 false (.tup [(.tup []), (.tup [])])),
    (.asg 11 false (.lst [(.tup [(.tup [(.var 7), (.var 8), (.var 9)]), (.tup []), (.var 10)]), (.tup [(.tup [(.var 7)]), (.tup []), (.var 10)]), (.tup [(.tup [(.var 7), (.var 8), (.var 9), (.tup [(.const (.str ⟨#[100]⟩)), (.const (.str ⟨#[110, 111]⟩)), (.tup []), (.const (.bool true))])]), (.tup []), (.var 10)])])),
    (.asg 11 false (.bin .add (.var 11) (.lst [(.tup [(.tup [(.var 8), (.var 7)]), (.tup []), (.var 10)]), (.tup [(.tup [(.var 7), (.var 7)]), (.tup []), (.var 10)]), (.tup [(.tup [(.var 7), (.tup [(.const (.str ⟨#[98]⟩)), (.const (.str ⟨#[121, 101, 115]⟩)), (.tup [(.const (.str ⟨#[98]⟩))]), (.const (.bool true))])]), (.tup []), (.var 10)])]))),
    (.asg 11 false (.bin .add (.var 11) (.lst [(.tup [(.tup [(.var 7), (.tup [(.const (.str ⟨#[97, 98, 99, 100, 101, 102, 103, 104]⟩)), (.const (.str ⟨#[110, 111]⟩)), (.tup [(.const (.str ⟨#[97]⟩))]), (.const (.bool true))])]), (.tup [(.tup [(.const (.str ⟨#[97]⟩)), (.const (.str ⟨#[97, 98, 99, 100, 101, 102, 103, 104]⟩))]), (.tup [(.const (.str ⟨#[97, 98, 99, 100, 101, 102, 103, 104]⟩)), (.const (.str ⟨#[97]⟩))])]), (.var 10)])]))),
    (.asg 11 false (.bin .add (.var 11) (.lst [(.tup [(.tup [(.var 7), (.var 8)]), (.tup [(.tup [(.const (.str ⟨#[98]⟩)), (.const (.str ⟨#[97]⟩))]), (.tup [(.const (.str ⟨#[97]⟩)), (.const (.str ⟨#[98]⟩))])]), (.var 10)]), (.tup [(.tup [(.var 7), (.var 8)]), (.tup [(.tup [(.const (.str ⟨#[97]⟩)), (.const (.str ⟨#[97]⟩))])]), (.var 10)])]))),
    (.asg 11 false (.bin .add (.var 11) (.lst [(.tup [(.tup [(.var 7), (.var 8)]), (.tup [(.tup [(.const (.str ⟨#[97]⟩)), (.const (.str ⟨#[98]⟩))]), (.tup [(.const (.str ⟨#[97]⟩)), (.const (.str ⟨#[98]⟩))])]), (.var 10)]), (.tup [(.tup [(.var 7), (.var 8)]), (.tup [(.tup [(.const (.str ⟨#[97]⟩)), (.const (.str ⟨#[99]⟩))])]), (.var 10)])]))),
    (.asg 11 false (.bin .add (.var 11) (.lst [(.tup [(.tup [(.var 7), (.var 8)]), (.tup []), (.tup [(.tup [(.const (.str ⟨#[97]⟩)), (.const (.str ⟨#[98]⟩))]), (.tup [(.const (.str ⟨#[98]⟩))])])]), (.tup [(.tup [(.var 7), (.var 8)]), (.tup []), (.tup [(.tup [(.const (.str ⟨#[98]⟩)), (.const (.str ⟨#[97]⟩))]), (.tup [])])]), (.tup [(.tup [(.var 7), (.var 8)]), (.tup []), (.tup [(.tup [])])])]))),
    (.asg 11 false (.bin .add (.var 11) (.lst [(.tup [(.tup [(.var 7), (.var 8)]), (.tup []), (.tup [(.tup [(.const (.str ⟨#[99]⟩))]), (.tup [])])]), (.tup [(.tup [(.var 7), (.var 8), (.tup [(.const (.str ⟨#[99]⟩)), (.const (.str ⟨#[110, 101, 119]⟩)), (.tup [(.const (.str ⟨#[98]⟩)), (.const (.str ⟨#[97]⟩))]), (.const (.bool false))])]), (.tup []), (.var 10)])]))),
    (.ret (.cmp .eq (.comp (.var 12) (.one 12) .seq [(.var 11)] [(.not (.call 22 [(.var 12)]))]) (.lst [])))]
def d23 : Dfn := ⟨top 28, ["script", "cell", "jar", "setup", "turn", "value", "again", "one", "two", "three", "none", "rows", "row"], 1, ["jar"], b23⟩
theorem dok23 : DfnOk G d23 := ⟨by kernel_rfl, scopeB_ok (by kernel_rfl), by decide, fun _ _ _ _ _ _ us hl => match us, hl with | [_], _ => rfl⟩
def ds : List Dfn := [d0, d1, d2, d3, d4, d5, d6, d7, d8, d9, d10, d11, d12, d13, d14, d15, d16, d17, d18, d19, d20, d21, d22, d23]
theorem ds_ok : ∀ d ∈ ds, DfnOk G d := by
  intro d hd
  obtain ⟨j, hj⟩ := List.getElem?_of_mem hd
  match j, hj with
  | 0, hj => cases hj; exact dok0
  | 1, hj => cases hj; exact dok1
  | 2, hj => cases hj; exact dok2
  | 3, hj => cases hj; exact dok3
  | 4, hj => cases hj; exact dok4
  | 5, hj => cases hj; exact dok5
  | 6, hj => cases hj; exact dok6
  | 7, hj => cases hj; exact dok7
  | 8, hj => cases hj; exact dok8
  | 9, hj => cases hj; exact dok9
  | 10, hj => cases hj; exact dok10
  | 11, hj => cases hj; exact dok11
  | 12, hj => cases hj; exact dok12
  | 13, hj => cases hj; exact dok13
  | 14, hj => cases hj; exact dok14
  | 15, hj => cases hj; exact dok15
  | 16, hj => cases hj; exact dok16
  | 17, hj => cases hj; exact dok17
  | 18, hj => cases hj; exact dok18
  | 19, hj => cases hj; exact dok19
  | 20, hj => cases hj; exact dok20
  | 21, hj => cases hj; exact dok21
  | 22, hj => cases hj; exact dok22
  | 23, hj => cases hj; exact dok23
  | n + 24, hj => cases hj

end K01

/-! k01: the law's own words about setups. -/
namespace K01
open PySem Kp
/-- _law_is_label -/
def t_law_is_label : List S := [(.ife (.or (.not (.isi .str (.var 0))) (.not (.chain .le .le (.const (.int 1)) (.blt .len [(.var 0)]) (.const (.int 8))))) [(.ret (.const (.bool false)))] []),
    (.ret (.cmp .eq (.comp (.var 1) (.one 1) .seq [(.var 0)] [(.cmp .notin (.var 1) (.const (.str ⟨#[97, 98, 99, 100, 101, 102, 103, 104, 105, 106, 107, 108, 109, 110, 111, 112, 113, 114, 115, 116, 117, 118, 119, 120, 121, 122]⟩)))]) (.lst [])))]
/-- _law_climbs -/
def t_law_climbs : List S := [(.ret (.cmp .eq (.comp (.var 1) (.one 1) .rng2 [(.const (.int 1)), (.blt .len [(.var 0)])] [(.cmp .ge (.idx (.var 0) (.bin .sub (.var 1) (.const (.int 1)))) (.idx (.var 0) (.var 1)))]) (.lst [])))]
/-- _law_are_of -/
def t_law_are_of (i_law_climbs : Nat) : List S := [(.ife (.not (.isi .tup (.var 1))) [(.ret (.const (.bool false)))] []),
    (.ife (.cmp .ne (.comp (.var 2) (.one 2) .seq [(.var 1)] [(.or (.not (.isi .str (.var 2))) (.cmp .notin (.var 2) (.var 0)))]) (.lst [])) [(.ret (.const (.bool false)))] []),
    (.ret (.call i_law_climbs [(.var 1)]))]
/-- _law_is_tool -/
def t_law_is_tool (i_law_is_label : Nat) : List S := [(.ife (.or (.not (.isi .tup (.var 0))) (.or (.cmp .ne (.blt .len [(.var 0)]) (.const (.int 4))) (.not (.call i_law_is_label [(.idx (.var 0) (.const (.int 0)))])))) [(.ret (.const (.bool false)))] []),
    (.ife (.or (.not (.isi .str (.idx (.var 0) (.const (.int 1))))) (.cmp .notin (.idx (.var 0) (.const (.int 1))) (.tup [(.const (.str ⟨#[97, 108, 108]⟩)), (.const (.str ⟨#[110, 101, 119]⟩)), (.const (.str ⟨#[110, 111]⟩)), (.const (.str ⟨#[121, 101, 115]⟩))]))) [(.ret (.const (.bool false)))] []),
    (.ret (.and (.isi .tup (.idx (.var 0) (.const (.int 2)))) (.isi .bool (.idx (.var 0) (.const (.int 3))))))]
/-- _law_is_setup -/
def t_law_is_setup (i_law_is_tool : Nat) (i_law_climbs : Nat) (i_law_are_of : Nat) : List S := [(.ife (.or (.not (.isi .tup (.var 0))) (.or (.cmp .ne (.blt .len [(.var 0)]) (.const (.int 3))) (.not (.isi .tup (.idx (.var 0) (.const (.int 0))))))) [(.ret (.const (.bool false)))] []),
    (.ife (.or (.cmp .notin (.blt .len [(.idx (.var 0) (.const (.int 0)))]) (.tup [(.const (.int 2)), (.const (.int 3))])) (.cmp .ne (.comp (.var 1) (.one 1) .seq [(.idx (.var 0) (.const (.int 0)))] [(.not (.call i_law_is_tool [(.var 1)]))]) (.lst []))) [(.ret (.const (.bool false)))] []),
    (.asg 2 false (.comp (.idx (.var 1) (.const (.int 0))) (.one 1) .seq [(.idx (.var 0) (.const (.int 0)))] [])),
    (.ife (.or (.not (.call i_law_climbs [(.var 2)])) (.not (.isi .tup (.idx (.var 0) (.const (.int 1)))))) [(.ret (.const (.bool false)))] []),
    (.for (.one 1) .seq [(.idx (.var 0) (.const (.int 0)))] [(.ife (.not (.call i_law_are_of [(.comp (.var 4) (.one 4) .seq [(.var 2)] [(.cmp .ne (.var 4) (.idx (.var 1) (.const (.int 0))))]), (.idx (.var 1) (.const (.int 2)))])) [(.ret (.const (.bool false)))] [])]),
    (.for (.one 3) .seq [(.idx (.var 0) (.const (.int 1)))] [(.ife (.or (.not (.isi .tup (.var 3))) (.or (.cmp .ne (.blt .len [(.var 3)]) (.const (.int 2))) (.cmp .eq (.idx (.var 3) (.const (.int 0))) (.idx (.var 3) (.const (.int 1)))))) [(.ret (.const (.bool false)))] []),
    (.ife (.cmp .ne (.comp (.var 5) (.one 5) .seq [(.var 3)] [(.or (.not (.isi .str (.var 5))) (.cmp .notin (.var 5) (.var 2)))]) (.lst [])) [(.ret (.const (.bool false)))] [])]),
    (.ife (.or (.not (.call i_law_climbs [(.idx (.var 0) (.const (.int 1)))])) (.or (.not (.isi .tup (.idx (.var 0) (.const (.int 2))))) (.cmp .ne (.blt .len [(.idx (.var 0) (.const (.int 2)))]) (.const (.int 2))))) [(.ret (.const (.bool false)))] []),
    (.ret (.and (.call i_law_are_of [(.var 2), (.idx (.idx (.var 0) (.const (.int 2))) (.const (.int 0)))]) (.call i_law_are_of [(.var 2), (.idx (.idx (.var 0) (.const (.int 2))) (.const (.int 1)))])))]
/-- _law_odd -/
def t_law_odd (i_law_some : Nat) : List S := [(.asg 1 false (.lst [(.const .none), (.const (.bool true)), (.const (.bool false)), (.const (.int 0)), (.const (.int 1)), (.neg (.const (.int 4))), (.bin .pow (.const (.int 10)) (.const (.int 30))), (.const (.str ⟨#[]⟩)), (.const (.str ⟨#[97]⟩)), (.const (.str ⟨#[100, 101, 115, 107]⟩)), (.const (.str ⟨#[110, 101, 119, 115]⟩)), (.const (.str ⟨#[97, 108, 108]⟩)), (.const (.str ⟨#[110, 111]⟩)), (.const (.str ⟨#[121, 101, 115]⟩)), (.const (.str ⟨#[110, 111, 110, 101]⟩)), (.const (.str ⟨#[97, 98, 99, 100, 101, 102, 103, 104, 105]⟩))])),
    (.asg 1 false (.bin .add (.var 1) (.lst [(.const (.str ⟨#[68, 101, 115, 107]⟩)), (.const (.str ⟨#[97, 32, 98]⟩)), (.tup []), (.lst []), (.tup [(.const (.str ⟨#[100, 101, 115, 107]⟩))]), (.tup [(.const (.str ⟨#[100, 101, 115, 107]⟩)), (.const (.str ⟨#[110, 101, 119, 115]⟩))]), (.tup [(.const (.str ⟨#[115, 97, 121]⟩)), (.const (.str ⟨#[100, 101, 115, 107]⟩)), (.const (.str ⟨#[110, 111]⟩))]), (.tup [(.const (.str ⟨#[100, 114, 111, 112]⟩)), (.const (.str ⟨#[100, 101, 115, 107]⟩))])]))),
    (.ret (.call i_law_some [(.var 0), (.bin .add (.var 1) (.lst [(.tup [(.const (.str ⟨#[100, 101, 115, 107]⟩)), (.const (.str ⟨#[121, 101, 115]⟩))]), (.tup [(.const (.str ⟨#[97, 115, 107, 115]⟩)), (.const (.str ⟨#[100, 101, 115, 107]⟩))]), (.tup [(.tup [(.const (.str ⟨#[115, 97, 121]⟩)), (.const (.str ⟨#[97]⟩)), (.const (.str ⟨#[110, 111]⟩))])])]))]))]
/-- _law_bent -/
def t_law_bent (i_law_less : Nat) (i_law_odd : Nat) (i_law_bent : Nat) : List S := [(.ife (.or (.not (.isi .tup (.var 1))) (.or (.cmp .eq (.var 1) (.tup [])) (.cmp .eq (.call i_law_less [(.var 0), (.const (.int 6))]) (.const (.int 0))))) [(.ret (.ife (.isi .bool (.var 1)) (.not (.var 1)) (.call i_law_odd [(.var 0)])))] []),
    (.par [2, 3] [(false, (.call i_law_less [(.var 0), (.blt .len [(.var 1)])])), (false, (.call i_law_less [(.var 0), (.const (.int 10))]))]),
    (.ife (.cmp .eq (.var 3) (.const (.int 0))) [(.ret (.bin .add (.slc (.var 1) (.const .none) (.var 2)) (.slc (.var 1) (.bin .add (.var 2) (.const (.int 1))) (.const .none))))] []),
    (.ife (.cmp .eq (.var 3) (.const (.int 1))) [(.ret (.bin .add (.slc (.var 1) (.const .none) (.bin .add (.var 2) (.const (.int 1)))) (.slc (.var 1) (.var 2) (.const .none))))] []),
    (.ife (.cmp .eq (.var 3) (.const (.int 2))) [(.ret (.bin .add (.bin .add (.slc (.var 1) (.const .none) (.var 2)) (.tup [(.call i_law_odd [(.var 0)])])) (.slc (.var 1) (.var 2) (.const .none))))] []),
    (.ife (.cmp .eq (.var 3) (.const (.int 3))) [(.ret (.blt .list [(.var 1)]))] []),
    (.ife (.cmp .eq (.var 3) (.const (.int 4))) [(.ret (.bin .add (.slc (.var 1) (.var 2) (.const .none)) (.slc (.var 1) (.const .none) (.var 2))))] []),
    (.ret (.bin .add (.bin .add (.slc (.var 1) (.const .none) (.var 2)) (.tup [(.call i_law_bent [(.var 0), (.idx (.var 1) (.var 2))])])) (.slc (.var 1) (.bin .add (.var 2) (.const (.int 1))) (.const .none))))]
/-- _law_right -/
def t_law_right (iis_setup : Nat) (i_law_is_setup : Nat) : List S := [(.asg 1 false (.call iis_setup [(.var 0)])),
    (.ret (.and (.isi .bool (.var 1)) (.cmp .eq (.var 1) (.call i_law_is_setup [(.var 0)]))))]
/-- law -/
def t_law (i_law_jar : Nat) (i_law_setup : Nat) (iis_setup : Nat) (i_law_bent : Nat) (i_law_right : Nat) (i_law_odd : Nat) : List S := [(.for (.one 1) .seq [(.slc (.bin .add (.lst [(.const (.int 0))]) (.var 0)) (.const .none) (.const (.int 8)))] [(.asg 2 true (.call i_law_jar [(.var 1), (.const (.int 3))])),
    (.asg 3 false (.call i_law_setup [(.var 2), (.const (.bool true))])),
    (.ife (.cmp .isnot (.call iis_setup [(.var 3)]) (.const (.bool true))) [(.ret (.const (.bool false)))] []),
    (.for (.one 4) .rng1 [(.const (.int 10))] [(.asg 5 false (.var 3)),
    (.for (.one 6) .rng1 [(.const (.int 3))] [(.asg 5 false (.call i_law_bent [(.var 2), (.var 5)])),
    (.ife (.not (.call i_law_right [(.var 5)])) [(.ret (.const (.bool false)))] [])])]),
    (.ife (.not (.call i_law_right [(.call i_law_odd [(.var 2)])])) [(.ret (.const (.bool false)))] [])]),
    (.unp [7, 8, 9] (.tup [(.tup [(.const (.str ⟨#[97]⟩)), (.const (.str ⟨#[97, 108, 108]⟩)), (.tup []), (.const (.bool false))]), (.tup [(.const (.str ⟨#[98]⟩)), (.const (.str ⟨#[121, 101, 115]⟩)), (.tup [(.const (.str ⟨#[97]⟩))]), (.const (.bool true))]), (.tup [(.const (.str ⟨#[99]⟩)), (.const (.str ⟨#[110, 101, 119]⟩)), (.tup [(.const (.str ⟨#[97]⟩)), (.const (.str ⟨#[98]⟩))]), (.const (.bool false))])])),
    (.asg 10 false (.tup [(.tup []), (.tup [])])),
    (.asg 11 false (.lst [(.tup [(.tup [(.var 7), (.var 8), (.var 9)]), (.tup []), (.var 10)]), (.tup [(.tup [(.var 7)]), (.tup []), (.var 10)]), (.tup [(.tup [(.var 7), (.var 8), (.var 9), (.tup [(.const (.str ⟨#[100]⟩)), (.const (.str ⟨#[110, 111]⟩)), (.tup []), (.const (.bool true))])]), (.tup []), (.var 10)])])),
    (.asg 11 false (.bin .add (.var 11) (.lst [(.tup [(.tup [(.var 8), (.var 7)]), (.tup []), (.var 10)]), (.tup [(.tup [(.var 7), (.var 7)]), (.tup []), (.var 10)]), (.tup [(.tup [(.var 7), (.tup [(.const (.str ⟨#[98]⟩)), (.const (.str ⟨#[121, 101, 115]⟩)), (.tup [(.const (.str ⟨#[98]⟩))]), (.const (.bool true))])]), (.tup []), (.var 10)])]))),
    (.asg 11 false (.bin .add (.var 11) (.lst [(.tup [(.tup [(.var 7), (.tup [(.const (.str ⟨#[97, 98, 99, 100, 101, 102, 103, 104]⟩)), (.const (.str ⟨#[110, 111]⟩)), (.tup [(.const (.str ⟨#[97]⟩))]), (.const (.bool true))])]), (.tup [(.tup [(.const (.str ⟨#[97]⟩)), (.const (.str ⟨#[97, 98, 99, 100, 101, 102, 103, 104]⟩))]), (.tup [(.const (.str ⟨#[97, 98, 99, 100, 101, 102, 103, 104]⟩)), (.const (.str ⟨#[97]⟩))])]), (.var 10)])]))),
    (.asg 11 false (.bin .add (.var 11) (.lst [(.tup [(.tup [(.var 7), (.var 8)]), (.tup [(.tup [(.const (.str ⟨#[98]⟩)), (.const (.str ⟨#[97]⟩))]), (.tup [(.const (.str ⟨#[97]⟩)), (.const (.str ⟨#[98]⟩))])]), (.var 10)]), (.tup [(.tup [(.var 7), (.var 8)]), (.tup [(.tup [(.const (.str ⟨#[97]⟩)), (.const (.str ⟨#[97]⟩))])]), (.var 10)])]))),
    (.asg 11 false (.bin .add (.var 11) (.lst [(.tup [(.tup [(.var 7), (.var 8)]), (.tup [(.tup [(.const (.str ⟨#[97]⟩)), (.const (.str ⟨#[98]⟩))]), (.tup [(.const (.str ⟨#[97]⟩)), (.const (.str ⟨#[98]⟩))])]), (.var 10)]), (.tup [(.tup [(.var 7), (.var 8)]), (.tup [(.tup [(.const (.str ⟨#[97]⟩)), (.const (.str ⟨#[99]⟩))])]), (.var 10)])]))),
    (.asg 11 false (.bin .add (.var 11) (.lst [(.tup [(.tup [(.var 7), (.var 8)]), (.tup []), (.tup [(.tup [(.const (.str ⟨#[97]⟩)), (.const (.str ⟨#[98]⟩))]), (.tup [(.const (.str ⟨#[98]⟩))])])]), (.tup [(.tup [(.var 7), (.var 8)]), (.tup []), (.tup [(.tup [(.const (.str ⟨#[98]⟩)), (.const (.str ⟨#[97]⟩))]), (.tup [])])]), (.tup [(.tup [(.var 7), (.var 8)]), (.tup []), (.tup [(.tup [])])])]))),
    (.asg 11 false (.bin .add (.var 11) (.lst [(.tup [(.tup [(.var 7), (.var 8)]), (.tup []), (.tup [(.tup [(.const (.str ⟨#[99]⟩))]), (.tup [])])]), (.tup [(.tup [(.var 7), (.var 8), (.tup [(.const (.str ⟨#[99]⟩)), (.const (.str ⟨#[110, 101, 119]⟩)), (.tup [(.const (.str ⟨#[98]⟩)), (.const (.str ⟨#[97]⟩))]), (.const (.bool false))])]), (.tup []), (.var 10)])]))),
    (.ret (.cmp .eq (.comp (.var 12) (.one 12) .seq [(.var 11)] [(.not (.call i_law_right [(.var 12)]))]) (.lst [])))]

section
variable {Φ : Nat → List D → Sto → R Rv} {st : Sto}
theorem alpha (c : Nat) : decide (c ∈ [97, 98, 99, 100, 101, 102, 103, 104, 105, 106, 107, 108, 109, 110, 111, 112, 113, 114, 115, 116, 117, 118, 119, 120, 121, 122]) = (decide (97 ≤ c) && decide (c ≤ 122)) := by
  rw [Bool.eq_iff_iff]
  simp only [List.mem_cons, List.not_mem_nil, or_false, decide_eq_true_eq, Bool.and_eq_true]
  omega
theorem c_ni_s (x y : Str) : cmpop .notin (.str x) (.str y) = some (!(!(Builtin.Str.occurrences y x 0 y.length 1).isEmpty)) := rfl
theorem fit_chars (cs : List Nat) (p : P → Bool) : fit (.list ((cs.map fun c => PyData.str ⟨#[c]⟩).filter p)) = true := by
  have h1 : ∀ ys : List P, (∀ y ∈ ys, ∃ s, y = .str s) → PyData.plainAll ys = true ∧ PyData.depthAll ys = 0 := by
    intro ys
    induction ys with
    | nil => intro _; exact ⟨rfl, rfl⟩
    | cons y ys ih =>
      intro h
      obtain ⟨s, rfl⟩ := h y List.mem_cons_self
      obtain ⟨h1, h2⟩ := ih fun z hz => h z (List.mem_cons_of_mem _ hz)
      refine ⟨?_, ?_⟩
      · rw [PyData.plainAll, h1]; rfl
      · rw [PyData.depthAll, h2]; rfl
  obtain ⟨a, b⟩ := h1 ((cs.map fun c => PyData.str ⟨#[c]⟩).filter p) fun y hy => by
    obtain ⟨c, _, rfl⟩ := List.mem_map.mp (List.mem_filter.mp hy).1
    exact ⟨_, rfl⟩
  unfold fit
  rw [PyData.plain, PyData.depth, a, b]
  rfl
theorem sem_lawLabel {v : P} (hv : small v = true) : fin st.length (evSs Φ t_law_is_label [some (.py v), none] st) = ok1 (.bool (isLabel v)) st := by
  unfold t_law_is_label
  cases v with
  | str s =>
    have hs : s.length ≤ 1000 := by rw [small] at hv; exact of_decide_eq_true hv
    have hl : (s.cps.toList.map fun c => PyData.str ⟨#[c]⟩).length = s.length := by rw [List.length_map]; rfl
    have hc : ∀ st, evE Φ [some (.py (.str s)), none] (.comp (.var 1) (.one 1) .seq [(.var 0)] [(.cmp .notin (.var 1) (.const (.str ⟨#[97, 98, 99, 100, 101, 102, 103, 104, 105, 106, 107, 108, 109, 110, 111, 112, 113, 114, 115, 116, 117, 118, 119, 120, 121, 122]⟩)))]) st =
        .ok (.nl ((s.cps.toList.map fun c => PyData.str ⟨#[c]⟩).filter fun y => match y with | .str z => (match z.cps.toList with | [c] => !(decide (97 ≤ c) && decide (c ≤ 122)) | _ => false) | _ => false)) st := fun st => by
      refine comp_filter _ (ds := [.py (.str s)]) (by simp only [v_nil, v_cons, v_for, v_asg, v_par, v_unp, v_setI, v_expr, v_ret, v_ife, v_pass, e_var, e_const, e_tup, e_lst, e_bin, e_negc, e_not, e_and, e_or, e_cmp, e_chain, e_ife, e_idx, e_slc, e_call, e_isi, e_blt, evDs, evPar, evAnd, x_bind, x_then, ok_bind, ok_then, nx_then, rt_then, np_imp, np_nl, np_py, ni_imp, ni_py, ni_nl, nb_imp, nb_py, no_none, no_int, no_intp, fz_imp, fz_im, fz_nl, im_py, im_imp, ok_imp, dm_nil, dm_one, dm_two, dr_py, tp_nil, tp_cons, ck_true, fin_rt, fin_nx, tr_imp, tr_nl, st_im, st_imp, st_nl, st_nlt, un_imp, b_len, b_all, b_any, b_max, b_min, b_int, b_intb, b_ll, b_lt, b_tl, b_tt, len_l, len_t, it_sl, it_st, it_ss, ty_str, ty_tup, c_le, c_ge, c_lt, c_gt, c_eqi, c_nei, c_eqs, c_nes, c_eqb, c_isb, c_isnb, o_add, o_sub, idx_t, idx_l, at0, at1, at2, at3, Bool.not_true, Bool.not_false, Bool.true_and, Bool.false_and, tgSlots, wipeE, bindT, List.getElem?_cons_zero, List.getElem?_cons_succ, List.set_cons_zero, List.set_cons_succ, Option.map_some, if_true, Bool.false_eq_true, if_false]) (by simp only [v_nil, v_cons, v_for, v_asg, v_par, v_unp, v_setI, v_expr, v_ret, v_ife, v_pass, e_var, e_const, e_tup, e_lst, e_bin, e_negc, e_not, e_and, e_or, e_cmp, e_chain, e_ife, e_idx, e_slc, e_call, e_isi, e_blt, evDs, evPar, evAnd, x_bind, x_then, ok_bind, ok_then, nx_then, rt_then, np_imp, np_nl, np_py, ni_imp, ni_py, ni_nl, nb_imp, nb_py, no_none, no_int, no_intp, fz_imp, fz_im, fz_nl, im_py, im_imp, ok_imp, dm_nil, dm_one, dm_two, dr_py, tp_nil, tp_cons, ck_true, fin_rt, fin_nx, tr_imp, tr_nl, st_im, st_imp, st_nl, st_nlt, un_imp, b_len, b_all, b_any, b_max, b_min, b_int, b_intb, b_ll, b_lt, b_tl, b_tt, len_l, len_t, it_sl, it_st, it_ss, ty_str, ty_tup, c_le, c_ge, c_lt, c_gt, c_eqi, c_nei, c_eqs, c_nes, c_eqb, c_isb, c_isnb, o_add, o_sub, idx_t, idx_l, at0, at1, at2, at3, Bool.not_true, Bool.not_false, Bool.true_and, Bool.false_and, tgSlots, wipeE, bindT, List.getElem?_cons_zero, List.getElem?_cons_succ, List.set_cons_zero, List.set_cons_succ, Option.map_some, if_true, Bool.false_eq_true, if_false]) (fun y hy st => ?_) (by rw [hl]; exact Nat.le_trans hs (by decide))
      obtain ⟨c, _, rfl⟩ := List.mem_map.mp hy
      refine turn_if (env1 := [some (.py (.str s)), some (.py (.str ⟨#[c]⟩))]) (by simp only [v_nil, v_cons, v_for, v_asg, v_par, v_unp, v_setI, v_expr, v_ret, v_ife, v_pass, e_var, e_const, e_tup, e_lst, e_bin, e_negc, e_not, e_and, e_or, e_cmp, e_chain, e_ife, e_idx, e_slc, e_call, e_isi, e_blt, evDs, evPar, evAnd, x_bind, x_then, ok_bind, ok_then, nx_then, rt_then, np_imp, np_nl, np_py, ni_imp, ni_py, ni_nl, nb_imp, nb_py, no_none, no_int, no_intp, fz_imp, fz_im, fz_nl, im_py, im_imp, ok_imp, dm_nil, dm_one, dm_two, dr_py, tp_nil, tp_cons, ck_true, fin_rt, fin_nx, tr_imp, tr_nl, st_im, st_imp, st_nl, st_nlt, un_imp, b_len, b_all, b_any, b_max, b_min, b_int, b_intb, b_ll, b_lt, b_tl, b_tt, len_l, len_t, it_sl, it_st, it_ss, ty_str, ty_tup, c_le, c_ge, c_lt, c_gt, c_eqi, c_nei, c_eqs, c_nes, c_eqb, c_isb, c_isnb, o_add, o_sub, idx_t, idx_l, at0, at1, at2, at3, Bool.not_true, Bool.not_false, Bool.true_and, Bool.false_and, tgSlots, wipeE, bindT, List.getElem?_cons_zero, List.getElem?_cons_succ, List.set_cons_zero, List.set_cons_succ, Option.map_some, if_true, Bool.false_eq_true, if_false]) ?_ (fun _ => by simp only [v_nil, v_cons, v_for, v_asg, v_par, v_unp, v_setI, v_expr, v_ret, v_ife, v_pass, e_var, e_const, e_tup, e_lst, e_bin, e_negc, e_not, e_and, e_or, e_cmp, e_chain, e_ife, e_idx, e_slc, e_call, e_isi, e_blt, evDs, evPar, evAnd, x_bind, x_then, ok_bind, ok_then, nx_then, rt_then, np_imp, np_nl, np_py, ni_imp, ni_py, ni_nl, nb_imp, nb_py, no_none, no_int, no_intp, fz_imp, fz_im, fz_nl, im_py, im_imp, ok_imp, dm_nil, dm_one, dm_two, dr_py, tp_nil, tp_cons, ck_true, fin_rt, fin_nx, tr_imp, tr_nl, st_im, st_imp, st_nl, st_nlt, un_imp, b_len, b_all, b_any, b_max, b_min, b_int, b_intb, b_ll, b_lt, b_tl, b_tt, len_l, len_t, it_sl, it_st, it_ss, ty_str, ty_tup, c_le, c_ge, c_lt, c_gt, c_eqi, c_nei, c_eqs, c_nes, c_eqb, c_isb, c_isnb, o_add, o_sub, idx_t, idx_l, at0, at1, at2, at3, Bool.not_true, Bool.not_false, Bool.true_and, Bool.false_and, tgSlots, wipeE, bindT, List.getElem?_cons_zero, List.getElem?_cons_succ, List.set_cons_zero, List.set_cons_succ, Option.map_some, if_true, Bool.false_eq_true, if_false])
      simp only [v_nil, v_cons, v_for, v_asg, v_par, v_unp, v_setI, v_expr, v_ret, v_ife, v_pass, e_var, e_const, e_tup, e_lst, e_bin, e_negc, e_not, e_and, e_or, e_cmp, e_chain, e_ife, e_idx, e_slc, e_call, e_isi, e_blt, evDs, evPar, evAnd, x_bind, x_then, ok_bind, ok_then, nx_then, rt_then, np_imp, np_nl, np_py, ni_imp, ni_py, ni_nl, nb_imp, nb_py, no_none, no_int, no_intp, fz_imp, fz_im, fz_nl, im_py, im_imp, ok_imp, dm_nil, dm_one, dm_two, dr_py, tp_nil, tp_cons, ck_true, fin_rt, fin_nx, tr_imp, tr_nl, st_im, st_imp, st_nl, st_nlt, un_imp, b_len, b_all, b_any, b_max, b_min, b_int, b_intb, b_ll, b_lt, b_tl, b_tt, len_l, len_t, it_sl, it_st, it_ss, ty_str, ty_tup, c_le, c_ge, c_lt, c_gt, c_eqi, c_nei, c_eqs, c_nes, c_eqb, c_isb, c_isnb, o_add, o_sub, idx_t, idx_l, at0, at1, at2, at3, Bool.not_true, Bool.not_false, Bool.true_and, Bool.false_and, tgSlots, wipeE, bindT, List.getElem?_cons_zero, List.getElem?_cons_succ, List.set_cons_zero, List.set_cons_succ, Option.map_some, if_true, Bool.false_eq_true, if_false, c_ni_s, StrLaws.found_one]
      rw [alpha]
    have h1 : decide ((1 : Int) ≤ ((s.length : Nat) : Int)) = decide (1 ≤ s.length) := decide_eq_decide.mpr (by omega)
    have h2 : decide (((s.length : Nat) : Int) ≤ 8) = decide (s.length ≤ 8) := decide_eq_decide.mpr (by omega)
    simp only [v_nil, v_cons, v_for, v_asg, v_par, v_unp, v_setI, v_expr, v_ret, v_ife, v_pass, e_var, e_const, e_tup, e_lst, e_bin, e_negc, e_not, e_and, e_or, e_cmp, e_chain, e_ife, e_idx, e_slc, e_call, e_isi, e_blt, evDs, evPar, evAnd, x_bind, x_then, ok_bind, ok_then, nx_then, rt_then, np_imp, np_nl, np_py, ni_imp, ni_py, ni_nl, nb_imp, nb_py, no_none, no_int, no_intp, fz_imp, fz_im, fz_nl, im_py, im_imp, ok_imp, dm_nil, dm_one, dm_two, dr_py, tp_nil, tp_cons, ck_true, fin_rt, fin_nx, tr_imp, tr_nl, st_im, st_imp, st_nl, st_nlt, un_imp, b_len, b_all, b_any, b_max, b_min, b_int, b_intb, b_ll, b_lt, b_tl, b_tt, len_l, len_t, it_sl, it_st, it_ss, ty_str, ty_tup, c_le, c_ge, c_lt, c_gt, c_eqi, c_nei, c_eqs, c_nes, c_eqb, c_isb, c_isnb, o_add, o_sub, idx_t, idx_l, at0, at1, at2, at3, Bool.not_true, Bool.not_false, Bool.true_and, Bool.false_and, tgSlots, wipeE, bindT, List.getElem?_cons_zero, List.getElem?_cons_succ, List.set_cons_zero, List.set_cons_succ, Option.map_some, if_true, Bool.false_eq_true, if_false, lenP_str hs, hc, isLabel, h1, h2, c_eqe _ (fit_chars _ _)]
    generalize decide (1 ≤ s.length) = b1
    generalize decide (s.length ≤ 8) = b2
    cases b1 <;> cases b2 <;> simp only [v_nil, v_cons, v_for, v_asg, v_par, v_unp, v_setI, v_expr, v_ret, v_ife, v_pass, e_var, e_const, e_tup, e_lst, e_bin, e_negc, e_not, e_and, e_or, e_cmp, e_chain, e_ife, e_idx, e_slc, e_call, e_isi, e_blt, evDs, evPar, evAnd, x_bind, x_then, ok_bind, ok_then, nx_then, rt_then, np_imp, np_nl, np_py, ni_imp, ni_py, ni_nl, nb_imp, nb_py, no_none, no_int, no_intp, fz_imp, fz_im, fz_nl, im_py, im_imp, ok_imp, dm_nil, dm_one, dm_two, dr_py, tp_nil, tp_cons, ck_true, fin_rt, fin_nx, tr_imp, tr_nl, st_im, st_imp, st_nl, st_nlt, un_imp, b_len, b_all, b_any, b_max, b_min, b_int, b_intb, b_ll, b_lt, b_tl, b_tt, len_l, len_t, it_sl, it_st, it_ss, ty_str, ty_tup, c_le, c_ge, c_lt, c_gt, c_eqi, c_nei, c_eqs, c_nes, c_eqb, c_isb, c_isnb, o_add, o_sub, idx_t, idx_l, at0, at1, at2, at3, Bool.not_true, Bool.not_false, Bool.true_and, Bool.false_and, tgSlots, wipeE, bindT, List.getElem?_cons_zero, List.getElem?_cons_succ, List.set_cons_zero, List.set_cons_succ, Option.map_some, if_true, Bool.false_eq_true, if_false, hc, List.length_nil, show (0 : Nat) ≤ SZ from Nat.zero_le _, decide_true, c_eqe _ (fit_chars _ _)]
    congr 2
    rw [Bool.eq_iff_iff, List.isEmpty_iff, List.filter_eq_nil_iff, List.all_eq_true]
    simp
  | _ => simp only [v_nil, v_cons, v_for, v_asg, v_par, v_unp, v_setI, v_expr, v_ret, v_ife, v_pass, e_var, e_const, e_tup, e_lst, e_bin, e_negc, e_not, e_and, e_or, e_cmp, e_chain, e_ife, e_idx, e_slc, e_call, e_isi, e_blt, evDs, evPar, evAnd, x_bind, x_then, ok_bind, ok_then, nx_then, rt_then, np_imp, np_nl, np_py, ni_imp, ni_py, ni_nl, nb_imp, nb_py, no_none, no_int, no_intp, fz_imp, fz_im, fz_nl, im_py, im_imp, ok_imp, dm_nil, dm_one, dm_two, dr_py, tp_nil, tp_cons, ck_true, fin_rt, fin_nx, tr_imp, tr_nl, st_im, st_imp, st_nl, st_nlt, un_imp, b_len, b_all, b_any, b_max, b_min, b_int, b_intb, b_ll, b_lt, b_tl, b_tt, len_l, len_t, it_sl, it_st, it_ss, ty_str, ty_tup, c_le, c_ge, c_lt, c_gt, c_eqi, c_nei, c_eqs, c_nes, c_eqb, c_isb, c_isnb, o_add, o_sub, idx_t, idx_l, at0, at1, at2, at3, Bool.not_true, Bool.not_false, Bool.true_and, Bool.false_and, tgSlots, wipeE, bindT, List.getElem?_cons_zero, List.getElem?_cons_succ, List.set_cons_zero, List.set_cons_succ, Option.map_some, if_true, Bool.false_eq_true, if_false, isTy, isLabel]
/-! lists that are empty -/
theorem fit_of_depth {ys : List P} (h : ∀ y ∈ ys, y.plain = true ∧ y.depth ≤ 99) : fit (.list ys) = true := by
  have h1 : ∀ ys : List P, (∀ y ∈ ys, y.plain = true ∧ y.depth ≤ 99) → PyData.plainAll ys = true ∧ PyData.depthAll ys ≤ 99 := by
    intro ys
    induction ys with
    | nil => intro _; exact ⟨rfl, by rw [PyData.depthAll]; omega⟩
    | cons y ys ih =>
      intro h
      obtain ⟨a, b⟩ := h y List.mem_cons_self
      obtain ⟨h1, h2⟩ := ih fun z hz => h z (List.mem_cons_of_mem _ hz)
      refine ⟨?_, ?_⟩
      · rw [PyData.plainAll, a, h1]; rfl
      · rw [PyData.depthAll]; omega
  obtain ⟨a, b⟩ := h1 ys h
  unfold fit
  rw [PyData.plain, PyData.depth, a, Bool.true_and]
  exact decide_eq_true (by omega)
theorem fit_ints (ys : List P) (h : ∀ y ∈ ys, ∃ i, y = .int i) : fit (.list ys) = true := fit_of_depth fun y hy => by
  obtain ⟨i, rfl⟩ := h y hy
  exact ⟨rfl, by rw [PyData.depth]; omega⟩
theorem emptyFilter {α : Type} (p : α → Bool) (ys : List α) : (ys.filter p).isEmpty = ys.all fun y => !p y := by
  rw [Bool.eq_iff_iff, List.isEmpty_iff, List.filter_eq_nil_iff, List.all_eq_true]
  simp
theorem sem_lawClimbs {v : P} {xs : List P} (hv : v = .list xs ∨ v = .tuple xs) (hr : RowOk xs) (hz : xs.length ≤ 1000000) : fin st.length (evSs Φ t_law_climbs [some (.py v), none] st) = ok1 (.bool (asc xs)) st := by
  unfold t_law_climbs
  have hlen : lenP v = some xs.length := by rcases hv with rfl | rfl <;> rfl
  have hix : ∀ i, idxop v (.int i) = L2.atI xs i := fun i => by rcases hv with rfl | rfl <;> rfl
  have hn : (((xs.length : Nat) : Int) - 1).toNat = xs.length - 1 := by omega
  have hc : ∀ st, evE Φ [some (.py v), none] (.comp (.var 1) (.one 1) .rng2 [(.const (.int 1)), (.blt .len [(.var 0)])] [(.cmp .ge (.idx (.var 0) (.bin .sub (.var 1) (.const (.int 1)))) (.idx (.var 0) (.var 1)))]) st =
      .ok (.nl ((List.range (xs.length - 1)).filterMap fun i => if !PySem.W.dataLt (xs.getD i .none) (xs.getD (i + 1) .none) then some (.int (1 + (i : Int))) else none)) st := fun st => by
    refine comp_gen (ds := [.py (.int 1), .py (.int xs.length)]) (fun (i : Nat) => .int (1 + (i : Int))) _ (List.range (xs.length - 1)) (by simp only [v_nil, v_cons, v_for, v_asg, v_par, v_unp, v_setI, v_expr, v_ret, v_ife, v_pass, e_var, e_const, e_tup, e_lst, e_bin, e_negc, e_not, e_and, e_or, e_cmp, e_chain, e_ife, e_idx, e_slc, e_call, e_isi, e_blt, evDs, evPar, evAnd, x_bind, x_then, ok_bind, ok_then, nx_then, rt_then, np_imp, np_nl, np_py, ni_imp, ni_py, ni_nl, nb_imp, nb_py, no_none, no_int, no_intp, fz_imp, fz_im, fz_nl, im_py, im_imp, ok_imp, dm_nil, dm_one, dm_two, dr_py, tp_nil, tp_cons, ck_true, fin_rt, fin_nx, tr_imp, tr_nl, st_im, st_imp, st_nl, st_nlt, un_imp, b_len, b_all, b_any, b_max, b_min, b_int, b_intb, b_ll, b_lt, b_tl, b_tt, len_l, len_t, it_sl, it_st, it_ss, ty_str, ty_tup, c_le, c_ge, c_lt, c_gt, c_eqi, c_nei, c_eqs, c_nes, c_eqb, c_isb, c_isnb, o_add, o_sub, idx_t, idx_l, at0, at1, at2, at3, Bool.not_true, Bool.not_false, Bool.true_and, Bool.false_and, tgSlots, wipeE, bindT, List.getElem?_cons_zero, List.getElem?_cons_succ, List.set_cons_zero, List.set_cons_succ, Option.map_some, if_true, Bool.false_eq_true, if_false, hlen]) ?_ (fun i hi st => ?_) ?_
    · rw [it_r2 _ _ (by omega), hn]
    · rw [List.mem_range] at hi
      have h1 : i < xs.length := by omega
      have h2 : i + 1 < xs.length := by omega
      refine turn_if (env1 := [some (.py v), some (.py (.int (1 + (i : Int))))]) (by simp only [v_nil, v_cons, v_for, v_asg, v_par, v_unp, v_setI, v_expr, v_ret, v_ife, v_pass, e_var, e_const, e_tup, e_lst, e_bin, e_negc, e_not, e_and, e_or, e_cmp, e_chain, e_ife, e_idx, e_slc, e_call, e_isi, e_blt, evDs, evPar, evAnd, x_bind, x_then, ok_bind, ok_then, nx_then, rt_then, np_imp, np_nl, np_py, ni_imp, ni_py, ni_nl, nb_imp, nb_py, no_none, no_int, no_intp, fz_imp, fz_im, fz_nl, im_py, im_imp, ok_imp, dm_nil, dm_one, dm_two, dr_py, tp_nil, tp_cons, ck_true, fin_rt, fin_nx, tr_imp, tr_nl, st_im, st_imp, st_nl, st_nlt, un_imp, b_len, b_all, b_any, b_max, b_min, b_int, b_intb, b_ll, b_lt, b_tl, b_tt, len_l, len_t, it_sl, it_st, it_ss, ty_str, ty_tup, c_le, c_ge, c_lt, c_gt, c_eqi, c_nei, c_eqs, c_nes, c_eqb, c_isb, c_isnb, o_add, o_sub, idx_t, idx_l, at0, at1, at2, at3, Bool.not_true, Bool.not_false, Bool.true_and, Bool.false_and, tgSlots, wipeE, bindT, List.getElem?_cons_zero, List.getElem?_cons_succ, List.set_cons_zero, List.set_cons_succ, Option.map_some, if_true, Bool.false_eq_true, if_false]) ?_ (fun _ => by simp only [v_nil, v_cons, v_for, v_asg, v_par, v_unp, v_setI, v_expr, v_ret, v_ife, v_pass, e_var, e_const, e_tup, e_lst, e_bin, e_negc, e_not, e_and, e_or, e_cmp, e_chain, e_ife, e_idx, e_slc, e_call, e_isi, e_blt, evDs, evPar, evAnd, x_bind, x_then, ok_bind, ok_then, nx_then, rt_then, np_imp, np_nl, np_py, ni_imp, ni_py, ni_nl, nb_imp, nb_py, no_none, no_int, no_intp, fz_imp, fz_im, fz_nl, im_py, im_imp, ok_imp, dm_nil, dm_one, dm_two, dr_py, tp_nil, tp_cons, ck_true, fin_rt, fin_nx, tr_imp, tr_nl, st_im, st_imp, st_nl, st_nlt, un_imp, b_len, b_all, b_any, b_max, b_min, b_int, b_intb, b_ll, b_lt, b_tl, b_tt, len_l, len_t, it_sl, it_st, it_ss, ty_str, ty_tup, c_le, c_ge, c_lt, c_gt, c_eqi, c_nei, c_eqs, c_nes, c_eqb, c_isb, c_isnb, o_add, o_sub, idx_t, idx_l, at0, at1, at2, at3, Bool.not_true, Bool.not_false, Bool.true_and, Bool.false_and, tgSlots, wipeE, bindT, List.getElem?_cons_zero, List.getElem?_cons_succ, List.set_cons_zero, List.set_cons_succ, Option.map_some, if_true, Bool.false_eq_true, if_false])
      simp only [v_nil, v_cons, v_for, v_asg, v_par, v_unp, v_setI, v_expr, v_ret, v_ife, v_pass, e_var, e_const, e_tup, e_lst, e_bin, e_negc, e_not, e_and, e_or, e_cmp, e_chain, e_ife, e_idx, e_slc, e_call, e_isi, e_blt, evDs, evPar, evAnd, x_bind, x_then, ok_bind, ok_then, nx_then, rt_then, np_imp, np_nl, np_py, ni_imp, ni_py, ni_nl, nb_imp, nb_py, no_none, no_int, no_intp, fz_imp, fz_im, fz_nl, im_py, im_imp, ok_imp, dm_nil, dm_one, dm_two, dr_py, tp_nil, tp_cons, ck_true, fin_rt, fin_nx, tr_imp, tr_nl, st_im, st_imp, st_nl, st_nlt, un_imp, b_len, b_all, b_any, b_max, b_min, b_int, b_intb, b_ll, b_lt, b_tl, b_tt, len_l, len_t, it_sl, it_st, it_ss, ty_str, ty_tup, c_le, c_ge, c_lt, c_gt, c_eqi, c_nei, c_eqs, c_nes, c_eqb, c_isb, c_isnb, o_add, o_sub, idx_t, idx_l, at0, at1, at2, at3, Bool.not_true, Bool.not_false, Bool.true_and, Bool.false_and, tgSlots, wipeE, bindT, List.getElem?_cons_zero, List.getElem?_cons_succ, List.set_cons_zero, List.set_cons_succ, Option.map_some, if_true, Bool.false_eq_true, if_false, hix]
      rw [show (1 : Int) + (i : Int) - 1 = ((i : Nat) : Int) from by omega, show (1 : Int) + (i : Int) = ((i + 1 : Nat) : Int) from by omega]
      simp only [atI_nat h1, atI_nat h2, v_nil, v_cons, v_for, v_asg, v_par, v_unp, v_setI, v_expr, v_ret, v_ife, v_pass, e_var, e_const, e_tup, e_lst, e_bin, e_negc, e_not, e_and, e_or, e_cmp, e_chain, e_ife, e_idx, e_slc, e_call, e_isi, e_blt, evDs, evPar, evAnd, x_bind, x_then, ok_bind, ok_then, nx_then, rt_then, np_imp, np_nl, np_py, ni_imp, ni_py, ni_nl, nb_imp, nb_py, no_none, no_int, no_intp, fz_imp, fz_im, fz_nl, im_py, im_imp, ok_imp, dm_nil, dm_one, dm_two, dr_py, tp_nil, tp_cons, ck_true, fin_rt, fin_nx, tr_imp, tr_nl, st_im, st_imp, st_nl, st_nlt, un_imp, b_len, b_all, b_any, b_max, b_min, b_int, b_intb, b_ll, b_lt, b_tl, b_tt, len_l, len_t, it_sl, it_st, it_ss, ty_str, ty_tup, c_le, c_ge, c_lt, c_gt, c_eqi, c_nei, c_eqs, c_nes, c_eqb, c_isb, c_isnb, o_add, o_sub, idx_t, idx_l, at0, at1, at2, at3, Bool.not_true, Bool.not_false, Bool.true_and, Bool.false_and, tgSlots, wipeE, bindT, List.getElem?_cons_zero, List.getElem?_cons_succ, List.set_cons_zero, List.set_cons_succ, Option.map_some, if_true, Bool.false_eq_true, if_false, hr.ge (List.getElem_mem h1) (List.getElem_mem h2), getD_of h1, getD_of h2]
    · rw [List.length_range]
      exact Nat.le_trans (by omega) sz_big
  have hfit : fit (.list ((List.range (xs.length - 1)).filterMap fun i => if !PySem.W.dataLt (xs.getD i .none) (xs.getD (i + 1) .none) then some (PyData.int (1 + (i : Int))) else none)) = true := by
    refine fit_ints _ fun y hy => ?_
    obtain ⟨i, _, h⟩ := List.mem_filterMap.mp hy
    split at h
    · exact ⟨_, (Option.some.inj h).symm⟩
    · cases h
  simp only [v_nil, v_cons, v_for, v_asg, v_par, v_unp, v_setI, v_expr, v_ret, v_ife, v_pass, e_var, e_const, e_tup, e_lst, e_bin, e_negc, e_not, e_and, e_or, e_cmp, e_chain, e_ife, e_idx, e_slc, e_call, e_isi, e_blt, evDs, evPar, evAnd, x_bind, x_then, ok_bind, ok_then, nx_then, rt_then, np_imp, np_nl, np_py, ni_imp, ni_py, ni_nl, nb_imp, nb_py, no_none, no_int, no_intp, fz_imp, fz_im, fz_nl, im_py, im_imp, ok_imp, dm_nil, dm_one, dm_two, dr_py, tp_nil, tp_cons, ck_true, fin_rt, fin_nx, tr_imp, tr_nl, st_im, st_imp, st_nl, st_nlt, un_imp, b_len, b_all, b_any, b_max, b_min, b_int, b_intb, b_ll, b_lt, b_tl, b_tt, len_l, len_t, it_sl, it_st, it_ss, ty_str, ty_tup, c_le, c_ge, c_lt, c_gt, c_eqi, c_nei, c_eqs, c_nes, c_eqb, c_isb, c_isnb, o_add, o_sub, idx_t, idx_l, at0, at1, at2, at3, Bool.not_true, Bool.not_false, Bool.true_and, Bool.false_and, tgSlots, wipeE, bindT, List.getElem?_cons_zero, List.getElem?_cons_succ, List.set_cons_zero, List.set_cons_succ, Option.map_some, if_true, Bool.false_eq_true, if_false, hc, List.length_nil, show (0 : Nat) ≤ SZ from Nat.zero_le _, decide_true, c_eqe _ hfit]
  congr 2
  unfold asc
  rw [Bool.eq_iff_iff, List.isEmpty_iff, List.filterMap_eq_nil_iff, List.all_eq_true]
  constructor
  · intro h i hi
    have := h i hi
    cases hd : PySem.W.dataLt (xs.getD i .none) (xs.getD (i + 1) .none) with
    | true => rfl
    | false => rw [hd] at this; simp at this
  · intro h i hi
    rw [h i hi]; rfl
theorem depthAll_mem : ∀ {xs : List P} {n : Nat}, PyData.plainAll xs = true → PyData.depthAll xs ≤ n → ∀ x ∈ xs, x.plain = true ∧ x.depth ≤ n
  | [], n, _, _, x, hx => by simp at hx
  | y :: ys, n, h1, h2, x, hx => by
    rw [PyData.plainAll, Bool.and_eq_true] at h1
    rw [PyData.depthAll] at h2
    rcases List.mem_cons.mp hx with e | hx
    · rw [e]; exact ⟨h1.1, by omega⟩
    · exact depthAll_mem h1.2 (by omega) x hx
theorem fit_tup {vs : List P} (h : fit (.tuple vs) = true) : ∀ y ∈ vs, y.plain = true ∧ y.depth ≤ 99 := by
  obtain ⟨h1, h2⟩ := fit_of h
  rw [PyData.plain] at h1
  rw [PyData.depth] at h2
  exact depthAll_mem h1 (by omega)
theorem fit_mem {vs : List P} (h : fit (.tuple vs) = true) {y : P} (hy : y ∈ vs) : fit y = true := by
  obtain ⟨h1, h2⟩ := fit_tup h y hy
  unfold fit
  rw [h1, Bool.true_and]
  exact decide_eq_true (by omega)
theorem fit_filter {vs : List P} (h : fit (.tuple vs) = true) (p : P → Bool) : fit (.list (vs.filter p)) = true := fit_of_depth fun y hy => fit_tup h y (List.mem_filter.mp hy).1
def ClimbF (Φ : Nat → List D → Sto → R Rv) (i : Nat) : Prop := AscF Φ i
theorem notIn_oneOf {ns : List P} (hs : Strs ns) (y : P) (st : Sto) (env : Ev) (i j : Nat) (hi : env[i]? = some (some (.py y))) (W : P) (hW : W = .list ns) (hj : env[j]? = some (some (.py W))) :
    evE Φ env (.or (.not (.isi .str (.var i))) (.cmp .notin (.var i) (.var j))) st = ok1 (.bool (!oneOf ns y)) st := by
  subst hW
  cases y with
  | str s => simp only [v_nil, v_cons, v_for, v_asg, v_par, v_unp, v_setI, v_expr, v_ret, v_ife, v_pass, e_var, e_const, e_tup, e_lst, e_bin, e_negc, e_not, e_and, e_or, e_cmp, e_chain, e_ife, e_idx, e_slc, e_call, e_isi, e_blt, evDs, evPar, evAnd, x_bind, x_then, ok_bind, ok_then, nx_then, rt_then, np_imp, np_nl, np_py, ni_imp, ni_py, ni_nl, nb_imp, nb_py, no_none, no_int, no_intp, fz_imp, fz_im, fz_nl, im_py, im_imp, ok_imp, dm_nil, dm_one, dm_two, dr_py, tp_nil, tp_cons, ck_true, fin_rt, fin_nx, tr_imp, tr_nl, st_im, st_imp, st_nl, st_nlt, un_imp, b_len, b_all, b_any, b_max, b_min, b_int, b_intb, b_ll, b_lt, b_tl, b_tt, len_l, len_t, it_sl, it_st, it_ss, ty_str, ty_tup, c_le, c_ge, c_lt, c_gt, c_eqi, c_nei, c_eqs, c_nes, c_eqb, c_isb, c_isnb, o_add, o_sub, idx_t, idx_l, at0, at1, at2, at3, Bool.not_true, Bool.not_false, Bool.true_and, Bool.false_and, tgSlots, wipeE, bindT, List.getElem?_cons_zero, List.getElem?_cons_succ, List.set_cons_zero, List.set_cons_succ, Option.map_some, if_true, Bool.false_eq_true, if_false, hi, hj, c_ni_l _ _ (fit_str s) hs.fit, oneOf]
  | _ => simp only [v_nil, v_cons, v_for, v_asg, v_par, v_unp, v_setI, v_expr, v_ret, v_ife, v_pass, e_var, e_const, e_tup, e_lst, e_bin, e_negc, e_not, e_and, e_or, e_cmp, e_chain, e_ife, e_idx, e_slc, e_call, e_isi, e_blt, evDs, evPar, evAnd, x_bind, x_then, ok_bind, ok_then, nx_then, rt_then, np_imp, np_nl, np_py, ni_imp, ni_py, ni_nl, nb_imp, nb_py, no_none, no_int, no_intp, fz_imp, fz_im, fz_nl, im_py, im_imp, ok_imp, dm_nil, dm_one, dm_two, dr_py, tp_nil, tp_cons, ck_true, fin_rt, fin_nx, tr_imp, tr_nl, st_im, st_imp, st_nl, st_nlt, un_imp, b_len, b_all, b_any, b_max, b_min, b_int, b_intb, b_ll, b_lt, b_tl, b_tt, len_l, len_t, it_sl, it_st, it_ss, ty_str, ty_tup, c_le, c_ge, c_lt, c_gt, c_eqi, c_nei, c_eqs, c_nes, c_eqb, c_isb, c_isnb, o_add, o_sub, idx_t, idx_l, at0, at1, at2, at3, Bool.not_true, Bool.not_false, Bool.true_and, Bool.false_and, tgSlots, wipeE, bindT, List.getElem?_cons_zero, List.getElem?_cons_succ, List.set_cons_zero, List.set_cons_succ, Option.map_some, if_true, Bool.false_eq_true, if_false, hi, isTy, oneOf]
theorem sem_lawAreOf {i1 : Nat} (h1 : AscF Φ i1) {v : P} {ns : List P} (hs : Strs ns) (hv : small v = true) (hf : fit v = true) :
    fin st.length (evSs Φ (t_law_are_of i1) [some (.py (.list ns)), some (.py v), none] st) = ok1 (.bool (areNames ns v)) st := by
  unfold t_law_are_of
  cases v with
  | tuple vs =>
    obtain ⟨z, _⟩ := small_tup hv
    have hc : ∀ st, evE Φ [some (.py (.list ns)), some (.py (.tuple vs)), none] (.comp (.var 2) (.one 2) .seq [(.var 1)] [(.or (.not (.isi .str (.var 2))) (.cmp .notin (.var 2) (.var 0)))]) st = .ok (.nl (vs.filter fun y => !oneOf ns y)) st := fun st => by
      refine comp_filter _ (ds := [.py (.tuple vs)]) (by simp only [v_nil, v_cons, v_for, v_asg, v_par, v_unp, v_setI, v_expr, v_ret, v_ife, v_pass, e_var, e_const, e_tup, e_lst, e_bin, e_negc, e_not, e_and, e_or, e_cmp, e_chain, e_ife, e_idx, e_slc, e_call, e_isi, e_blt, evDs, evPar, evAnd, x_bind, x_then, ok_bind, ok_then, nx_then, rt_then, np_imp, np_nl, np_py, ni_imp, ni_py, ni_nl, nb_imp, nb_py, no_none, no_int, no_intp, fz_imp, fz_im, fz_nl, im_py, im_imp, ok_imp, dm_nil, dm_one, dm_two, dr_py, tp_nil, tp_cons, ck_true, fin_rt, fin_nx, tr_imp, tr_nl, st_im, st_imp, st_nl, st_nlt, un_imp, b_len, b_all, b_any, b_max, b_min, b_int, b_intb, b_ll, b_lt, b_tl, b_tt, len_l, len_t, it_sl, it_st, it_ss, ty_str, ty_tup, c_le, c_ge, c_lt, c_gt, c_eqi, c_nei, c_eqs, c_nes, c_eqb, c_isb, c_isnb, o_add, o_sub, idx_t, idx_l, at0, at1, at2, at3, Bool.not_true, Bool.not_false, Bool.true_and, Bool.false_and, tgSlots, wipeE, bindT, List.getElem?_cons_zero, List.getElem?_cons_succ, List.set_cons_zero, List.set_cons_succ, Option.map_some, if_true, Bool.false_eq_true, if_false]) (by simp only [v_nil, v_cons, v_for, v_asg, v_par, v_unp, v_setI, v_expr, v_ret, v_ife, v_pass, e_var, e_const, e_tup, e_lst, e_bin, e_negc, e_not, e_and, e_or, e_cmp, e_chain, e_ife, e_idx, e_slc, e_call, e_isi, e_blt, evDs, evPar, evAnd, x_bind, x_then, ok_bind, ok_then, nx_then, rt_then, np_imp, np_nl, np_py, ni_imp, ni_py, ni_nl, nb_imp, nb_py, no_none, no_int, no_intp, fz_imp, fz_im, fz_nl, im_py, im_imp, ok_imp, dm_nil, dm_one, dm_two, dr_py, tp_nil, tp_cons, ck_true, fin_rt, fin_nx, tr_imp, tr_nl, st_im, st_imp, st_nl, st_nlt, un_imp, b_len, b_all, b_any, b_max, b_min, b_int, b_intb, b_ll, b_lt, b_tl, b_tt, len_l, len_t, it_sl, it_st, it_ss, ty_str, ty_tup, c_le, c_ge, c_lt, c_gt, c_eqi, c_nei, c_eqs, c_nes, c_eqb, c_isb, c_isnb, o_add, o_sub, idx_t, idx_l, at0, at1, at2, at3, Bool.not_true, Bool.not_false, Bool.true_and, Bool.false_and, tgSlots, wipeE, bindT, List.getElem?_cons_zero, List.getElem?_cons_succ, List.set_cons_zero, List.set_cons_succ, Option.map_some, if_true, Bool.false_eq_true, if_false]) (fun y hy st => ?_) (Nat.le_trans z sz_big)
      exact turn_if (env1 := [some (.py (.list ns)), some (.py (.tuple vs)), some (.py y)]) (by simp only [v_nil, v_cons, v_for, v_asg, v_par, v_unp, v_setI, v_expr, v_ret, v_ife, v_pass, e_var, e_const, e_tup, e_lst, e_bin, e_negc, e_not, e_and, e_or, e_cmp, e_chain, e_ife, e_idx, e_slc, e_call, e_isi, e_blt, evDs, evPar, evAnd, x_bind, x_then, ok_bind, ok_then, nx_then, rt_then, np_imp, np_nl, np_py, ni_imp, ni_py, ni_nl, nb_imp, nb_py, no_none, no_int, no_intp, fz_imp, fz_im, fz_nl, im_py, im_imp, ok_imp, dm_nil, dm_one, dm_two, dr_py, tp_nil, tp_cons, ck_true, fin_rt, fin_nx, tr_imp, tr_nl, st_im, st_imp, st_nl, st_nlt, un_imp, b_len, b_all, b_any, b_max, b_min, b_int, b_intb, b_ll, b_lt, b_tl, b_tt, len_l, len_t, it_sl, it_st, it_ss, ty_str, ty_tup, c_le, c_ge, c_lt, c_gt, c_eqi, c_nei, c_eqs, c_nes, c_eqb, c_isb, c_isnb, o_add, o_sub, idx_t, idx_l, at0, at1, at2, at3, Bool.not_true, Bool.not_false, Bool.true_and, Bool.false_and, tgSlots, wipeE, bindT, List.getElem?_cons_zero, List.getElem?_cons_succ, List.set_cons_zero, List.set_cons_succ, Option.map_some, if_true, Bool.false_eq_true, if_false]) (notIn_oneOf hs y _ _ 2 0 rfl _ rfl rfl) (fun _ => by simp only [v_nil, v_cons, v_for, v_asg, v_par, v_unp, v_setI, v_expr, v_ret, v_ife, v_pass, e_var, e_const, e_tup, e_lst, e_bin, e_negc, e_not, e_and, e_or, e_cmp, e_chain, e_ife, e_idx, e_slc, e_call, e_isi, e_blt, evDs, evPar, evAnd, x_bind, x_then, ok_bind, ok_then, nx_then, rt_then, np_imp, np_nl, np_py, ni_imp, ni_py, ni_nl, nb_imp, nb_py, no_none, no_int, no_intp, fz_imp, fz_im, fz_nl, im_py, im_imp, ok_imp, dm_nil, dm_one, dm_two, dr_py, tp_nil, tp_cons, ck_true, fin_rt, fin_nx, tr_imp, tr_nl, st_im, st_imp, st_nl, st_nlt, un_imp, b_len, b_all, b_any, b_max, b_min, b_int, b_intb, b_ll, b_lt, b_tl, b_tt, len_l, len_t, it_sl, it_st, it_ss, ty_str, ty_tup, c_le, c_ge, c_lt, c_gt, c_eqi, c_nei, c_eqs, c_nes, c_eqb, c_isb, c_isnb, o_add, o_sub, idx_t, idx_l, at0, at1, at2, at3, Bool.not_true, Bool.not_false, Bool.true_and, Bool.false_and, tgSlots, wipeE, bindT, List.getElem?_cons_zero, List.getElem?_cons_succ, List.set_cons_zero, List.set_cons_succ, Option.map_some, if_true, Bool.false_eq_true, if_false])
    simp only [v_nil, v_cons, v_for, v_asg, v_par, v_unp, v_setI, v_expr, v_ret, v_ife, v_pass, e_var, e_const, e_tup, e_lst, e_bin, e_negc, e_not, e_and, e_or, e_cmp, e_chain, e_ife, e_idx, e_slc, e_call, e_isi, e_blt, evDs, evPar, evAnd, x_bind, x_then, ok_bind, ok_then, nx_then, rt_then, np_imp, np_nl, np_py, ni_imp, ni_py, ni_nl, nb_imp, nb_py, no_none, no_int, no_intp, fz_imp, fz_im, fz_nl, im_py, im_imp, ok_imp, dm_nil, dm_one, dm_two, dr_py, tp_nil, tp_cons, ck_true, fin_rt, fin_nx, tr_imp, tr_nl, st_im, st_imp, st_nl, st_nlt, un_imp, b_len, b_all, b_any, b_max, b_min, b_int, b_intb, b_ll, b_lt, b_tl, b_tt, len_l, len_t, it_sl, it_st, it_ss, ty_str, ty_tup, c_le, c_ge, c_lt, c_gt, c_eqi, c_nei, c_eqs, c_nes, c_eqb, c_isb, c_isnb, o_add, o_sub, idx_t, idx_l, at0, at1, at2, at3, Bool.not_true, Bool.not_false, Bool.true_and, Bool.false_and, tgSlots, wipeE, bindT, List.getElem?_cons_zero, List.getElem?_cons_succ, List.set_cons_zero, List.set_cons_succ, Option.map_some, if_true, Bool.false_eq_true, if_false, hc, List.length_nil, show (0 : Nat) ≤ SZ from Nat.zero_le _, decide_true, c_nee _ (fit_filter hf _), emptyFilter, areNames, Bool.not_not]
    cases hb : vs.all (oneOf ns) with
    | false => simp only [v_nil, v_cons, v_for, v_asg, v_par, v_unp, v_setI, v_expr, v_ret, v_ife, v_pass, e_var, e_const, e_tup, e_lst, e_bin, e_negc, e_not, e_and, e_or, e_cmp, e_chain, e_ife, e_idx, e_slc, e_call, e_isi, e_blt, evDs, evPar, evAnd, x_bind, x_then, ok_bind, ok_then, nx_then, rt_then, np_imp, np_nl, np_py, ni_imp, ni_py, ni_nl, nb_imp, nb_py, no_none, no_int, no_intp, fz_imp, fz_im, fz_nl, im_py, im_imp, ok_imp, dm_nil, dm_one, dm_two, dr_py, tp_nil, tp_cons, ck_true, fin_rt, fin_nx, tr_imp, tr_nl, st_im, st_imp, st_nl, st_nlt, un_imp, b_len, b_all, b_any, b_max, b_min, b_int, b_intb, b_ll, b_lt, b_tl, b_tt, len_l, len_t, it_sl, it_st, it_ss, ty_str, ty_tup, c_le, c_ge, c_lt, c_gt, c_eqi, c_nei, c_eqs, c_nes, c_eqb, c_isb, c_isnb, o_add, o_sub, idx_t, idx_l, at0, at1, at2, at3, Bool.not_true, Bool.not_false, Bool.true_and, Bool.false_and, tgSlots, wipeE, bindT, List.getElem?_cons_zero, List.getElem?_cons_succ, List.set_cons_zero, List.set_cons_succ, Option.map_some, if_true, Bool.false_eq_true, if_false]
    | true => simp only [v_nil, v_cons, v_for, v_asg, v_par, v_unp, v_setI, v_expr, v_ret, v_ife, v_pass, e_var, e_const, e_tup, e_lst, e_bin, e_negc, e_not, e_and, e_or, e_cmp, e_chain, e_ife, e_idx, e_slc, e_call, e_isi, e_blt, evDs, evPar, evAnd, x_bind, x_then, ok_bind, ok_then, nx_then, rt_then, np_imp, np_nl, np_py, ni_imp, ni_py, ni_nl, nb_imp, nb_py, no_none, no_int, no_intp, fz_imp, fz_im, fz_nl, im_py, im_imp, ok_imp, dm_nil, dm_one, dm_two, dr_py, tp_nil, tp_cons, ck_true, fin_rt, fin_nx, tr_imp, tr_nl, st_im, st_imp, st_nl, st_nlt, un_imp, b_len, b_all, b_any, b_max, b_min, b_int, b_intb, b_ll, b_lt, b_tl, b_tt, len_l, len_t, it_sl, it_st, it_ss, ty_str, ty_tup, c_le, c_ge, c_lt, c_gt, c_eqi, c_nei, c_eqs, c_nes, c_eqb, c_isb, c_isnb, o_add, o_sub, idx_t, idx_l, at0, at1, at2, at3, Bool.not_true, Bool.not_false, Bool.true_and, Bool.false_and, tgSlots, wipeE, bindT, List.getElem?_cons_zero, List.getElem?_cons_succ, List.set_cons_zero, List.set_cons_succ, Option.map_some, if_true, Bool.false_eq_true, if_false, h1 (.tuple vs) vs _ (.inr rfl) (.inl (all_oneOf hb)) z]
  | _ => simp only [v_nil, v_cons, v_for, v_asg, v_par, v_unp, v_setI, v_expr, v_ret, v_ife, v_pass, e_var, e_const, e_tup, e_lst, e_bin, e_negc, e_not, e_and, e_or, e_cmp, e_chain, e_ife, e_idx, e_slc, e_call, e_isi, e_blt, evDs, evPar, evAnd, x_bind, x_then, ok_bind, ok_then, nx_then, rt_then, np_imp, np_nl, np_py, ni_imp, ni_py, ni_nl, nb_imp, nb_py, no_none, no_int, no_intp, fz_imp, fz_im, fz_nl, im_py, im_imp, ok_imp, dm_nil, dm_one, dm_two, dr_py, tp_nil, tp_cons, ck_true, fin_rt, fin_nx, tr_imp, tr_nl, st_im, st_imp, st_nl, st_nlt, un_imp, b_len, b_all, b_any, b_max, b_min, b_int, b_intb, b_ll, b_lt, b_tl, b_tt, len_l, len_t, it_sl, it_st, it_ss, ty_str, ty_tup, c_le, c_ge, c_lt, c_gt, c_eqi, c_nei, c_eqs, c_nes, c_eqb, c_isb, c_isnb, o_add, o_sub, idx_t, idx_l, at0, at1, at2, at3, Bool.not_true, Bool.not_false, Bool.true_and, Bool.false_and, tgSlots, wipeE, bindT, List.getElem?_cons_zero, List.getElem?_cons_succ, List.set_cons_zero, List.set_cons_succ, Option.map_some, if_true, Bool.false_eq_true, if_false, isTy, areNames]
theorem sem_lawTool {i0 : Nat} (h0 : LabelF Φ i0) {v : P} (hv : small v = true) : fin st.length (evSs Φ (t_law_is_tool i0) [some (.py v)] st) = ok1 (.bool (isTool v)) st := by
  unfold t_law_is_tool
  cases v with
  | tuple vs =>
    obtain ⟨z, hs⟩ := small_tup hv
    by_cases hl : vs.length = 4
    · rcases vs with _ | ⟨a, _ | ⟨b, _ | ⟨c, _ | ⟨d, _ | ⟨e, vs⟩⟩⟩⟩⟩ <;> try (simp at hl; done)
      have ha : small a = true := hs a (by simp)
      have e3 : (((0 + 1 + 1 + 1 + 1 : Nat) : Int) == 4) = true := rfl
      have hlen : decide ([PyData.str ⟨#[97, 108, 108]⟩, .str ⟨#[110, 101, 119]⟩, .str ⟨#[110, 111]⟩, .str ⟨#[121, 101, 115]⟩].length ≤ SZ) = true := by decide
      simp only [v_nil, v_cons, v_for, v_asg, v_par, v_unp, v_setI, v_expr, v_ret, v_ife, v_pass, e_var, e_const, e_tup, e_lst, e_bin, e_negc, e_not, e_and, e_or, e_cmp, e_chain, e_ife, e_idx, e_slc, e_call, e_isi, e_blt, evDs, evPar, evAnd, x_bind, x_then, ok_bind, ok_then, nx_then, rt_then, np_imp, np_nl, np_py, ni_imp, ni_py, ni_nl, nb_imp, nb_py, no_none, no_int, no_intp, fz_imp, fz_im, fz_nl, im_py, im_imp, ok_imp, dm_nil, dm_one, dm_two, dr_py, tp_nil, tp_cons, ck_true, fin_rt, fin_nx, tr_imp, tr_nl, st_im, st_imp, st_nl, st_nlt, un_imp, b_len, b_all, b_any, b_max, b_min, b_int, b_intb, b_ll, b_lt, b_tl, b_tt, len_l, len_t, it_sl, it_st, it_ss, ty_str, ty_tup, c_le, c_ge, c_lt, c_gt, c_eqi, c_nei, c_eqs, c_nes, c_eqb, c_isb, c_isnb, o_add, o_sub, idx_t, idx_l, at0, at1, at2, at3, Bool.not_true, Bool.not_false, Bool.true_and, Bool.false_and, tgSlots, wipeE, bindT, List.getElem?_cons_zero, List.getElem?_cons_succ, List.set_cons_zero, List.set_cons_succ, Option.map_some, if_true, Bool.false_eq_true, if_false, List.length_cons, List.length_nil, h0 a _ ha, e3, isTool]
      cases isLabel a <;> simp only [v_nil, v_cons, v_for, v_asg, v_par, v_unp, v_setI, v_expr, v_ret, v_ife, v_pass, e_var, e_const, e_tup, e_lst, e_bin, e_negc, e_not, e_and, e_or, e_cmp, e_chain, e_ife, e_idx, e_slc, e_call, e_isi, e_blt, evDs, evPar, evAnd, x_bind, x_then, ok_bind, ok_then, nx_then, rt_then, np_imp, np_nl, np_py, ni_imp, ni_py, ni_nl, nb_imp, nb_py, no_none, no_int, no_intp, fz_imp, fz_im, fz_nl, im_py, im_imp, ok_imp, dm_nil, dm_one, dm_two, dr_py, tp_nil, tp_cons, ck_true, fin_rt, fin_nx, tr_imp, tr_nl, st_im, st_imp, st_nl, st_nlt, un_imp, b_len, b_all, b_any, b_max, b_min, b_int, b_intb, b_ll, b_lt, b_tl, b_tt, len_l, len_t, it_sl, it_st, it_ss, ty_str, ty_tup, c_le, c_ge, c_lt, c_gt, c_eqi, c_nei, c_eqs, c_nes, c_eqb, c_isb, c_isnb, o_add, o_sub, idx_t, idx_l, at0, at1, at2, at3, Bool.not_true, Bool.not_false, Bool.true_and, Bool.false_and, tgSlots, wipeE, bindT, List.getElem?_cons_zero, List.getElem?_cons_succ, List.set_cons_zero, List.set_cons_succ, Option.map_some, if_true, Bool.false_eq_true, if_false]
      have hr := rules_strs
      have hrf := hr.fit
      unfold RULES at hrf ⊢
      cases b with
      | str s =>
        simp only [v_nil, v_cons, v_for, v_asg, v_par, v_unp, v_setI, v_expr, v_ret, v_ife, v_pass, e_var, e_const, e_tup, e_lst, e_bin, e_negc, e_not, e_and, e_or, e_cmp, e_chain, e_ife, e_idx, e_slc, e_call, e_isi, e_blt, evDs, evPar, evAnd, x_bind, x_then, ok_bind, ok_then, nx_then, rt_then, np_imp, np_nl, np_py, ni_imp, ni_py, ni_nl, nb_imp, nb_py, no_none, no_int, no_intp, fz_imp, fz_im, fz_nl, im_py, im_imp, ok_imp, dm_nil, dm_one, dm_two, dr_py, tp_nil, tp_cons, ck_true, fin_rt, fin_nx, tr_imp, tr_nl, st_im, st_imp, st_nl, st_nlt, un_imp, b_len, b_all, b_any, b_max, b_min, b_int, b_intb, b_ll, b_lt, b_tl, b_tt, len_l, len_t, it_sl, it_st, it_ss, ty_str, ty_tup, c_le, c_ge, c_lt, c_gt, c_eqi, c_nei, c_eqs, c_nes, c_eqb, c_isb, c_isnb, o_add, o_sub, idx_t, idx_l, at0, at1, at2, at3, Bool.not_true, Bool.not_false, Bool.true_and, Bool.false_and, tgSlots, wipeE, bindT, List.getElem?_cons_zero, List.getElem?_cons_succ, List.set_cons_zero, List.set_cons_succ, Option.map_some, if_true, Bool.false_eq_true, if_false, hlen, List.length_cons, List.length_nil, c_ni_t _ _ (fit_str s) hrf, oneOf, show decide (0 + 1 + 1 + 1 + 1 ≤ SZ) = true from by decide]
        generalize (List.any _ _) = bb
        cases bb <;> simp only [v_nil, v_cons, v_for, v_asg, v_par, v_unp, v_setI, v_expr, v_ret, v_ife, v_pass, e_var, e_const, e_tup, e_lst, e_bin, e_negc, e_not, e_and, e_or, e_cmp, e_chain, e_ife, e_idx, e_slc, e_call, e_isi, e_blt, evDs, evPar, evAnd, x_bind, x_then, ok_bind, ok_then, nx_then, rt_then, np_imp, np_nl, np_py, ni_imp, ni_py, ni_nl, nb_imp, nb_py, no_none, no_int, no_intp, fz_imp, fz_im, fz_nl, im_py, im_imp, ok_imp, dm_nil, dm_one, dm_two, dr_py, tp_nil, tp_cons, ck_true, fin_rt, fin_nx, tr_imp, tr_nl, st_im, st_imp, st_nl, st_nlt, un_imp, b_len, b_all, b_any, b_max, b_min, b_int, b_intb, b_ll, b_lt, b_tl, b_tt, len_l, len_t, it_sl, it_st, it_ss, ty_str, ty_tup, c_le, c_ge, c_lt, c_gt, c_eqi, c_nei, c_eqs, c_nes, c_eqb, c_isb, c_isnb, o_add, o_sub, idx_t, idx_l, at0, at1, at2, at3, Bool.not_true, Bool.not_false, Bool.true_and, Bool.false_and, tgSlots, wipeE, bindT, List.getElem?_cons_zero, List.getElem?_cons_succ, List.set_cons_zero, List.set_cons_succ, Option.map_some, if_true, Bool.false_eq_true, if_false]
        cases (isTy .tup c) <;> simp only [v_nil, v_cons, v_for, v_asg, v_par, v_unp, v_setI, v_expr, v_ret, v_ife, v_pass, e_var, e_const, e_tup, e_lst, e_bin, e_negc, e_not, e_and, e_or, e_cmp, e_chain, e_ife, e_idx, e_slc, e_call, e_isi, e_blt, evDs, evPar, evAnd, x_bind, x_then, ok_bind, ok_then, nx_then, rt_then, np_imp, np_nl, np_py, ni_imp, ni_py, ni_nl, nb_imp, nb_py, no_none, no_int, no_intp, fz_imp, fz_im, fz_nl, im_py, im_imp, ok_imp, dm_nil, dm_one, dm_two, dr_py, tp_nil, tp_cons, ck_true, fin_rt, fin_nx, tr_imp, tr_nl, st_im, st_imp, st_nl, st_nlt, un_imp, b_len, b_all, b_any, b_max, b_min, b_int, b_intb, b_ll, b_lt, b_tl, b_tt, len_l, len_t, it_sl, it_st, it_ss, ty_str, ty_tup, c_le, c_ge, c_lt, c_gt, c_eqi, c_nei, c_eqs, c_nes, c_eqb, c_isb, c_isnb, o_add, o_sub, idx_t, idx_l, at0, at1, at2, at3, Bool.not_true, Bool.not_false, Bool.true_and, Bool.false_and, tgSlots, wipeE, bindT, List.getElem?_cons_zero, List.getElem?_cons_succ, List.set_cons_zero, List.set_cons_succ, Option.map_some, if_true, Bool.false_eq_true, if_false]
      | _ => simp only [v_nil, v_cons, v_for, v_asg, v_par, v_unp, v_setI, v_expr, v_ret, v_ife, v_pass, e_var, e_const, e_tup, e_lst, e_bin, e_negc, e_not, e_and, e_or, e_cmp, e_chain, e_ife, e_idx, e_slc, e_call, e_isi, e_blt, evDs, evPar, evAnd, x_bind, x_then, ok_bind, ok_then, nx_then, rt_then, np_imp, np_nl, np_py, ni_imp, ni_py, ni_nl, nb_imp, nb_py, no_none, no_int, no_intp, fz_imp, fz_im, fz_nl, im_py, im_imp, ok_imp, dm_nil, dm_one, dm_two, dr_py, tp_nil, tp_cons, ck_true, fin_rt, fin_nx, tr_imp, tr_nl, st_im, st_imp, st_nl, st_nlt, un_imp, b_len, b_all, b_any, b_max, b_min, b_int, b_intb, b_ll, b_lt, b_tl, b_tt, len_l, len_t, it_sl, it_st, it_ss, ty_str, ty_tup, c_le, c_ge, c_lt, c_gt, c_eqi, c_nei, c_eqs, c_nes, c_eqb, c_isb, c_isnb, o_add, o_sub, idx_t, idx_l, at0, at1, at2, at3, Bool.not_true, Bool.not_false, Bool.true_and, Bool.false_and, tgSlots, wipeE, bindT, List.getElem?_cons_zero, List.getElem?_cons_succ, List.set_cons_zero, List.set_cons_succ, Option.map_some, if_true, Bool.false_eq_true, if_false, isTy, oneOf]
    · have e3 : (((vs.length : Nat) : Int) == 4) = false := by
        rw [beq_eq_false_iff_ne]
        omega
      have e4 : isTool (.tuple vs) = false := by
        rcases vs with _ | ⟨a, _ | ⟨b, _ | ⟨c, _ | ⟨d, _ | ⟨e, vs⟩⟩⟩⟩⟩ <;> first | rfl | (simp at hl)
      simp only [v_nil, v_cons, v_for, v_asg, v_par, v_unp, v_setI, v_expr, v_ret, v_ife, v_pass, e_var, e_const, e_tup, e_lst, e_bin, e_negc, e_not, e_and, e_or, e_cmp, e_chain, e_ife, e_idx, e_slc, e_call, e_isi, e_blt, evDs, evPar, evAnd, x_bind, x_then, ok_bind, ok_then, nx_then, rt_then, np_imp, np_nl, np_py, ni_imp, ni_py, ni_nl, nb_imp, nb_py, no_none, no_int, no_intp, fz_imp, fz_im, fz_nl, im_py, im_imp, ok_imp, dm_nil, dm_one, dm_two, dr_py, tp_nil, tp_cons, ck_true, fin_rt, fin_nx, tr_imp, tr_nl, st_im, st_imp, st_nl, st_nlt, un_imp, b_len, b_all, b_any, b_max, b_min, b_int, b_intb, b_ll, b_lt, b_tl, b_tt, len_l, len_t, it_sl, it_st, it_ss, ty_str, ty_tup, c_le, c_ge, c_lt, c_gt, c_eqi, c_nei, c_eqs, c_nes, c_eqb, c_isb, c_isnb, o_add, o_sub, idx_t, idx_l, at0, at1, at2, at3, Bool.not_true, Bool.not_false, Bool.true_and, Bool.false_and, tgSlots, wipeE, bindT, List.getElem?_cons_zero, List.getElem?_cons_succ, List.set_cons_zero, List.set_cons_succ, Option.map_some, if_true, Bool.false_eq_true, if_false, e3, e4, Bool.not_true, Bool.not_false]
  | _ => simp only [v_nil, v_cons, v_for, v_asg, v_par, v_unp, v_setI, v_expr, v_ret, v_ife, v_pass, e_var, e_const, e_tup, e_lst, e_bin, e_negc, e_not, e_and, e_or, e_cmp, e_chain, e_ife, e_idx, e_slc, e_call, e_isi, e_blt, evDs, evPar, evAnd, x_bind, x_then, ok_bind, ok_then, nx_then, rt_then, np_imp, np_nl, np_py, ni_imp, ni_py, ni_nl, nb_imp, nb_py, no_none, no_int, no_intp, fz_imp, fz_im, fz_nl, im_py, im_imp, ok_imp, dm_nil, dm_one, dm_two, dr_py, tp_nil, tp_cons, ck_true, fin_rt, fin_nx, tr_imp, tr_nl, st_im, st_imp, st_nl, st_nlt, un_imp, b_len, b_all, b_any, b_max, b_min, b_int, b_intb, b_ll, b_lt, b_tl, b_tt, len_l, len_t, it_sl, it_st, it_ss, ty_str, ty_tup, c_le, c_ge, c_lt, c_gt, c_eqi, c_nei, c_eqs, c_nes, c_eqb, c_isb, c_isnb, o_add, o_sub, idx_t, idx_l, at0, at1, at2, at3, Bool.not_true, Bool.not_false, Bool.true_and, Bool.false_and, tgSlots, wipeE, bindT, List.getElem?_cons_zero, List.getElem?_cons_succ, List.set_cons_zero, List.set_cons_succ, Option.map_some, if_true, Bool.false_eq_true, if_false, isTy, isTool, Bool.not_true, Bool.not_false]
theorem evI_seq1 {env : Ev} {e : X} {p : P} {ys : List P} (h : evE Φ env e st = ok1 p st) (h2 : itemsD .seq [.py p] = some ys) : evI Φ env .seq [e] st = .ok ys st := by
  unfold evI
  simp only [evDs, h, x_bind, ok_bind, fz_imp, h2]
theorem noTools {a b c : P} (h : areTools a = false) : isSetup (.tuple [a, b, c]) = false := by
  unfold isSetup
  split
  · rename_i e
    simp only [PyData.tuple.injEq, List.cons.injEq] at e
    obtain ⟨rfl, _⟩ := e
    rw [h]; rfl
  · rfl
theorem noHooks {ts : List P} {b c : P} (h : areHooks (names ts) b = false) : isSetup (.tuple [.tuple ts, b, c]) = false := by
  unfold isSetup
  split
  · rename_i e
    simp only [PyData.tuple.injEq, List.cons.injEq] at e
    obtain ⟨rfl, rfl, _⟩ := e
    simp only [h, Bool.false_and, Bool.and_false]
  · rfl
theorem noBars {a b c : P} (h : ∀ x y, c ≠ .tuple [x, y]) : isSetup (.tuple [a, b, c]) = false := by
  unfold isSetup
  split
  · rename_i x y e
    simp only [PyData.tuple.injEq, List.cons.injEq] at e
    exact absurd e.2.2.1 (h _ _)
  · rfl
theorem inTwo (n : Nat) : cmpop .notin (.int n) (.tuple [.int 2, .int 3]) = some (!(decide (2 ≤ n) && decide (n ≤ 3))) := by
  have e : cmpop .notin (.int n) (.tuple [.int 2, .int 3]) = some (!((2 : Int) == (n : Int) || ((3 : Int) == (n : Int) || false))) := rfl
  rw [e]
  congr 2
  rw [Bool.eq_iff_iff]
  simp only [Bool.or_eq_true, beq_iff_eq, Bool.and_eq_true, decide_eq_true_eq, Bool.false_eq_true, or_false]
  omega
theorem sem_lawSetup {i1 i2 i3 : Nat} (h1 : ToolF Φ i1) (h2 : AscF Φ i2) (h3 : ∀ ns v st, Strs ns → small v = true → fit v = true → Φ i3 [.py (.list ns), .py v] st = ok1 (.bool (areNames ns v)) st) {v : P} (hv : small v = true) (hf : fit v = true) :
    fin st.length (evSs Φ (t_law_is_setup i1 i2 i3) [some (.py v), none, none, none, none, none] st) = ok1 (.bool (isSetup v)) st := by
  unfold t_law_is_setup
  cases v with
  | tuple vs =>
    obtain ⟨z, hs⟩ := small_tup hv
    by_cases hl : vs.length = 3
    · rcases vs with _ | ⟨a, _ | ⟨b, _ | ⟨c, _ | ⟨d, vs⟩⟩⟩⟩ <;> try (simp at hl; done)
      have ha : small a = true := hs a (by simp)
      have hbb : small b = true := hs b (by simp)
      have hcc : small c = true := hs c (by simp)
      have fa := fit_mem hf (y := a) (by simp)
      have fb := fit_mem hf (y := b) (by simp)
      have fc := fit_mem hf (y := c) (by simp)
      have e3 : (((0 + 1 + 1 + 1 : Nat) : Int) == 3) = true := rfl
      have l0 : decide (0 ≤ SZ) = true := decide_eq_true (Nat.zero_le _)
      have l2 : decide (0 + 1 + 1 ≤ SZ) = true := by decide
      cases a with
      | tuple ts =>
        obtain ⟨zt, hst⟩ := small_tup ha
        have ztb := Nat.le_trans zt sz_big
        have hc1 : ∀ e1 e2 e3 e4 e5 st, evE Φ [some (.py (.tuple [.tuple ts, b, c])), e1, e2, e3, e4, e5] (.comp (.var 1) (.one 1) .seq [(.idx (.var 0) (.const (.int 0)))] [(.not (.call i1 [(.var 1)]))]) st = .ok (.nl (ts.filter fun t => !isTool t)) st := fun e1 e2 e3 e4 e5 st => by
          refine comp_filter _ (ds := [.py (.tuple ts)]) (by simp only [v_nil, v_cons, v_for, v_asg, v_par, v_unp, v_setI, v_expr, v_ret, v_ife, v_pass, e_var, e_const, e_tup, e_lst, e_bin, e_negc, e_not, e_and, e_or, e_cmp, e_chain, e_ife, e_idx, e_slc, e_call, e_isi, e_blt, evDs, evPar, evAnd, x_bind, x_then, ok_bind, ok_then, nx_then, rt_then, np_imp, np_nl, np_py, ni_imp, ni_py, ni_nl, nb_imp, nb_py, no_none, no_int, no_intp, fz_imp, fz_im, fz_nl, im_py, im_imp, ok_imp, dm_nil, dm_one, dm_two, dr_py, tp_nil, tp_cons, ck_true, fin_rt, fin_nx, tr_imp, tr_nl, st_im, st_imp, st_nl, st_nlt, un_imp, b_len, b_all, b_any, b_max, b_min, b_int, b_intb, b_ll, b_lt, b_tl, b_tt, len_l, len_t, it_sl, it_st, it_ss, ty_str, ty_tup, c_le, c_ge, c_lt, c_gt, c_eqi, c_nei, c_eqs, c_nes, c_eqb, c_isb, c_isnb, o_add, o_sub, idx_t, idx_l, at0, at1, at2, at3, Bool.not_true, Bool.not_false, Bool.true_and, Bool.false_and, tgSlots, wipeE, bindT, List.getElem?_cons_zero, List.getElem?_cons_succ, List.set_cons_zero, List.set_cons_succ, Option.map_some, if_true, Bool.false_eq_true, if_false]) (by simp only [v_nil, v_cons, v_for, v_asg, v_par, v_unp, v_setI, v_expr, v_ret, v_ife, v_pass, e_var, e_const, e_tup, e_lst, e_bin, e_negc, e_not, e_and, e_or, e_cmp, e_chain, e_ife, e_idx, e_slc, e_call, e_isi, e_blt, evDs, evPar, evAnd, x_bind, x_then, ok_bind, ok_then, nx_then, rt_then, np_imp, np_nl, np_py, ni_imp, ni_py, ni_nl, nb_imp, nb_py, no_none, no_int, no_intp, fz_imp, fz_im, fz_nl, im_py, im_imp, ok_imp, dm_nil, dm_one, dm_two, dr_py, tp_nil, tp_cons, ck_true, fin_rt, fin_nx, tr_imp, tr_nl, st_im, st_imp, st_nl, st_nlt, un_imp, b_len, b_all, b_any, b_max, b_min, b_int, b_intb, b_ll, b_lt, b_tl, b_tt, len_l, len_t, it_sl, it_st, it_ss, ty_str, ty_tup, c_le, c_ge, c_lt, c_gt, c_eqi, c_nei, c_eqs, c_nes, c_eqb, c_isb, c_isnb, o_add, o_sub, idx_t, idx_l, at0, at1, at2, at3, Bool.not_true, Bool.not_false, Bool.true_and, Bool.false_and, tgSlots, wipeE, bindT, List.getElem?_cons_zero, List.getElem?_cons_succ, List.set_cons_zero, List.set_cons_succ, Option.map_some, if_true, Bool.false_eq_true, if_false]) (fun y hy st => ?_) ztb
          exact turn_if (env1 := [some (.py (.tuple [.tuple ts, b, c])), some (.py y), e2, e3, e4, e5]) (by simp only [v_nil, v_cons, v_for, v_asg, v_par, v_unp, v_setI, v_expr, v_ret, v_ife, v_pass, e_var, e_const, e_tup, e_lst, e_bin, e_negc, e_not, e_and, e_or, e_cmp, e_chain, e_ife, e_idx, e_slc, e_call, e_isi, e_blt, evDs, evPar, evAnd, x_bind, x_then, ok_bind, ok_then, nx_then, rt_then, np_imp, np_nl, np_py, ni_imp, ni_py, ni_nl, nb_imp, nb_py, no_none, no_int, no_intp, fz_imp, fz_im, fz_nl, im_py, im_imp, ok_imp, dm_nil, dm_one, dm_two, dr_py, tp_nil, tp_cons, ck_true, fin_rt, fin_nx, tr_imp, tr_nl, st_im, st_imp, st_nl, st_nlt, un_imp, b_len, b_all, b_any, b_max, b_min, b_int, b_intb, b_ll, b_lt, b_tl, b_tt, len_l, len_t, it_sl, it_st, it_ss, ty_str, ty_tup, c_le, c_ge, c_lt, c_gt, c_eqi, c_nei, c_eqs, c_nes, c_eqb, c_isb, c_isnb, o_add, o_sub, idx_t, idx_l, at0, at1, at2, at3, Bool.not_true, Bool.not_false, Bool.true_and, Bool.false_and, tgSlots, wipeE, bindT, List.getElem?_cons_zero, List.getElem?_cons_succ, List.set_cons_zero, List.set_cons_succ, Option.map_some, if_true, Bool.false_eq_true, if_false]) (by simp only [v_nil, v_cons, v_for, v_asg, v_par, v_unp, v_setI, v_expr, v_ret, v_ife, v_pass, e_var, e_const, e_tup, e_lst, e_bin, e_negc, e_not, e_and, e_or, e_cmp, e_chain, e_ife, e_idx, e_slc, e_call, e_isi, e_blt, evDs, evPar, evAnd, x_bind, x_then, ok_bind, ok_then, nx_then, rt_then, np_imp, np_nl, np_py, ni_imp, ni_py, ni_nl, nb_imp, nb_py, no_none, no_int, no_intp, fz_imp, fz_im, fz_nl, im_py, im_imp, ok_imp, dm_nil, dm_one, dm_two, dr_py, tp_nil, tp_cons, ck_true, fin_rt, fin_nx, tr_imp, tr_nl, st_im, st_imp, st_nl, st_nlt, un_imp, b_len, b_all, b_any, b_max, b_min, b_int, b_intb, b_ll, b_lt, b_tl, b_tt, len_l, len_t, it_sl, it_st, it_ss, ty_str, ty_tup, c_le, c_ge, c_lt, c_gt, c_eqi, c_nei, c_eqs, c_nes, c_eqb, c_isb, c_isnb, o_add, o_sub, idx_t, idx_l, at0, at1, at2, at3, Bool.not_true, Bool.not_false, Bool.true_and, Bool.false_and, tgSlots, wipeE, bindT, List.getElem?_cons_zero, List.getElem?_cons_succ, List.set_cons_zero, List.set_cons_succ, Option.map_some, if_true, Bool.false_eq_true, if_false, h1 y _ (hst y hy)]) (fun _ => by simp only [v_nil, v_cons, v_for, v_asg, v_par, v_unp, v_setI, v_expr, v_ret, v_ife, v_pass, e_var, e_const, e_tup, e_lst, e_bin, e_negc, e_not, e_and, e_or, e_cmp, e_chain, e_ife, e_idx, e_slc, e_call, e_isi, e_blt, evDs, evPar, evAnd, x_bind, x_then, ok_bind, ok_then, nx_then, rt_then, np_imp, np_nl, np_py, ni_imp, ni_py, ni_nl, nb_imp, nb_py, no_none, no_int, no_intp, fz_imp, fz_im, fz_nl, im_py, im_imp, ok_imp, dm_nil, dm_one, dm_two, dr_py, tp_nil, tp_cons, ck_true, fin_rt, fin_nx, tr_imp, tr_nl, st_im, st_imp, st_nl, st_nlt, un_imp, b_len, b_all, b_any, b_max, b_min, b_int, b_intb, b_ll, b_lt, b_tl, b_tt, len_l, len_t, it_sl, it_st, it_ss, ty_str, ty_tup, c_le, c_ge, c_lt, c_gt, c_eqi, c_nei, c_eqs, c_nes, c_eqb, c_isb, c_isnb, o_add, o_sub, idx_t, idx_l, at0, at1, at2, at3, Bool.not_true, Bool.not_false, Bool.true_and, Bool.false_and, tgSlots, wipeE, bindT, List.getElem?_cons_zero, List.getElem?_cons_succ, List.set_cons_zero, List.set_cons_succ, Option.map_some, if_true, Bool.false_eq_true, if_false])
        have eT : areTools (.tuple ts) = ((decide (2 ≤ ts.length) && decide (ts.length ≤ 3)) && (ts.all isTool && (asc (names ts) && ts.all fun t => areNames (others (names ts) (nm t)) (may t)))) := rfl
        simp only [v_nil, v_cons, v_for, v_asg, v_par, v_unp, v_setI, v_expr, v_ret, v_ife, v_pass, e_var, e_const, e_tup, e_lst, e_bin, e_negc, e_not, e_and, e_or, e_cmp, e_chain, e_ife, e_idx, e_slc, e_call, e_isi, e_blt, evDs, evPar, evAnd, x_bind, x_then, ok_bind, ok_then, nx_then, rt_then, np_imp, np_nl, np_py, ni_imp, ni_py, ni_nl, nb_imp, nb_py, no_none, no_int, no_intp, fz_imp, fz_im, fz_nl, im_py, im_imp, ok_imp, dm_nil, dm_one, dm_two, dr_py, tp_nil, tp_cons, ck_true, fin_rt, fin_nx, tr_imp, tr_nl, st_im, st_imp, st_nl, st_nlt, un_imp, b_len, b_all, b_any, b_max, b_min, b_int, b_intb, b_ll, b_lt, b_tl, b_tt, len_l, len_t, it_sl, it_st, it_ss, ty_str, ty_tup, c_le, c_ge, c_lt, c_gt, c_eqi, c_nei, c_eqs, c_nes, c_eqb, c_isb, c_isnb, o_add, o_sub, idx_t, idx_l, at0, at1, at2, at3, Bool.not_true, Bool.not_false, Bool.true_and, Bool.false_and, tgSlots, wipeE, bindT, List.getElem?_cons_zero, List.getElem?_cons_succ, List.set_cons_zero, List.set_cons_succ, Option.map_some, if_true, Bool.false_eq_true, if_false, List.length_cons, List.length_nil, e3, l0, l2, inTwo, hc1, c_nee _ (fit_filter fa _), emptyFilter, Bool.not_not]
        cases hB : (decide (2 ≤ ts.length) && decide (ts.length ≤ 3)) with
        | false => rw [noTools (by rw [eT, hB]; rfl)]; simp only [v_nil, v_cons, v_for, v_asg, v_par, v_unp, v_setI, v_expr, v_ret, v_ife, v_pass, e_var, e_const, e_tup, e_lst, e_bin, e_negc, e_not, e_and, e_or, e_cmp, e_chain, e_ife, e_idx, e_slc, e_call, e_isi, e_blt, evDs, evPar, evAnd, x_bind, x_then, ok_bind, ok_then, nx_then, rt_then, np_imp, np_nl, np_py, ni_imp, ni_py, ni_nl, nb_imp, nb_py, no_none, no_int, no_intp, fz_imp, fz_im, fz_nl, im_py, im_imp, ok_imp, dm_nil, dm_one, dm_two, dr_py, tp_nil, tp_cons, ck_true, fin_rt, fin_nx, tr_imp, tr_nl, st_im, st_imp, st_nl, st_nlt, un_imp, b_len, b_all, b_any, b_max, b_min, b_int, b_intb, b_ll, b_lt, b_tl, b_tt, len_l, len_t, it_sl, it_st, it_ss, ty_str, ty_tup, c_le, c_ge, c_lt, c_gt, c_eqi, c_nei, c_eqs, c_nes, c_eqb, c_isb, c_isnb, o_add, o_sub, idx_t, idx_l, at0, at1, at2, at3, Bool.not_true, Bool.not_false, Bool.true_and, Bool.false_and, tgSlots, wipeE, bindT, List.getElem?_cons_zero, List.getElem?_cons_succ, List.set_cons_zero, List.set_cons_succ, Option.map_some, if_true, Bool.false_eq_true, if_false]
        | true =>
          cases hT : ts.all isTool with
          | false => rw [noTools (by rw [eT, hT, Bool.false_and, Bool.and_false])]; simp only [v_nil, v_cons, v_for, v_asg, v_par, v_unp, v_setI, v_expr, v_ret, v_ife, v_pass, e_var, e_const, e_tup, e_lst, e_bin, e_negc, e_not, e_and, e_or, e_cmp, e_chain, e_ife, e_idx, e_slc, e_call, e_isi, e_blt, evDs, evPar, evAnd, x_bind, x_then, ok_bind, ok_then, nx_then, rt_then, np_imp, np_nl, np_py, ni_imp, ni_py, ni_nl, nb_imp, nb_py, no_none, no_int, no_intp, fz_imp, fz_im, fz_nl, im_py, im_imp, ok_imp, dm_nil, dm_one, dm_two, dr_py, tp_nil, tp_cons, ck_true, fin_rt, fin_nx, tr_imp, tr_nl, st_im, st_imp, st_nl, st_nlt, un_imp, b_len, b_all, b_any, b_max, b_min, b_int, b_intb, b_ll, b_lt, b_tl, b_tt, len_l, len_t, it_sl, it_st, it_ss, ty_str, ty_tup, c_le, c_ge, c_lt, c_gt, c_eqi, c_nei, c_eqs, c_nes, c_eqb, c_isb, c_isnb, o_add, o_sub, idx_t, idx_l, at0, at1, at2, at3, Bool.not_true, Bool.not_false, Bool.true_and, Bool.false_and, tgSlots, wipeE, bindT, List.getElem?_cons_zero, List.getElem?_cons_succ, List.set_cons_zero, List.set_cons_succ, Option.map_some, if_true, Bool.false_eq_true, if_false]
          | true =>
            have hn := names_strs hT
            have hc2 : ∀ e1 e2 e3 e4 e5 st, evE Φ [some (.py (.tuple [.tuple ts, b, c])), e1, e2, e3, e4, e5] (.comp (.idx (.var 1) (.const (.int 0))) (.one 1) .seq [(.idx (.var 0) (.const (.int 0)))] []) st = .ok (.nl (names ts)) st := fun e1 e2 e3 e4 e5 st => by
              refine comp_map _ (ds := [.py (.tuple ts)]) (by simp only [v_nil, v_cons, v_for, v_asg, v_par, v_unp, v_setI, v_expr, v_ret, v_ife, v_pass, e_var, e_const, e_tup, e_lst, e_bin, e_negc, e_not, e_and, e_or, e_cmp, e_chain, e_ife, e_idx, e_slc, e_call, e_isi, e_blt, evDs, evPar, evAnd, x_bind, x_then, ok_bind, ok_then, nx_then, rt_then, np_imp, np_nl, np_py, ni_imp, ni_py, ni_nl, nb_imp, nb_py, no_none, no_int, no_intp, fz_imp, fz_im, fz_nl, im_py, im_imp, ok_imp, dm_nil, dm_one, dm_two, dr_py, tp_nil, tp_cons, ck_true, fin_rt, fin_nx, tr_imp, tr_nl, st_im, st_imp, st_nl, st_nlt, un_imp, b_len, b_all, b_any, b_max, b_min, b_int, b_intb, b_ll, b_lt, b_tl, b_tt, len_l, len_t, it_sl, it_st, it_ss, ty_str, ty_tup, c_le, c_ge, c_lt, c_gt, c_eqi, c_nei, c_eqs, c_nes, c_eqb, c_isb, c_isnb, o_add, o_sub, idx_t, idx_l, at0, at1, at2, at3, Bool.not_true, Bool.not_false, Bool.true_and, Bool.false_and, tgSlots, wipeE, bindT, List.getElem?_cons_zero, List.getElem?_cons_succ, List.set_cons_zero, List.set_cons_succ, Option.map_some, if_true, Bool.false_eq_true, if_false]) (by simp only [v_nil, v_cons, v_for, v_asg, v_par, v_unp, v_setI, v_expr, v_ret, v_ife, v_pass, e_var, e_const, e_tup, e_lst, e_bin, e_negc, e_not, e_and, e_or, e_cmp, e_chain, e_ife, e_idx, e_slc, e_call, e_isi, e_blt, evDs, evPar, evAnd, x_bind, x_then, ok_bind, ok_then, nx_then, rt_then, np_imp, np_nl, np_py, ni_imp, ni_py, ni_nl, nb_imp, nb_py, no_none, no_int, no_intp, fz_imp, fz_im, fz_nl, im_py, im_imp, ok_imp, dm_nil, dm_one, dm_two, dr_py, tp_nil, tp_cons, ck_true, fin_rt, fin_nx, tr_imp, tr_nl, st_im, st_imp, st_nl, st_nlt, un_imp, b_len, b_all, b_any, b_max, b_min, b_int, b_intb, b_ll, b_lt, b_tl, b_tt, len_l, len_t, it_sl, it_st, it_ss, ty_str, ty_tup, c_le, c_ge, c_lt, c_gt, c_eqi, c_nei, c_eqs, c_nes, c_eqb, c_isb, c_isnb, o_add, o_sub, idx_t, idx_l, at0, at1, at2, at3, Bool.not_true, Bool.not_false, Bool.true_and, Bool.false_and, tgSlots, wipeE, bindT, List.getElem?_cons_zero, List.getElem?_cons_succ, List.set_cons_zero, List.set_cons_succ, Option.map_some, if_true, Bool.false_eq_true, if_false]) (fun y hy st => ?_) ztb
              obtain ⟨s, b', c', d, rfl⟩ := isTool_shape (List.all_eq_true.mp hT y hy)
              exact turn_elt (env1 := [some (.py (.tuple [.tuple ts, b, c])), some (.py (.tuple [.str s, b', c', d])), e2, e3, e4, e5]) (by simp only [v_nil, v_cons, v_for, v_asg, v_par, v_unp, v_setI, v_expr, v_ret, v_ife, v_pass, e_var, e_const, e_tup, e_lst, e_bin, e_negc, e_not, e_and, e_or, e_cmp, e_chain, e_ife, e_idx, e_slc, e_call, e_isi, e_blt, evDs, evPar, evAnd, x_bind, x_then, ok_bind, ok_then, nx_then, rt_then, np_imp, np_nl, np_py, ni_imp, ni_py, ni_nl, nb_imp, nb_py, no_none, no_int, no_intp, fz_imp, fz_im, fz_nl, im_py, im_imp, ok_imp, dm_nil, dm_one, dm_two, dr_py, tp_nil, tp_cons, ck_true, fin_rt, fin_nx, tr_imp, tr_nl, st_im, st_imp, st_nl, st_nlt, un_imp, b_len, b_all, b_any, b_max, b_min, b_int, b_intb, b_ll, b_lt, b_tl, b_tt, len_l, len_t, it_sl, it_st, it_ss, ty_str, ty_tup, c_le, c_ge, c_lt, c_gt, c_eqi, c_nei, c_eqs, c_nes, c_eqb, c_isb, c_isnb, o_add, o_sub, idx_t, idx_l, at0, at1, at2, at3, Bool.not_true, Bool.not_false, Bool.true_and, Bool.false_and, tgSlots, wipeE, bindT, List.getElem?_cons_zero, List.getElem?_cons_succ, List.set_cons_zero, List.set_cons_succ, Option.map_some, if_true, Bool.false_eq_true, if_false]) (by simp only [v_nil, v_cons, v_for, v_asg, v_par, v_unp, v_setI, v_expr, v_ret, v_ife, v_pass, e_var, e_const, e_tup, e_lst, e_bin, e_negc, e_not, e_and, e_or, e_cmp, e_chain, e_ife, e_idx, e_slc, e_call, e_isi, e_blt, evDs, evPar, evAnd, x_bind, x_then, ok_bind, ok_then, nx_then, rt_then, np_imp, np_nl, np_py, ni_imp, ni_py, ni_nl, nb_imp, nb_py, no_none, no_int, no_intp, fz_imp, fz_im, fz_nl, im_py, im_imp, ok_imp, dm_nil, dm_one, dm_two, dr_py, tp_nil, tp_cons, ck_true, fin_rt, fin_nx, tr_imp, tr_nl, st_im, st_imp, st_nl, st_nlt, un_imp, b_len, b_all, b_any, b_max, b_min, b_int, b_intb, b_ll, b_lt, b_tl, b_tt, len_l, len_t, it_sl, it_st, it_ss, ty_str, ty_tup, c_le, c_ge, c_lt, c_gt, c_eqi, c_nei, c_eqs, c_nes, c_eqb, c_isb, c_isnb, o_add, o_sub, idx_t, idx_l, at0, at1, at2, at3, Bool.not_true, Bool.not_false, Bool.true_and, Bool.false_and, tgSlots, wipeE, bindT, List.getElem?_cons_zero, List.getElem?_cons_succ, List.set_cons_zero, List.set_cons_succ, Option.map_some, if_true, Bool.false_eq_true, if_false, nm])
            simp only [v_nil, v_cons, v_for, v_asg, v_par, v_unp, v_setI, v_expr, v_ret, v_ife, v_pass, e_var, e_const, e_tup, e_lst, e_bin, e_negc, e_not, e_and, e_or, e_cmp, e_chain, e_ife, e_idx, e_slc, e_call, e_isi, e_blt, evDs, evPar, evAnd, x_bind, x_then, ok_bind, ok_then, nx_then, rt_then, np_imp, np_nl, np_py, ni_imp, ni_py, ni_nl, nb_imp, nb_py, no_none, no_int, no_intp, fz_imp, fz_im, fz_nl, im_py, im_imp, ok_imp, dm_nil, dm_one, dm_two, dr_py, tp_nil, tp_cons, ck_true, fin_rt, fin_nx, tr_imp, tr_nl, st_im, st_imp, st_nl, st_nlt, un_imp, b_len, b_all, b_any, b_max, b_min, b_int, b_intb, b_ll, b_lt, b_tl, b_tt, len_l, len_t, it_sl, it_st, it_ss, ty_str, ty_tup, c_le, c_ge, c_lt, c_gt, c_eqi, c_nei, c_eqs, c_nes, c_eqb, c_isb, c_isnb, o_add, o_sub, idx_t, idx_l, at0, at1, at2, at3, Bool.not_true, Bool.not_false, Bool.true_and, Bool.false_and, tgSlots, wipeE, bindT, List.getElem?_cons_zero, List.getElem?_cons_succ, List.set_cons_zero, List.set_cons_succ, Option.map_some, if_true, Bool.false_eq_true, if_false, hc2, h2 _ _ _ (.inl rfl) (.inl hn) (by rw [names, List.length_map]; exact zt)]
            cases hA : asc (names ts) with
            | false => rw [noTools (by rw [eT, hA]; simp only [Bool.false_and, Bool.and_false])]; simp only [v_nil, v_cons, v_for, v_asg, v_par, v_unp, v_setI, v_expr, v_ret, v_ife, v_pass, e_var, e_const, e_tup, e_lst, e_bin, e_negc, e_not, e_and, e_or, e_cmp, e_chain, e_ife, e_idx, e_slc, e_call, e_isi, e_blt, evDs, evPar, evAnd, x_bind, x_then, ok_bind, ok_then, nx_then, rt_then, np_imp, np_nl, np_py, ni_imp, ni_py, ni_nl, nb_imp, nb_py, no_none, no_int, no_intp, fz_imp, fz_im, fz_nl, im_py, im_imp, ok_imp, dm_nil, dm_one, dm_two, dr_py, tp_nil, tp_cons, ck_true, fin_rt, fin_nx, tr_imp, tr_nl, st_im, st_imp, st_nl, st_nlt, un_imp, b_len, b_all, b_any, b_max, b_min, b_int, b_intb, b_ll, b_lt, b_tl, b_tt, len_l, len_t, it_sl, it_st, it_ss, ty_str, ty_tup, c_le, c_ge, c_lt, c_gt, c_eqi, c_nei, c_eqs, c_nes, c_eqb, c_isb, c_isnb, o_add, o_sub, idx_t, idx_l, at0, at1, at2, at3, Bool.not_true, Bool.not_false, Bool.true_and, Bool.false_and, tgSlots, wipeE, bindT, List.getElem?_cons_zero, List.getElem?_cons_succ, List.set_cons_zero, List.set_cons_succ, Option.map_some, if_true, Bool.false_eq_true, if_false]
            | true =>
              cases b with
              | tuple hs' =>
                obtain ⟨zh, hsh⟩ := small_tup hbb
                have hI1 : ∀ e1 e2 e3 e4 e5 st, evI Φ [some (D.py (.tuple [.tuple ts, .tuple hs', c])), e1, e2, e3, e4, e5] .seq [(.idx (.var 0) (.const (.int 0)))] st = .ok ts st := fun e1 e2 e3 e4 e5 st => evI_seq1 (p := .tuple ts) (by simp only [v_nil, v_cons, v_for, v_asg, v_par, v_unp, v_setI, v_expr, v_ret, v_ife, v_pass, e_var, e_const, e_tup, e_lst, e_bin, e_negc, e_not, e_and, e_or, e_cmp, e_chain, e_ife, e_idx, e_slc, e_call, e_isi, e_blt, evDs, evPar, evAnd, x_bind, x_then, ok_bind, ok_then, nx_then, rt_then, np_imp, np_nl, np_py, ni_imp, ni_py, ni_nl, nb_imp, nb_py, no_none, no_int, no_intp, fz_imp, fz_im, fz_nl, im_py, im_imp, ok_imp, dm_nil, dm_one, dm_two, dr_py, tp_nil, tp_cons, ck_true, fin_rt, fin_nx, tr_imp, tr_nl, st_im, st_imp, st_nl, st_nlt, un_imp, b_len, b_all, b_any, b_max, b_min, b_int, b_intb, b_ll, b_lt, b_tl, b_tt, len_l, len_t, it_sl, it_st, it_ss, ty_str, ty_tup, c_le, c_ge, c_lt, c_gt, c_eqi, c_nei, c_eqs, c_nes, c_eqb, c_isb, c_isnb, o_add, o_sub, idx_t, idx_l, at0, at1, at2, at3, Bool.not_true, Bool.not_false, Bool.true_and, Bool.false_and, tgSlots, wipeE, bindT, List.getElem?_cons_zero, List.getElem?_cons_succ, List.set_cons_zero, List.set_cons_succ, Option.map_some, if_true, Bool.false_eq_true, if_false]) (it_st ts)
                have hI2 : ∀ e1 e2 e3 e4 e5 st, evI Φ [some (D.py (.tuple [.tuple ts, .tuple hs', c])), e1, e2, e3, e4, e5] .seq [(.idx (.var 0) (.const (.int 1)))] st = .ok hs' st := fun e1 e2 e3 e4 e5 st => evI_seq1 (p := .tuple hs') (by simp only [v_nil, v_cons, v_for, v_asg, v_par, v_unp, v_setI, v_expr, v_ret, v_ife, v_pass, e_var, e_const, e_tup, e_lst, e_bin, e_negc, e_not, e_and, e_or, e_cmp, e_chain, e_ife, e_idx, e_slc, e_call, e_isi, e_blt, evDs, evPar, evAnd, x_bind, x_then, ok_bind, ok_then, nx_then, rt_then, np_imp, np_nl, np_py, ni_imp, ni_py, ni_nl, nb_imp, nb_py, no_none, no_int, no_intp, fz_imp, fz_im, fz_nl, im_py, im_imp, ok_imp, dm_nil, dm_one, dm_two, dr_py, tp_nil, tp_cons, ck_true, fin_rt, fin_nx, tr_imp, tr_nl, st_im, st_imp, st_nl, st_nlt, un_imp, b_len, b_all, b_any, b_max, b_min, b_int, b_intb, b_ll, b_lt, b_tl, b_tt, len_l, len_t, it_sl, it_st, it_ss, ty_str, ty_tup, c_le, c_ge, c_lt, c_gt, c_eqi, c_nei, c_eqs, c_nes, c_eqb, c_isb, c_isnb, o_add, o_sub, idx_t, idx_l, at0, at1, at2, at3, Bool.not_true, Bool.not_false, Bool.true_and, Bool.false_and, tgSlots, wipeE, bindT, List.getElem?_cons_zero, List.getElem?_cons_succ, List.set_cons_zero, List.set_cons_succ, Option.map_some, if_true, Bool.false_eq_true, if_false]) (it_st hs')
                simp only [v_nil, v_cons, v_for, v_asg, v_par, v_unp, v_setI, v_expr, v_ret, v_ife, v_pass, e_var, e_const, e_tup, e_lst, e_bin, e_negc, e_not, e_and, e_or, e_cmp, e_chain, e_ife, e_idx, e_slc, e_call, e_isi, e_blt, evDs, evPar, evAnd, x_bind, x_then, ok_bind, ok_then, nx_then, rt_then, np_imp, np_nl, np_py, ni_imp, ni_py, ni_nl, nb_imp, nb_py, no_none, no_int, no_intp, fz_imp, fz_im, fz_nl, im_py, im_imp, ok_imp, dm_nil, dm_one, dm_two, dr_py, tp_nil, tp_cons, ck_true, fin_rt, fin_nx, tr_imp, tr_nl, st_im, st_imp, st_nl, st_nlt, un_imp, b_len, b_all, b_any, b_max, b_min, b_int, b_intb, b_ll, b_lt, b_tl, b_tt, len_l, len_t, it_sl, it_st, it_ss, ty_str, ty_tup, c_le, c_ge, c_lt, c_gt, c_eqi, c_nei, c_eqs, c_nes, c_eqb, c_isb, c_isnb, o_add, o_sub, idx_t, idx_l, at0, at1, at2, at3, Bool.not_true, Bool.not_false, Bool.true_and, Bool.false_and, tgSlots, wipeE, bindT, List.getElem?_cons_zero, List.getElem?_cons_succ, List.set_cons_zero, List.set_cons_succ, Option.map_some, if_true, Bool.false_eq_true, if_false, hI1]
                rw [forL_all (good := fun t => areNames (others (names ts) (nm t)) (may t)) ts _ (fun y hy => ?_)]
                rotate_left
                · obtain ⟨s, b', c', d, rfl⟩ := isTool_shape (List.all_eq_true.mp hT y hy)
                  have hsc : small c' = true := (small_tup (hst _ hy)).2 c' (by simp)
                  have fsc : fit c' = true := fit_mem (fit_mem fa hy) (by simp)
                  have hc3 : ∀ e1 e3 e4 e5 st, evE Φ [e1, some (.py (.tuple [.str s, b', c', d])), some (.py (.list (names ts))), e3, e4, e5] (.comp (.var 4) (.one 4) .seq [(.var 2)] [(.cmp .ne (.var 4) (.idx (.var 1) (.const (.int 0))))]) st =
                      .ok (.nl (others (names ts) (.str s))) st := fun e1 e3 e4 e5 st => by
                    refine comp_filter _ (ds := [.py (.list (names ts))]) (by simp only [v_nil, v_cons, v_for, v_asg, v_par, v_unp, v_setI, v_expr, v_ret, v_ife, v_pass, e_var, e_const, e_tup, e_lst, e_bin, e_negc, e_not, e_and, e_or, e_cmp, e_chain, e_ife, e_idx, e_slc, e_call, e_isi, e_blt, evDs, evPar, evAnd, x_bind, x_then, ok_bind, ok_then, nx_then, rt_then, np_imp, np_nl, np_py, ni_imp, ni_py, ni_nl, nb_imp, nb_py, no_none, no_int, no_intp, fz_imp, fz_im, fz_nl, im_py, im_imp, ok_imp, dm_nil, dm_one, dm_two, dr_py, tp_nil, tp_cons, ck_true, fin_rt, fin_nx, tr_imp, tr_nl, st_im, st_imp, st_nl, st_nlt, un_imp, b_len, b_all, b_any, b_max, b_min, b_int, b_intb, b_ll, b_lt, b_tl, b_tt, len_l, len_t, it_sl, it_st, it_ss, ty_str, ty_tup, c_le, c_ge, c_lt, c_gt, c_eqi, c_nei, c_eqs, c_nes, c_eqb, c_isb, c_isnb, o_add, o_sub, idx_t, idx_l, at0, at1, at2, at3, Bool.not_true, Bool.not_false, Bool.true_and, Bool.false_and, tgSlots, wipeE, bindT, List.getElem?_cons_zero, List.getElem?_cons_succ, List.set_cons_zero, List.set_cons_succ, Option.map_some, if_true, Bool.false_eq_true, if_false]) (by simp only [v_nil, v_cons, v_for, v_asg, v_par, v_unp, v_setI, v_expr, v_ret, v_ife, v_pass, e_var, e_const, e_tup, e_lst, e_bin, e_negc, e_not, e_and, e_or, e_cmp, e_chain, e_ife, e_idx, e_slc, e_call, e_isi, e_blt, evDs, evPar, evAnd, x_bind, x_then, ok_bind, ok_then, nx_then, rt_then, np_imp, np_nl, np_py, ni_imp, ni_py, ni_nl, nb_imp, nb_py, no_none, no_int, no_intp, fz_imp, fz_im, fz_nl, im_py, im_imp, ok_imp, dm_nil, dm_one, dm_two, dr_py, tp_nil, tp_cons, ck_true, fin_rt, fin_nx, tr_imp, tr_nl, st_im, st_imp, st_nl, st_nlt, un_imp, b_len, b_all, b_any, b_max, b_min, b_int, b_intb, b_ll, b_lt, b_tl, b_tt, len_l, len_t, it_sl, it_st, it_ss, ty_str, ty_tup, c_le, c_ge, c_lt, c_gt, c_eqi, c_nei, c_eqs, c_nes, c_eqb, c_isb, c_isnb, o_add, o_sub, idx_t, idx_l, at0, at1, at2, at3, Bool.not_true, Bool.not_false, Bool.true_and, Bool.false_and, tgSlots, wipeE, bindT, List.getElem?_cons_zero, List.getElem?_cons_succ, List.set_cons_zero, List.set_cons_succ, Option.map_some, if_true, Bool.false_eq_true, if_false]) (fun y hy st => ?_) (by rw [names, List.length_map]; exact ztb)
                    obtain ⟨s', rfl⟩ := hn y hy
                    exact turn_if (env1 := [e1, some (.py (.tuple [.str s, b', c', d])), some (.py (.list (names ts))), e3, some (.py (.str s')), e5]) (by simp only [v_nil, v_cons, v_for, v_asg, v_par, v_unp, v_setI, v_expr, v_ret, v_ife, v_pass, e_var, e_const, e_tup, e_lst, e_bin, e_negc, e_not, e_and, e_or, e_cmp, e_chain, e_ife, e_idx, e_slc, e_call, e_isi, e_blt, evDs, evPar, evAnd, x_bind, x_then, ok_bind, ok_then, nx_then, rt_then, np_imp, np_nl, np_py, ni_imp, ni_py, ni_nl, nb_imp, nb_py, no_none, no_int, no_intp, fz_imp, fz_im, fz_nl, im_py, im_imp, ok_imp, dm_nil, dm_one, dm_two, dr_py, tp_nil, tp_cons, ck_true, fin_rt, fin_nx, tr_imp, tr_nl, st_im, st_imp, st_nl, st_nlt, un_imp, b_len, b_all, b_any, b_max, b_min, b_int, b_intb, b_ll, b_lt, b_tl, b_tt, len_l, len_t, it_sl, it_st, it_ss, ty_str, ty_tup, c_le, c_ge, c_lt, c_gt, c_eqi, c_nei, c_eqs, c_nes, c_eqb, c_isb, c_isnb, o_add, o_sub, idx_t, idx_l, at0, at1, at2, at3, Bool.not_true, Bool.not_false, Bool.true_and, Bool.false_and, tgSlots, wipeE, bindT, List.getElem?_cons_zero, List.getElem?_cons_succ, List.set_cons_zero, List.set_cons_succ, Option.map_some, if_true, Bool.false_eq_true, if_false]) (by simp only [v_nil, v_cons, v_for, v_asg, v_par, v_unp, v_setI, v_expr, v_ret, v_ife, v_pass, e_var, e_const, e_tup, e_lst, e_bin, e_negc, e_not, e_and, e_or, e_cmp, e_chain, e_ife, e_idx, e_slc, e_call, e_isi, e_blt, evDs, evPar, evAnd, x_bind, x_then, ok_bind, ok_then, nx_then, rt_then, np_imp, np_nl, np_py, ni_imp, ni_py, ni_nl, nb_imp, nb_py, no_none, no_int, no_intp, fz_imp, fz_im, fz_nl, im_py, im_imp, ok_imp, dm_nil, dm_one, dm_two, dr_py, tp_nil, tp_cons, ck_true, fin_rt, fin_nx, tr_imp, tr_nl, st_im, st_imp, st_nl, st_nlt, un_imp, b_len, b_all, b_any, b_max, b_min, b_int, b_intb, b_ll, b_lt, b_tl, b_tt, len_l, len_t, it_sl, it_st, it_ss, ty_str, ty_tup, c_le, c_ge, c_lt, c_gt, c_eqi, c_nei, c_eqs, c_nes, c_eqb, c_isb, c_isnb, o_add, o_sub, idx_t, idx_l, at0, at1, at2, at3, Bool.not_true, Bool.not_false, Bool.true_and, Bool.false_and, tgSlots, wipeE, bindT, List.getElem?_cons_zero, List.getElem?_cons_succ, List.set_cons_zero, List.set_cons_succ, Option.map_some, if_true, Bool.false_eq_true, if_false]; rfl) (fun _ => by simp only [v_nil, v_cons, v_for, v_asg, v_par, v_unp, v_setI, v_expr, v_ret, v_ife, v_pass, e_var, e_const, e_tup, e_lst, e_bin, e_negc, e_not, e_and, e_or, e_cmp, e_chain, e_ife, e_idx, e_slc, e_call, e_isi, e_blt, evDs, evPar, evAnd, x_bind, x_then, ok_bind, ok_then, nx_then, rt_then, np_imp, np_nl, np_py, ni_imp, ni_py, ni_nl, nb_imp, nb_py, no_none, no_int, no_intp, fz_imp, fz_im, fz_nl, im_py, im_imp, ok_imp, dm_nil, dm_one, dm_two, dr_py, tp_nil, tp_cons, ck_true, fin_rt, fin_nx, tr_imp, tr_nl, st_im, st_imp, st_nl, st_nlt, un_imp, b_len, b_all, b_any, b_max, b_min, b_int, b_intb, b_ll, b_lt, b_tl, b_tt, len_l, len_t, it_sl, it_st, it_ss, ty_str, ty_tup, c_le, c_ge, c_lt, c_gt, c_eqi, c_nei, c_eqs, c_nes, c_eqb, c_isb, c_isnb, o_add, o_sub, idx_t, idx_l, at0, at1, at2, at3, Bool.not_true, Bool.not_false, Bool.true_and, Bool.false_and, tgSlots, wipeE, bindT, List.getElem?_cons_zero, List.getElem?_cons_succ, List.set_cons_zero, List.set_cons_succ, Option.map_some, if_true, Bool.false_eq_true, if_false])
                  simp only [v_nil, v_cons, v_for, v_asg, v_par, v_unp, v_setI, v_expr, v_ret, v_ife, v_pass, e_var, e_const, e_tup, e_lst, e_bin, e_negc, e_not, e_and, e_or, e_cmp, e_chain, e_ife, e_idx, e_slc, e_call, e_isi, e_blt, evDs, evPar, evAnd, x_bind, x_then, ok_bind, ok_then, nx_then, rt_then, np_imp, np_nl, np_py, ni_imp, ni_py, ni_nl, nb_imp, nb_py, no_none, no_int, no_intp, fz_imp, fz_im, fz_nl, im_py, im_imp, ok_imp, dm_nil, dm_one, dm_two, dr_py, tp_nil, tp_cons, ck_true, fin_rt, fin_nx, tr_imp, tr_nl, st_im, st_imp, st_nl, st_nlt, un_imp, b_len, b_all, b_any, b_max, b_min, b_int, b_intb, b_ll, b_lt, b_tl, b_tt, len_l, len_t, it_sl, it_st, it_ss, ty_str, ty_tup, c_le, c_ge, c_lt, c_gt, c_eqi, c_nei, c_eqs, c_nes, c_eqb, c_isb, c_isnb, o_add, o_sub, idx_t, idx_l, at0, at1, at2, at3, Bool.not_true, Bool.not_false, Bool.true_and, Bool.false_and, tgSlots, wipeE, bindT, List.getElem?_cons_zero, List.getElem?_cons_succ, List.set_cons_zero, List.set_cons_succ, Option.map_some, if_true, Bool.false_eq_true, if_false, hc3, h3 _ c' _ (others_strs hn _) hsc fsc, nm, may]
                  rcases Bool.eq_false_or_eq_true (areNames (others (names ts) (.str s)) c') with hq | hq <;> simp only [hq, v_nil, v_cons, v_for, v_asg, v_par, v_unp, v_setI, v_expr, v_ret, v_ife, v_pass, e_var, e_const, e_tup, e_lst, e_bin, e_negc, e_not, e_and, e_or, e_cmp, e_chain, e_ife, e_idx, e_slc, e_call, e_isi, e_blt, evDs, evPar, evAnd, x_bind, x_then, ok_bind, ok_then, nx_then, rt_then, np_imp, np_nl, np_py, ni_imp, ni_py, ni_nl, nb_imp, nb_py, no_none, no_int, no_intp, fz_imp, fz_im, fz_nl, im_py, im_imp, ok_imp, dm_nil, dm_one, dm_two, dr_py, tp_nil, tp_cons, ck_true, fin_rt, fin_nx, tr_imp, tr_nl, st_im, st_imp, st_nl, st_nlt, un_imp, b_len, b_all, b_any, b_max, b_min, b_int, b_intb, b_ll, b_lt, b_tl, b_tt, len_l, len_t, it_sl, it_st, it_ss, ty_str, ty_tup, c_le, c_ge, c_lt, c_gt, c_eqi, c_nei, c_eqs, c_nes, c_eqb, c_isb, c_isnb, o_add, o_sub, idx_t, idx_l, at0, at1, at2, at3, Bool.not_true, Bool.not_false, Bool.true_and, Bool.false_and, tgSlots, wipeE, bindT, List.getElem?_cons_zero, List.getElem?_cons_succ, List.set_cons_zero, List.set_cons_succ, Option.map_some, if_true, Bool.false_eq_true, if_false]
                cases hM : (ts.all fun t => areNames (others (names ts) (nm t)) (may t)) with
                | false => rw [noTools (by rw [eT, hM]; simp only [Bool.and_false])]; simp only [v_nil, v_cons, v_for, v_asg, v_par, v_unp, v_setI, v_expr, v_ret, v_ife, v_pass, e_var, e_const, e_tup, e_lst, e_bin, e_negc, e_not, e_and, e_or, e_cmp, e_chain, e_ife, e_idx, e_slc, e_call, e_isi, e_blt, evDs, evPar, evAnd, x_bind, x_then, ok_bind, ok_then, nx_then, rt_then, np_imp, np_nl, np_py, ni_imp, ni_py, ni_nl, nb_imp, nb_py, no_none, no_int, no_intp, fz_imp, fz_im, fz_nl, im_py, im_imp, ok_imp, dm_nil, dm_one, dm_two, dr_py, tp_nil, tp_cons, ck_true, fin_rt, fin_nx, tr_imp, tr_nl, st_im, st_imp, st_nl, st_nlt, un_imp, b_len, b_all, b_any, b_max, b_min, b_int, b_intb, b_ll, b_lt, b_tl, b_tt, len_l, len_t, it_sl, it_st, it_ss, ty_str, ty_tup, c_le, c_ge, c_lt, c_gt, c_eqi, c_nei, c_eqs, c_nes, c_eqb, c_isb, c_isnb, o_add, o_sub, idx_t, idx_l, at0, at1, at2, at3, Bool.not_true, Bool.not_false, Bool.true_and, Bool.false_and, tgSlots, wipeE, bindT, List.getElem?_cons_zero, List.getElem?_cons_succ, List.set_cons_zero, List.set_cons_succ, Option.map_some, if_true, Bool.false_eq_true, if_false]
                | true =>
                  have hTools : areTools (.tuple ts) = true := by rw [eT, hB, hT, hA, hM]; rfl
                  obtain ⟨t0, ht0⟩ : ∃ e1, lastE [some (D.py (.tuple [.tuple ts, .tuple hs', c])), none, some (D.py (.list (names ts))), none, none, none] 1 ts = [some (D.py (.tuple [.tuple ts, .tuple hs', c])), e1, some (D.py (.list (names ts))), none, none, none] := by
                    unfold lastE
                    cases ts.getLast? with
                    | none => exact ⟨_, rfl⟩
                    | some y => exact ⟨_, rfl⟩
                  rw [ht0]
                  simp only [v_nil, v_cons, v_for, v_asg, v_par, v_unp, v_setI, v_expr, v_ret, v_ife, v_pass, e_var, e_const, e_tup, e_lst, e_bin, e_negc, e_not, e_and, e_or, e_cmp, e_chain, e_ife, e_idx, e_slc, e_call, e_isi, e_blt, evDs, evPar, evAnd, x_bind, x_then, ok_bind, ok_then, nx_then, rt_then, np_imp, np_nl, np_py, ni_imp, ni_py, ni_nl, nb_imp, nb_py, no_none, no_int, no_intp, fz_imp, fz_im, fz_nl, im_py, im_imp, ok_imp, dm_nil, dm_one, dm_two, dr_py, tp_nil, tp_cons, ck_true, fin_rt, fin_nx, tr_imp, tr_nl, st_im, st_imp, st_nl, st_nlt, un_imp, b_len, b_all, b_any, b_max, b_min, b_int, b_intb, b_ll, b_lt, b_tl, b_tt, len_l, len_t, it_sl, it_st, it_ss, ty_str, ty_tup, c_le, c_ge, c_lt, c_gt, c_eqi, c_nei, c_eqs, c_nes, c_eqb, c_isb, c_isnb, o_add, o_sub, idx_t, idx_l, at0, at1, at2, at3, Bool.not_true, Bool.not_false, Bool.true_and, Bool.false_and, tgSlots, wipeE, bindT, List.getElem?_cons_zero, List.getElem?_cons_succ, List.set_cons_zero, List.set_cons_succ, Option.map_some, if_true, Bool.false_eq_true, if_false, hI2]
                  rw [forL_all (good := hookOk (names ts)) hs' _ (fun y hy => ?_)]
                  rotate_left
                  · have hsy := hsh y hy
                    have fsy := fit_mem fb hy
                    cases y with
                    | tuple ws =>
                      obtain ⟨z2, hs2⟩ := small_tup hsy
                      by_cases hl : ws.length = 2
                      · rcases ws with _ | ⟨p, _ | ⟨q, _ | ⟨r, ws⟩⟩⟩ <;> try (simp at hl; done)
                        have e3 : (((0 + 1 + 1 : Nat) : Int) == 2) = true := rfl
                        have hce : cmpop .eq p q = some (p.eqv q) := by
                          show (if (fit p && fit q) = true then some (p.eqv q) else none) = _
                          rw [fit_mem fsy (y := p) (by simp), fit_mem fsy (y := q) (by simp), Bool.and_self, if_pos rfl]
                        have hc : ∀ st, evE Φ [some (D.py (.tuple [.tuple ts, .tuple hs', c])), t0, some (D.py (.list (names ts))), some (.py (.tuple [p, q])), none, none] (.comp (.var 5) (.one 5) .seq [(.var 3)] [(.or (.not (.isi .str (.var 5))) (.cmp .notin (.var 5) (.var 2)))]) st =
                            .ok (.nl ([p, q].filter fun y => !oneOf (names ts) y)) st := fun st => by
                          refine comp_filter _ (ds := [.py (.tuple [p, q])]) (by simp only [v_nil, v_cons, v_for, v_asg, v_par, v_unp, v_setI, v_expr, v_ret, v_ife, v_pass, e_var, e_const, e_tup, e_lst, e_bin, e_negc, e_not, e_and, e_or, e_cmp, e_chain, e_ife, e_idx, e_slc, e_call, e_isi, e_blt, evDs, evPar, evAnd, x_bind, x_then, ok_bind, ok_then, nx_then, rt_then, np_imp, np_nl, np_py, ni_imp, ni_py, ni_nl, nb_imp, nb_py, no_none, no_int, no_intp, fz_imp, fz_im, fz_nl, im_py, im_imp, ok_imp, dm_nil, dm_one, dm_two, dr_py, tp_nil, tp_cons, ck_true, fin_rt, fin_nx, tr_imp, tr_nl, st_im, st_imp, st_nl, st_nlt, un_imp, b_len, b_all, b_any, b_max, b_min, b_int, b_intb, b_ll, b_lt, b_tl, b_tt, len_l, len_t, it_sl, it_st, it_ss, ty_str, ty_tup, c_le, c_ge, c_lt, c_gt, c_eqi, c_nei, c_eqs, c_nes, c_eqb, c_isb, c_isnb, o_add, o_sub, idx_t, idx_l, at0, at1, at2, at3, Bool.not_true, Bool.not_false, Bool.true_and, Bool.false_and, tgSlots, wipeE, bindT, List.getElem?_cons_zero, List.getElem?_cons_succ, List.set_cons_zero, List.set_cons_succ, Option.map_some, if_true, Bool.false_eq_true, if_false]) (by simp only [v_nil, v_cons, v_for, v_asg, v_par, v_unp, v_setI, v_expr, v_ret, v_ife, v_pass, e_var, e_const, e_tup, e_lst, e_bin, e_negc, e_not, e_and, e_or, e_cmp, e_chain, e_ife, e_idx, e_slc, e_call, e_isi, e_blt, evDs, evPar, evAnd, x_bind, x_then, ok_bind, ok_then, nx_then, rt_then, np_imp, np_nl, np_py, ni_imp, ni_py, ni_nl, nb_imp, nb_py, no_none, no_int, no_intp, fz_imp, fz_im, fz_nl, im_py, im_imp, ok_imp, dm_nil, dm_one, dm_two, dr_py, tp_nil, tp_cons, ck_true, fin_rt, fin_nx, tr_imp, tr_nl, st_im, st_imp, st_nl, st_nlt, un_imp, b_len, b_all, b_any, b_max, b_min, b_int, b_intb, b_ll, b_lt, b_tl, b_tt, len_l, len_t, it_sl, it_st, it_ss, ty_str, ty_tup, c_le, c_ge, c_lt, c_gt, c_eqi, c_nei, c_eqs, c_nes, c_eqb, c_isb, c_isnb, o_add, o_sub, idx_t, idx_l, at0, at1, at2, at3, Bool.not_true, Bool.not_false, Bool.true_and, Bool.false_and, tgSlots, wipeE, bindT, List.getElem?_cons_zero, List.getElem?_cons_succ, List.set_cons_zero, List.set_cons_succ, Option.map_some, if_true, Bool.false_eq_true, if_false]) (fun y hy st => ?_) (show 2 ≤ SZ by decide)
                          exact turn_if (env1 := [some (D.py (.tuple [.tuple ts, .tuple hs', c])), t0, some (D.py (.list (names ts))), some (.py (.tuple [p, q])), none, some (.py y)]) (by simp only [v_nil, v_cons, v_for, v_asg, v_par, v_unp, v_setI, v_expr, v_ret, v_ife, v_pass, e_var, e_const, e_tup, e_lst, e_bin, e_negc, e_not, e_and, e_or, e_cmp, e_chain, e_ife, e_idx, e_slc, e_call, e_isi, e_blt, evDs, evPar, evAnd, x_bind, x_then, ok_bind, ok_then, nx_then, rt_then, np_imp, np_nl, np_py, ni_imp, ni_py, ni_nl, nb_imp, nb_py, no_none, no_int, no_intp, fz_imp, fz_im, fz_nl, im_py, im_imp, ok_imp, dm_nil, dm_one, dm_two, dr_py, tp_nil, tp_cons, ck_true, fin_rt, fin_nx, tr_imp, tr_nl, st_im, st_imp, st_nl, st_nlt, un_imp, b_len, b_all, b_any, b_max, b_min, b_int, b_intb, b_ll, b_lt, b_tl, b_tt, len_l, len_t, it_sl, it_st, it_ss, ty_str, ty_tup, c_le, c_ge, c_lt, c_gt, c_eqi, c_nei, c_eqs, c_nes, c_eqb, c_isb, c_isnb, o_add, o_sub, idx_t, idx_l, at0, at1, at2, at3, Bool.not_true, Bool.not_false, Bool.true_and, Bool.false_and, tgSlots, wipeE, bindT, List.getElem?_cons_zero, List.getElem?_cons_succ, List.set_cons_zero, List.set_cons_succ, Option.map_some, if_true, Bool.false_eq_true, if_false]) (notIn_oneOf hn y _ _ 5 2 rfl _ rfl rfl) (fun _ => by simp only [v_nil, v_cons, v_for, v_asg, v_par, v_unp, v_setI, v_expr, v_ret, v_ife, v_pass, e_var, e_const, e_tup, e_lst, e_bin, e_negc, e_not, e_and, e_or, e_cmp, e_chain, e_ife, e_idx, e_slc, e_call, e_isi, e_blt, evDs, evPar, evAnd, x_bind, x_then, ok_bind, ok_then, nx_then, rt_then, np_imp, np_nl, np_py, ni_imp, ni_py, ni_nl, nb_imp, nb_py, no_none, no_int, no_intp, fz_imp, fz_im, fz_nl, im_py, im_imp, ok_imp, dm_nil, dm_one, dm_two, dr_py, tp_nil, tp_cons, ck_true, fin_rt, fin_nx, tr_imp, tr_nl, st_im, st_imp, st_nl, st_nlt, un_imp, b_len, b_all, b_any, b_max, b_min, b_int, b_intb, b_ll, b_lt, b_tl, b_tt, len_l, len_t, it_sl, it_st, it_ss, ty_str, ty_tup, c_le, c_ge, c_lt, c_gt, c_eqi, c_nei, c_eqs, c_nes, c_eqb, c_isb, c_isnb, o_add, o_sub, idx_t, idx_l, at0, at1, at2, at3, Bool.not_true, Bool.not_false, Bool.true_and, Bool.false_and, tgSlots, wipeE, bindT, List.getElem?_cons_zero, List.getElem?_cons_succ, List.set_cons_zero, List.set_cons_succ, Option.map_some, if_true, Bool.false_eq_true, if_false])
                        have eh : hookOk (names ts) (.tuple [p, q]) = ((oneOf (names ts) p && oneOf (names ts) q) && !p.eqv q) := rfl
                        simp only [v_nil, v_cons, v_for, v_asg, v_par, v_unp, v_setI, v_expr, v_ret, v_ife, v_pass, e_var, e_const, e_tup, e_lst, e_bin, e_negc, e_not, e_and, e_or, e_cmp, e_chain, e_ife, e_idx, e_slc, e_call, e_isi, e_blt, evDs, evPar, evAnd, x_bind, x_then, ok_bind, ok_then, nx_then, rt_then, np_imp, np_nl, np_py, ni_imp, ni_py, ni_nl, nb_imp, nb_py, no_none, no_int, no_intp, fz_imp, fz_im, fz_nl, im_py, im_imp, ok_imp, dm_nil, dm_one, dm_two, dr_py, tp_nil, tp_cons, ck_true, fin_rt, fin_nx, tr_imp, tr_nl, st_im, st_imp, st_nl, st_nlt, un_imp, b_len, b_all, b_any, b_max, b_min, b_int, b_intb, b_ll, b_lt, b_tl, b_tt, len_l, len_t, it_sl, it_st, it_ss, ty_str, ty_tup, c_le, c_ge, c_lt, c_gt, c_eqi, c_nei, c_eqs, c_nes, c_eqb, c_isb, c_isnb, o_add, o_sub, idx_t, idx_l, at0, at1, at2, at3, Bool.not_true, Bool.not_false, Bool.true_and, Bool.false_and, tgSlots, wipeE, bindT, List.getElem?_cons_zero, List.getElem?_cons_succ, List.set_cons_zero, List.set_cons_succ, Option.map_some, if_true, Bool.false_eq_true, if_false, List.length_cons, List.length_nil, e3, hce]
                        rw [eh]
                        cases p.eqv q with
                        | true => simp only [v_nil, v_cons, v_for, v_asg, v_par, v_unp, v_setI, v_expr, v_ret, v_ife, v_pass, e_var, e_const, e_tup, e_lst, e_bin, e_negc, e_not, e_and, e_or, e_cmp, e_chain, e_ife, e_idx, e_slc, e_call, e_isi, e_blt, evDs, evPar, evAnd, x_bind, x_then, ok_bind, ok_then, nx_then, rt_then, np_imp, np_nl, np_py, ni_imp, ni_py, ni_nl, nb_imp, nb_py, no_none, no_int, no_intp, fz_imp, fz_im, fz_nl, im_py, im_imp, ok_imp, dm_nil, dm_one, dm_two, dr_py, tp_nil, tp_cons, ck_true, fin_rt, fin_nx, tr_imp, tr_nl, st_im, st_imp, st_nl, st_nlt, un_imp, b_len, b_all, b_any, b_max, b_min, b_int, b_intb, b_ll, b_lt, b_tl, b_tt, len_l, len_t, it_sl, it_st, it_ss, ty_str, ty_tup, c_le, c_ge, c_lt, c_gt, c_eqi, c_nei, c_eqs, c_nes, c_eqb, c_isb, c_isnb, o_add, o_sub, idx_t, idx_l, at0, at1, at2, at3, Bool.not_true, Bool.not_false, Bool.true_and, Bool.false_and, tgSlots, wipeE, bindT, List.getElem?_cons_zero, List.getElem?_cons_succ, List.set_cons_zero, List.set_cons_succ, Option.map_some, if_true, Bool.false_eq_true, if_false, Bool.and_false]
                        | false =>
                          simp only [v_nil, v_cons, v_for, v_asg, v_par, v_unp, v_setI, v_expr, v_ret, v_ife, v_pass, e_var, e_const, e_tup, e_lst, e_bin, e_negc, e_not, e_and, e_or, e_cmp, e_chain, e_ife, e_idx, e_slc, e_call, e_isi, e_blt, evDs, evPar, evAnd, x_bind, x_then, ok_bind, ok_then, nx_then, rt_then, np_imp, np_nl, np_py, ni_imp, ni_py, ni_nl, nb_imp, nb_py, no_none, no_int, no_intp, fz_imp, fz_im, fz_nl, im_py, im_imp, ok_imp, dm_nil, dm_one, dm_two, dr_py, tp_nil, tp_cons, ck_true, fin_rt, fin_nx, tr_imp, tr_nl, st_im, st_imp, st_nl, st_nlt, un_imp, b_len, b_all, b_any, b_max, b_min, b_int, b_intb, b_ll, b_lt, b_tl, b_tt, len_l, len_t, it_sl, it_st, it_ss, ty_str, ty_tup, c_le, c_ge, c_lt, c_gt, c_eqi, c_nei, c_eqs, c_nes, c_eqb, c_isb, c_isnb, o_add, o_sub, idx_t, idx_l, at0, at1, at2, at3, Bool.not_true, Bool.not_false, Bool.true_and, Bool.false_and, tgSlots, wipeE, bindT, List.getElem?_cons_zero, List.getElem?_cons_succ, List.set_cons_zero, List.set_cons_succ, Option.map_some, if_true, Bool.false_eq_true, if_false, hc, l0, List.length_nil, c_nee _ (fit_filter fsy _), emptyFilter, Bool.not_not, List.all_cons, List.all_nil, Bool.and_true]
                          cases (oneOf (names ts) p && oneOf (names ts) q) <;> simp only [v_nil, v_cons, v_for, v_asg, v_par, v_unp, v_setI, v_expr, v_ret, v_ife, v_pass, e_var, e_const, e_tup, e_lst, e_bin, e_negc, e_not, e_and, e_or, e_cmp, e_chain, e_ife, e_idx, e_slc, e_call, e_isi, e_blt, evDs, evPar, evAnd, x_bind, x_then, ok_bind, ok_then, nx_then, rt_then, np_imp, np_nl, np_py, ni_imp, ni_py, ni_nl, nb_imp, nb_py, no_none, no_int, no_intp, fz_imp, fz_im, fz_nl, im_py, im_imp, ok_imp, dm_nil, dm_one, dm_two, dr_py, tp_nil, tp_cons, ck_true, fin_rt, fin_nx, tr_imp, tr_nl, st_im, st_imp, st_nl, st_nlt, un_imp, b_len, b_all, b_any, b_max, b_min, b_int, b_intb, b_ll, b_lt, b_tl, b_tt, len_l, len_t, it_sl, it_st, it_ss, ty_str, ty_tup, c_le, c_ge, c_lt, c_gt, c_eqi, c_nei, c_eqs, c_nes, c_eqb, c_isb, c_isnb, o_add, o_sub, idx_t, idx_l, at0, at1, at2, at3, Bool.not_true, Bool.not_false, Bool.true_and, Bool.false_and, tgSlots, wipeE, bindT, List.getElem?_cons_zero, List.getElem?_cons_succ, List.set_cons_zero, List.set_cons_succ, Option.map_some, if_true, Bool.false_eq_true, if_false]
                      · have e3 : (((ws.length : Nat) : Int) == 2) = false := by
                          rw [beq_eq_false_iff_ne]
                          omega
                        have e4 : hookOk (names ts) (.tuple ws) = false := by
                          rcases ws with _ | ⟨p, _ | ⟨q, _ | ⟨r, ws⟩⟩⟩ <;> first | rfl | (simp at hl)
                        simp only [v_nil, v_cons, v_for, v_asg, v_par, v_unp, v_setI, v_expr, v_ret, v_ife, v_pass, e_var, e_const, e_tup, e_lst, e_bin, e_negc, e_not, e_and, e_or, e_cmp, e_chain, e_ife, e_idx, e_slc, e_call, e_isi, e_blt, evDs, evPar, evAnd, x_bind, x_then, ok_bind, ok_then, nx_then, rt_then, np_imp, np_nl, np_py, ni_imp, ni_py, ni_nl, nb_imp, nb_py, no_none, no_int, no_intp, fz_imp, fz_im, fz_nl, im_py, im_imp, ok_imp, dm_nil, dm_one, dm_two, dr_py, tp_nil, tp_cons, ck_true, fin_rt, fin_nx, tr_imp, tr_nl, st_im, st_imp, st_nl, st_nlt, un_imp, b_len, b_all, b_any, b_max, b_min, b_int, b_intb, b_ll, b_lt, b_tl, b_tt, len_l, len_t, it_sl, it_st, it_ss, ty_str, ty_tup, c_le, c_ge, c_lt, c_gt, c_eqi, c_nei, c_eqs, c_nes, c_eqb, c_isb, c_isnb, o_add, o_sub, idx_t, idx_l, at0, at1, at2, at3, Bool.not_true, Bool.not_false, Bool.true_and, Bool.false_and, tgSlots, wipeE, bindT, List.getElem?_cons_zero, List.getElem?_cons_succ, List.set_cons_zero, List.set_cons_succ, Option.map_some, if_true, Bool.false_eq_true, if_false, e3, e4]
                    | _ => simp only [v_nil, v_cons, v_for, v_asg, v_par, v_unp, v_setI, v_expr, v_ret, v_ife, v_pass, e_var, e_const, e_tup, e_lst, e_bin, e_negc, e_not, e_and, e_or, e_cmp, e_chain, e_ife, e_idx, e_slc, e_call, e_isi, e_blt, evDs, evPar, evAnd, x_bind, x_then, ok_bind, ok_then, nx_then, rt_then, np_imp, np_nl, np_py, ni_imp, ni_py, ni_nl, nb_imp, nb_py, no_none, no_int, no_intp, fz_imp, fz_im, fz_nl, im_py, im_imp, ok_imp, dm_nil, dm_one, dm_two, dr_py, tp_nil, tp_cons, ck_true, fin_rt, fin_nx, tr_imp, tr_nl, st_im, st_imp, st_nl, st_nlt, un_imp, b_len, b_all, b_any, b_max, b_min, b_int, b_intb, b_ll, b_lt, b_tl, b_tt, len_l, len_t, it_sl, it_st, it_ss, ty_str, ty_tup, c_le, c_ge, c_lt, c_gt, c_eqi, c_nei, c_eqs, c_nes, c_eqb, c_isb, c_isnb, o_add, o_sub, idx_t, idx_l, at0, at1, at2, at3, Bool.not_true, Bool.not_false, Bool.true_and, Bool.false_and, tgSlots, wipeE, bindT, List.getElem?_cons_zero, List.getElem?_cons_succ, List.set_cons_zero, List.set_cons_succ, Option.map_some, if_true, Bool.false_eq_true, if_false, isTy, hookOk]
                  cases hH : hs'.all (hookOk (names ts)) with
                  | false => rw [noHooks (ts := ts) (b := .tuple hs') (show (hs'.all (hookOk (names ts)) && asc hs') = false by rw [hH]; rfl)]; simp only [v_nil, v_cons, v_for, v_asg, v_par, v_unp, v_setI, v_expr, v_ret, v_ife, v_pass, e_var, e_const, e_tup, e_lst, e_bin, e_negc, e_not, e_and, e_or, e_cmp, e_chain, e_ife, e_idx, e_slc, e_call, e_isi, e_blt, evDs, evPar, evAnd, x_bind, x_then, ok_bind, ok_then, nx_then, rt_then, np_imp, np_nl, np_py, ni_imp, ni_py, ni_nl, nb_imp, nb_py, no_none, no_int, no_intp, fz_imp, fz_im, fz_nl, im_py, im_imp, ok_imp, dm_nil, dm_one, dm_two, dr_py, tp_nil, tp_cons, ck_true, fin_rt, fin_nx, tr_imp, tr_nl, st_im, st_imp, st_nl, st_nlt, un_imp, b_len, b_all, b_any, b_max, b_min, b_int, b_intb, b_ll, b_lt, b_tl, b_tt, len_l, len_t, it_sl, it_st, it_ss, ty_str, ty_tup, c_le, c_ge, c_lt, c_gt, c_eqi, c_nei, c_eqs, c_nes, c_eqb, c_isb, c_isnb, o_add, o_sub, idx_t, idx_l, at0, at1, at2, at3, Bool.not_true, Bool.not_false, Bool.true_and, Bool.false_and, tgSlots, wipeE, bindT, List.getElem?_cons_zero, List.getElem?_cons_succ, List.set_cons_zero, List.set_cons_succ, Option.map_some, if_true, Bool.false_eq_true, if_false]
                  | true =>
                    have hr : RowOk hs' := .inr fun x hx => hookOk_shape (List.all_eq_true.mp hH x hx)
                    obtain ⟨u0, hu0⟩ : ∃ e1, lastE [some (D.py (.tuple [.tuple ts, .tuple hs', c])), t0, some (D.py (.list (names ts))), none, none, none] 3 hs' = [some (D.py (.tuple [.tuple ts, .tuple hs', c])), t0, some (D.py (.list (names ts))), e1, none, none] := by
                      unfold lastE
                      cases hs'.getLast? with
                      | none => exact ⟨_, rfl⟩
                      | some y => exact ⟨_, rfl⟩
                    rw [hu0]
                    simp only [v_nil, v_cons, v_for, v_asg, v_par, v_unp, v_setI, v_expr, v_ret, v_ife, v_pass, e_var, e_const, e_tup, e_lst, e_bin, e_negc, e_not, e_and, e_or, e_cmp, e_chain, e_ife, e_idx, e_slc, e_call, e_isi, e_blt, evDs, evPar, evAnd, x_bind, x_then, ok_bind, ok_then, nx_then, rt_then, np_imp, np_nl, np_py, ni_imp, ni_py, ni_nl, nb_imp, nb_py, no_none, no_int, no_intp, fz_imp, fz_im, fz_nl, im_py, im_imp, ok_imp, dm_nil, dm_one, dm_two, dr_py, tp_nil, tp_cons, ck_true, fin_rt, fin_nx, tr_imp, tr_nl, st_im, st_imp, st_nl, st_nlt, un_imp, b_len, b_all, b_any, b_max, b_min, b_int, b_intb, b_ll, b_lt, b_tl, b_tt, len_l, len_t, it_sl, it_st, it_ss, ty_str, ty_tup, c_le, c_ge, c_lt, c_gt, c_eqi, c_nei, c_eqs, c_nes, c_eqb, c_isb, c_isnb, o_add, o_sub, idx_t, idx_l, at0, at1, at2, at3, Bool.not_true, Bool.not_false, Bool.true_and, Bool.false_and, tgSlots, wipeE, bindT, List.getElem?_cons_zero, List.getElem?_cons_succ, List.set_cons_zero, List.set_cons_succ, Option.map_some, if_true, Bool.false_eq_true, if_false, h2 _ _ _ (.inr rfl) hr zh]
                    cases hA2 : asc hs' with
                    | false => rw [noHooks (ts := ts) (b := .tuple hs') (show (hs'.all (hookOk (names ts)) && asc hs') = false by rw [hA2, Bool.and_false])]; simp only [v_nil, v_cons, v_for, v_asg, v_par, v_unp, v_setI, v_expr, v_ret, v_ife, v_pass, e_var, e_const, e_tup, e_lst, e_bin, e_negc, e_not, e_and, e_or, e_cmp, e_chain, e_ife, e_idx, e_slc, e_call, e_isi, e_blt, evDs, evPar, evAnd, x_bind, x_then, ok_bind, ok_then, nx_then, rt_then, np_imp, np_nl, np_py, ni_imp, ni_py, ni_nl, nb_imp, nb_py, no_none, no_int, no_intp, fz_imp, fz_im, fz_nl, im_py, im_imp, ok_imp, dm_nil, dm_one, dm_two, dr_py, tp_nil, tp_cons, ck_true, fin_rt, fin_nx, tr_imp, tr_nl, st_im, st_imp, st_nl, st_nlt, un_imp, b_len, b_all, b_any, b_max, b_min, b_int, b_intb, b_ll, b_lt, b_tl, b_tt, len_l, len_t, it_sl, it_st, it_ss, ty_str, ty_tup, c_le, c_ge, c_lt, c_gt, c_eqi, c_nei, c_eqs, c_nes, c_eqb, c_isb, c_isnb, o_add, o_sub, idx_t, idx_l, at0, at1, at2, at3, Bool.not_true, Bool.not_false, Bool.true_and, Bool.false_and, tgSlots, wipeE, bindT, List.getElem?_cons_zero, List.getElem?_cons_succ, List.set_cons_zero, List.set_cons_succ, Option.map_some, if_true, Bool.false_eq_true, if_false]
                    | true =>
                      have hHooks : areHooks (names ts) (.tuple hs') = true := (show (hs'.all (hookOk (names ts)) && asc hs') = true by rw [hH, hA2]; rfl)
                      cases c with
                      | tuple cs =>
                        obtain ⟨z3, hs3⟩ := small_tup hcc
                        by_cases hl2 : cs.length = 2
                        · rcases cs with _ | ⟨x, _ | ⟨y, _ | ⟨d, cs⟩⟩⟩ <;> try (simp at hl2; done)
                          have hx : small x = true := hs3 x (by simp)
                          have hy : small y = true := hs3 y (by simp)
                          have fx := fit_mem fc (y := x) (by simp)
                          have fy := fit_mem fc (y := y) (by simp)
                          have e4 : (((0 + 1 + 1 : Nat) : Int) == 2) = true := rfl
                          have e5 : isSetup (.tuple [.tuple ts, .tuple hs', .tuple [x, y]]) = (areTools (.tuple ts) && (areHooks (names ts) (.tuple hs') && (areNames (names ts) x && areNames (names ts) y))) := rfl
                          simp only [v_nil, v_cons, v_for, v_asg, v_par, v_unp, v_setI, v_expr, v_ret, v_ife, v_pass, e_var, e_const, e_tup, e_lst, e_bin, e_negc, e_not, e_and, e_or, e_cmp, e_chain, e_ife, e_idx, e_slc, e_call, e_isi, e_blt, evDs, evPar, evAnd, x_bind, x_then, ok_bind, ok_then, nx_then, rt_then, np_imp, np_nl, np_py, ni_imp, ni_py, ni_nl, nb_imp, nb_py, no_none, no_int, no_intp, fz_imp, fz_im, fz_nl, im_py, im_imp, ok_imp, dm_nil, dm_one, dm_two, dr_py, tp_nil, tp_cons, ck_true, fin_rt, fin_nx, tr_imp, tr_nl, st_im, st_imp, st_nl, st_nlt, un_imp, b_len, b_all, b_any, b_max, b_min, b_int, b_intb, b_ll, b_lt, b_tl, b_tt, len_l, len_t, it_sl, it_st, it_ss, ty_str, ty_tup, c_le, c_ge, c_lt, c_gt, c_eqi, c_nei, c_eqs, c_nes, c_eqb, c_isb, c_isnb, o_add, o_sub, idx_t, idx_l, at0, at1, at2, at3, Bool.not_true, Bool.not_false, Bool.true_and, Bool.false_and, tgSlots, wipeE, bindT, List.getElem?_cons_zero, List.getElem?_cons_succ, List.set_cons_zero, List.set_cons_succ, Option.map_some, if_true, Bool.false_eq_true, if_false, List.length_cons, List.length_nil, e4, e5, hTools, hHooks, h3 _ x _ hn hx fx, h3 _ y _ hn hy fy]
                          cases areNames (names ts) x <;> simp only [v_nil, v_cons, v_for, v_asg, v_par, v_unp, v_setI, v_expr, v_ret, v_ife, v_pass, e_var, e_const, e_tup, e_lst, e_bin, e_negc, e_not, e_and, e_or, e_cmp, e_chain, e_ife, e_idx, e_slc, e_call, e_isi, e_blt, evDs, evPar, evAnd, x_bind, x_then, ok_bind, ok_then, nx_then, rt_then, np_imp, np_nl, np_py, ni_imp, ni_py, ni_nl, nb_imp, nb_py, no_none, no_int, no_intp, fz_imp, fz_im, fz_nl, im_py, im_imp, ok_imp, dm_nil, dm_one, dm_two, dr_py, tp_nil, tp_cons, ck_true, fin_rt, fin_nx, tr_imp, tr_nl, st_im, st_imp, st_nl, st_nlt, un_imp, b_len, b_all, b_any, b_max, b_min, b_int, b_intb, b_ll, b_lt, b_tl, b_tt, len_l, len_t, it_sl, it_st, it_ss, ty_str, ty_tup, c_le, c_ge, c_lt, c_gt, c_eqi, c_nei, c_eqs, c_nes, c_eqb, c_isb, c_isnb, o_add, o_sub, idx_t, idx_l, at0, at1, at2, at3, Bool.not_true, Bool.not_false, Bool.true_and, Bool.false_and, tgSlots, wipeE, bindT, List.getElem?_cons_zero, List.getElem?_cons_succ, List.set_cons_zero, List.set_cons_succ, Option.map_some, if_true, Bool.false_eq_true, if_false]
                        · have e4 : (((cs.length : Nat) : Int) == 2) = false := by
                            rw [beq_eq_false_iff_ne]
                            omega
                          rw [noBars fun x y e => by cases e; exact hl2 rfl]
                          simp only [v_nil, v_cons, v_for, v_asg, v_par, v_unp, v_setI, v_expr, v_ret, v_ife, v_pass, e_var, e_const, e_tup, e_lst, e_bin, e_negc, e_not, e_and, e_or, e_cmp, e_chain, e_ife, e_idx, e_slc, e_call, e_isi, e_blt, evDs, evPar, evAnd, x_bind, x_then, ok_bind, ok_then, nx_then, rt_then, np_imp, np_nl, np_py, ni_imp, ni_py, ni_nl, nb_imp, nb_py, no_none, no_int, no_intp, fz_imp, fz_im, fz_nl, im_py, im_imp, ok_imp, dm_nil, dm_one, dm_two, dr_py, tp_nil, tp_cons, ck_true, fin_rt, fin_nx, tr_imp, tr_nl, st_im, st_imp, st_nl, st_nlt, un_imp, b_len, b_all, b_any, b_max, b_min, b_int, b_intb, b_ll, b_lt, b_tl, b_tt, len_l, len_t, it_sl, it_st, it_ss, ty_str, ty_tup, c_le, c_ge, c_lt, c_gt, c_eqi, c_nei, c_eqs, c_nes, c_eqb, c_isb, c_isnb, o_add, o_sub, idx_t, idx_l, at0, at1, at2, at3, Bool.not_true, Bool.not_false, Bool.true_and, Bool.false_and, tgSlots, wipeE, bindT, List.getElem?_cons_zero, List.getElem?_cons_succ, List.set_cons_zero, List.set_cons_succ, Option.map_some, if_true, Bool.false_eq_true, if_false, e4]
                      | _ => rw [noBars fun x y e => by cases e]; simp only [v_nil, v_cons, v_for, v_asg, v_par, v_unp, v_setI, v_expr, v_ret, v_ife, v_pass, e_var, e_const, e_tup, e_lst, e_bin, e_negc, e_not, e_and, e_or, e_cmp, e_chain, e_ife, e_idx, e_slc, e_call, e_isi, e_blt, evDs, evPar, evAnd, x_bind, x_then, ok_bind, ok_then, nx_then, rt_then, np_imp, np_nl, np_py, ni_imp, ni_py, ni_nl, nb_imp, nb_py, no_none, no_int, no_intp, fz_imp, fz_im, fz_nl, im_py, im_imp, ok_imp, dm_nil, dm_one, dm_two, dr_py, tp_nil, tp_cons, ck_true, fin_rt, fin_nx, tr_imp, tr_nl, st_im, st_imp, st_nl, st_nlt, un_imp, b_len, b_all, b_any, b_max, b_min, b_int, b_intb, b_ll, b_lt, b_tl, b_tt, len_l, len_t, it_sl, it_st, it_ss, ty_str, ty_tup, c_le, c_ge, c_lt, c_gt, c_eqi, c_nei, c_eqs, c_nes, c_eqb, c_isb, c_isnb, o_add, o_sub, idx_t, idx_l, at0, at1, at2, at3, Bool.not_true, Bool.not_false, Bool.true_and, Bool.false_and, tgSlots, wipeE, bindT, List.getElem?_cons_zero, List.getElem?_cons_succ, List.set_cons_zero, List.set_cons_succ, Option.map_some, if_true, Bool.false_eq_true, if_false, isTy]
              | _ => rw [noHooks rfl]; simp only [v_nil, v_cons, v_for, v_asg, v_par, v_unp, v_setI, v_expr, v_ret, v_ife, v_pass, e_var, e_const, e_tup, e_lst, e_bin, e_negc, e_not, e_and, e_or, e_cmp, e_chain, e_ife, e_idx, e_slc, e_call, e_isi, e_blt, evDs, evPar, evAnd, x_bind, x_then, ok_bind, ok_then, nx_then, rt_then, np_imp, np_nl, np_py, ni_imp, ni_py, ni_nl, nb_imp, nb_py, no_none, no_int, no_intp, fz_imp, fz_im, fz_nl, im_py, im_imp, ok_imp, dm_nil, dm_one, dm_two, dr_py, tp_nil, tp_cons, ck_true, fin_rt, fin_nx, tr_imp, tr_nl, st_im, st_imp, st_nl, st_nlt, un_imp, b_len, b_all, b_any, b_max, b_min, b_int, b_intb, b_ll, b_lt, b_tl, b_tt, len_l, len_t, it_sl, it_st, it_ss, ty_str, ty_tup, c_le, c_ge, c_lt, c_gt, c_eqi, c_nei, c_eqs, c_nes, c_eqb, c_isb, c_isnb, o_add, o_sub, idx_t, idx_l, at0, at1, at2, at3, Bool.not_true, Bool.not_false, Bool.true_and, Bool.false_and, tgSlots, wipeE, bindT, List.getElem?_cons_zero, List.getElem?_cons_succ, List.set_cons_zero, List.set_cons_succ, Option.map_some, if_true, Bool.false_eq_true, if_false, isTy]
      | _ => rw [noTools rfl]; simp only [v_nil, v_cons, v_for, v_asg, v_par, v_unp, v_setI, v_expr, v_ret, v_ife, v_pass, e_var, e_const, e_tup, e_lst, e_bin, e_negc, e_not, e_and, e_or, e_cmp, e_chain, e_ife, e_idx, e_slc, e_call, e_isi, e_blt, evDs, evPar, evAnd, x_bind, x_then, ok_bind, ok_then, nx_then, rt_then, np_imp, np_nl, np_py, ni_imp, ni_py, ni_nl, nb_imp, nb_py, no_none, no_int, no_intp, fz_imp, fz_im, fz_nl, im_py, im_imp, ok_imp, dm_nil, dm_one, dm_two, dr_py, tp_nil, tp_cons, ck_true, fin_rt, fin_nx, tr_imp, tr_nl, st_im, st_imp, st_nl, st_nlt, un_imp, b_len, b_all, b_any, b_max, b_min, b_int, b_intb, b_ll, b_lt, b_tl, b_tt, len_l, len_t, it_sl, it_st, it_ss, ty_str, ty_tup, c_le, c_ge, c_lt, c_gt, c_eqi, c_nei, c_eqs, c_nes, c_eqb, c_isb, c_isnb, o_add, o_sub, idx_t, idx_l, at0, at1, at2, at3, Bool.not_true, Bool.not_false, Bool.true_and, Bool.false_and, tgSlots, wipeE, bindT, List.getElem?_cons_zero, List.getElem?_cons_succ, List.set_cons_zero, List.set_cons_succ, Option.map_some, if_true, Bool.false_eq_true, if_false, List.length_cons, List.length_nil, e3, isTy]
    · have e3 : (((vs.length : Nat) : Int) == 3) = false := by
        rw [beq_eq_false_iff_ne]
        omega
      have e4 : isSetup (.tuple vs) = false := by
        unfold isSetup
        split
        · rename_i e
          simp only [PyData.tuple.injEq] at e
          subst e
          exact absurd rfl hl
        · rfl
      simp only [v_nil, v_cons, v_for, v_asg, v_par, v_unp, v_setI, v_expr, v_ret, v_ife, v_pass, e_var, e_const, e_tup, e_lst, e_bin, e_negc, e_not, e_and, e_or, e_cmp, e_chain, e_ife, e_idx, e_slc, e_call, e_isi, e_blt, evDs, evPar, evAnd, x_bind, x_then, ok_bind, ok_then, nx_then, rt_then, np_imp, np_nl, np_py, ni_imp, ni_py, ni_nl, nb_imp, nb_py, no_none, no_int, no_intp, fz_imp, fz_im, fz_nl, im_py, im_imp, ok_imp, dm_nil, dm_one, dm_two, dr_py, tp_nil, tp_cons, ck_true, fin_rt, fin_nx, tr_imp, tr_nl, st_im, st_imp, st_nl, st_nlt, un_imp, b_len, b_all, b_any, b_max, b_min, b_int, b_intb, b_ll, b_lt, b_tl, b_tt, len_l, len_t, it_sl, it_st, it_ss, ty_str, ty_tup, c_le, c_ge, c_lt, c_gt, c_eqi, c_nei, c_eqs, c_nes, c_eqb, c_isb, c_isnb, o_add, o_sub, idx_t, idx_l, at0, at1, at2, at3, Bool.not_true, Bool.not_false, Bool.true_and, Bool.false_and, tgSlots, wipeE, bindT, List.getElem?_cons_zero, List.getElem?_cons_succ, List.set_cons_zero, List.set_cons_succ, Option.map_some, if_true, Bool.false_eq_true, if_false, e3, e4]
  | _ => simp only [v_nil, v_cons, v_for, v_asg, v_par, v_unp, v_setI, v_expr, v_ret, v_ife, v_pass, e_var, e_const, e_tup, e_lst, e_bin, e_negc, e_not, e_and, e_or, e_cmp, e_chain, e_ife, e_idx, e_slc, e_call, e_isi, e_blt, evDs, evPar, evAnd, x_bind, x_then, ok_bind, ok_then, nx_then, rt_then, np_imp, np_nl, np_py, ni_imp, ni_py, ni_nl, nb_imp, nb_py, no_none, no_int, no_intp, fz_imp, fz_im, fz_nl, im_py, im_imp, ok_imp, dm_nil, dm_one, dm_two, dr_py, tp_nil, tp_cons, ck_true, fin_rt, fin_nx, tr_imp, tr_nl, st_im, st_imp, st_nl, st_nlt, un_imp, b_len, b_all, b_any, b_max, b_min, b_int, b_intb, b_ll, b_lt, b_tl, b_tt, len_l, len_t, it_sl, it_st, it_ss, ty_str, ty_tup, c_le, c_ge, c_lt, c_gt, c_eqi, c_nei, c_eqs, c_nes, c_eqb, c_isb, c_isnb, o_add, o_sub, idx_t, idx_l, at0, at1, at2, at3, Bool.not_true, Bool.not_false, Bool.true_and, Bool.false_and, tgSlots, wipeE, bindT, List.getElem?_cons_zero, List.getElem?_cons_succ, List.set_cons_zero, List.set_cons_succ, Option.map_some, if_true, Bool.false_eq_true, if_false, isTy, isSetup]
end
end K01

/-! k01: the law, by the evaluator. -/
namespace K01
open PySem Kp
abbrev fs : List Fn := ds.map Dfn.fn
abbrev L (k : Nat) : Nat → List D → Sto → R Rv := evFn fs k

/-! each def, its meaning -/
theorem F_label (k : Nat) : LabelF (L (k + 1)) 0 := fun v st hv => (evFn_def (f := d0.fn) rfl rfl).trans (sem_isLabel hv)
theorem F_one (k : Nat) : OneF (L (k + 1)) 1 := fun W ws v st hW hs => (evFn_def (f := d1.fn) rfl rfl).trans (sem_oneOf hW hs)
theorem F_asc (k : Nat) : AscF (L (k + 1)) 2 := fun v xs st hv hr hz => (evFn_def (f := d2.fn) rfl rfl).trans (sem_ascends hv hr hz)
theorem F_names (k : Nat) : NamesF (L (k + 2)) 3 := fun W ns v st hW hs hv => (evFn_def (f := d3.fn) rfl rfl).trans (sem_areNames (F_one k) (F_asc k) hW hs hv)
theorem F_tool (k : Nat) : ToolF (L (k + 2)) 4 := fun v st hv => (evFn_def (f := d4.fn) rfl rfl).trans (sem_isTool (F_label k) (F_one k) hv)
theorem F_tools (k : Nat) : ToolsF (L (k + 3)) 5 := fun v st hv => (evFn_def (f := d5.fn) rfl rfl).trans (sem_areTools (F_tool k) (F_asc (k + 1)) (F_names k) hv)
theorem F_hooks (k : Nat) : HooksF (L (k + 2)) 6 := fun W ns v st hW hs hv => (evFn_def (f := d6.fn) rfl rfl).trans (sem_areHooks (F_one k) (F_asc k) hW hs hv)
theorem F_setup (k : Nat) : SetupF (L (k + 4)) 7 := fun v st hv => (evFn_def (f := d7.fn) rfl rfl).trans (sem_isSetup (F_tools k) (F_hooks (k + 1)) (F_names (k + 1)) hv)
theorem F_lawLabel (k : Nat) : LabelF (L (k + 1)) 15 := fun v st hv => (evFn_def (f := d15.fn) rfl rfl).trans (sem_lawLabel hv)
theorem F_climbs (k : Nat) : AscF (L (k + 1)) 16 := fun v xs st hv hr hz => (evFn_def (f := d16.fn) rfl rfl).trans (sem_lawClimbs hv hr hz)
theorem F_areOf (k : Nat) : ∀ ns v st, Strs ns → small v = true → fit v = true → L (k + 2) 17 [.py (.list ns), .py v] st = ok1 (.bool (areNames ns v)) st := fun ns v st hs hv hf => (evFn_def (f := d17.fn) rfl rfl).trans (sem_lawAreOf (F_climbs k) hs hv hf)
theorem F_lawTool (k : Nat) : ToolF (L (k + 2)) 18 := fun v st hv => (evFn_def (f := d18.fn) rfl rfl).trans (sem_lawTool (F_lawLabel k) hv)
theorem F_lawSetup (k : Nat) (v : P) (st : Sto) (hv : small v = true) (hf : fit v = true) : L (k + 3) 19 [.py v] st = ok1 (.bool (isSetup v)) st := (evFn_def (f := d19.fn) rfl rfl).trans (sem_lawSetup (F_lawTool k) (F_climbs (k + 1)) (F_areOf k) hv hf)
theorem F_less (k : Nat) : LessF (L (k + 1)) 9 := fun n st many hj h0 h1 => by
  obtain ⟨r, st', e, h⟩ := sem_less (Φ := L k) hj h0 h1
  exact ⟨r, st', (evFn_def (f := d9.fn) rfl rfl).trans e, h⟩
theorem F_some (k : Nat) : SomeF (L (k + 2)) 10 := fun n st v xs hv hne hz hj => by
  obtain ⟨r, st', e, h⟩ := sem_some (F_less k) hv hne hz hj
  exact ⟨r, st', (evFn_def (f := d10.fn) rfl rfl).trans e, h⟩
theorem F_part (k : Nat) : PartF (L (k + 2)) 11 := fun n st v xs odds hv hz hj => by
  obtain ⟨r, st', e, h⟩ := sem_part (F_less k) (odds := odds) hv hz hj
  exact ⟨r, st', (evFn_def (f := d11.fn) rfl rfl).trans e, h⟩
theorem F_mkTool (k : Nat) : MkToolF (L (k + 3)) 12 := fun n st ns s hs hz hj => by
  obtain ⟨r, st', e, h⟩ := sem_mkTool (F_some k) (F_part k) (F_less (k + 1)) (s := s) hs hz hj
  exact ⟨r, st', (evFn_def (f := d12.fn) rfl rfl).trans e, h⟩
theorem F_setupOf (k : Nat) : SetupOfF (L (k + 4)) 14 := fun n st ns hs hz hj => by
  obtain ⟨r, st', e, h⟩ := sem_setupOf (F_mkTool k) (F_less (k + 2)) (F_part (k + 1)) hs hz hj
  exact ⟨r, st', (evFn_def (f := d14.fn) rfl rfl).trans e, h⟩
theorem F_mkSetup (k : Nat) : MkSetupF (L (k + 5)) 13 := fun n st large hj => by
  obtain ⟨ns, r, st', e, h⟩ := sem_mkSetup (F_some (k + 2)) (F_less (k + 3)) (F_setupOf k) (large := large) hj
  exact ⟨ns, r, st', (evFn_def (f := d13.fn) rfl rfl).trans e, h⟩

/-! data of bounded width and depth -/
def bd (m : Nat) : Nat → P → Bool
  | _, .str s => decide (s.length ≤ 1000)
  | n + 1, .tuple xs => decide (xs.length ≤ m) && xs.all (bd m n)
  | n + 1, .list xs => decide (xs.length ≤ m) && xs.all (bd m n)
  | _, .none => true
  | _, .bool _ => true
  | _, .int _ => true
  | _, _ => false
theorem bd_tup {m n : Nat} {xs : List P} : bd m (n + 1) (.tuple xs) = (decide (xs.length ≤ m) && xs.all (bd m n)) := by rw [bd]
theorem bd_list {m n : Nat} {xs : List P} : bd m (n + 1) (.list xs) = (decide (xs.length ≤ m) && xs.all (bd m n)) := by rw [bd]
theorem bd_cases {m n : Nat} {v : P} (h : bd m n v = true) : (∃ xs k, (v = .tuple xs ∨ v = .list xs) ∧ n = k + 1 ∧ xs.length ≤ m ∧ ∀ x ∈ xs, bd m k x = true) ∨ ((∀ xs, v ≠ .tuple xs ∧ v ≠ .list xs) ∧ ∀ m' n', bd m' n' v = true ∧ small v = true ∧ v.plain = true ∧ v.depth = 0) := by
  cases v with
  | tuple xs =>
    cases n with
    | zero => simp [bd] at h
    | succ k =>
      rw [bd_tup, Bool.and_eq_true] at h
      exact .inl ⟨xs, k, .inl rfl, rfl, of_decide_eq_true h.1, List.all_eq_true.mp h.2⟩
  | list xs =>
    cases n with
    | zero => simp [bd] at h
    | succ k =>
      rw [bd_list, Bool.and_eq_true] at h
      exact .inl ⟨xs, k, .inr rfl, rfl, of_decide_eq_true h.1, List.all_eq_true.mp h.2⟩
  | dict kvs => cases n <;> simp [bd] at h
  | str s =>
    have h : decide (s.length ≤ 1000) = true := by cases n <;> simpa [bd] using h
    exact .inr ⟨fun xs => ⟨by simp, by simp⟩, fun m' n' => ⟨by cases n' <;> simpa [bd] using h, h, rfl, by rw [PyData.depth]⟩⟩
  | none => exact .inr ⟨fun xs => ⟨by simp, by simp⟩, fun m' n' => ⟨by cases n' <;> rfl, rfl, rfl, by rw [PyData.depth]⟩⟩
  | bool b => exact .inr ⟨fun xs => ⟨by simp, by simp⟩, fun m' n' => ⟨by cases n' <;> rfl, rfl, rfl, by rw [PyData.depth]⟩⟩
  | int b => exact .inr ⟨fun xs => ⟨by simp, by simp⟩, fun m' n' => ⟨by cases n' <;> rfl, rfl, rfl, by rw [PyData.depth]⟩⟩
theorem bd_mono {m m' : Nat} (hm : m ≤ m') : ∀ {n n' : Nat} {v : P}, n ≤ n' → bd m n v = true → bd m' n' v = true := by
  intro n
  induction n with
  | zero =>
    intro n' v hn h
    rcases bd_cases h with ⟨xs, k, _, e, _⟩ | ⟨_, q⟩
    · cases e
    · exact (q m' n').1
  | succ n ih =>
    intro n' v hn h
    rcases bd_cases h with ⟨xs, k, hv, e, hl, hx⟩ | ⟨_, q⟩
    · obtain ⟨p, rfl⟩ : ∃ p, n' = p + 1 := ⟨n' - 1, by omega⟩
      have e : k = n := by omega
      subst e
      have : xs.all (bd m' p) = true := List.all_eq_true.mpr fun x hx' => ih (by omega) (hx x hx')
      rcases hv with rfl | rfl
      · rw [bd_tup, this, decide_eq_true (Nat.le_trans hl hm)]; rfl
      · rw [bd_list, this, decide_eq_true (Nat.le_trans hl hm)]; rfl
    · exact (q m' n').1
theorem smallAll_of {xs : List P} (h : ∀ x ∈ xs, small x = true) : smallAll xs = true := by
  induction xs with
  | nil => rfl
  | cons x xs ih =>
    rw [smallAll, h x List.mem_cons_self, ih fun y hy => h y (List.mem_cons_of_mem _ hy)]; rfl
theorem plainAll_of {xs : List P} {n : Nat} (h : ∀ x ∈ xs, x.plain = true ∧ x.depth ≤ n) : PyData.plainAll xs = true ∧ PyData.depthAll xs ≤ n := by
  induction xs with
  | nil => exact ⟨rfl, by rw [PyData.depthAll]; omega⟩
  | cons x xs ih =>
    obtain ⟨a, b⟩ := h x List.mem_cons_self
    obtain ⟨c, d⟩ := ih fun y hy => h y (List.mem_cons_of_mem _ hy)
    exact ⟨by rw [PyData.plainAll, a, c]; rfl, by rw [PyData.depthAll]; omega⟩
theorem bd_ok {m : Nat} (hm : m ≤ 1000000) : ∀ {n : Nat} {v : P}, bd m n v = true → small v = true ∧ v.plain = true ∧ v.depth ≤ n := by
  intro n
  induction n with
  | zero =>
    intro v h
    rcases bd_cases h with ⟨xs, k, _, e, _⟩ | ⟨_, q⟩
    · cases e
    · obtain ⟨_, a, b, c⟩ := q 0 0
      exact ⟨a, b, by omega⟩
  | succ n ih =>
    intro v h
    rcases bd_cases h with ⟨xs, k, hv, e, hl, hx⟩ | ⟨_, q⟩
    · have e : k = n := by omega
      subst e
      have h1 : smallAll xs = true := smallAll_of fun x hx' => (ih (hx x hx')).1
      obtain ⟨h2, h3⟩ := plainAll_of (n := k) fun x hx' => (ih (hx x hx')).2
      rcases hv with rfl | rfl
      · refine ⟨by rw [small, h1, decide_eq_true (Nat.le_trans hl hm)]; rfl, by rw [PyData.plain, h2], by rw [PyData.depth]; omega⟩
      · refine ⟨by rw [small, h1, decide_eq_true (Nat.le_trans hl hm)]; rfl, by rw [PyData.plain, h2], by rw [PyData.depth]; omega⟩
    · obtain ⟨_, a, b, c⟩ := q 0 0
      exact ⟨a, b, by omega⟩
theorem bd_fit {m n : Nat} {v : P} (hm : m ≤ 1000000) (hn : n ≤ 100) (h : bd m n v = true) : small v = true ∧ fit v = true := by
  obtain ⟨a, b, c⟩ := bd_ok hm h
  refine ⟨a, ?_⟩
  unfold fit
  rw [b, Bool.true_and]
  exact decide_eq_true (by omega)
/-! odd things -/
def ODD : List P := [.none, .bool true, .bool false, .int 0, .int 1, .int (-4), .int 1000000000000000000000000000000, .str ⟨#[]⟩, .str ⟨#[97]⟩, .str ⟨#[100, 101, 115, 107]⟩, .str ⟨#[110, 101, 119, 115]⟩, .str ⟨#[97, 108, 108]⟩, .str ⟨#[110, 111]⟩, .str ⟨#[121, 101, 115]⟩, .str ⟨#[110, 111, 110, 101]⟩, .str ⟨#[97, 98, 99, 100, 101, 102, 103, 104, 105]⟩,
  .str ⟨#[68, 101, 115, 107]⟩, .str ⟨#[97, 32, 98]⟩, .tuple [], .list [], .tuple [.str ⟨#[100, 101, 115, 107]⟩], .tuple [.str ⟨#[100, 101, 115, 107]⟩, .str ⟨#[110, 101, 119, 115]⟩], .tuple [.str ⟨#[115, 97, 121]⟩, .str ⟨#[100, 101, 115, 107]⟩, .str ⟨#[110, 111]⟩], .tuple [.str ⟨#[100, 114, 111, 112]⟩, .str ⟨#[100, 101, 115, 107]⟩],
  .tuple [.str ⟨#[100, 101, 115, 107]⟩, .str ⟨#[121, 101, 115]⟩], .tuple [.str ⟨#[97, 115, 107, 115]⟩, .str ⟨#[100, 101, 115, 107]⟩], .tuple [.tuple [.str ⟨#[115, 97, 121]⟩, .str ⟨#[97]⟩, .str ⟨#[110, 111]⟩]]]
theorem odd_bd : ∀ x ∈ ODD, bd 3 2 x = true := by decide +kernel
theorem pow30 (st : Sto) : binop .pow (.int 10) (.int 30) st = ok1 (.int 1000000000000000000000000000000) st := rfl
def OddF (Φ : Nat → List D → Sto → R Rv) (i : Nat) : Prop := ∀ n st, JarAt n st → ∃ x st', Φ i [.ref n] st = ok1 x st' ∧ bd 3 2 x = true ∧ JarAt n st' ∧ Same n st st'
theorem l8 : decide (0 + 1 + 1 + 1 + 1 + 1 + 1 + 1 + 1 ≤ SZ) = true := by decide
theorem l16 : decide (0 + 1 + 1 + 1 + 1 + 1 + 1 + 1 + 1 + 1 + 1 + 1 + 1 + 1 + 1 + 1 + 1 ≤ SZ) = true := by decide
theorem sem_odd {Φ : Nat → List D → Sto → R Rv} {i : Nat} (h : SomeF Φ i) {n : Nat} {st : Sto} (hj : JarAt n st) : ∃ x st', fin st.length (evSs Φ (t_law_odd i) [some (.ref n), none] st) = ok1 x st' ∧ bd 3 2 x = true ∧ JarAt n st' ∧ Same n st st' := by
  obtain ⟨x, st', e, hx, j, s⟩ := h n st (.list ODD) ODD (.inl rfl) (by decide) (by decide) hj
  refine ⟨x, st', ?_, odd_bd x hx, j, s⟩
  unfold t_law_odd
  unfold ODD at e
  simp only [v_nil, v_cons, v_for, v_asg, v_par, v_unp, v_setI, v_expr, v_ret, v_ife, v_pass, e_var, e_const, e_tup, e_lst, e_bin, e_negc, e_not, e_and, e_or, e_cmp, e_chain, e_ife, e_idx, e_slc, e_call, e_isi, e_blt, evDs, evPar, evAnd, x_bind, x_then, ok_bind, ok_then, nx_then, rt_then, np_imp, np_nl, np_py, ni_imp, ni_py, ni_nl, nb_imp, nb_py, no_none, no_int, no_intp, fz_imp, fz_im, fz_nl, im_py, im_imp, ok_imp, dm_nil, dm_one, dm_two, dr_py, tp_nil, tp_cons, ck_true, fin_rt, fin_nx, tr_imp, tr_nl, st_im, st_imp, st_nl, st_nlt, un_imp, b_len, b_all, b_any, b_max, b_min, b_int, b_intb, b_ll, b_lt, b_tl, b_tt, len_l, len_t, it_sl, it_st, it_ss, ty_str, ty_tup, c_le, c_ge, c_lt, c_gt, c_eqi, c_nei, c_eqs, c_nes, c_eqb, c_isb, c_isnb, o_add, o_sub, idx_t, idx_l, at0, at1, at2, at3, Bool.not_true, Bool.not_false, Bool.true_and, Bool.false_and, tgSlots, wipeE, bindT, List.getElem?_cons_zero, List.getElem?_cons_succ, List.set_cons_zero, List.set_cons_succ, Option.map_some, if_true, Bool.false_eq_true, if_false, List.length_cons, List.length_nil, l0, l1, l2, l3, l8, l16, pow30]
  rw [o_lst _ _ _ (by decide)]
  simp only [v_nil, v_cons, v_for, v_asg, v_par, v_unp, v_setI, v_expr, v_ret, v_ife, v_pass, e_var, e_const, e_tup, e_lst, e_bin, e_negc, e_not, e_and, e_or, e_cmp, e_chain, e_ife, e_idx, e_slc, e_call, e_isi, e_blt, evDs, evPar, evAnd, x_bind, x_then, ok_bind, ok_then, nx_then, rt_then, np_imp, np_nl, np_py, ni_imp, ni_py, ni_nl, nb_imp, nb_py, no_none, no_int, no_intp, fz_imp, fz_im, fz_nl, im_py, im_imp, ok_imp, dm_nil, dm_one, dm_two, dr_py, tp_nil, tp_cons, ck_true, fin_rt, fin_nx, tr_imp, tr_nl, st_im, st_imp, st_nl, st_nlt, un_imp, b_len, b_all, b_any, b_max, b_min, b_int, b_intb, b_ll, b_lt, b_tl, b_tt, len_l, len_t, it_sl, it_st, it_ss, ty_str, ty_tup, c_le, c_ge, c_lt, c_gt, c_eqi, c_nei, c_eqs, c_nes, c_eqb, c_isb, c_isnb, o_add, o_sub, idx_t, idx_l, at0, at1, at2, at3, Bool.not_true, Bool.not_false, Bool.true_and, Bool.false_and, tgSlots, wipeE, bindT, List.getElem?_cons_zero, List.getElem?_cons_succ, List.set_cons_zero, List.set_cons_succ, Option.map_some, if_true, Bool.false_eq_true, if_false]
  rw [o_lst _ _ _ (by decide)]
  simp only [v_nil, v_cons, v_for, v_asg, v_par, v_unp, v_setI, v_expr, v_ret, v_ife, v_pass, e_var, e_const, e_tup, e_lst, e_bin, e_negc, e_not, e_and, e_or, e_cmp, e_chain, e_ife, e_idx, e_slc, e_call, e_isi, e_blt, evDs, evPar, evAnd, x_bind, x_then, ok_bind, ok_then, nx_then, rt_then, np_imp, np_nl, np_py, ni_imp, ni_py, ni_nl, nb_imp, nb_py, no_none, no_int, no_intp, fz_imp, fz_im, fz_nl, im_py, im_imp, ok_imp, dm_nil, dm_one, dm_two, dr_py, tp_nil, tp_cons, ck_true, fin_rt, fin_nx, tr_imp, tr_nl, st_im, st_imp, st_nl, st_nlt, un_imp, b_len, b_all, b_any, b_max, b_min, b_int, b_intb, b_ll, b_lt, b_tl, b_tt, len_l, len_t, it_sl, it_st, it_ss, ty_str, ty_tup, c_le, c_ge, c_lt, c_gt, c_eqi, c_nei, c_eqs, c_nes, c_eqb, c_isb, c_isnb, o_add, o_sub, idx_t, idx_l, at0, at1, at2, at3, Bool.not_true, Bool.not_false, Bool.true_and, Bool.false_and, tgSlots, wipeE, bindT, List.getElem?_cons_zero, List.getElem?_cons_succ, List.set_cons_zero, List.set_cons_succ, Option.map_some, if_true, Bool.false_eq_true, if_false, List.cons_append, List.nil_append]
  rw [show (-(4 : Int)) = -4 from rfl]
  rw [e]
  simp only [v_nil, v_cons, v_for, v_asg, v_par, v_unp, v_setI, v_expr, v_ret, v_ife, v_pass, e_var, e_const, e_tup, e_lst, e_bin, e_negc, e_not, e_and, e_or, e_cmp, e_chain, e_ife, e_idx, e_slc, e_call, e_isi, e_blt, evDs, evPar, evAnd, x_bind, x_then, ok_bind, ok_then, nx_then, rt_then, np_imp, np_nl, np_py, ni_imp, ni_py, ni_nl, nb_imp, nb_py, no_none, no_int, no_intp, fz_imp, fz_im, fz_nl, im_py, im_imp, ok_imp, dm_nil, dm_one, dm_two, dr_py, tp_nil, tp_cons, ck_true, fin_rt, fin_nx, tr_imp, tr_nl, st_im, st_imp, st_nl, st_nlt, un_imp, b_len, b_all, b_any, b_max, b_min, b_int, b_intb, b_ll, b_lt, b_tl, b_tt, len_l, len_t, it_sl, it_st, it_ss, ty_str, ty_tup, c_le, c_ge, c_lt, c_gt, c_eqi, c_nei, c_eqs, c_nes, c_eqb, c_isb, c_isnb, o_add, o_sub, idx_t, idx_l, at0, at1, at2, at3, Bool.not_true, Bool.not_false, Bool.true_and, Bool.false_and, tgSlots, wipeE, bindT, List.getElem?_cons_zero, List.getElem?_cons_succ, List.set_cons_zero, List.set_cons_succ, Option.map_some, if_true, Bool.false_eq_true, if_false]
  exact tr_len s.len
theorem F_odd (k : Nat) : OddF (L (k + 3)) 20 := fun n st hj => by
  obtain ⟨x, st', e, h⟩ := sem_odd (F_some k) hj
  exact ⟨x, st', (evFn_def (f := d20.fn) rfl rfl).trans e, h⟩

/-! bent things -/
theorem cut_lo {xs : List P} {k : Nat} (h : k ≤ xs.length) : cutL xs none (some (k : Int)) = xs.take k := by
  unfold cutL
  rw [HT.sIx_nat, HT.sIx_none, Nat.min_eq_left h]
  simp
theorem cut_hi {xs : List P} {k : Nat} (h : k ≤ xs.length) : cutL xs (some (k : Int)) none = xs.drop k := by
  unfold cutL
  rw [HT.sIx_nat, HT.sIx_none, Nat.min_eq_left h, List.take_of_length_le]
  rw [List.length_drop]
  exact Nat.le_refl _
theorem slc_t (xs : List P) (l h : Option Int) (st : Sto) : slcop (.tuple xs) l h st = ok1 (.tuple (cutL xs l h)) st := rfl
theorem c_eqt (ys : List P) (h : fit (.tuple ys) = true) : cmpop .eq (.tuple ys) (.tuple []) = some ys.isEmpty := by
  show (if (fit (.tuple ys) && fit (.tuple [])) = true then some ((PyData.tuple ys).eqv (.tuple [])) else none) = _
  have e : fit (PyData.tuple []) = true := rfl
  rw [h, e, Bool.and_self, if_pos rfl]
  cases ys with
  | nil => rfl
  | cons _ _ => rfl
/-- what comes of a bent thing -/
def Bent (Φ : Nat → List D → Sto → R Rv) (i jn m n : Nat) (v : P) (st : Sto) : Prop := ∃ r w st', Φ i [.ref jn, .py v] st = .ok r st' ∧ r.frz = .py w ∧ bd (m + 1) (n + 3) w = true ∧ JarAt jn st' ∧ Same jn st st'
theorem bd_app {m n : Nat} {xs ys : List P} (hl : xs.length + ys.length ≤ m) (h1 : ∀ x ∈ xs, bd m n x = true) (h2 : ∀ x ∈ ys, bd m n x = true) : bd m (n + 1) (.tuple (xs ++ ys)) = true := by
  rw [bd_tup, Bool.and_eq_true]
  refine ⟨decide_eq_true (by rw [List.length_append]; exact hl), List.all_eq_true.mpr fun x hx => ?_⟩
  rcases List.mem_append.mp hx with hx | hx
  · exact h1 x hx
  · exact h2 x hx
theorem sem_bent {Φ : Nat → List D → Sto → R Rv} {i1 i2 i3 : Nat} (h1 : LessF Φ i1) (h2 : OddF Φ i2) {jn m n : Nat} {v : P} {st : Sto} (hm : 3 ≤ m) (hm2 : m ≤ 900000) (hn : n ≤ 90) (hb : bd m n v = true) (hj : JarAt jn st)
    (hr : ∀ xs k, v = .tuple xs → n = k + 1 → ∀ x ∈ xs, ∀ st, JarAt jn st → Bent Φ i3 jn m k x st) :
    ∃ r w st', fin st.length (evSs Φ (t_law_bent i1 i2 i3) [some (.ref jn), some (.py v), none, none] st) = .ok r st' ∧ r.frz = .py w ∧ bd (m + 1) (n + 3) w = true ∧ JarAt jn st' ∧ Same jn st st' := by
  have hoddbd : ∀ x, bd 3 2 x = true → bd (m + 1) (n + 2) x = true := fun x hx => bd_mono (by omega) (by omega) hx
  have hodd3 : ∀ x, bd 3 2 x = true → bd (m + 1) (n + 3) x = true := fun x hx => bd_mono (by omega) (by omega) hx
  obtain ⟨hsm, hfit⟩ := bd_fit (by omega) (by omega) hb
  have nottup : isTy .tup v = false → (∀ b, v ≠ .bool b) → ∃ r w st', fin st.length (evSs Φ (t_law_bent i1 i2 i3) [some (.ref jn), some (.py v), none, none] st) = .ok r st' ∧ r.frz = .py w ∧ bd (m + 1) (n + 3) w = true ∧ JarAt jn st' ∧ Same jn st st' := fun ht hnb => by
    obtain ⟨x, st', e, hx, j', s'⟩ := h2 jn st hj
    have hb : isTy .bool v = false := by cases v <;> first | rfl | exact absurd rfl (hnb _)
    refine ⟨imp x, x, st', ?_, rfl, hodd3 x hx, j', s'⟩
    unfold t_law_bent
    simp only [v_nil, v_cons, v_for, v_asg, v_par, v_unp, v_setI, v_expr, v_ret, v_ife, v_pass, e_var, e_const, e_tup, e_lst, e_bin, e_negc, e_not, e_and, e_or, e_cmp, e_chain, e_ife, e_idx, e_slc, e_call, e_isi, e_blt, evDs, evPar, evAnd, x_bind, x_then, ok_bind, ok_then, nx_then, rt_then, np_imp, np_nl, np_py, ni_imp, ni_py, ni_nl, nb_imp, nb_py, no_none, no_int, no_intp, fz_imp, fz_im, fz_nl, im_py, im_imp, ok_imp, dm_nil, dm_one, dm_two, dr_py, tp_nil, tp_cons, ck_true, fin_rt, fin_nx, tr_imp, tr_nl, st_im, st_imp, st_nl, st_nlt, un_imp, b_len, b_all, b_any, b_max, b_min, b_int, b_intb, b_ll, b_lt, b_tl, b_tt, len_l, len_t, it_sl, it_st, it_ss, ty_str, ty_tup, c_le, c_ge, c_lt, c_gt, c_eqi, c_nei, c_eqs, c_nes, c_eqb, c_isb, c_isnb, o_add, o_sub, idx_t, idx_l, at0, at1, at2, at3, Bool.not_true, Bool.not_false, Bool.true_and, Bool.false_and, tgSlots, wipeE, bindT, List.getElem?_cons_zero, List.getElem?_cons_succ, List.set_cons_zero, List.set_cons_succ, Option.map_some, if_true, Bool.false_eq_true, if_false, ht, hb, e]
    exact tr_len s'.len
  cases v with
  | bool b =>
    refine ⟨imp (.bool (!b)), .bool (!b), st, ?_, rfl, rfl, hj, Same.refl⟩
    unfold t_law_bent
    simp only [v_nil, v_cons, v_for, v_asg, v_par, v_unp, v_setI, v_expr, v_ret, v_ife, v_pass, e_var, e_const, e_tup, e_lst, e_bin, e_negc, e_not, e_and, e_or, e_cmp, e_chain, e_ife, e_idx, e_slc, e_call, e_isi, e_blt, evDs, evPar, evAnd, x_bind, x_then, ok_bind, ok_then, nx_then, rt_then, np_imp, np_nl, np_py, ni_imp, ni_py, ni_nl, nb_imp, nb_py, no_none, no_int, no_intp, fz_imp, fz_im, fz_nl, im_py, im_imp, ok_imp, dm_nil, dm_one, dm_two, dr_py, tp_nil, tp_cons, ck_true, fin_rt, fin_nx, tr_imp, tr_nl, st_im, st_imp, st_nl, st_nlt, un_imp, b_len, b_all, b_any, b_max, b_min, b_int, b_intb, b_ll, b_lt, b_tl, b_tt, len_l, len_t, it_sl, it_st, it_ss, ty_str, ty_tup, c_le, c_ge, c_lt, c_gt, c_eqi, c_nei, c_eqs, c_nes, c_eqb, c_isb, c_isnb, o_add, o_sub, idx_t, idx_l, at0, at1, at2, at3, Bool.not_true, Bool.not_false, Bool.true_and, Bool.false_and, tgSlots, wipeE, bindT, List.getElem?_cons_zero, List.getElem?_cons_succ, List.set_cons_zero, List.set_cons_succ, Option.map_some, if_true, Bool.false_eq_true, if_false, isTy]
  | tuple vs =>
    rcases bd_cases hb with ⟨xs, k, hv, hk, hl, hx⟩ | ⟨q, _⟩
    rotate_left 1
    · exact absurd rfl (q vs).1
    · have e : vs = xs := by rcases hv with hv | hv <;> first | (cases hv; rfl) | cases hv
      subst e
      subst hk
      have hr := hr vs k rfl rfl
      have up : ∀ x ∈ vs, bd (m + 1) (k + 3) x = true := fun x hx' => bd_mono (by omega) (by omega) (hx x hx')
      cases vs with
      | nil =>
        obtain ⟨x, st', e, hx', j', s'⟩ := h2 jn st hj
        refine ⟨imp x, x, st', ?_, rfl, hodd3 x hx', j', s'⟩
        unfold t_law_bent
        simp only [v_nil, v_cons, v_for, v_asg, v_par, v_unp, v_setI, v_expr, v_ret, v_ife, v_pass, e_var, e_const, e_tup, e_lst, e_bin, e_negc, e_not, e_and, e_or, e_cmp, e_chain, e_ife, e_idx, e_slc, e_call, e_isi, e_blt, evDs, evPar, evAnd, x_bind, x_then, ok_bind, ok_then, nx_then, rt_then, np_imp, np_nl, np_py, ni_imp, ni_py, ni_nl, nb_imp, nb_py, no_none, no_int, no_intp, fz_imp, fz_im, fz_nl, im_py, im_imp, ok_imp, dm_nil, dm_one, dm_two, dr_py, tp_nil, tp_cons, ck_true, fin_rt, fin_nx, tr_imp, tr_nl, st_im, st_imp, st_nl, st_nlt, un_imp, b_len, b_all, b_any, b_max, b_min, b_int, b_intb, b_ll, b_lt, b_tl, b_tt, len_l, len_t, it_sl, it_st, it_ss, ty_str, ty_tup, c_le, c_ge, c_lt, c_gt, c_eqi, c_nei, c_eqs, c_nes, c_eqb, c_isb, c_isnb, o_add, o_sub, idx_t, idx_l, at0, at1, at2, at3, Bool.not_true, Bool.not_false, Bool.true_and, Bool.false_and, tgSlots, wipeE, bindT, List.getElem?_cons_zero, List.getElem?_cons_succ, List.set_cons_zero, List.set_cons_succ, Option.map_some, if_true, Bool.false_eq_true, if_false, c_eqt _ hfit, List.length_nil, l0, isTy, List.isEmpty_nil, e]
        exact tr_len s'.len
      | cons v0 vs0 =>
        generalize hxs : v0 :: vs0 = xs at *
        have hne : xs.isEmpty = false := by rw [← hxs]; rfl
        have hpos : 0 < xs.length := by rw [← hxs]; simp
        obtain ⟨r0, st1, e1, _, _, j1, s1⟩ := h1 jn st 6 hj (by omega) (by omega)
        rcases Bool.eq_false_or_eq_true (r0 == 0) with hr0 | hr0
        · obtain ⟨x, st', e, hx', j', s'⟩ := h2 jn st1 j1
          refine ⟨imp x, x, st', ?_, rfl, hodd3 x hx', j', s1.trans s'⟩
          unfold t_law_bent
          simp only [v_nil, v_cons, v_for, v_asg, v_par, v_unp, v_setI, v_expr, v_ret, v_ife, v_pass, e_var, e_const, e_tup, e_lst, e_bin, e_negc, e_not, e_and, e_or, e_cmp, e_chain, e_ife, e_idx, e_slc, e_call, e_isi, e_blt, evDs, evPar, evAnd, x_bind, x_then, ok_bind, ok_then, nx_then, rt_then, np_imp, np_nl, np_py, ni_imp, ni_py, ni_nl, nb_imp, nb_py, no_none, no_int, no_intp, fz_imp, fz_im, fz_nl, im_py, im_imp, ok_imp, dm_nil, dm_one, dm_two, dr_py, tp_nil, tp_cons, ck_true, fin_rt, fin_nx, tr_imp, tr_nl, st_im, st_imp, st_nl, st_nlt, un_imp, b_len, b_all, b_any, b_max, b_min, b_int, b_intb, b_ll, b_lt, b_tl, b_tt, len_l, len_t, it_sl, it_st, it_ss, ty_str, ty_tup, c_le, c_ge, c_lt, c_gt, c_eqi, c_nei, c_eqs, c_nes, c_eqb, c_isb, c_isnb, o_add, o_sub, idx_t, idx_l, at0, at1, at2, at3, Bool.not_true, Bool.not_false, Bool.true_and, Bool.false_and, tgSlots, wipeE, bindT, List.getElem?_cons_zero, List.getElem?_cons_succ, List.set_cons_zero, List.set_cons_succ, Option.map_some, if_true, Bool.false_eq_true, if_false, c_eqt _ hfit, List.length_nil, l0, isTy, hne, e1, hr0, e]
          exact tr_len (s1.trans s').len
        · obtain ⟨at_, st2, e2, a0, a1, j2, s2⟩ := h1 jn st1 (xs.length : Nat) j1 (by omega) (by omega)
          obtain ⟨way, st3, e3, w0, w1, j3, s3⟩ := h1 jn st2 10 j2 (by omega) (by omega)
          obtain ⟨a, rfl⟩ : ∃ a : Nat, at_ = (a : Int) := ⟨at_.toNat, by omega⟩
          have ha : a < xs.length := by omega
          have hsame := s1.trans (s2.trans s3)
          have ha1 : ((a : Nat) : Int) + 1 = ((a + 1 : Nat) : Int) := by omega
          have t1 : (xs.take a).length = a := by rw [List.length_take]; omega
          have t2 : (xs.drop (a + 1)).length = xs.length - (a + 1) := List.length_drop
          have t3 : (xs.take (a + 1)).length = a + 1 := by rw [List.length_take]; omega
          have t4 : (xs.drop a).length = xs.length - a := List.length_drop
          have upt : ∀ j, ∀ x ∈ xs.take j, bd (m + 1) (k + 3) x = true := fun j x hx' => up x (List.mem_of_mem_take hx')
          have upd' : ∀ j, ∀ x ∈ xs.drop j, bd (m + 1) (k + 3) x = true := fun j x hx' => up x (List.mem_of_mem_drop hx')
          unfold t_law_bent
          have c1 : cutL xs none (some ((a : Nat) : Int)) = xs.take a := cut_lo (by omega)
          have c2 : cutL xs (some ((a : Nat) : Int)) none = xs.drop a := cut_hi (by omega)
          have c3 : cutL xs none (some ((a + 1 : Nat) : Int)) = xs.take (a + 1) := cut_lo (by omega)
          have c4 : cutL xs (some ((a + 1 : Nat) : Int)) none = xs.drop (a + 1) := cut_hi (by omega)
          have sz : ∀ z : Nat, z ≤ 900003 → z ≤ SZ := fun z hz => Nat.le_trans hz (by decide)
          simp only [v_nil, v_cons, v_for, v_asg, v_par, v_unp, v_setI, v_expr, v_ret, v_ife, v_pass, e_var, e_const, e_tup, e_lst, e_bin, e_negc, e_not, e_and, e_or, e_cmp, e_chain, e_ife, e_idx, e_slc, e_call, e_isi, e_blt, evDs, evPar, evAnd, x_bind, x_then, ok_bind, ok_then, nx_then, rt_then, np_imp, np_nl, np_py, ni_imp, ni_py, ni_nl, nb_imp, nb_py, no_none, no_int, no_intp, fz_imp, fz_im, fz_nl, im_py, im_imp, ok_imp, dm_nil, dm_one, dm_two, dr_py, tp_nil, tp_cons, ck_true, fin_rt, fin_nx, tr_imp, tr_nl, st_im, st_imp, st_nl, st_nlt, un_imp, b_len, b_all, b_any, b_max, b_min, b_int, b_intb, b_ll, b_lt, b_tl, b_tt, len_l, len_t, it_sl, it_st, it_ss, ty_str, ty_tup, c_le, c_ge, c_lt, c_gt, c_eqi, c_nei, c_eqs, c_nes, c_eqb, c_isb, c_isnb, o_add, o_sub, idx_t, idx_l, at0, at1, at2, at3, Bool.not_true, Bool.not_false, Bool.true_and, Bool.false_and, tgSlots, wipeE, bindT, List.getElem?_cons_zero, List.getElem?_cons_succ, List.set_cons_zero, List.set_cons_succ, Option.map_some, if_true, Bool.false_eq_true, if_false, c_eqt _ hfit, List.length_nil, List.length_cons, l0, l1, isTy, hne, e1, hr0, evPar, pushD, e2, e3, eq_self, setDs]
          rcases Bool.eq_false_or_eq_true (way == 0) with q0 | q0
          · refine ⟨imp (.tuple (xs.take a ++ xs.drop (a + 1))), _, st3, ?_, rfl, bd_app (by omega) (upt a) (upd' (a + 1)), j3, hsame⟩
            simp only [v_nil, v_cons, v_for, v_asg, v_par, v_unp, v_setI, v_expr, v_ret, v_ife, v_pass, e_var, e_const, e_tup, e_lst, e_bin, e_negc, e_not, e_and, e_or, e_cmp, e_chain, e_ife, e_idx, e_slc, e_call, e_isi, e_blt, evDs, evPar, evAnd, x_bind, x_then, ok_bind, ok_then, nx_then, rt_then, np_imp, np_nl, np_py, ni_imp, ni_py, ni_nl, nb_imp, nb_py, no_none, no_int, no_intp, fz_imp, fz_im, fz_nl, im_py, im_imp, ok_imp, dm_nil, dm_one, dm_two, dr_py, tp_nil, tp_cons, ck_true, fin_rt, fin_nx, tr_imp, tr_nl, st_im, st_imp, st_nl, st_nlt, un_imp, b_len, b_all, b_any, b_max, b_min, b_int, b_intb, b_ll, b_lt, b_tl, b_tt, len_l, len_t, it_sl, it_st, it_ss, ty_str, ty_tup, c_le, c_ge, c_lt, c_gt, c_eqi, c_nei, c_eqs, c_nes, c_eqb, c_isb, c_isnb, o_add, o_sub, idx_t, idx_l, at0, at1, at2, at3, Bool.not_true, Bool.not_false, Bool.true_and, Bool.false_and, tgSlots, wipeE, bindT, List.getElem?_cons_zero, List.getElem?_cons_succ, List.set_cons_zero, List.set_cons_succ, Option.map_some, if_true, Bool.false_eq_true, if_false, q0, ha1, slc_t, c1, c4, o_tup _ _ _ (sz _ (show (xs.take a).length + (xs.drop (a + 1)).length ≤ 900003 by omega))]
            exact tr_len hsame.len
          rcases Bool.eq_false_or_eq_true (way == 1) with q1 | q1
          · refine ⟨imp (.tuple (xs.take (a + 1) ++ xs.drop a)), _, st3, ?_, rfl, bd_app (by omega) (upt (a + 1)) (upd' a), j3, hsame⟩
            simp only [v_nil, v_cons, v_for, v_asg, v_par, v_unp, v_setI, v_expr, v_ret, v_ife, v_pass, e_var, e_const, e_tup, e_lst, e_bin, e_negc, e_not, e_and, e_or, e_cmp, e_chain, e_ife, e_idx, e_slc, e_call, e_isi, e_blt, evDs, evPar, evAnd, x_bind, x_then, ok_bind, ok_then, nx_then, rt_then, np_imp, np_nl, np_py, ni_imp, ni_py, ni_nl, nb_imp, nb_py, no_none, no_int, no_intp, fz_imp, fz_im, fz_nl, im_py, im_imp, ok_imp, dm_nil, dm_one, dm_two, dr_py, tp_nil, tp_cons, ck_true, fin_rt, fin_nx, tr_imp, tr_nl, st_im, st_imp, st_nl, st_nlt, un_imp, b_len, b_all, b_any, b_max, b_min, b_int, b_intb, b_ll, b_lt, b_tl, b_tt, len_l, len_t, it_sl, it_st, it_ss, ty_str, ty_tup, c_le, c_ge, c_lt, c_gt, c_eqi, c_nei, c_eqs, c_nes, c_eqb, c_isb, c_isnb, o_add, o_sub, idx_t, idx_l, at0, at1, at2, at3, Bool.not_true, Bool.not_false, Bool.true_and, Bool.false_and, tgSlots, wipeE, bindT, List.getElem?_cons_zero, List.getElem?_cons_succ, List.set_cons_zero, List.set_cons_succ, Option.map_some, if_true, Bool.false_eq_true, if_false, q0, q1, ha1, slc_t, c2, c3, o_tup _ _ _ (sz _ (show (xs.take (a + 1)).length + (xs.drop a).length ≤ 900003 by omega))]
            exact tr_len hsame.len
          rcases Bool.eq_false_or_eq_true (way == 2) with q2 | q2
          · obtain ⟨x, st4, e4, hx4, j4, s4⟩ := h2 jn st3 j3
            refine ⟨imp (.tuple ((xs.take a ++ [x]) ++ xs.drop a)), _, st4, ?_, rfl, bd_app (by rw [List.length_append]; show _ + 1 + _ ≤ _; omega) (fun y hy => ?_) (upd' a), j4, hsame.trans s4⟩
            · simp only [v_nil, v_cons, v_for, v_asg, v_par, v_unp, v_setI, v_expr, v_ret, v_ife, v_pass, e_var, e_const, e_tup, e_lst, e_bin, e_negc, e_not, e_and, e_or, e_cmp, e_chain, e_ife, e_idx, e_slc, e_call, e_isi, e_blt, evDs, evPar, evAnd, x_bind, x_then, ok_bind, ok_then, nx_then, rt_then, np_imp, np_nl, np_py, ni_imp, ni_py, ni_nl, nb_imp, nb_py, no_none, no_int, no_intp, fz_imp, fz_im, fz_nl, im_py, im_imp, ok_imp, dm_nil, dm_one, dm_two, dr_py, tp_nil, tp_cons, ck_true, fin_rt, fin_nx, tr_imp, tr_nl, st_im, st_imp, st_nl, st_nlt, un_imp, b_len, b_all, b_any, b_max, b_min, b_int, b_intb, b_ll, b_lt, b_tl, b_tt, len_l, len_t, it_sl, it_st, it_ss, ty_str, ty_tup, c_le, c_ge, c_lt, c_gt, c_eqi, c_nei, c_eqs, c_nes, c_eqb, c_isb, c_isnb, o_add, o_sub, idx_t, idx_l, at0, at1, at2, at3, Bool.not_true, Bool.not_false, Bool.true_and, Bool.false_and, tgSlots, wipeE, bindT, List.getElem?_cons_zero, List.getElem?_cons_succ, List.set_cons_zero, List.set_cons_succ, Option.map_some, if_true, Bool.false_eq_true, if_false, q0, q1, q2, slc_t, c1, c2, e4, List.length_nil, List.length_cons, l1, o_tup _ _ _ (sz _ (show (xs.take a).length + [x].length ≤ 900003 by show _ + 1 ≤ _; omega)), o_tup _ _ _ (sz _ (show (xs.take a ++ [x]).length + (xs.drop a).length ≤ 900003 by rw [List.length_append]; show _ + 1 + _ ≤ _; omega))]
              exact tr_len (hsame.trans s4).len
            · rcases List.mem_append.mp hy with hy | hy
              · exact upt a y hy
              · have e : y = x := by simpa using hy
                subst e
                exact hoddbd y hx4
          rcases Bool.eq_false_or_eq_true (way == 3) with q3 | q3
          · refine ⟨.nl xs, _, st3, ?_, rfl, ?_, j3, hsame⟩
            · simp only [v_nil, v_cons, v_for, v_asg, v_par, v_unp, v_setI, v_expr, v_ret, v_ife, v_pass, e_var, e_const, e_tup, e_lst, e_bin, e_negc, e_not, e_and, e_or, e_cmp, e_chain, e_ife, e_idx, e_slc, e_call, e_isi, e_blt, evDs, evPar, evAnd, x_bind, x_then, ok_bind, ok_then, nx_then, rt_then, np_imp, np_nl, np_py, ni_imp, ni_py, ni_nl, nb_imp, nb_py, no_none, no_int, no_intp, fz_imp, fz_im, fz_nl, im_py, im_imp, ok_imp, dm_nil, dm_one, dm_two, dr_py, tp_nil, tp_cons, ck_true, fin_rt, fin_nx, tr_imp, tr_nl, st_im, st_imp, st_nl, st_nlt, un_imp, b_len, b_all, b_any, b_max, b_min, b_int, b_intb, b_ll, b_lt, b_tl, b_tt, len_l, len_t, it_sl, it_st, it_ss, ty_str, ty_tup, c_le, c_ge, c_lt, c_gt, c_eqi, c_nei, c_eqs, c_nes, c_eqb, c_isb, c_isnb, o_add, o_sub, idx_t, idx_l, at0, at1, at2, at3, Bool.not_true, Bool.not_false, Bool.true_and, Bool.false_and, tgSlots, wipeE, bindT, List.getElem?_cons_zero, List.getElem?_cons_succ, List.set_cons_zero, List.set_cons_succ, Option.map_some, if_true, Bool.false_eq_true, if_false, q0, q1, q2, q3]
              exact tr_nll hsame.len
            · rw [bd_list, Bool.and_eq_true]
              exact ⟨decide_eq_true (by omega), List.all_eq_true.mpr up⟩
          rcases Bool.eq_false_or_eq_true (way == 4) with q4 | q4
          · refine ⟨imp (.tuple (xs.drop a ++ xs.take a)), _, st3, ?_, rfl, bd_app (by omega) (upd' a) (upt a), j3, hsame⟩
            simp only [v_nil, v_cons, v_for, v_asg, v_par, v_unp, v_setI, v_expr, v_ret, v_ife, v_pass, e_var, e_const, e_tup, e_lst, e_bin, e_negc, e_not, e_and, e_or, e_cmp, e_chain, e_ife, e_idx, e_slc, e_call, e_isi, e_blt, evDs, evPar, evAnd, x_bind, x_then, ok_bind, ok_then, nx_then, rt_then, np_imp, np_nl, np_py, ni_imp, ni_py, ni_nl, nb_imp, nb_py, no_none, no_int, no_intp, fz_imp, fz_im, fz_nl, im_py, im_imp, ok_imp, dm_nil, dm_one, dm_two, dr_py, tp_nil, tp_cons, ck_true, fin_rt, fin_nx, tr_imp, tr_nl, st_im, st_imp, st_nl, st_nlt, un_imp, b_len, b_all, b_any, b_max, b_min, b_int, b_intb, b_ll, b_lt, b_tl, b_tt, len_l, len_t, it_sl, it_st, it_ss, ty_str, ty_tup, c_le, c_ge, c_lt, c_gt, c_eqi, c_nei, c_eqs, c_nes, c_eqb, c_isb, c_isnb, o_add, o_sub, idx_t, idx_l, at0, at1, at2, at3, Bool.not_true, Bool.not_false, Bool.true_and, Bool.false_and, tgSlots, wipeE, bindT, List.getElem?_cons_zero, List.getElem?_cons_succ, List.set_cons_zero, List.set_cons_succ, Option.map_some, if_true, Bool.false_eq_true, if_false, q0, q1, q2, q3, q4, slc_t, c1, c2, o_tup _ _ _ (sz _ (show (xs.drop a).length + (xs.take a).length ≤ 900003 by omega))]
            exact tr_len hsame.len
          · obtain ⟨r5, w5, st5, e5, f5, b5, j5, s5⟩ := hr xs[a] (List.getElem_mem ha) st3 j3
            refine ⟨imp (.tuple ((xs.take a ++ [w5]) ++ xs.drop (a + 1))), _, st5, ?_, rfl, bd_app (by rw [List.length_append]; show _ + 1 + _ ≤ _; omega) (fun y hy => ?_) (upd' (a + 1)), j5, hsame.trans s5⟩
            · simp only [v_nil, v_cons, v_for, v_asg, v_par, v_unp, v_setI, v_expr, v_ret, v_ife, v_pass, e_var, e_const, e_tup, e_lst, e_bin, e_negc, e_not, e_and, e_or, e_cmp, e_chain, e_ife, e_idx, e_slc, e_call, e_isi, e_blt, evDs, evPar, evAnd, x_bind, x_then, ok_bind, ok_then, nx_then, rt_then, np_imp, np_nl, np_py, ni_imp, ni_py, ni_nl, nb_imp, nb_py, no_none, no_int, no_intp, fz_imp, fz_im, fz_nl, im_py, im_imp, ok_imp, dm_nil, dm_one, dm_two, dr_py, tp_nil, tp_cons, ck_true, fin_rt, fin_nx, tr_imp, tr_nl, st_im, st_imp, st_nl, st_nlt, un_imp, b_len, b_all, b_any, b_max, b_min, b_int, b_intb, b_ll, b_lt, b_tl, b_tt, len_l, len_t, it_sl, it_st, it_ss, ty_str, ty_tup, c_le, c_ge, c_lt, c_gt, c_eqi, c_nei, c_eqs, c_nes, c_eqb, c_isb, c_isnb, o_add, o_sub, idx_t, idx_l, at0, at1, at2, at3, Bool.not_true, Bool.not_false, Bool.true_and, Bool.false_and, tgSlots, wipeE, bindT, List.getElem?_cons_zero, List.getElem?_cons_succ, List.set_cons_zero, List.set_cons_succ, Option.map_some, if_true, Bool.false_eq_true, if_false, q0, q1, q2, q3, q4, ha1, slc_t, c1, c4, atI_nat ha, e5, f5, List.length_nil, List.length_cons, l1, o_tup _ _ _ (sz _ (show (xs.take a).length + [w5].length ≤ 900003 by show _ + 1 ≤ _; omega)), o_tup _ _ _ (sz _ (show (xs.take a ++ [w5]).length + (xs.drop (a + 1)).length ≤ 900003 by rw [List.length_append]; show _ + 1 + _ ≤ _; omega))]
              exact tr_len (hsame.trans s5).len
            · rcases List.mem_append.mp hy with hy | hy
              · exact upt a y hy
              · have e : y = w5 := by simpa using hy
                subst e
                exact b5
  | _ => exact nottup rfl (fun b e => by cases e)

theorem F_bent : ∀ (n k m : Nat) (v : P) (st : Sto) (jn : Nat), 3 ≤ m → m ≤ 900000 → n ≤ 90 → bd m n v = true → JarAt jn st → Bent (L (k + n + 4)) 21 jn m n v st
  | 0, k, m, v, st, jn, hm, hm2, hn, hb, hj => by
    obtain ⟨r, w, st', e, h⟩ := sem_bent (i3 := 21) (F_less (k + 2)) (F_odd k) hm hm2 hn hb hj (fun xs k _ e => by cases e)
    exact ⟨r, w, st', (evFn_def (f := d21.fn) rfl rfl).trans e, h⟩
  | n + 1, k, m, v, st, jn, hm, hm2, hn, hb, hj => by
    obtain ⟨r, w, st', e, h⟩ := sem_bent (Φ := L (k + n + 4)) (i3 := 21) (F_less (k + n + 3)) (F_odd (k + n + 1)) hm hm2 hn hb hj (fun xs k' hv e x hx st hj => by
      have e : n = k' := by omega
      subst e
      refine F_bent n k m x st jn hm hm2 (by omega) ?_ hj
      subst hv
      rw [bd_tup, Bool.and_eq_true] at hb
      exact List.all_eq_true.mp hb.2 x hx)
    refine ⟨r, w, st', ?_, h⟩
    rw [show k + (n + 1) + 4 = (k + n + 4) + 1 from by omega]
    exact (evFn_def (f := d21.fn) rfl rfl).trans e
theorem F_right (k : Nat) (v : P) (st : Sto) (hv : small v = true) (hf : fit v = true) : L (k + 5) 22 [.py v] st = ok1 (.bool true) st := by
  refine (evFn_def (f := d22.fn) rfl rfl).trans ?_
  show fin st.length (evSs (L (k + 4)) (t_law_right 7 19) [some (.py v), none] st) = _
  unfold t_law_right
  simp only [v_nil, v_cons, v_for, v_asg, v_par, v_unp, v_setI, v_expr, v_ret, v_ife, v_pass, e_var, e_const, e_tup, e_lst, e_bin, e_negc, e_not, e_and, e_or, e_cmp, e_chain, e_ife, e_idx, e_slc, e_call, e_isi, e_blt, evDs, evPar, evAnd, x_bind, x_then, ok_bind, ok_then, nx_then, rt_then, np_imp, np_nl, np_py, ni_imp, ni_py, ni_nl, nb_imp, nb_py, no_none, no_int, no_intp, fz_imp, fz_im, fz_nl, im_py, im_imp, ok_imp, dm_nil, dm_one, dm_two, dr_py, tp_nil, tp_cons, ck_true, fin_rt, fin_nx, tr_imp, tr_nl, st_im, st_imp, st_nl, st_nlt, un_imp, b_len, b_all, b_any, b_max, b_min, b_int, b_intb, b_ll, b_lt, b_tl, b_tt, len_l, len_t, it_sl, it_st, it_ss, ty_str, ty_tup, c_le, c_ge, c_lt, c_gt, c_eqi, c_nei, c_eqs, c_nes, c_eqb, c_isb, c_isnb, o_add, o_sub, idx_t, idx_l, at0, at1, at2, at3, Bool.not_true, Bool.not_false, Bool.true_and, Bool.false_and, tgSlots, wipeE, bindT, List.getElem?_cons_zero, List.getElem?_cons_succ, List.set_cons_zero, List.set_cons_succ, Option.map_some, if_true, Bool.false_eq_true, if_false, F_setup k v _ hv, isTy, F_lawSetup (k + 1) v _ hv hf, beq_self_eq_true]





/-! the law -/
def ROWS : List P := [(.tuple [(.tuple [(.tuple [(.str ⟨#[97]⟩), (.str ⟨#[97, 108, 108]⟩), (.tuple []), (.bool false)]), (.tuple [(.str ⟨#[98]⟩), (.str ⟨#[121, 101, 115]⟩), (.tuple [(.str ⟨#[97]⟩)]), (.bool true)]), (.tuple [(.str ⟨#[99]⟩), (.str ⟨#[110, 101, 119]⟩), (.tuple [(.str ⟨#[97]⟩), (.str ⟨#[98]⟩)]), (.bool false)])]), (.tuple []), (.tuple [(.tuple []), (.tuple [])])]), (.tuple [(.tuple [(.tuple [(.str ⟨#[97]⟩), (.str ⟨#[97, 108, 108]⟩), (.tuple []), (.bool false)])]), (.tuple []), (.tuple [(.tuple []), (.tuple [])])]), (.tuple [(.tuple [(.tuple [(.str ⟨#[97]⟩), (.str ⟨#[97, 108, 108]⟩), (.tuple []), (.bool false)]), (.tuple [(.str ⟨#[98]⟩), (.str ⟨#[121, 101, 115]⟩), (.tuple [(.str ⟨#[97]⟩)]), (.bool true)]), (.tuple [(.str ⟨#[99]⟩), (.str ⟨#[110, 101, 119]⟩), (.tuple [(.str ⟨#[97]⟩), (.str ⟨#[98]⟩)]), (.bool false)]), (.tuple [(.str ⟨#[100]⟩), (.str ⟨#[110, 111]⟩), (.tuple []), (.bool true)])]), (.tuple []), (.tuple [(.tuple []), (.tuple [])])]), (.tuple [(.tuple [(.tuple [(.str ⟨#[98]⟩), (.str ⟨#[121, 101, 115]⟩), (.tuple [(.str ⟨#[97]⟩)]), (.bool true)]), (.tuple [(.str ⟨#[97]⟩), (.str ⟨#[97, 108, 108]⟩), (.tuple []), (.bool false)])]), (.tuple []), (.tuple [(.tuple []), (.tuple [])])]), (.tuple [(.tuple [(.tuple [(.str ⟨#[97]⟩), (.str ⟨#[97, 108, 108]⟩), (.tuple []), (.bool false)]), (.tuple [(.str ⟨#[97]⟩), (.str ⟨#[97, 108, 108]⟩), (.tuple []), (.bool false)])]), (.tuple []), (.tuple [(.tuple []), (.tuple [])])]), (.tuple [(.tuple [(.tuple [(.str ⟨#[97]⟩), (.str ⟨#[97, 108, 108]⟩), (.tuple []), (.bool false)]), (.tuple [(.str ⟨#[98]⟩), (.str ⟨#[121, 101, 115]⟩), (.tuple [(.str ⟨#[98]⟩)]), (.bool true)])]), (.tuple []), (.tuple [(.tuple []), (.tuple [])])]), (.tuple [(.tuple [(.tuple [(.str ⟨#[97]⟩), (.str ⟨#[97, 108, 108]⟩), (.tuple []), (.bool false)]), (.tuple [(.str ⟨#[97, 98, 99, 100, 101, 102, 103, 104]⟩), (.str ⟨#[110, 111]⟩), (.tuple [(.str ⟨#[97]⟩)]), (.bool true)])]), (.tuple [(.tuple [(.str ⟨#[97]⟩), (.str ⟨#[97, 98, 99, 100, 101, 102, 103, 104]⟩)]), (.tuple [(.str ⟨#[97, 98, 99, 100, 101, 102, 103, 104]⟩), (.str ⟨#[97]⟩)])]), (.tuple [(.tuple []), (.tuple [])])]), (.tuple [(.tuple [(.tuple [(.str ⟨#[97]⟩), (.str ⟨#[97, 108, 108]⟩), (.tuple []), (.bool false)]), (.tuple [(.str ⟨#[98]⟩), (.str ⟨#[121, 101, 115]⟩), (.tuple [(.str ⟨#[97]⟩)]), (.bool true)])]), (.tuple [(.tuple [(.str ⟨#[98]⟩), (.str ⟨#[97]⟩)]), (.tuple [(.str ⟨#[97]⟩), (.str ⟨#[98]⟩)])]), (.tuple [(.tuple []), (.tuple [])])]), (.tuple [(.tuple [(.tuple [(.str ⟨#[97]⟩), (.str ⟨#[97, 108, 108]⟩), (.tuple []), (.bool false)]), (.tuple [(.str ⟨#[98]⟩), (.str ⟨#[121, 101, 115]⟩), (.tuple [(.str ⟨#[97]⟩)]), (.bool true)])]), (.tuple [(.tuple [(.str ⟨#[97]⟩), (.str ⟨#[97]⟩)])]), (.tuple [(.tuple []), (.tuple [])])]), (.tuple [(.tuple [(.tuple [(.str ⟨#[97]⟩), (.str ⟨#[97, 108, 108]⟩), (.tuple []), (.bool false)]), (.tuple [(.str ⟨#[98]⟩), (.str ⟨#[121, 101, 115]⟩), (.tuple [(.str ⟨#[97]⟩)]), (.bool true)])]), (.tuple [(.tuple [(.str ⟨#[97]⟩), (.str ⟨#[98]⟩)]), (.tuple [(.str ⟨#[97]⟩), (.str ⟨#[98]⟩)])]), (.tuple [(.tuple []), (.tuple [])])]), (.tuple [(.tuple [(.tuple [(.str ⟨#[97]⟩), (.str ⟨#[97, 108, 108]⟩), (.tuple []), (.bool false)]), (.tuple [(.str ⟨#[98]⟩), (.str ⟨#[121, 101, 115]⟩), (.tuple [(.str ⟨#[97]⟩)]), (.bool true)])]), (.tuple [(.tuple [(.str ⟨#[97]⟩), (.str ⟨#[99]⟩)])]), (.tuple [(.tuple []), (.tuple [])])]), (.tuple [(.tuple [(.tuple [(.str ⟨#[97]⟩), (.str ⟨#[97, 108, 108]⟩), (.tuple []), (.bool false)]), (.tuple [(.str ⟨#[98]⟩), (.str ⟨#[121, 101, 115]⟩), (.tuple [(.str ⟨#[97]⟩)]), (.bool true)])]), (.tuple []), (.tuple [(.tuple [(.str ⟨#[97]⟩), (.str ⟨#[98]⟩)]), (.tuple [(.str ⟨#[98]⟩)])])]), (.tuple [(.tuple [(.tuple [(.str ⟨#[97]⟩), (.str ⟨#[97, 108, 108]⟩), (.tuple []), (.bool false)]), (.tuple [(.str ⟨#[98]⟩), (.str ⟨#[121, 101, 115]⟩), (.tuple [(.str ⟨#[97]⟩)]), (.bool true)])]), (.tuple []), (.tuple [(.tuple [(.str ⟨#[98]⟩), (.str ⟨#[97]⟩)]), (.tuple [])])]), (.tuple [(.tuple [(.tuple [(.str ⟨#[97]⟩), (.str ⟨#[97, 108, 108]⟩), (.tuple []), (.bool false)]), (.tuple [(.str ⟨#[98]⟩), (.str ⟨#[121, 101, 115]⟩), (.tuple [(.str ⟨#[97]⟩)]), (.bool true)])]), (.tuple []), (.tuple [(.tuple [])])]), (.tuple [(.tuple [(.tuple [(.str ⟨#[97]⟩), (.str ⟨#[97, 108, 108]⟩), (.tuple []), (.bool false)]), (.tuple [(.str ⟨#[98]⟩), (.str ⟨#[121, 101, 115]⟩), (.tuple [(.str ⟨#[97]⟩)]), (.bool true)])]), (.tuple []), (.tuple [(.tuple [(.str ⟨#[99]⟩)]), (.tuple [])])]), (.tuple [(.tuple [(.tuple [(.str ⟨#[97]⟩), (.str ⟨#[97, 108, 108]⟩), (.tuple []), (.bool false)]), (.tuple [(.str ⟨#[98]⟩), (.str ⟨#[121, 101, 115]⟩), (.tuple [(.str ⟨#[97]⟩)]), (.bool true)]), (.tuple [(.str ⟨#[99]⟩), (.str ⟨#[110, 101, 119]⟩), (.tuple [(.str ⟨#[98]⟩), (.str ⟨#[97]⟩)]), (.bool false)])]), (.tuple []), (.tuple [(.tuple []), (.tuple [])])])]
theorem rows_ok : ∀ x ∈ ROWS, small x = true ∧ fit x = true := by decide +kernel
theorem setup_bd {ns : List P} {v : P} (hd : DrawNs ns) (h : DrawSetup ns v) : bd 20 5 v = true := by
  have g := drawNs_good hd
  obtain ⟨ts, ws, p, q, rfl, a1, w1, p1, q1⟩ := h
  obtain ⟨en, el⟩ := al_names a1
  have hs : ∀ x ∈ ns, ∀ n, bd 20 n x = true := fun x hx n => by
    obtain ⟨s, rfl⟩ := g.str_ x hx
    have q := List.all_eq_true.mp g.lab _ hx
    have q : (decide (1 ≤ s.length) && (decide (s.length ≤ 8) && s.cps.toList.all fun c => decide (97 ≤ c) && decide (c ≤ 122))) = true := q
    rw [Bool.and_eq_true, Bool.and_eq_true] at q
    have q2 := of_decide_eq_true q.2.1
    cases n <;> (show decide (s.length ≤ 1000) = true; exact decide_eq_true (by omega))
  have sub : ∀ zs : List P, zs.Sublist ns → ∀ n, bd 20 (n + 1) (.tuple zs) = true := fun zs hz n => by
    have l := hz.length_le
    have := g.len
    rw [bd_tup, Bool.and_eq_true]
    exact ⟨decide_eq_true (by omega), List.all_eq_true.mpr fun x hx => hs x (hz.subset hx) n⟩
  have hts : bd 20 4 (.tuple ts) = true := by
    rw [bd_tup, Bool.and_eq_true]
    refine ⟨decide_eq_true (by have := g.len; omega), List.all_eq_true.mpr fun t ht => ?_⟩
    obtain ⟨y, hy, rule, zs, b, rfl, hr, hz⟩ := al_mem a1 t ht
    have h1 := hs y hy 2
    have h2 : bd 20 2 rule = true := by
      obtain ⟨s, rfl⟩ := rules_strs rule hr
      have : ∀ x ∈ RULES, bd 20 2 x = true := by decide
      exact this _ hr
    have h3 := sub zs (hz.trans List.filter_sublist) 1
    rw [bd_tup, Bool.and_eq_true]
    refine ⟨rfl, List.all_eq_true.mpr fun x hx => ?_⟩
    simp only [List.mem_cons, List.not_mem_nil, or_false] at hx
    rcases hx with rfl | rfl | rfl | rfl
    · exact h1
    · exact h2
    · exact h3
    · rfl
  have hws : bd 20 4 (.tuple ws) = true := by
    have l := w1.length_le
    have lp : (Kp.Pairs ns).length ≤ 6 := hd.cases (p := fun ns => (Kp.Pairs ns).length ≤ 6) (by decide +kernel) (by decide +kernel)
    rw [bd_tup, Bool.and_eq_true]
    refine ⟨decide_eq_true (by omega), List.all_eq_true.mpr fun x hx => ?_⟩
    have hx := w1.subset hx
    unfold Kp.Pairs at hx
    obtain ⟨a, ha, hx⟩ := List.mem_flatMap.mp hx
    obtain ⟨b, hb, rfl⟩ := List.mem_map.mp hx
    have hb := (List.mem_filter.mp hb).1
    rw [bd_tup, Bool.and_eq_true]
    refine ⟨rfl, List.all_eq_true.mpr fun x hx => ?_⟩
    simp only [List.mem_cons, List.not_mem_nil, or_false] at hx
    rcases hx with rfl | rfl
    · exact hs _ ha 2
    · exact hs _ hb 2
  have hpq : bd 20 4 (.tuple [.tuple p, .tuple q]) = true := by
    rw [bd_tup, Bool.and_eq_true]
    refine ⟨rfl, List.all_eq_true.mpr fun x hx => ?_⟩
    simp only [List.mem_cons, List.not_mem_nil, or_false] at hx
    rcases hx with rfl | rfl
    · exact sub p p1 2
    · exact sub q q1 2
  rw [bd_tup, Bool.and_eq_true]
  refine ⟨rfl, List.all_eq_true.mpr fun x hx => ?_⟩
  simp only [List.mem_cons, List.not_mem_nil, or_false] at hx
  rcases hx with rfl | rfl | rfl
  · exact hts
  · exact hws
  · exact hpq
/-- three bends -/
def inner : List S := [(.asg 5 false (.call 21 [(.var 2), (.var 5)])), (.ife (.not (.call 22 [(.var 5)])) [(.ret (.const (.bool false)))] [])]
def mid : List S := [(.asg 5 false (.var 3)), (.for (.one 6) .rng1 [(.const (.int 3))] inner)]
def outer : List S := [(.asg 2 true (.call 8 [(.var 1), (.const (.int 3))])), (.asg 3 false (.call 13 [(.var 2), (.const (.bool true))])), (.ife (.cmp .isnot (.call 7 [(.var 3)]) (.const (.bool true))) [(.ret (.const (.bool false)))] []), (.for (.one 4) .rng1 [(.const (.int 10))] mid), (.ife (.not (.call 22 [(.call 20 [(.var 2)])])) [(.ret (.const (.bool false)))] [])]
theorem rng3 {Φ : Nat → List D → Sto → R Rv} {env : Ev} {st : Sto} : evI Φ env .rng1 [(.const (.int 3))] st = .ok ((List.range 3).map fun (i : Nat) => .int (0 + (i : Int))) st := by
  unfold evI
  simp only [evDs, e_const, x_bind, ok_bind, fz_imp, it_r1 3 (by decide)]
  rfl
theorem rng10 {Φ : Nat → List D → Sto → R Rv} {env : Ev} {st : Sto} : evI Φ env .rng1 [(.const (.int 10))] st = .ok ((List.range 10).map fun (i : Nat) => .int (0 + (i : Int))) st := by
  unfold evI
  simp only [evDs, e_const, x_bind, ok_bind, fz_imp, it_r1 10 (by decide)]
  rfl
/-- what the law calls -/
structure LawΦ (Φ : Nat → List D → Sto → R Rv) : Prop where
  bent : ∀ n m v st jn, 3 ≤ m → m ≤ 900000 → n ≤ 50 → bd m n v = true → JarAt jn st → Bent Φ 21 jn m n v st
  right : ∀ v st, small v = true → fit v = true → Φ 22 [.py v] st = ok1 (.bool true) st
  setup : SetupF Φ 7
  mks : MkSetupF Φ 13
  odd : OddF Φ 20
  jar : ∀ c st, ∃ a b : Int, Φ 8 [.py (.int c), .py (.int 3)] st = .ok (.nl [.int a, .int b]) st ∧ 0 ≤ a ∧ 0 ≤ b ∧ b < 4294967296
section
variable {Φ : Nat → List D → Sto → R Rv}
theorem turn_inner (A : LawΦ Φ) {y : P} {e0 e1 e3 e4 e6 : Option D} {r7 r8 r9 r10 r11 r12 : Option D} {jn m n : Nat} {v : P} {st : Sto} (hm : 3 ≤ m) (hm2 : m ≤ 800000) (hn : n ≤ 50) (hb : bd m n v = true) (hj : JarAt jn st) :
    ∃ w st', turnF Φ (.one 6) inner y [e0, e1, some (.ref jn), e3, e4, some (.py v), e6, r7, r8, r9, r10, r11, r12] st = .nx [e0, e1, some (.ref jn), e3, e4, some (.py w), some (.py y), r7, r8, r9, r10, r11, r12] st' ∧ bd (m + 1) (n + 3) w = true ∧ JarAt jn st' ∧ Same jn st st' := by
  obtain ⟨r, w, st', e, f, b, j, s⟩ := A.bent n m v st jn hm (by omega) (by omega) hb hj
  obtain ⟨sm, ft⟩ := bd_fit (m := m + 1) (n := n + 3) (by omega) (by omega) b
  refine ⟨w, st', ?_, b, j, s⟩
  unfold turnF inner
  have est : ∀ env, store 5 false r env st' = .nx (env.set 5 (some (.py w))) st' := fun env => by
    rw [← f]
    cases r with
    | im d => rfl
    | nl xs => rfl
    | nd kvs => rfl
  simp only [v_nil, v_cons, v_for, v_asg, v_par, v_unp, v_setI, v_expr, v_ret, v_ife, v_pass, e_var, e_const, e_tup, e_lst, e_bin, e_negc, e_not, e_and, e_or, e_cmp, e_chain, e_ife, e_idx, e_slc, e_call, e_isi, e_blt, evDs, evPar, evAnd, x_bind, x_then, ok_bind, ok_then, nx_then, rt_then, np_imp, np_nl, np_py, ni_imp, ni_py, ni_nl, nb_imp, nb_py, no_none, no_int, no_intp, fz_imp, fz_im, fz_nl, im_py, im_imp, ok_imp, dm_nil, dm_one, dm_two, dr_py, tp_nil, tp_cons, ck_true, fin_rt, fin_nx, tr_imp, tr_nl, st_im, st_imp, st_nl, st_nlt, un_imp, b_len, b_all, b_any, b_max, b_min, b_int, b_intb, b_ll, b_lt, b_tl, b_tt, len_l, len_t, it_sl, it_st, it_ss, ty_str, ty_tup, c_le, c_ge, c_lt, c_gt, c_eqi, c_nei, c_eqs, c_nes, c_eqb, c_isb, c_isnb, o_add, o_sub, idx_t, idx_l, at0, at1, at2, at3, Bool.not_true, Bool.not_false, Bool.true_and, Bool.false_and, tgSlots, wipeE, bindT, List.getElem?_cons_zero, List.getElem?_cons_succ, List.set_cons_zero, List.set_cons_succ, Option.map_some, if_true, Bool.false_eq_true, if_false, e, est, A.right w _ sm ft]
theorem turn_mid (A : LawΦ Φ) {y : P} {e0 e1 e4 e5 e6 : Option D} {r7 r8 r9 r10 r11 r12 : Option D} {jn : Nat} {v : P} {st : Sto} (hb : bd 20 5 v = true) (hj : JarAt jn st) :
    ∃ e5' e6' st', turnF Φ (.one 4) mid y [e0, e1, some (.ref jn), some (.py v), e4, e5, e6, r7, r8, r9, r10, r11, r12] st = .nx [e0, e1, some (.ref jn), some (.py v), some (.py y), e5', e6', r7, r8, r9, r10, r11, r12] st' ∧ JarAt jn st' ∧ Same jn st st' := by
  have step : ∀ (done : List P) (z : P) rest env st1, ((List.range 3).map fun (i : Nat) => PyData.int (0 + (i : Int))) = done ++ z :: rest → (∃ w e6, env = [e0, e1, some (D.ref jn), some (D.py v), some (D.py y), some (D.py w), e6, r7, r8, r9, r10, r11, r12] ∧ bd (20 + done.length) (5 + 3 * done.length) w = true ∧ JarAt jn st1 ∧ Same jn st st1) →
      ∃ env' st', turnF Φ (.one 6) inner z env st1 = .nx env' st' ∧ (∃ w e6, env' = [e0, e1, some (D.ref jn), some (D.py v), some (D.py y), some (D.py w), e6, r7, r8, r9, r10, r11, r12] ∧ bd (20 + (done ++ [z]).length) (5 + 3 * (done ++ [z]).length) w = true ∧ JarAt jn st' ∧ Same jn st st') := by
    rintro done z rest env st1 hd ⟨w, e6, rfl, b, j, s⟩
    have hl : done.length ≤ 2 := by
      have := congrArg List.length hd
      simp at this
      omega
    obtain ⟨w', st', e, b', j', s'⟩ := turn_inner A (y := z) (e0 := e0) (e1 := e1) (e3 := some (D.py v)) (e4 := some (D.py y)) (e6 := e6) (r7 := r7) (r8 := r8) (r9 := r9) (r10 := r10) (r11 := r11) (r12 := r12) (by omega) (by omega) (by omega) b j
    refine ⟨_, st', e, w', _, rfl, ?_, j', s.trans s'⟩
    rw [List.length_append]
    exact b'
  obtain ⟨env', st', e, w, e6', rfl, _, j, s⟩ := forL_inv step ((List.range 3).map fun (i : Nat) => PyData.int (0 + (i : Int))) [] [e0, e1, some (D.ref jn), some (D.py v), some (D.py y), some (D.py v), e6, r7, r8, r9, r10, r11, r12] st rfl ⟨v, e6, rfl, by simpa using hb, hj, Same.refl⟩
  refine ⟨some (.py w), e6', st', ?_, j, s⟩
  unfold turnF mid
  simp only [v_nil, v_cons, v_for, v_asg, v_par, v_unp, v_setI, v_expr, v_ret, v_ife, v_pass, e_var, e_const, e_tup, e_lst, e_bin, e_negc, e_not, e_and, e_or, e_cmp, e_chain, e_ife, e_idx, e_slc, e_call, e_isi, e_blt, evDs, evPar, evAnd, x_bind, x_then, ok_bind, ok_then, nx_then, rt_then, np_imp, np_nl, np_py, ni_imp, ni_py, ni_nl, nb_imp, nb_py, no_none, no_int, no_intp, fz_imp, fz_im, fz_nl, im_py, im_imp, ok_imp, dm_nil, dm_one, dm_two, dr_py, tp_nil, tp_cons, ck_true, fin_rt, fin_nx, tr_imp, tr_nl, st_im, st_imp, st_nl, st_nlt, un_imp, b_len, b_all, b_any, b_max, b_min, b_int, b_intb, b_ll, b_lt, b_tl, b_tt, len_l, len_t, it_sl, it_st, it_ss, ty_str, ty_tup, c_le, c_ge, c_lt, c_gt, c_eqi, c_nei, c_eqs, c_nes, c_eqb, c_isb, c_isnb, o_add, o_sub, idx_t, idx_l, at0, at1, at2, at3, Bool.not_true, Bool.not_false, Bool.true_and, Bool.false_and, tgSlots, wipeE, bindT, List.getElem?_cons_zero, List.getElem?_cons_succ, List.set_cons_zero, List.set_cons_succ, Option.map_some, if_true, Bool.false_eq_true, if_false, rng3]
  rw [e]
  simp only [v_nil, v_cons, v_for, v_asg, v_par, v_unp, v_setI, v_expr, v_ret, v_ife, v_pass, e_var, e_const, e_tup, e_lst, e_bin, e_negc, e_not, e_and, e_or, e_cmp, e_chain, e_ife, e_idx, e_slc, e_call, e_isi, e_blt, evDs, evPar, evAnd, x_bind, x_then, ok_bind, ok_then, nx_then, rt_then, np_imp, np_nl, np_py, ni_imp, ni_py, ni_nl, nb_imp, nb_py, no_none, no_int, no_intp, fz_imp, fz_im, fz_nl, im_py, im_imp, ok_imp, dm_nil, dm_one, dm_two, dr_py, tp_nil, tp_cons, ck_true, fin_rt, fin_nx, tr_imp, tr_nl, st_im, st_imp, st_nl, st_nlt, un_imp, b_len, b_all, b_any, b_max, b_min, b_int, b_intb, b_ll, b_lt, b_tl, b_tt, len_l, len_t, it_sl, it_st, it_ss, ty_str, ty_tup, c_le, c_ge, c_lt, c_gt, c_eqi, c_nei, c_eqs, c_nes, c_eqb, c_isb, c_isnb, o_add, o_sub, idx_t, idx_l, at0, at1, at2, at3, Bool.not_true, Bool.not_false, Bool.true_and, Bool.false_and, tgSlots, wipeE, bindT, List.getElem?_cons_zero, List.getElem?_cons_succ, List.set_cons_zero, List.set_cons_succ, Option.map_some, if_true, Bool.false_eq_true, if_false]
theorem turn_outer (A : LawΦ Φ) {c : Int} {e0 e1 e2 e3 e4 e5 e6 : Option D} {r7 r8 r9 r10 r11 r12 : Option D} {st : Sto} :
    ∃ e2' e3' e4' e5' e6' st', turnF Φ (.one 1) outer (.int c) [e0, e1, e2, e3, e4, e5, e6, r7, r8, r9, r10, r11, r12] st = .nx [e0, some (.py (.int c)), e2', e3', e4', e5', e6', r7, r8, r9, r10, r11, r12] st' := by
  obtain ⟨a, b, ej, ha, hb, hb2⟩ := A.jar c st
  have hj : JarAt st.length (st ++ [.lst [.int a, .int b]]) := ⟨a, b, by rw [List.getElem?_append_right (Nat.le_refl _), Nat.sub_self]; rfl, ha, hb, hb2⟩
  obtain ⟨ns, v, st1, ev, hd, hv, j1, s1⟩ := A.mks st.length _ true hj
  have b5 := setup_bd hd hv
  obtain ⟨sm, ft⟩ := bd_fit (by omega) (by omega) b5
  have his := drawSetup_is (drawNs_good hd) hv
  have step : ∀ (done : List P) (z : P) rest env st2, ((List.range 10).map fun (i : Nat) => PyData.int (0 + (i : Int))) = done ++ z :: rest → (∃ e4 e5 e6, env = [e0, some (D.py (.int c)), some (D.ref st.length), some (D.py v), e4, e5, e6, r7, r8, r9, r10, r11, r12] ∧ JarAt st.length st2) →
      ∃ env' st', turnF Φ (.one 4) mid z env st2 = .nx env' st' ∧ (∃ e4 e5 e6, env' = [e0, some (D.py (.int c)), some (D.ref st.length), some (D.py v), e4, e5, e6, r7, r8, r9, r10, r11, r12] ∧ JarAt st.length st') := by
    rintro done z rest env st2 _ ⟨e4, e5, e6, rfl, j⟩
    obtain ⟨e5', e6', st', e, j', _⟩ := turn_mid A (y := z) (e0 := e0) (e1 := some (D.py (.int c))) (e4 := e4) (e5 := e5) (e6 := e6) (r7 := r7) (r8 := r8) (r9 := r9) (r10 := r10) (r11 := r11) (r12 := r12) b5 j
    exact ⟨_, st', e, _, _, _, rfl, j'⟩
  obtain ⟨env', st2, e2', e4', e5', e6', rfl, j2⟩ := forL_inv step ((List.range 10).map fun (i : Nat) => PyData.int (0 + (i : Int))) [] [e0, some (D.py (.int c)), some (D.ref st.length), some (D.py v), e4, e5, e6, r7, r8, r9, r10, r11, r12] st1 rfl ⟨e4, e5, e6, rfl, j1⟩
  obtain ⟨x, st3, eo, bo, _, _⟩ := A.odd st.length st2 j2
  obtain ⟨so, fo⟩ := bd_fit (m := 3) (n := 2) (by omega) (by omega) bo
  refine ⟨some (.ref st.length), some (.py v), e4', e5', e6', st3, ?_⟩
  unfold turnF outer
  simp only [v_nil, v_cons, v_for, v_asg, v_par, v_unp, v_setI, v_expr, v_ret, v_ife, v_pass, e_var, e_const, e_tup, e_lst, e_bin, e_negc, e_not, e_and, e_or, e_cmp, e_chain, e_ife, e_idx, e_slc, e_call, e_isi, e_blt, evDs, evPar, evAnd, x_bind, x_then, ok_bind, ok_then, nx_then, rt_then, np_imp, np_nl, np_py, ni_imp, ni_py, ni_nl, nb_imp, nb_py, no_none, no_int, no_intp, fz_imp, fz_im, fz_nl, im_py, im_imp, ok_imp, dm_nil, dm_one, dm_two, dr_py, tp_nil, tp_cons, ck_true, fin_rt, fin_nx, tr_imp, tr_nl, st_im, st_imp, st_nl, st_nlt, un_imp, b_len, b_all, b_any, b_max, b_min, b_int, b_intb, b_ll, b_lt, b_tl, b_tt, len_l, len_t, it_sl, it_st, it_ss, ty_str, ty_tup, c_le, c_ge, c_lt, c_gt, c_eqi, c_nei, c_eqs, c_nes, c_eqb, c_isb, c_isnb, o_add, o_sub, idx_t, idx_l, at0, at1, at2, at3, Bool.not_true, Bool.not_false, Bool.true_and, Bool.false_and, tgSlots, wipeE, bindT, List.getElem?_cons_zero, List.getElem?_cons_succ, List.set_cons_zero, List.set_cons_succ, Option.map_some, if_true, Bool.false_eq_true, if_false, ej, ev, A.setup v _ sm, his, beq_self_eq_true, rng10]
  rw [e2']
  simp only [v_nil, v_cons, v_for, v_asg, v_par, v_unp, v_setI, v_expr, v_ret, v_ife, v_pass, e_var, e_const, e_tup, e_lst, e_bin, e_negc, e_not, e_and, e_or, e_cmp, e_chain, e_ife, e_idx, e_slc, e_call, e_isi, e_blt, evDs, evPar, evAnd, x_bind, x_then, ok_bind, ok_then, nx_then, rt_then, np_imp, np_nl, np_py, ni_imp, ni_py, ni_nl, nb_imp, nb_py, no_none, no_int, no_intp, fz_imp, fz_im, fz_nl, im_py, im_imp, ok_imp, dm_nil, dm_one, dm_two, dr_py, tp_nil, tp_cons, ck_true, fin_rt, fin_nx, tr_imp, tr_nl, st_im, st_imp, st_nl, st_nlt, un_imp, b_len, b_all, b_any, b_max, b_min, b_int, b_intb, b_ll, b_lt, b_tl, b_tt, len_l, len_t, it_sl, it_st, it_ss, ty_str, ty_tup, c_le, c_ge, c_lt, c_gt, c_eqi, c_nei, c_eqs, c_nes, c_eqb, c_isb, c_isnb, o_add, o_sub, idx_t, idx_l, at0, at1, at2, at3, Bool.not_true, Bool.not_false, Bool.true_and, Bool.false_and, tgSlots, wipeE, bindT, List.getElem?_cons_zero, List.getElem?_cons_succ, List.set_cons_zero, List.set_cons_succ, Option.map_some, if_true, Bool.false_eq_true, if_false, eo, A.right x _ so fo]
/-- the rows by hand -/
theorem law_rows (A : LawΦ Φ) {e0 e1 e2 e3 e4 e5 e6 : Option D} {st : Sto} {n : Nat} :
    ∃ env', evSs Φ (b23.drop 1) [e0, e1, e2, e3, e4, e5, e6, none, none, none, none, none, none] st = .rt (imp (.bool true)) st ∧ env' = e0 := by
  refine ⟨_, ?_, rfl⟩
  have hc : ∀ st, evE Φ [e0, e1, e2, e3, e4, e5, e6, some (.py (.tuple [.str ⟨#[97]⟩, .str ⟨#[97, 108, 108]⟩, .tuple [], .bool false])), some (.py (.tuple [.str ⟨#[98]⟩, .str ⟨#[121, 101, 115]⟩, .tuple [.str ⟨#[97]⟩], .bool true])), some (.py (.tuple [.str ⟨#[99]⟩, .str ⟨#[110, 101, 119]⟩, .tuple [.str ⟨#[97]⟩, .str ⟨#[98]⟩], .bool false])), some (.py (.tuple [.tuple [], .tuple []])), some (.py (.list ROWS)), none]
      (.comp (.var 12) (.one 12) .seq [(.var 11)] [(.not (.call 22 [(.var 12)]))]) st = .ok (.nl (ROWS.filter fun _ => false)) st := fun st => by
    refine comp_filter _ (ds := [.py (.list ROWS)]) (by simp only [v_nil, v_cons, v_for, v_asg, v_par, v_unp, v_setI, v_expr, v_ret, v_ife, v_pass, e_var, e_const, e_tup, e_lst, e_bin, e_negc, e_not, e_and, e_or, e_cmp, e_chain, e_ife, e_idx, e_slc, e_call, e_isi, e_blt, evDs, evPar, evAnd, x_bind, x_then, ok_bind, ok_then, nx_then, rt_then, np_imp, np_nl, np_py, ni_imp, ni_py, ni_nl, nb_imp, nb_py, no_none, no_int, no_intp, fz_imp, fz_im, fz_nl, im_py, im_imp, ok_imp, dm_nil, dm_one, dm_two, dr_py, tp_nil, tp_cons, ck_true, fin_rt, fin_nx, tr_imp, tr_nl, st_im, st_imp, st_nl, st_nlt, un_imp, b_len, b_all, b_any, b_max, b_min, b_int, b_intb, b_ll, b_lt, b_tl, b_tt, len_l, len_t, it_sl, it_st, it_ss, ty_str, ty_tup, c_le, c_ge, c_lt, c_gt, c_eqi, c_nei, c_eqs, c_nes, c_eqb, c_isb, c_isnb, o_add, o_sub, idx_t, idx_l, at0, at1, at2, at3, Bool.not_true, Bool.not_false, Bool.true_and, Bool.false_and, tgSlots, wipeE, bindT, List.getElem?_cons_zero, List.getElem?_cons_succ, List.set_cons_zero, List.set_cons_succ, Option.map_some, if_true, Bool.false_eq_true, if_false]) (by simp only [v_nil, v_cons, v_for, v_asg, v_par, v_unp, v_setI, v_expr, v_ret, v_ife, v_pass, e_var, e_const, e_tup, e_lst, e_bin, e_negc, e_not, e_and, e_or, e_cmp, e_chain, e_ife, e_idx, e_slc, e_call, e_isi, e_blt, evDs, evPar, evAnd, x_bind, x_then, ok_bind, ok_then, nx_then, rt_then, np_imp, np_nl, np_py, ni_imp, ni_py, ni_nl, nb_imp, nb_py, no_none, no_int, no_intp, fz_imp, fz_im, fz_nl, im_py, im_imp, ok_imp, dm_nil, dm_one, dm_two, dr_py, tp_nil, tp_cons, ck_true, fin_rt, fin_nx, tr_imp, tr_nl, st_im, st_imp, st_nl, st_nlt, un_imp, b_len, b_all, b_any, b_max, b_min, b_int, b_intb, b_ll, b_lt, b_tl, b_tt, len_l, len_t, it_sl, it_st, it_ss, ty_str, ty_tup, c_le, c_ge, c_lt, c_gt, c_eqi, c_nei, c_eqs, c_nes, c_eqb, c_isb, c_isnb, o_add, o_sub, idx_t, idx_l, at0, at1, at2, at3, Bool.not_true, Bool.not_false, Bool.true_and, Bool.false_and, tgSlots, wipeE, bindT, List.getElem?_cons_zero, List.getElem?_cons_succ, List.set_cons_zero, List.set_cons_succ, Option.map_some, if_true, Bool.false_eq_true, if_false]) (fun y hy st => ?_) (by decide)
    obtain ⟨sm, ft⟩ := rows_ok y hy
    exact turn_if (env1 := [e0, e1, e2, e3, e4, e5, e6, some (.py (.tuple [.str ⟨#[97]⟩, .str ⟨#[97, 108, 108]⟩, .tuple [], .bool false])), some (.py (.tuple [.str ⟨#[98]⟩, .str ⟨#[121, 101, 115]⟩, .tuple [.str ⟨#[97]⟩], .bool true])), some (.py (.tuple [.str ⟨#[99]⟩, .str ⟨#[110, 101, 119]⟩, .tuple [.str ⟨#[97]⟩, .str ⟨#[98]⟩], .bool false])), some (.py (.tuple [.tuple [], .tuple []])), some (.py (.list ROWS)), some (.py y)]) (by simp only [v_nil, v_cons, v_for, v_asg, v_par, v_unp, v_setI, v_expr, v_ret, v_ife, v_pass, e_var, e_const, e_tup, e_lst, e_bin, e_negc, e_not, e_and, e_or, e_cmp, e_chain, e_ife, e_idx, e_slc, e_call, e_isi, e_blt, evDs, evPar, evAnd, x_bind, x_then, ok_bind, ok_then, nx_then, rt_then, np_imp, np_nl, np_py, ni_imp, ni_py, ni_nl, nb_imp, nb_py, no_none, no_int, no_intp, fz_imp, fz_im, fz_nl, im_py, im_imp, ok_imp, dm_nil, dm_one, dm_two, dr_py, tp_nil, tp_cons, ck_true, fin_rt, fin_nx, tr_imp, tr_nl, st_im, st_imp, st_nl, st_nlt, un_imp, b_len, b_all, b_any, b_max, b_min, b_int, b_intb, b_ll, b_lt, b_tl, b_tt, len_l, len_t, it_sl, it_st, it_ss, ty_str, ty_tup, c_le, c_ge, c_lt, c_gt, c_eqi, c_nei, c_eqs, c_nes, c_eqb, c_isb, c_isnb, o_add, o_sub, idx_t, idx_l, at0, at1, at2, at3, Bool.not_true, Bool.not_false, Bool.true_and, Bool.false_and, tgSlots, wipeE, bindT, List.getElem?_cons_zero, List.getElem?_cons_succ, List.set_cons_zero, List.set_cons_succ, Option.map_some, if_true, Bool.false_eq_true, if_false]) (by simp only [v_nil, v_cons, v_for, v_asg, v_par, v_unp, v_setI, v_expr, v_ret, v_ife, v_pass, e_var, e_const, e_tup, e_lst, e_bin, e_negc, e_not, e_and, e_or, e_cmp, e_chain, e_ife, e_idx, e_slc, e_call, e_isi, e_blt, evDs, evPar, evAnd, x_bind, x_then, ok_bind, ok_then, nx_then, rt_then, np_imp, np_nl, np_py, ni_imp, ni_py, ni_nl, nb_imp, nb_py, no_none, no_int, no_intp, fz_imp, fz_im, fz_nl, im_py, im_imp, ok_imp, dm_nil, dm_one, dm_two, dr_py, tp_nil, tp_cons, ck_true, fin_rt, fin_nx, tr_imp, tr_nl, st_im, st_imp, st_nl, st_nlt, un_imp, b_len, b_all, b_any, b_max, b_min, b_int, b_intb, b_ll, b_lt, b_tl, b_tt, len_l, len_t, it_sl, it_st, it_ss, ty_str, ty_tup, c_le, c_ge, c_lt, c_gt, c_eqi, c_nei, c_eqs, c_nes, c_eqb, c_isb, c_isnb, o_add, o_sub, idx_t, idx_l, at0, at1, at2, at3, Bool.not_true, Bool.not_false, Bool.true_and, Bool.false_and, tgSlots, wipeE, bindT, List.getElem?_cons_zero, List.getElem?_cons_succ, List.set_cons_zero, List.set_cons_succ, Option.map_some, if_true, Bool.false_eq_true, if_false, A.right y _ sm ft]) (fun _ => by simp only [v_nil, v_cons, v_for, v_asg, v_par, v_unp, v_setI, v_expr, v_ret, v_ife, v_pass, e_var, e_const, e_tup, e_lst, e_bin, e_negc, e_not, e_and, e_or, e_cmp, e_chain, e_ife, e_idx, e_slc, e_call, e_isi, e_blt, evDs, evPar, evAnd, x_bind, x_then, ok_bind, ok_then, nx_then, rt_then, np_imp, np_nl, np_py, ni_imp, ni_py, ni_nl, nb_imp, nb_py, no_none, no_int, no_intp, fz_imp, fz_im, fz_nl, im_py, im_imp, ok_imp, dm_nil, dm_one, dm_two, dr_py, tp_nil, tp_cons, ck_true, fin_rt, fin_nx, tr_imp, tr_nl, st_im, st_imp, st_nl, st_nlt, un_imp, b_len, b_all, b_any, b_max, b_min, b_int, b_intb, b_ll, b_lt, b_tl, b_tt, len_l, len_t, it_sl, it_st, it_ss, ty_str, ty_tup, c_le, c_ge, c_lt, c_gt, c_eqi, c_nei, c_eqs, c_nes, c_eqb, c_isb, c_isnb, o_add, o_sub, idx_t, idx_l, at0, at1, at2, at3, Bool.not_true, Bool.not_false, Bool.true_and, Bool.false_and, tgSlots, wipeE, bindT, List.getElem?_cons_zero, List.getElem?_cons_succ, List.set_cons_zero, List.set_cons_succ, Option.map_some, if_true, Bool.false_eq_true, if_false])
  have hnil : ROWS.filter (fun _ => false) = [] := by simp
  rw [hnil] at hc
  unfold ROWS at hc
  unfold b23
  simp only [List.drop_succ_cons, List.drop_zero, v_nil, v_cons, v_for, v_asg, v_par, v_unp, v_setI, v_expr, v_ret, v_ife, v_pass, e_var, e_const, e_tup, e_lst, e_bin, e_negc, e_not, e_and, e_or, e_cmp, e_chain, e_ife, e_idx, e_slc, e_call, e_isi, e_blt, evDs, evPar, evAnd, x_bind, x_then, ok_bind, ok_then, nx_then, rt_then, np_imp, np_nl, np_py, ni_imp, ni_py, ni_nl, nb_imp, nb_py, no_none, no_int, no_intp, fz_imp, fz_im, fz_nl, im_py, im_imp, ok_imp, dm_nil, dm_one, dm_two, dr_py, tp_nil, tp_cons, ck_true, fin_rt, fin_nx, tr_imp, tr_nl, st_im, st_imp, st_nl, st_nlt, un_imp, b_len, b_all, b_any, b_max, b_min, b_int, b_intb, b_ll, b_lt, b_tl, b_tt, len_l, len_t, it_sl, it_st, it_ss, ty_str, ty_tup, c_le, c_ge, c_lt, c_gt, c_eqi, c_nei, c_eqs, c_nes, c_eqb, c_isb, c_isnb, o_add, o_sub, idx_t, idx_l, at0, at1, at2, at3, Bool.not_true, Bool.not_false, Bool.true_and, Bool.false_and, tgSlots, wipeE, bindT, List.getElem?_cons_zero, List.getElem?_cons_succ, List.set_cons_zero, List.set_cons_succ, Option.map_some, if_true, Bool.false_eq_true, if_false, List.length_cons, List.length_nil, Nat.reduceAdd, Nat.zero_add, SZ, sizeLine_eq, Nat.reduceLeDiff, decide_true, eq_self, setName, o_lstc, List.cons_append, List.nil_append, hc, c_eqe [] rfl, List.isEmpty_nil]
end
theorem lawΦ : LawΦ (L 59) where
  bent := fun n m v st jn hm hm2 hn hb hj => by
    have q := F_bent n (55 - n) m v st jn hm hm2 (by omega) hb hj
    have e : 55 - n + n + 4 = 59 := by omega
    rw [e] at q
    exact q
  right := F_right 54
  setup := F_setup 55
  mks := F_mkSetup 54
  odd := F_odd 56
  jar := fun c st => by
    obtain ⟨a, b, e, h⟩ := sem_jar (Φ := L 58) (st := st) c 3 (by omega)
    exact ⟨a, b, (evFn_def (f := d8.fn) rfl rfl).trans e, h⟩
theorem cut_mem {xs : List P} {a b : Option Int} {x : P} (h : x ∈ cutL xs a b) : x ∈ xs := List.mem_of_mem_drop (List.mem_of_mem_take h)
theorem slc_l (xs : List P) (l h : Option Int) (st : Sto) : slcop (.list xs) l h st = .ok (.nl (cutL xs l h)) st := rfl
theorem law_ev : LawEv ds 60 23 := by
  intro ns hl d st hd
  have hcells : ∃ ys, (∀ env : Ev, env[0]? = some (some d) → evI (L 59) env .seq [(.slc (.bin .add (.lst [(.const (.int 0))]) (.var 0)) (.const .none) (.const (.int 8)))] st = .ok ys st) ∧ ∀ y ∈ ys, ∃ c, y = .int c := by
    refine ⟨cutL (.int 0 :: ns.map .int) none (some 8), fun env he => ?_, fun y hy => ?_⟩
    · have hz : decide ([PyData.int 0].length + (ns.map PyData.int).length ≤ SZ) = true := decide_eq_true (by rw [List.length_map]; exact Nat.le_trans (show 1 + ns.length ≤ 64 by omega) (by decide))
      unfold evI
      rcases hd with ⟨rfl, rfl⟩ | ⟨rfl, rfl⟩
      · simp only [v_nil, v_cons, v_for, v_asg, v_par, v_unp, v_setI, v_expr, v_ret, v_ife, v_pass, e_var, e_const, e_tup, e_lst, e_bin, e_negc, e_not, e_and, e_or, e_cmp, e_chain, e_ife, e_idx, e_slc, e_call, e_isi, e_blt, evDs, evPar, evAnd, x_bind, x_then, ok_bind, ok_then, nx_then, rt_then, np_imp, np_nl, np_py, ni_imp, ni_py, ni_nl, nb_imp, nb_py, no_none, no_int, no_intp, fz_imp, fz_im, fz_nl, im_py, im_imp, ok_imp, dm_nil, dm_one, dm_two, dr_py, tp_nil, tp_cons, ck_true, fin_rt, fin_nx, tr_imp, tr_nl, st_im, st_imp, st_nl, st_nlt, un_imp, b_len, b_all, b_any, b_max, b_min, b_int, b_intb, b_ll, b_lt, b_tl, b_tt, len_l, len_t, it_sl, it_st, it_ss, ty_str, ty_tup, c_le, c_ge, c_lt, c_gt, c_eqi, c_nei, c_eqs, c_nes, c_eqb, c_isb, c_isnb, o_add, o_sub, idx_t, idx_l, at0, at1, at2, at3, Bool.not_true, Bool.not_false, Bool.true_and, Bool.false_and, tgSlots, wipeE, bindT, List.getElem?_cons_zero, List.getElem?_cons_succ, List.set_cons_zero, List.set_cons_succ, Option.map_some, if_true, Bool.false_eq_true, if_false, he, List.length_nil, List.length_cons, l1, o_lstc, slc_l]
        rw [show decide (0 + 1 + (ns.map PyData.int).length ≤ SZ) = true from hz]
        simp only [v_nil, v_cons, v_for, v_asg, v_par, v_unp, v_setI, v_expr, v_ret, v_ife, v_pass, e_var, e_const, e_tup, e_lst, e_bin, e_negc, e_not, e_and, e_or, e_cmp, e_chain, e_ife, e_idx, e_slc, e_call, e_isi, e_blt, evDs, evPar, evAnd, x_bind, x_then, ok_bind, ok_then, nx_then, rt_then, np_imp, np_nl, np_py, ni_imp, ni_py, ni_nl, nb_imp, nb_py, no_none, no_int, no_intp, fz_imp, fz_im, fz_nl, im_py, im_imp, ok_imp, dm_nil, dm_one, dm_two, dr_py, tp_nil, tp_cons, ck_true, fin_rt, fin_nx, tr_imp, tr_nl, st_im, st_imp, st_nl, st_nlt, un_imp, b_len, b_all, b_any, b_max, b_min, b_int, b_intb, b_ll, b_lt, b_tl, b_tt, len_l, len_t, it_sl, it_st, it_ss, ty_str, ty_tup, c_le, c_ge, c_lt, c_gt, c_eqi, c_nei, c_eqs, c_nes, c_eqb, c_isb, c_isnb, o_add, o_sub, idx_t, idx_l, at0, at1, at2, at3, Bool.not_true, Bool.not_false, Bool.true_and, Bool.false_and, tgSlots, wipeE, bindT, List.getElem?_cons_zero, List.getElem?_cons_succ, List.set_cons_zero, List.set_cons_succ, Option.map_some, if_true, Bool.false_eq_true, if_false, slc_l, List.cons_append, List.nil_append]
      · simp only [v_nil, v_cons, v_for, v_asg, v_par, v_unp, v_setI, v_expr, v_ret, v_ife, v_pass, e_var, e_const, e_tup, e_lst, e_bin, e_negc, e_not, e_and, e_or, e_cmp, e_chain, e_ife, e_idx, e_slc, e_call, e_isi, e_blt, evDs, evPar, evAnd, x_bind, x_then, ok_bind, ok_then, nx_then, rt_then, np_imp, np_nl, np_py, ni_imp, ni_py, ni_nl, nb_imp, nb_py, no_none, no_int, no_intp, fz_imp, fz_im, fz_nl, im_py, im_imp, ok_imp, dm_nil, dm_one, dm_two, dr_py, tp_nil, tp_cons, ck_true, fin_rt, fin_nx, tr_imp, tr_nl, st_im, st_imp, st_nl, st_nlt, un_imp, b_len, b_all, b_any, b_max, b_min, b_int, b_intb, b_ll, b_lt, b_tl, b_tt, len_l, len_t, it_sl, it_st, it_ss, ty_str, ty_tup, c_le, c_ge, c_lt, c_gt, c_eqi, c_nei, c_eqs, c_nes, c_eqb, c_isb, c_isnb, o_add, o_sub, idx_t, idx_l, at0, at1, at2, at3, Bool.not_true, Bool.not_false, Bool.true_and, Bool.false_and, tgSlots, wipeE, bindT, List.getElem?_cons_zero, List.getElem?_cons_succ, List.set_cons_zero, List.set_cons_succ, Option.map_some, if_true, Bool.false_eq_true, if_false, he, List.length_nil, List.length_cons, l1, np_ref (st := [Ob.lst (ns.map .int)]) (n := 0) (xs := ns.map .int) rfl, o_lstc, slc_l]
        rw [show decide (0 + 1 + (ns.map PyData.int).length ≤ SZ) = true from hz]
        simp only [v_nil, v_cons, v_for, v_asg, v_par, v_unp, v_setI, v_expr, v_ret, v_ife, v_pass, e_var, e_const, e_tup, e_lst, e_bin, e_negc, e_not, e_and, e_or, e_cmp, e_chain, e_ife, e_idx, e_slc, e_call, e_isi, e_blt, evDs, evPar, evAnd, x_bind, x_then, ok_bind, ok_then, nx_then, rt_then, np_imp, np_nl, np_py, ni_imp, ni_py, ni_nl, nb_imp, nb_py, no_none, no_int, no_intp, fz_imp, fz_im, fz_nl, im_py, im_imp, ok_imp, dm_nil, dm_one, dm_two, dr_py, tp_nil, tp_cons, ck_true, fin_rt, fin_nx, tr_imp, tr_nl, st_im, st_imp, st_nl, st_nlt, un_imp, b_len, b_all, b_any, b_max, b_min, b_int, b_intb, b_ll, b_lt, b_tl, b_tt, len_l, len_t, it_sl, it_st, it_ss, ty_str, ty_tup, c_le, c_ge, c_lt, c_gt, c_eqi, c_nei, c_eqs, c_nes, c_eqb, c_isb, c_isnb, o_add, o_sub, idx_t, idx_l, at0, at1, at2, at3, Bool.not_true, Bool.not_false, Bool.true_and, Bool.false_and, tgSlots, wipeE, bindT, List.getElem?_cons_zero, List.getElem?_cons_succ, List.set_cons_zero, List.set_cons_succ, Option.map_some, if_true, Bool.false_eq_true, if_false, slc_l, List.cons_append, List.nil_append]
    · rcases List.mem_cons.mp (cut_mem hy) with e | hy
      · exact ⟨0, e⟩
      · obtain ⟨c, _, e⟩ := List.mem_map.mp hy
        exact ⟨c, e.symm⟩
  obtain ⟨ys, hI, hint⟩ := hcells
  have step : ∀ (done : List P) (z : P) rest env st2, ys = done ++ z :: rest → (∃ e1 e2 e3 e4 e5 e6, env = [some d, e1, e2, e3, e4, e5, e6, none, none, none, none, none, none]) →
      ∃ env' st', turnF (L 59) (.one 1) outer z env st2 = .nx env' st' ∧ (∃ e1 e2 e3 e4 e5 e6, env' = [some d, e1, e2, e3, e4, e5, e6, none, none, none, none, none, none]) := by
    rintro done z rest env st2 hz ⟨e1, e2, e3, e4, e5, e6, rfl⟩
    obtain ⟨c, rfl⟩ := hint z (by rw [hz]; simp)
    obtain ⟨e2', e3', e4', e5', e6', st', e⟩ := turn_outer lawΦ (c := c) (e0 := some d) (e1 := e1) (e2 := e2) (e3 := e3) (e4 := e4) (e5 := e5) (e6 := e6) (r7 := none) (r8 := none) (r9 := none) (r10 := none) (r11 := none) (r12 := none) (st := st2)
    exact ⟨_, st', e, _, _, _, _, _, _, rfl⟩
  obtain ⟨env', st', e, e1, e2, e3, e4, e5, e6, rfl⟩ := forL_inv (Inv := fun _ env _ => ∃ e1 e2 e3 e4 e5 e6, env = [some d, e1, e2, e3, e4, e5, e6, none, none, none, none, none, none]) step ys [] [some d, none, none, none, none, none, none, none, none, none, none, none, none] st rfl ⟨_, _, _, _, _, _, rfl⟩
  obtain ⟨_, er, _⟩ := law_rows lawΦ (e0 := some d) (e1 := e1) (e2 := e2) (e3 := e3) (e4 := e4) (e5 := e5) (e6 := e6) (st := st') (n := 0)
  refine ⟨st'.take st.length, ?_⟩
  refine (evFn_def (f := d23.fn) rfl rfl).trans ?_
  show fin st.length (evSs (L 59) ((.for (.one 1) .seq [(.slc (.bin .add (.lst [(.const (.int 0))]) (.var 0)) (.const .none) (.const (.int 8)))] outer) :: b23.drop 1) [some d, none, none, none, none, none, none, none, none, none, none, none, none] st) = _
  rw [v_cons, v_for, hI _ rfl]
  simp only [ok_then]
  rw [e]
  simp only [nx_then]
  rw [er]
  rfl
end K01

namespace K01
open PySem PySem.Spec PyProof.Rows L2 Kp
def loose : List Str := ["RULES", "FEWEST", "MOST", "is_label", "is_one_of", "ascends", "are_names", "is_tool", "are_tools", "are_hooks", "is_setup", "_law_jar", "_law_less", "_law_some", "_law_part", "_law_tool", "_law_setup", "_law_setup_of", "_law_is_label", "_law_climbs", "_law_are_of", "_law_is_tool", "_law_is_setup", "_law_odd", "_law_bent", "_law_right"]
abbrev Rw : PySem.W.OpenRow := PySem.W.OpenLaw.row PySem.Challenge.rw_keptno_k01_setups_known
abbrev hk : PySem.W.Hook := hookC 4 (factsOf dnames) (ds.map Dfn.dd) cs
def ob (s : PySem.W.SharedT) : AlC := obsCG 4 (factsOf dnames) (ds.map Dfn.dd) cs (HandSHeadRun.getT s)
theorem ob_eq (s : PySem.W.SharedT) : ob s = hk.obs s.abs := obsCG_eq (HandSHeadRun.getT_eq s)
theorem run (w : World) : HandSHeadRun.RunEq Rw (PySem.W.view Rw.prog [28]) hk ob 3000 loose w := by
  intro os
  kernel_rfl
end K01

namespace K01
open PySem PySem.Spec PyProof.Rows L2 Kp
theorem ev : LawEv ds 60 23 := law_ev
theorem facts {Pg : Program} {w : World} {K : PySem.W.Frag} {h : Heap} {mg : Str → Option Value} {f : Addr} (X : K.In h) (N : h.Ns mainGlobals mg) (hf : mg ("law" : Str) = some (.ref f)) (c : SaysC (factsOf dnames) (ds.map Dfn.dd) cs K) :
    ∃ (fd : FuncData) (sp : Sp), (∀ (s : Shared) (u : Value), BindsTo s fd ⟨[u], []⟩ [("script", u)]) ∧
      (∀ (H : Hp) (a : Addr) (ns : List Int), ns.length ≤ 63 → Only H → SqL K H a (ns.map V.int) → sp [.ref a] H (fun v _ => v = .bl true) fun _ _ _ => False) ∧
      ∀ base : Heap, K.In base → base.Ns mainGlobals mg → FnOk Pg w K mg base (L2.CX Pg w) 60 f fd ["script"] sp :=
  law_facts (k := 59) (j := 23) (law := "law") (dl := d23) X N c (by kernel_rfl) ds_ok (by kernel_rfl) (by rfl) (by kernel_rfl) hf ev
end K01
open PySem PySem.W PySem.Calls PyProof.Rows
theorem PySem.Challenge.cw_keptno_k01_setups_known_holds : PySem.Challenge.rw_keptno_k01_setups_known.Holds := by
  w_on; o_law
  refine HandSHeadRun.head_any (r := OpenLaw.row PySem.Challenge.rw_keptno_k01_setups_known) (q := view (OpenLaw.row PySem.Challenge.rw_keptno_k01_setups_known).prog [28]) (H := K01.hk) (ob := K01.ob) (M := 3000) (loose := K01.loose) (d := HandSHeadRun.topDef (OpenLaw.row PySem.Challenge.rw_keptno_k01_setups_known).prog 28) (kwd := []) K01.ob_eq
    (by kernel_rfl) (fun s => by kernel_rfl) K01.run (by kernel_rfl) (by kernel_rfl) (by kernel_rfl) (by rfl) (by first | assumption | decide +kernel) (by decide +kernel) ⟨rfl, rfl, rfl, rfl, rfl, by decide +kernel⟩ ?hw ?hc
  case hw => w_witness2
  case hc =>
    refine Kp.walk_kp (l := PySem.Challenge.rw_keptno_k01_setups_known) (n := 63) (k := 60) (x := "script") rfl (by decide) (by kernel_rfl) ⟨rfl, by decide, by decide⟩ ?F
    case F =>
      intro w mg fa h Y G hmg0
      obtain ⟨K, KX, c⟩ := Y
      have hmg : mg ("law" : PySem.Str) = some (.ref fa) := by
        have e : (HandSHeadRun.topDef (OpenLaw.row PySem.Challenge.rw_keptno_k01_setups_known).prog 28).name = ("law" : PySem.Str) := by kernel_rfl
        rw [← e]
        exact hmg0
      obtain ⟨fd, sp, hb, hsp, hF⟩ := K01.facts (Pg := (PySem.Challenge.rw_keptno_k01_setups_known).prog) (w := w) KX G hmg c
      exact ⟨K, fd, sp, KX, hb, hsp, hF⟩
