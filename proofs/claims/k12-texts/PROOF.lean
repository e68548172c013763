import PyProof.Rows.All
import HandS.ForSpec
import HandS.ForMost
import HandS.TryMany
import HandS.HeadEnd
import HandS.HeadHook2
import HandS.TupAny
import HandS.TupMul
import HandS.TupLen
import HandS.DictComp
import HandS.Style
import HandS.Zip
import HandS.Iter
import KE.SortData
import KE.KeyNested
import KE.KDictKeyed
import KE.DataEq
import KE.DataAny
import KE.DataIsa
import KE.DataCmp
import HandS.Head2
import Lean
import PySem.Challenge.RW_keptno_k12_texts_there_and_back
set_option Elab.async false
set_option linter.all false
set_option maxRecDepth 100000
set_option maxHeartbeats 0
/-! Kp, part 1: a small language of our own and its plain evaluator. -/
namespace Kp
open PySem

abbrev P := PyData

/-- values of the evaluator: plain data, or an object of the store -/
inductive D where
  | py (p : P)
  | ref (n : Nat)

/-- objects of the store -/
inductive Ob where
  | lst (xs : List P)
  | dct (kvs : List (P × P))
  | dead

/-- what an expression gives: a value, or a new list or dict that nobody else holds -/
inductive Rv where
  | im (d : D)
  | nl (xs : List P)
  | nd (kvs : List (P × P))

abbrev Sto := List Ob
abbrev Ev := List (Option D)

inductive R (α : Type) where
  | ok (a : α) (st : Sto)
  | exc (c : Nat) (fs : List (Str × P)) (st : Sto)
  | bad

def R.bind {α β : Type} (m : R α) (f : α → Sto → R β) : R β :=
  match m with
  | .ok a st => f a st
  | .exc c fs st => .exc c fs st
  | .bad => .bad
theorem ok_bind {α β : Type} (a : α) (st : Sto) (f : α → Sto → R β) : (R.ok a st).bind f = f a st := rfl
theorem exc_bind {α β : Type} (c fs) (st : Sto) (f : α → Sto → R β) : (R.exc c fs st : R α).bind f = .exc c fs st := rfl
theorem bad_bind {α β : Type} (f : α → Sto → R β) : (R.bad : R α).bind f = .bad := rfl

def Rv.frz : Rv → D
  | .im d => d
  | .nl xs => .py (.list xs)
  | .nd kvs => .py (.dict kvs)

inductive Bop where
  | add | sub | mul | fdiv | mod | pow
  deriving DecidableEq, Repr
inductive Cop where
  | eq | ne | lt | le | gt | ge | is | isnot | in_ | notin
  deriving DecidableEq, Repr
inductive Ty where
  | str | tup | bool | list | int
  deriving DecidableEq, Repr
inductive Blt where
  | len | all | any | max | min | int | list | tuple | str | sorted | dict
  deriving DecidableEq, Repr
inductive Mth where
  | join | split | index | append | pop
  deriving DecidableEq, Repr
inductive Ik where
  | seq | rng1 | rng2 | zip | enum
  deriving DecidableEq, Repr
inductive Tg where
  | one (i : Nat)
  | tup (is : List Nat)
  deriving DecidableEq, Repr

/-- expressions; names are slots, defs are numbers -/
inductive X where
  | var (i : Nat)
  | const (p : P)
  | tup (es : List X)
  | lst (es : List X)
  | dic (es : List X)
  | bin (o : Bop) (a b : X)
  | rep (a b : X)
  | neg (a : X)
  | not (a : X)
  | and (a b : X)
  | or (a b : X)
  | cmp (o : Cop) (a b : X)
  | chain (o p : Cop) (a b c : X)
  | ife (c a b : X)
  | idx (a b : X)
  | slc (a lo hi : X)
  | rev (a : X)
  | call (f : Nat) (es : List X)
  | isi (t : Ty) (a : X)
  | blt (b : Blt) (es : List X)
  | sortedSet (a : X)
  | sortedLen (a : X)
  | meth (m : Mth) (o : X) (es : List X)
  | get1 (o k : X)
  | get2 (o k d : X)
  | comp (elt : X) (tg : Tg) (k : Ik) (es : List X) (ifs : List X)
  | dcomp (key val : X) (tg : Tg) (k : Ik) (es : List X)
  | lam (j : Nat) (b : X)
  | act
  | fld (i : Nat) (f : Str)

inductive S where
  | asg (i : Nat) (new : Bool) (e : X)
  | par (is : List Nat) (es : List (Bool × X))
  | unp (is : List Nat) (e : X)
  | setI (o i e : X)
  | app (o e : X)
  | expr (e : X)
  | ret (e : X)
  | ife (c : X) (t f : List S)
  | for (tg : Tg) (k : Ik) (es : List X) (body : List S)
  | whl (c : X) (body : List S)
  | raise (c : Nat) (at_ : Option (Str × X))
  | tr (cs : List Nat) (body : List S) (hs : List (Nat × Option Nat × X))
  | forR (tg : Tg) (o : X) (body : List S)
  | pass
  | never

/-! ### operations -/
abbrev SZ : Nat := sizeLine

def imp (p : P) : Rv := .im (.py p)
def ok1 (p : P) (st : Sto) : R Rv := .ok (imp p) st
/-- if c holds -/
def chk {α : Type} (c : Bool) (r : R α) : R α := if c then r else .bad

/-- a store's list or dict as data -/
def deref (st : Sto) : D → Option P
  | .py p => some p
  | .ref n => match st[n]? with
    | some (.lst xs) => some (.list xs)
    | some (.dct kvs) => some (.dict kvs)
    | _ => none

/-- data without dicts, of small depth -/
def fit (p : P) : Bool := p.plain && decide (p.depth ≤ 100)

def cutL {α : Type} (xs : List α) (lo hi : Option Int) : List α :=
  (xs.drop (HT.sIx xs.length 0 lo)).take (HT.sIx xs.length xs.length hi - HT.sIx xs.length 0 lo)

def binop (o : Bop) (a b : P) (st : Sto) : R Rv :=
  match o, a, b with
  | .add, .int i, .int j => ok1 (.int (i + j)) st
  | .sub, .int i, .int j => ok1 (.int (i - j)) st
  | .mul, .int i, .int j => chk (decide (-(2 ^ 64) < j) && decide (j < 2 ^ 64)) (ok1 (.int (i * j)) st)
  | .fdiv, .int i, .int j => chk (decide (0 < j) && decide (j < 1073741824)) (ok1 (.int (i / j)) st)
  | .mod, .int i, .int j => chk (decide (0 < j)) (ok1 (.int (i % j)) st)
  | .pow, .int i, .int j => chk (decide (0 ≤ j) && decide (j ≤ 1000) && decide (i.natAbs < 2 ^ 64)) (ok1 (.int (i ^ j.toNat)) st)
  | .add, .tuple xs, .tuple ys => chk (decide (xs.length + ys.length ≤ SZ)) (ok1 (.tuple (xs ++ ys)) st)
  | .add, .list xs, .list ys => chk (decide (xs.length + ys.length ≤ SZ)) (.ok (.nl (xs ++ ys)) st)
  | .add, .str x, .str y => chk (decide (x.length + y.length ≤ SZ)) (ok1 (.str (x ++ y)) st)
  | .mul, .tuple xs, .int k => chk (decide (2 ≤ k) && decide (k ≤ 1000) && decide (xs.length ≤ 1000) && !xs.isEmpty) (ok1 (.tuple (List.replicate k.toNat xs).flatten) st)
  | _, _, _ => .bad

def isNone : P → Bool
  | .none => true
  | _ => false
/-- < of data that are alike -/
def ltP (a b : P) : Option Bool := if W.alike a b && !isNone a && fit a && fit b then some (W.dataLt a b) else none

mutual
/-- may be part of a key -/
def keyN : P → Bool
  | .none => true
  | .bool _ => true
  | .int _ => true
  | .str _ => true
  | .tuple ps => keyNs ps
  | .list _ => false
  | .dict _ => false
def keyNs : List P → Bool
  | [] => true
  | p :: ps => keyN p && keyNs ps
end
/-- a tuple that may be a key -/
def keyT : P → Bool
  | .tuple ps => keyNs ps && decide ((PyData.tuple ps).depth ≤ 8)
  | _ => false
/-- a text -/
def keyS : P → Bool
  | .str _ => true
  | _ => false
/-- the dict may be asked for the key -/
def okKey (kvs : List (P × P)) (k : P) : Bool := (keyS k && kvs.all fun q => keyS q.1) || (keyT k && kvs.all fun q => keyT q.1)
def dGet (kvs : List (P × P)) (k : P) : Option P := (kvs.find? fun q => q.1.eqv k).map (·.2)
def pairUp : List P → Option (List (P × P))
  | [] => some []
  | k :: v :: r => (pairUp r).map ((k, v) :: ·)
  | [_] => none
def dPut (kvs : List (P × P)) (k v : P) : List (P × P) :=
  if kvs.any (fun q => q.1.eqv k) then kvs.map (fun q => if q.1.eqv k then (q.1, v) else q) else kvs ++ [(k, v)]

def dMerge (kvs more : List (P × P)) : List (P × P) := more.foldl (fun acc q => dPut acc q.1 q.2) kvs
/-- smaller or equal, of data that are alike -/
def leP (a b : P) : Bool := !W.dataLt b a
/-- may be sorted -/
def srtOk (xs : List P) : Bool := decide (xs.length ≤ SZ) && xs.all fit && xs.all (fun x => xs.all fun y => W.alike x y) &&
  (xs.all (fun x => match x with | .tuple (_ :: _) => true | _ => false) || xs.all (fun x => match x with | .str _ => true | .int _ => true | _ => false))
def dedup : List P → List P
  | [] => []
  | x :: xs => let r := dedup xs; if r.any (fun y => y.eqv x) then r else x :: r
/-- may be put into a set: texts, or tuples -/
def setOk (xs : List P) : Bool := decide (xs.length < 60) && (xs.all keyS || xs.all keyT)
def isIn (x : P) : P → Option Bool
  | .list ys => if fit x && ys.all fit then some (ys.any fun y => y.eqv x) else none
  | .tuple ys => if fit x && ys.all fit then some (ys.any fun y => y.eqv x) else none
  | .str y => match x with
    | .str z => some (!(Builtin.Str.occurrences y z 0 y.length 1).isEmpty)
    | _ => none
  | .dict kvs => if okKey kvs x then some (dGet kvs x).isSome else none
  | _ => none

def cmpop (o : Cop) (a b : P) : Option Bool :=
  match o with
  | .eq => if fit a && fit b then some (a.eqv b) else none
  | .ne => if fit a && fit b then some (!a.eqv b) else none
  | .lt => ltP a b
  | .gt => if W.alike a b && !isNone a && fit a && fit b then some (W.dataLt b a) else none
  | .le => if W.alike a b && !isNone a && fit a && fit b then some (!W.dataLt b a) else none
  | .ge => if W.alike a b && !isNone a && fit a && fit b then some (!W.dataLt a b) else none
  | .is => match a, b with
    | .bool x, .bool y => some (x == y)
    | .none, .none => some true
    | .bool _, .none | .int _, .none | .str _, .none | .list _, .none | .tuple _, .none | .dict _, .none => some false
    | _, _ => none
  | .isnot => match a, b with
    | .bool x, .bool y => some (!(x == y))
    | .none, .none => some false
    | .bool _, .none | .int _, .none | .str _, .none | .list _, .none | .tuple _, .none | .dict _, .none => some true
    | _, _ => none
  | .in_ => isIn a b
  | .notin => (isIn a b).map (!·)

def idxop (a b : P) : Option P :=
  match a, b with
  | .tuple xs, .int i => L2.atI xs i
  | .list xs, .int i => L2.atI xs i
  | .str x, .int i => if x.length ≤ SZ then (L2.atI x.cps.toList i).map fun c => .str ⟨#[c]⟩ else none
  | .dict kvs, k => if okKey kvs k then dGet kvs k else none
  | _, _ => none

def slcop (a : P) (l h : Option Int) (st : Sto) : R Rv :=
  match a with
  | .tuple xs => ok1 (.tuple (cutL xs l h)) st
  | .list xs => .ok (.nl (cutL xs l h)) st
  | .str x => chk (decide (x.length ≤ SZ)) (ok1 (.str (L2.cutS x l h)) st)
  | _ => .bad

def isTy : Ty → P → Bool
  | .str, .str _ => true
  | .tup, .tuple _ => true
  | .bool, .bool _ => true
  | .list, .list _ => true
  | .int, .bool _ => true
  | .int, .int _ => true
  | _, _ => false

def seqOf : P → Option (List P)
  | .list xs => some xs
  | .tuple xs => some xs
  | _ => none
def prsOf : List P → Option (List (P × P))
  | [] => some []
  | .tuple [k, v] :: r => (prsOf r).map ((k, v) :: ·)
  | _ :: _ => none
def bools : List P → Option (List Bool)
  | [] => some []
  | .bool b :: r => (bools r).map (b :: ·)
  | _ :: _ => none

def lenP : P → Option Nat
  | .tuple xs => some xs.length
  | .list xs => some xs.length
  | .dict kvs => if (kvs.all fun q => keyS q.1) || (kvs.all fun q => keyT q.1) then some kvs.length else none
  | .str x => if x.length ≤ SZ then some x.length else none
  | _ => none

def bltop (b : Blt) (xs : List P) (st : Sto) : R Rv :=
  match b, xs with
  | .len, [a] => match lenP a with
    | some n => ok1 (.int n) st
    | none => .bad
  | .all, [.list ys] => match bools ys with
    | some bs => ok1 (.bool (bs.all id)) st
    | none => .bad
  | .any, [.list ys] => match bools ys with
    | some bs => ok1 (.bool (bs.any id)) st
    | none => .bad
  | .max, [.int i, .int j] => ok1 (.int (if j > i then j else i)) st
  | .min, [.int i, .int j] => ok1 (.int (if j < i then j else i)) st
  | .int, [.int i] => ok1 (.int i) st
  | .int, [.bool k] => ok1 (.int (if k then 1 else 0)) st
  | .list, [.list ys] => .ok (.nl ys) st
  | .list, [.tuple ys] => .ok (.nl ys) st
  | .tuple, [.list ys] => ok1 (.tuple ys) st
  | .tuple, [.tuple ys] => ok1 (.tuple ys) st
  | .dict, [.list ys] => (match prsOf ys with
    | some kvs => chk (decide (kvs.length ≤ SZ) && kvs.all fun q => keyS q.1) (.ok (.nd (dMerge [] kvs)) st)
    | none => .bad)
  | .sorted, [.list ys] => chk (srtOk ys) (.ok (.nl (ys.mergeSort leP)) st)
  | _, _ => .bad

/-- the items that a loop or comprehension goes through -/
def items (k : Ik) (xs : List P) : Option (List P) :=
  match k, xs with
  | .seq, [.list ys] => some ys
  | .seq, [.tuple ys] => some ys
  | .seq, [.str y] => some (y.cps.toList.map fun c => .str ⟨#[c]⟩)
  | .seq, [.dict kvs] => some (kvs.map (·.1))
  | .enum, [.list ys] => some (ys.zipIdx.map fun q => .tuple [.int (q.2 : Nat), q.1])
  | .zip, [.list xs, .list ys] => some (List.zipWith (fun x y => .tuple [x, y]) xs ys)
  | .zip, [.tuple xs, .tuple ys] => some (List.zipWith (fun x y => .tuple [x, y]) xs ys)
  | .rng1, [.int j] => if -(2 ^ 62) ≤ j ∧ j < 2 ^ 62 then some ((List.range j.toNat).map fun (i : Nat) => .int (0 + (i : Int))) else none
  | .rng2, [.int i, .int j] => if -(2 ^ 62) ≤ i ∧ i < 2 ^ 62 ∧ -(2 ^ 62) ≤ j ∧ j < 2 ^ 62 then some ((List.range (j - i).toNat).map fun (n : Nat) => .int (i + (n : Int))) else none
  | _, _ => none

def setName (env : Ev) : List Nat → List P → Ev
  | i :: is, p :: ps => setName (env.set i (some (.py p))) is ps
  | _, _ => env

/-- the target takes an item -/
def bindT (tg : Tg) (env : Ev) (p : P) : Option Ev :=
  match tg with
  | .one i => some (env.set i (some (.py p)))
  | .tup is => match p with
    | .tuple ys => if ys.length = is.length then some (setName env is ys) else none
    | _ => none

/-- a comprehension's own names, forgotten -/
def wipeE (env : Ev) : List Nat → Ev
  | [] => env
  | v :: vs => (wipeE env vs).set v none
def tgSlots : Tg → List Nat
  | .one i => [i]
  | .tup is => is
/-- all texts -/
def strsOf : List P → Option (List Str)
  | [] => some []
  | .str s :: ps => (strsOf ps).map (s :: ·)
  | _ :: _ => none
/-- the first place of an equal item -/
def findP (d : P) : List P → Option Nat
  | [] => none
  | x :: xs => if x.eqv d then some 0 else (findP d xs).map (· + 1)
/-- has the receiver the method's type -/
def methTy (m : Mth) (x : D) (st : Sto) : Bool :=
  match m with
  | .join | .split => (match x with | .py (.str _) => true | _ => false)
  | .index | .append | .pop => (match deref st x with | some (.list _) => true | _ => false)
def joinOk (a : Str) (ys : List Str) : Bool := decide ((ys.map (·.length)).sum + ys.length * a.length ≤ 16777216)
def methop (m : Mth) (x : D) (ds : List D) (st : Sto) : R Rv :=
  match m, x, ds with
  | .join, .py (.str a), [.py (.list ps)] => (match strsOf ps with
    | some ys => chk (joinOk a ys) (ok1 (.str (Txt.join a ys)) st)
    | none => .bad)
  | .split, .py (.str a), [.py (.str b)] => chk (!(b.length == 0) && decide (a.length + 2 ≤ SZ)) (.ok (.nl ((Txt.split a b).map .str)) st)
  | .index, x, [.py d] => (match deref st x with
    | some (.list xs) => if fit d && xs.all fit then (match findP d xs with
      | some j => ok1 (.int j) st
      | none => .bad) else .bad
    | _ => .bad)
  | .append, .ref n, [.py p] => (match st[n]? with
    | some (.lst xs) => chk (decide (xs.length < SZ)) (ok1 .none (st.set n (.lst (xs ++ [p]))))
    | _ => .bad)
  | .pop, .ref n, [] => (match st[n]? with
    | some (.lst xs) => (match xs[xs.length - 1]? with
      | some y => ok1 y (st.set n (.lst xs.dropLast))
      | none => .bad)
    | _ => .bad)
  | _, _, _ => .bad
/-- a dict with text keys -/
def isDS (st : Sto) (d : D) : Bool := match deref st d with
  | some (.dict kvs) => kvs.all fun q => keyS q.1
  | _ => false
/-- several values, all plain data -/
def toPs : List D → Option (List P)
  | [] => some []
  | .py p :: ds => (toPs ds).map (p :: ·)
  | .ref _ :: _ => none
def itemsD (k : Ik) (ds : List D) : Option (List P) :=
  match toPs ds with
  | some xs => items k xs
  | none => none
/-- an exception is not looked for -/
def R.noexc {α : Type} (m : R α) : R α :=
  match m with
  | .ok a st => .ok a st
  | _ => .bad
/-- a list comprehension over items: f the test and the element; the list to be is the store's nth object -/
def compL (n : Nat) (f : P → Sto → R (Option P)) : List P → Sto → R Unit
  | [], st => chk (decide (st.length = n + 1)) (.ok () st)
  | x :: xs, st => (f x st).noexc.bind fun o st1 => match o with
    | some y => match st1[n]? with
      | some (.lst acc) => chk (decide (acc.length < SZ)) (compL n f xs (st1.set n (.lst (acc ++ [y]))))
      | _ => .bad
    | none => compL n f xs st1
/-- a dict comprehension -/
def compD (n : Nat) (f : P → Sto → R (P × P)) : List P → Sto → R Unit
  | [], st => chk (decide (st.length = n + 1)) (.ok () st)
  | x :: xs, st => (f x st).noexc.bind fun q st1 => match st1[n]? with
      | some (.dct acc) => chk (decide (acc.length < SZ) && (keyS q.1 && acc.all fun q => keyS q.1)) (compD n f xs (st1.set n (.dct (dPut acc q.1 q.2))))
      | _ => .bad
def compEndD (n : Nat) (st : Sto) : R Rv :=
  match st[n]? with
  | some (.dct zs) => .ok (.nd zs) (st.take n)
  | _ => .bad
def compEnd (n : Nat) (st : Sto) : R Rv :=
  match st[n]? with
  | some (.lst zs) => .ok (.nl zs) (st.take n)
  | _ => .bad
/-- the value as data, new lists frozen -/
def asP (st : Sto) (r : Rv) : Option P := deref st r.frz
def needP {α : Type} (r : Rv) (st : Sto) (f : P → R α) : R α :=
  match asP st r with
  | some p => f p
  | none => .bad
/-- .. plain data, not an object of the store -/
def needI {α : Type} (r : Rv) (f : P → R α) : R α :=
  match r.frz with
  | .py p => f p
  | .ref _ => .bad
/-- .. None or an int -/
def needO {α : Type} (r : Rv) (f : Option Int → R α) : R α :=
  match r.frz with
  | .py .none => f none
  | .py (.int i) => f (some i)
  | _ => .bad
def needB {α : Type} (r : Rv) (f : Bool → R α) : R α :=
  match r with
  | .im (.py (.bool b)) => f b
  | _ => .bad

/-- the end of a display -/
def dicEnd (n : Nat) (ds : List D) (st : Sto) : R Rv := match toPs ds, st[n]? with
  | some xs, some (.dct []) => match pairUp xs with
    | some kvs => chk (decide (kvs.length ≤ 15) && (decide (st.length = n + 1) && kvs.all fun q => keyS q.1)) (.ok (.nd (dMerge [] kvs)) (st.take n))
    | none => .bad
  | _, _ => .bad
mutual
def evE (Φ : Nat → List D → Sto → R Rv) (env : Ev) : X → Sto → R Rv
  | .var i, st => match env[i]? with
    | some (some d) => .ok (.im d) st
    | _ => .bad
  | .const p, st => ok1 p st
  | .tup es, st => (evDs Φ env es st).bind fun ds st1 => match toPs ds with
    | some xs => chk (decide (xs.length ≤ SZ)) (ok1 (.tuple xs) st1)
    | none => .bad
  | .lst es, st => (evDs Φ env es st).bind fun ds st1 => match toPs ds with
    | some xs => chk (decide (xs.length ≤ SZ)) (.ok (.nl xs) st1)
    | none => .bad
  | .dic es, st => (evDs Φ env es (st ++ [.dct []])).bind fun ds st1 => dicEnd st.length ds st1
  | .bin o a b, st => (evE Φ env a st).bind fun x st1 => (evE Φ env b st1).bind fun y st2 =>
      needP x st2 fun p => needP y st2 fun q => binop o p q st2
  | .rep a b, st => (evE Φ env a st).bind fun x st1 => match x with
    | .nl xs => (evE Φ env b (st1 ++ [.lst xs])).bind fun y st2 => match y, st2[st1.length]? with
      | .im (.py (.int k)), some (.lst zs) => chk (decide (-(2 ^ 63) ≤ k) && decide (k < 2 ^ 63) && decide (zs.length * k.toNat ≤ SZ) && decide (st2.length = st1.length + 1)) (.ok (.nl (List.replicate k.toNat zs).flatten) (st2.take st1.length))
      | _, _ => .bad
    | _ => .bad
  | .neg a, st => (evE Φ env a st).bind fun x st1 => match x with
    | .im (.py (.int i)) => ok1 (.int (-i)) st1
    | _ => .bad
  | .not a, st => (evE Φ env a st).bind fun x st1 => needB x fun k => ok1 (.bool (!k)) st1
  | .and a b, st => (evE Φ env a st).bind fun x st1 => needB x fun k => if k then evE Φ env b st1 else ok1 (.bool false) st1
  | .or a b, st => (evE Φ env a st).bind fun x st1 => needB x fun k => if k then ok1 (.bool true) st1 else evE Φ env b st1
  | .cmp o a b, st => (evE Φ env a st).bind fun x st1 => (evE Φ env b st1).bind fun y st2 =>
      needP x st2 fun p => needP y st2 fun q => match cmpop o p q with
        | some k => ok1 (.bool k) st2
        | none => .bad
  | .chain o o' a b c, st => (evE Φ env a st).bind fun x st1 => (evE Φ env b st1).bind fun y st2 =>
      needP x st2 fun p => needP y st2 fun q => match cmpop o p q with
        | some true => (evE Φ env c st2).bind fun z st3 => needP y st3 fun q' => needP z st3 fun r => match cmpop o' q' r with
          | some k => ok1 (.bool k) st3
          | none => .bad
        | some false => ok1 (.bool false) st2
        | none => .bad
  | .ife c a b, st => (evE Φ env c st).bind fun x st1 => needB x fun k => if k then evE Φ env a st1 else evE Φ env b st1
  | .idx a b, st => (evE Φ env a st).bind fun x st1 => (evE Φ env b st1).bind fun y st2 =>
      needP x st2 fun p => needP y st2 fun q => match idxop p q with
        | some r => ok1 r st2
        | none => .bad
  | .slc a lo hi, st => (evE Φ env a st).bind fun x st1 => (evE Φ env lo st1).bind fun l st2 => needO l fun lo' => (evE Φ env hi st2).bind fun h st3 => needO h fun hi' =>
      needP x st3 fun p => slcop p lo' hi' st3
  | .rev a, st => (evE Φ env a st).bind fun x st1 => needP x st1 fun p => match p with
    | .list xs => .ok (.nl xs.reverse) st1
    | _ => .bad
  | .call f es, st => (evDs Φ env es st).bind fun xs st1 => Φ f xs st1
  | .isi t a, st => (evE Φ env a st).bind fun x st1 => needP x st1 fun p => ok1 (.bool (isTy t p)) st1
  | .blt b es, st => (evDs Φ env es st).bind fun xs st1 => match xs.mapM (deref st1) with
    | some ps => bltop b ps st1
    | none => .bad
  | .sortedSet a, st => (evE Φ env a st).bind fun x st1 => needP x st1 fun p => match seqOf p with
    | some xs => chk (setOk xs && srtOk (dedup xs)) (.ok (.nl ((dedup xs).mergeSort leP)) st1)
    | none => .bad
  | .sortedLen _, _ => .bad
  | .lam _ _, _ => .bad
  | .act, _ => .bad
  | .fld _ _, _ => .bad
  | .meth m o es, st => (evE Φ env o st).bind fun x st1 => chk (methTy m x.frz st1) ((evDs Φ env es st1).bind fun ds st2 => methop m x.frz ds st2)
  | .get1 o k, st => (evE Φ env o st).bind fun x st1 => chk (isDS st1 x.frz) ((evE Φ env k st1).bind fun y st2 => needI y fun p => match deref st2 x.frz with
    | some (.dict kvs) => chk (keyS p && kvs.all fun q => keyS q.1) (ok1 ((dGet kvs p).getD .none) st2)
    | _ => .bad)
  | .get2 o k d, st => (evE Φ env o st).bind fun x st1 => chk (isDS st1 x.frz) ((evE Φ env k st1).bind fun y st2 => (evE Φ env d st2).bind fun z st3 => needI y fun p => needI z fun q => match deref st3 x.frz with
    | some (.dict kvs) => chk (keyS p && kvs.all fun q => keyS q.1) (ok1 ((dGet kvs p).getD q) st3)
    | _ => .bad)
  | .comp elt tg k es ifs, st => (evDs Φ env es st).bind fun ds st1 => match itemsD k ds with
    | some ys => (compL st1.length (fun y st2 => match bindT tg (wipeE env (tgSlots tg)) y with
        | some env1 => (evAnd Φ env1 ifs st2).bind fun c st3 => if c then (evE Φ env1 elt st3).bind fun r st4 => needI r fun p => .ok (some p) st4 else .ok none st3
        | none => .bad) ys (st1 ++ [.lst []])).bind fun _ st2 => compEnd st1.length st2
    | none => .bad
  | .dcomp key val tg k es, st => (evDs Φ env es st).bind fun ds st1 => match itemsD k ds with
    | some ys => (compD st1.length (fun y st2 => match bindT tg (wipeE env (tgSlots tg)) y with
        | some env1 => (evE Φ env1 key st2).bind fun r st3 => (evE Φ env1 val st3).bind fun r' st4 => needI r fun p => needI r' fun q => .ok (p, q) st4
        | none => .bad) ys (st1 ++ [.dct []])).bind fun _ st2 => compEndD st1.length st2
    | none => .bad
/-- values in a row; new lists frozen -/
def evDs (Φ : Nat → List D → Sto → R Rv) (env : Ev) : List X → Sto → R (List D)
  | [], st => .ok [] st
  | e :: es, st => (evE Φ env e st).bind fun r st1 => (evDs Φ env es st1).bind fun ds st2 => .ok (r.frz :: ds) st2
/-- tests, one after the other -/
def evAnd (Φ : Nat → List D → Sto → R Rv) (env : Ev) : List X → Sto → R Bool
  | [], st => .ok true st
  | e :: es, st => (evE Φ env e st).bind fun r st1 => needB r fun k => if k then evAnd Φ env es st1 else .ok false st1
end

/-- what a statement comes to -/
inductive SR where
  | nx (env : Ev) (st : Sto)
  | rt (r : Rv) (st : Sto)
  | exc (c : Nat) (fs : List (Str × P)) (env : Ev) (st : Sto)
  | bad

def R.then {α : Type} (m : R α) (env : Ev) (f : α → Sto → SR) : SR :=
  match m with
  | .ok a st => f a st
  | .exc c fs st => .exc c fs env st
  | .bad => .bad
def SR.then (m : SR) (f : Ev → Sto → SR) : SR :=
  match m with
  | .nx env st => f env st
  | .rt r st => .rt r st
  | .exc c fs env st => .exc c fs env st
  | .bad => .bad

/-- a value comes to a name: a new list or dict is laid into the store where the name is one that changes it -/
def store (i : Nat) (new : Bool) (r : Rv) (env : Ev) (st : Sto) : SR :=
  match new, r with
  | true, .nl xs => .nx (env.set i (some (.ref st.length))) (st ++ [.lst xs])
  | true, .nd kvs => .nx (env.set i (some (.ref st.length))) (st ++ [.dct kvs])
  | _, r => .nx (env.set i (some r.frz)) st

def forL (f : P → Ev → Sto → SR) : List P → Ev → Sto → SR
  | [], env, st => .nx env st
  | x :: xs, env, st => (f x env st).then fun env1 st1 => forL f xs env1 st1

/-- o[i] = v on an object of the store -/
def setop (o : D) (i v : P) (st : Sto) : Option Sto :=
  match o with
  | .ref n => match st[n]?, i with
    | some (.lst xs), .int k => (L2.ixN xs.length k).map fun j => st.set n (.lst (xs.set j v))
    | some (.dct kvs), k => if okKey kvs k && decide (kvs.length < SZ) then some (st.set n (.dct (dPut kvs k v))) else none
    | _, _ => none
  | _ => none
/-- turns of a while; a bound that is never met -/
def FU : Nat := 1099511627776
def whlF (c : Ev → Sto → R Bool) (body : Ev → Sto → SR) : Nat → Ev → Sto → SR
  | 0, _, _ => .bad
  | n + 1, env, st => (c env st).then env fun b st1 => if b then (body env st1).then fun env2 st2 => whlF c body n env2 st2 else .nx env st1
/-- the classes of errors: the first one is above all others -/
def clsNames : List Str := ["KeptError", "InvalidSetup", "InvalidHistory", "InvalidEvent", "InvalidHarm", "InvalidTool", "InvalidWord", "InvalidRemedy", "Unlike", "NothingToUndo", "TooMany", "WrongLine", "Failed"]
def subC (c h : Nat) : Bool := c == h || h == 0
/-- what a clause gives back -/
def suiteV (slot : Option Nat) (fs : List (Str × P)) : X → Option P
  | .const p => some p
  | .fld i f => if slot == some i then fs.lookup f else none
  | _ => none
def handle (c : Nat) (fs : List (Str × P)) (env : Ev) (st : Sto) : List (Nat × Option Nat × X) → SR
  | [] => .exc c fs env st
  | (h, sl, e) :: r => if subC c h then (match suiteV sl fs e with
    | some p => .rt (imp p) st
    | none => .bad) else handle c fs env st r
def SR.catch (cs : List Nat) (m : SR) (hs : List (Nat × Option Nat × X)) : SR :=
  match m with
  | .exc c fs env st => if cs.contains c then handle c fs env st hs else .bad
  | m => m
/-- a loop over a list of the store, which stays as long as it was: r turns are left -/
def forRL (n N : Nat) (f : P → Ev → Sto → SR) : Nat → Ev → Sto → SR
  | 0, env, st => match st[n]? with
    | some (.lst zs) => if zs.length = N then .nx env st else .bad
    | _ => .bad
  | r + 1, env, st => match st[n]? with
    | some (.lst zs) => if zs.length = N then (match zs[N - (r + 1)]? with
      | some y => (f y env st).then fun env1 st1 => forRL n N f r env1 st1
      | none => .bad) else .bad
    | _ => .bad
def evB (Φ : Nat → List D → Sto → R Rv) (env : Ev) (i : X) (st : Sto) : R Bool := (evE Φ env i st).bind fun r st1 => needB r fun k => .ok k st1

/-- a value for a name: a new list or dict is laid into the store where the name is one that changes it -/
def pushD (new : Bool) (r : Rv) (st : Sto) : R D :=
  match new, r with
  | true, .nl xs => .ok (.ref st.length) (st ++ [.lst xs])
  | true, .nd kvs => .ok (.ref st.length) (st ++ [.dct kvs])
  | _, r => .ok r.frz st
def evPar (Φ : Nat → List D → Sto → R Rv) (env : Ev) : List (Bool × X) → Sto → R (List D)
  | [], st => .ok [] st
  | (new, e) :: es, st => ((evE Φ env e st).bind fun r st1 => pushD new r st1).bind fun d st1 => (evPar Φ env es st1).bind fun ds st2 => .ok (d :: ds) st2
def setDs (env : Ev) : List Nat → List D → Ev
  | i :: is, d :: ds => setDs (env.set i (some d)) is ds
  | _, _ => env
mutual
def evS (Φ : Nat → List D → Sto → R Rv) : S → Ev → Sto → SR
  | .asg i new e, env, st => (evE Φ env e st).then env fun r st1 => store i new r env st1
  | .par is es, env, st => (evPar Φ env es st).then env fun ds st1 => if ds.length = is.length then .nx (setDs env is ds) st1 else .bad
  | .unp is e, env, st => (evE Φ env e st).then env fun r st1 => match r with
    | .im (.py (.tuple ys)) => if ys.length = is.length then .nx (setName env is ys) st1 else .bad
    | _ => .bad
  | .setI o i e, env, st => (evE Φ env e st).then env fun v st1 => (evE Φ env o st1).then env fun x st2 => (evE Φ env i st2).then env fun y st3 =>
      match v.frz, x, y with
      | .py p, .im d, .im (.py k) => match setop d k p st3 with
        | some st4 => .nx env st4
        | none => .bad
      | _, _, _ => .bad
  | .app _ _, _, _ => .bad
  | .expr e, env, st => (evE Φ env e st).then env fun _ st1 => .nx env st1
  | .ret e, env, st => (evE Φ env e st).then env fun r st1 => .rt r st1
  | .ife c t f, env, st => (evE Φ env c st).then env fun r st1 => match r with
    | .im (.py (.bool k)) => if k then evSs Φ t env st1 else evSs Φ f env st1
    | _ => .bad
  | .for tg k es body, env, st => (evDs Φ env es st).then env fun ds st1 => match itemsD k ds with
    | some ys => forL (fun y env1 st2 => match bindT tg env1 y with
        | some env2 => evSs Φ body env2 st2
        | none => .bad) ys env st1
    | none => .bad
  | .whl c body, env, st => whlF (fun env st => evB Φ env c st) (fun env st => evSs Φ body env st) FU env st
  | .raise c none, env, st => .exc c [] env st
  | .raise c (some (f, e)), env, st => (evE Φ env e st).then env fun r st1 => match r.frz with
    | .py p => .exc c [(f, p)] env st1
    | .ref _ => .bad
  | .tr cs body hs, env, st => SR.catch cs (evSs Φ body env st) hs
  | .forR tg o body, env, st => (evE Φ env o st).then env fun r st1 => match r with
    | .im (.ref n) => match st1[n]? with
      | some (.lst zs) => forRL n zs.length (fun y env1 st2 => match bindT tg env1 y with
        | some env2 => evSs Φ body env2 st2
        | none => .bad) zs.length env st1
      | _ => .bad
    | _ => .bad
  | .never, _, _ => .bad
  | .pass, env, st => .nx env st
def evSs (Φ : Nat → List D → Sto → R Rv) : List S → Ev → Sto → SR
  | [], env, st => .nx env st
  | s :: ss, env, st => (evS Φ s env st).then fun env1 st1 => evSs Φ ss env1 st1
end

/-- behind a def: what it made in the store goes; a list of its own that it gives back is a new one -/
def trunc (n : Nat) (r : Rv) (st : Sto) : R Rv :=
  match r with
  | .im (.ref m) => if m < n then .ok r (st.take n) else match st[m]? with
    | some (.lst xs) => .ok (.nl xs) (st.take n)
    | some (.dct kvs) => .ok (.nd kvs) (st.take n)
    | _ => .bad
  | r => .ok r (st.take n)
def fin (n : Nat) : SR → R Rv
  | .nx _ st => trunc n (imp .none) st
  | .rt r st => trunc n r st
  | .exc c fs _ st => .exc c fs (st.take n)
  | .bad => .bad

structure Fn where
  np : Nat
  ns : Nat
  body : List S

def evFn (fs : List Fn) : Nat → Nat → List D → Sto → R Rv
  | 0, _, _, _ => .bad
  | k + 1, j, args, st => match fs[j]? with
    | some f => if args.length = f.np then fin st.length (evSs (evFn fs k) f.body (args.map some ++ List.replicate (f.ns - f.np) none) st) else .bad
    | none => .bad
end Kp

/-! Kp, part 2: from the text's trees to the small language. -/
namespace Kp
open PySem

/-- what a global name is -/
inductive G where
  | fn (j : Nat)
  | con (p : P)
  | blt (b : Blt)
  | ty (t : Ty)
  | isi
  | range
  | set
  | enum
  | zip
  | exc (c : Nat)
  | clsx (c : Nat)

structure Cfg where
  g : Str → Option G
  N : List Str
  new : Str → Bool
  cs : List Nat

def isVar : NameKind → Bool
  | .local => true
  | .cell => true
  | .free => true
  | _ => false
def okN (x : Str) : Bool := !(x == ("__debug__" : Str)) && !(x == ("__classdict__" : Str))
def slot (c : Cfg) (sc : Scope) (x : Str) : Option Nat :=
  match sc.names.lookup x with
  | some k => if isVar k && okN x then c.N.idxOf? x else none
  | none => none
/-- a name of the frame (or block) itself -/
def slotOwn (c : Cfg) (sc : Scope) (x : Str) : Option Nat :=
  match sc.names.lookup x with
  | some .local => c.N.idxOf? x
  | some .cell => c.N.idxOf? x
  | _ => none
def glob (c : Cfg) (sc : Scope) (x : Str) : Option G :=
  match sc.names.lookup x with
  | some .globalImplicit => if !(x == ("__debug__" : Str)) && !(x == ("__name__" : Str)) then c.g x else none
  | _ => none

def bopOf : Operator → Option Bop
  | .Add => some .add | .Sub => some .sub | .Mult => some .mul | .FloorDiv => some .fdiv | .Mod => some .mod | .Pow => some .pow
  | _ => none
def copOf : CmpOp → Option Cop
  | .Eq => some .eq | .NotEq => some .ne | .Lt => some .lt | .LtE => some .le | .Gt => some .gt | .GtE => some .ge
  | .Is => some .is | .IsNot => some .isnot | .In => some .in_ | .NotIn => some .notin
def isSet : Expr → Bool
  | .Set .. => true
  | _ => false
def tyCall : Ty → Option Blt
  | .str => some .str | .tup => some .tuple | .list => some .list | .int => some .int
  | .bool => none
def constOf : Const → Option P
  | .none => some .none
  | .bool b => some (.bool b)
  | .int i => some (.int i)
  | .str s => some (.str s)
  | _ => none


def nameOf : Expr → Option Str
  | .Name x _ => some x
  | _ => none
/-- a comprehension's target: its slots -/
def tgOf (c : Cfg) (scope : Scope) : Expr → Option (Tg × List (Str × Nat))
  | .Name x _ => (slotOwn c scope x).map fun i => (.one i, [(x, i)])
  | .Tuple es _ _ => match es.mapM nameOf with
    | some xs => match xs.mapM (slotOwn c scope) with
      | some is => some (.tup is, xs.zip is)
      | none => none
    | none => none
  | _ => none

/-- how an iterable is gone through -/
def isTup : Expr → Bool
  | .Tuple .. => true
  | _ => false
def itOf (c : Cfg) (sc : Scope) (tg iter : Expr) (whole : Option X) (args : Option (List X)) : Option (Ik × List X) :=
  match iter with
  | .Call (.Name f _) as [] _ => match glob c sc f with
    | some .range => match args with
      | some [a] => some (.rng1, [a])
      | some [a, b] => some (.rng2, [a, b])
      | _ => none
    | some .enum => match args with
      | some [a] => if isTup tg then some (.enum, [a]) else none
      | _ => none
    | some .zip => match args with
      | some [a, b] => if isTup tg then some (.zip, [a, b]) else none
      | _ => none
    | _ => whole.map fun i => (.seq, [i])
  | .Set .. => none
  | _ => whole.map fun i => (.seq, [i])

def mthOf (x : Str) : Option Mth :=
  if x == ("join" : Str) then some .join else if x == ("split" : Str) then some .split else if x == ("index" : Str) then some .index
  else if x == ("append" : Str) then some .append else if x == ("pop" : Str) then some .pop else none
/-- not a call without arguments -/
def baseOk : Expr → Bool
  | .Call _ [] [] _ => false
  | _ => true
def methOk (o : Expr) (args : List Expr) (apos cpos : Pos) : Bool := baseOk o && (apos.endLine == cpos.line) && decide (args.length < 30)

def isMulL : Expr → Operator → Bool
  | .List .., .Mult => true
  | _, _ => false
/-- [::-1] -/
def isRev : Option Expr → Option Expr → Expr → Bool
  | none, none, .UnaryOp .USub (.Constant (.int 1) _ _) _ => true
  | _, _, _ => false
def inter : List X → List X → List X
  | k :: ks, v :: vs => k :: v :: inter ks vs
  | _, _ => []
def isGet (x : Str) : Bool := x == ("get" : Str)
mutual
def compE (c : Cfg) (sc : Scope) : Expr → Option X
  | .Constant k _ _ => (constOf k).map .const
  | .Name x _ => match slot c sc x with
    | some i => some (.var i)
    | none => match glob c sc x with
      | some (.con p) => some (.const p)
      | _ => none
  | .Tuple es _ _ => (compEs c sc es).map .tup
  | .List es _ => (compEs c sc es).map .lst
  | .BinOp l o r _ => if isMulL l o then (match compE c sc l, compE c sc r with
    | some x, some y => some (.rep x y)
    | _, _ => none) else match bopOf o, compE c sc l, compE c sc r with
    | some b, some x, some y => some (.bin b x y)
    | _, _, _ => none
  | .UnaryOp .Not x _ => (compE c sc x).map .not
  | .UnaryOp .USub x _ => (compE c sc x).map .neg
  | .BoolOp .And es _ => compAnd c sc es
  | .BoolOp .Or es _ => compOr c sc es
  | .Compare l [o] [r] _ => if isSet r then none else match copOf o, compE c sc l, compE c sc r with
    | some b, some x, some y => some (.cmp b x y)
    | _, _, _ => none
  | .Compare l [o, o'] [r, r'] _ => if isSet r' then none else match copOf o, copOf o', compE c sc l, compE c sc r, compE c sc r' with
    | some b, some b', some x, some y, some z => some (.chain b b' x y z)
    | _, _, _, _, _ => none
  | .IfExp t a b _ => match compE c sc t, compE c sc a, compE c sc b with
    | some x, some y, some z => some (.ife x y z)
    | _, _, _ => none
  | .Subscript v (.Slice lo hi none _) _ => match compE c sc v, compO c sc lo, compO c sc hi with
    | some x, some y, some z => some (.slc x y z)
    | _, _, _ => none
  | .Subscript v (.Slice lo hi (some st) _) _ => if isRev lo hi st then (compE c sc v).map .rev else none
  | .Subscript v i _ => match compE c sc v, compE c sc i with
    | some x, some y => some (.idx x y)
    | _, _ => none
  | .Call (.Name f _) (a :: as) [] _ => match glob c sc f, as with
    | some (.fn j), _ => match compEs c sc (a :: as) with
      | some xs => some (.call j xs)
      | none => none
    | some (.blt b), _ => match compEs c sc (a :: as) with
      | some xs => some (.blt b xs)
      | none => none
    | some (.ty t), _ => match tyCall t, compEs c sc (a :: as) with
      | some b, some xs => some (.blt b xs)
      | _, _ => none
    | some .isi, [.Name t _] => match glob c sc t, compE c sc a with
      | some (.ty ty), some x => some (.isi ty x)
      | _, _ => none
    | _, _ => none
  | .Dict keys values _ => match compKs c sc keys, compEs c sc values with
    | some ks, some vs => if decide (keys.length = values.length) && decide (keys.length ≤ 15) then some (.dic (inter ks vs)) else none
    | _, _ => none
  | .DictComp ke ve [⟨tg, iter, [], 0⟩] scope _ => match tgOf c scope tg with
    | some (t, own) => if L2.blkC c.N sc scope own then match itOf c sc tg iter (compE c sc iter) (compA c sc iter), compE c (L2.relS scope sc) ke, compE c (L2.relS scope sc) ve with
        | some (k, xs), some x, some y => some (.dcomp x y t k xs)
        | _, _, _ => none
      else none
    | none => none
  | .Call (.Attribute o name apos) args [] cpos => if isGet name then (if methOk o args apos cpos then match compE c sc o, compEs c sc args with
      | some x, some [y] => some (.get1 x y)
      | some x, some [y, z] => some (.get2 x y z)
      | _, _ => none
    else none) else match mthOf name, compE c sc o, compEs c sc args with
    | some m, some x, some xs => if methOk o args apos cpos then some (.meth m x xs) else none
    | _, _, _ => none
  | .ListComp elt [⟨tg, iter, ifs, 0⟩] scope _ => match tgOf c scope tg with
    | some (t, own) => if L2.blkC c.N sc scope own && decide (ifs.length ≤ 1) then match itOf c sc tg iter (compE c sc iter) (compA c sc iter), compEs c (L2.relS scope sc) ifs, compE c (L2.relS scope sc) elt with
        | some (k, xs), some fs, some x => some (.comp x t k xs fs)
        | _, _, _ => none
      else none
    | none => none
  | _ => none
def compEs (c : Cfg) (sc : Scope) : List Expr → Option (List X)
  | [] => some []
  | e :: es => match compE c sc e, compEs c sc es with
    | some x, some xs => some (x :: xs)
    | _, _ => none
def compAnd (c : Cfg) (sc : Scope) : List Expr → Option X
  | [] => none
  | e :: es => match compE c sc e, compAnd c sc es with
    | some x, some y => some (.and x y)
    | some x, none => if es.isEmpty then some x else none
    | _, _ => none
def compOr (c : Cfg) (sc : Scope) : List Expr → Option X
  | [] => none
  | e :: es => match compE c sc e, compOr c sc es with
    | some x, some y => some (.or x y)
    | some x, none => if es.isEmpty then some x else none
    | _, _ => none
def compKs (c : Cfg) (sc : Scope) : List (Option Expr) → Option (List X)
  | [] => some []
  | some e :: es => match compE c sc e, compKs c sc es with
    | some x, some xs => some (x :: xs)
    | _, _ => none
  | none :: _ => none
def compO (c : Cfg) (sc : Scope) : Option Expr → Option X
  | none => some (.const .none)
  | some e => compE c sc e
/-- a call's arguments -/
def compA (c : Cfg) (sc : Scope) : Expr → Option (List X)
  | .Call _ as _ _ => compEs c sc as
  | _ => none
end

def isComp : Expr → Bool
  | .ListComp .. => true
  | .SetComp .. => true
  | .DictComp .. => true
  | _ => false
/-- how a comprehension is stored at a name: as a local on its own line (some true), as any other value (some false) -/
def okAsg (sc : Scope) (x : Str) (px : Pos) (v : Expr) : Option Bool :=
  match v with
  | .ListComp _ _ scope pos => match sc.names.lookup x with
    | some .local => if (px.line == pos.line) && !(scope.names.any fun (n, k) => n == x && (k == .local || k == .cell)) then some true else none
    | some .cell => some false
    | _ => none
  | v => if isComp v then none else some false
/-- names stored from the right: plain locals on one line -/
def isLocal (sc : Scope) (x : Str) : Bool :=
  match sc.names.lookup x with
  | some .local => true
  | _ => false
def parOk (sc : Scope) (xs : List (Str × Pos)) (vs : List Expr) : Bool :=
  (match xs with
   | [a, b] => a.2.line == b.2.line && a.1 != b.1
   | [a, b, d] => a.2.line == b.2.line && a.2.line == d.2.line && a.1 != b.1 && a.1 != d.1 && b.1 != d.1
   | _ => false) && xs.all (fun p => isLocal sc p.1) && !vs.all (foldedForSure 8) && !vs.all (constantsAlone 8) && vs.length == xs.length
def nameP : Expr → Option (Str × Pos)
  | .Name x p => some (x, p)
  | _ => none

/-- a class of errors -/
def clsOf (c : Cfg) (sc : Scope) (x : Str) : Option Nat :=
  match glob c sc x with
  | some (.exc j) => some j
  | some (.clsx j) => some j
  | _ => none
/-- except X: return constant -/
def compH (c : Cfg) (sc : Scope) : ExceptHandler → Option (Nat × Option Nat × X)
  | .ExceptHandler (some (.Name x _)) none [.Return (some (.Constant k _ _)) _] _ => match clsOf c sc x, constOf k with
    | some j, some p => if c.cs.contains j then some (j, none, .const p) else none
    | _, _ => none
  | _ => none
def compHs (c : Cfg) (sc : Scope) : List ExceptHandler → Option (List (Nat × Option Nat × X))
  | [] => some []
  | h :: hs => match compH c sc h, compHs c sc hs with
    | some x, some xs => some (x :: xs)
    | _, _ => none
def compRaise (c : Cfg) (sc : Scope) : Option Expr → Option Expr → Option S
  | some (.Call (.Name f _) [.Constant (.str _) _ _] [] _), none => match glob c sc f with
    | some (.exc j) => if c.cs.contains j then some (.raise j none) else none
    | _ => none
  | _, _ => none
/-- a name that holds a list of the store -/
def newName (c : Cfg) : Expr → Bool
  | .Name x _ => c.new x
  | _ => false
mutual
def compS (c : Cfg) (sc : Scope) : Stmt → Option S
  | .Assign [.Name x px] v _ => match slotOwn c sc x, compE c sc v with
    | some i, some e => if (okAsg sc x px v).isSome then some (.asg i (c.new x) e) else none
    | _, _ => none
  | .Assign [.Subscript o i _] v _ => if isComp v then none else match compE c sc o, compE c sc i, compE c sc v with
    | some x, some y, some z => some (.setI x y z)
    | _, _, _ => none
  | .Assign [.Tuple ts _ _] v _ => match ts.mapM nameP with
    | some xs => match xs.mapM (fun p => slotOwn c sc p.1) with
      | some is => match v with
        | .Tuple vs _ _ => if parOk sc xs vs then (compEs c sc vs).map fun es => .par is ((xs.map fun p => c.new p.1).zip es) else if vs.all (foldedForSure 8) then (compE c sc v).map fun e => .unp is e else none
        | v => if isComp v then none else (compE c sc v).map fun e => .unp is e
      | none => none
    | none => none
  | .Return (some e) _ => (compE c sc e).map .ret
  | .Return none _ => some (.ret (.const .none))
  | .Expr (.Constant (.str _) _ _) _ => some .pass
  | .Expr e _ => if isComp e then none else (compE c sc e).map .expr
  | .If t a b _ => match compE c sc t, compSs c sc a, compSs c sc b with
    | some x, some y, some z => some (.ife x y z)
    | _, _, _ => none
  | .For tg iter body [] _ => match tgOf c sc tg, itOf c sc tg iter (compE c sc iter) (compA c sc iter), compSs c sc body with
    | some (t, _), some (k, xs), some ss => if newName c iter then (compE c sc iter).map fun x => .forR t x ss else some (.for t k xs ss)
    | _, _, _ => none
  | .Pass _ => some .pass
  | .While t body [] _ => match compE c sc t, compSs c sc body with
    | some x, some y => some (.whl x y)
    | _, _ => none
  | .Raise e cse _ => compRaise c sc e cse
  | .Try body (h :: hs) [] [] _ => match compSs c sc body, compHs c sc (h :: hs) with
    | some x, some y => some (.tr c.cs x y)
    | _, _ => none
  | _ => none
def compSs (c : Cfg) (sc : Scope) : List Stmt → Option (List S)
  | [] => some []
  | s :: ss => match compS c sc s, compSs c sc ss with
    | some x, some xs => some (x :: xs)
    | none, some xs => some (.never :: xs)
    | _, _ => none
end
end Kp

/-! Kp, part 3: how the evaluator's values stand in the heap. -/
namespace Kp
open PySem PySem.Spec PyProof.Rows L2

/-- the module's own objects, and the world -/
structure KW where
  K : PySem.W.Frag
  w : World
instance : Coe KW PySem.W.Frag := ⟨KW.K⟩
abbrev _root_.L2.Cx.kw (X : Cx) : KW := ⟨X.K, X.w⟩

/-! ### dicts -/
mutual
/-- a key, as the library has it -/
def nk : P → NestedKey
  | .none => .none
  | .bool b => .num (if b = true then 1 else 0)
  | .int i => .num i
  | .str s => .text s
  | .tuple ps => .tup (nks ps)
  | .list _ => .none
  | .dict _ => .none
def nks : List P → List NestedKey
  | [] => []
  | p :: ps => nk p :: nks ps
end
def ndE (w : World) (x : NestedKey × Addr × Value) : DictEntry := ⟨x.1.hash w, .ref x.2.1, x.2.2⟩
/-- the object is a dict with tuples for keys -/
structure NdOk (w : World) (o : Obj) (ks : List NestedKey) (ws : List (V × V)) : Prop where
  ex : o.ExactDict
  dat : ∃ es ep, o.data = .dict es ep ∧ ∃ xs, es.toList = xs.map (ndE w) ∧ xs.map (·.1) = ks ∧ Paired (fun (q : V × V) (x : NestedKey × Addr × Value) => q.1 = .ref x.2.1 ∧ RelV q.2 x.2.2) ws xs
  nd : ks.Nodup
  ne : ks ≠ []
/-- an object that is known -/
def NdO (a : Addr) (o : Obj) : HO := .ext fun h => h.get? a = some o
def dkWs (ks : List (Key × V)) : List (V × V) := ks.map fun q => (kV q.1, q.2)
/-- what stands at a is a dict with these keys and values -/
def DHo (w : World) (nks : List NestedKey) (ws : List (V × V)) (a : Addr) (u : HO) : Prop :=
  (∃ ks, u = .dK ks ∧ ws = dkWs ks ∧ (ks.map (·.1)).Nodup) ∨ ∃ o, u = NdO a o ∧ NdOk w o nks ws ∧ (a == sysModules) = false
theorem DHo.mut {w : World} {nks : List NestedKey} {ws : List (V × V)} {a : Addr} {u : HO} (h : DHo w nks ws a u) : Mut (some u) := by
  rcases h with ⟨ks, rfl, _⟩ | ⟨o, rfl, _⟩ <;> exact trivial

/-! ### data that never changes -/
/-- a list that is known, or one of the module's own -/
def FzL (K : PySem.W.Frag) (H : Hp) (a : Addr) (vs : List V) : Prop :=
  (∃ o, H a = some (.frz o (.lst vs))) ∨
    ∃ (o : Obj) (its : Array Value) (n : Nat), K.lookup a = some o ∧ o.cls = .type "list" ∧ o.dict = none ∧ o.data = .seq its n ∧ its.size ≤ sizeLine ∧ Vals vs its.toList
theorem FzL.sq {K : PySem.W.Frag} {H : Hp} {a : Addr} {vs : List V} (h : FzL K H a vs) : SqL K H a vs := by
  rcases h with ⟨o, h⟩ | h
  · exact .inl (.inr ⟨o, h⟩)
  · exact .inr h

mutual
/-- the value stands for the data -/
def Im (K : KW) (H : Hp) : P → V → Prop
  | .none, v => v = .non
  | .bool b, v => v = .bl b
  | .int i, v => v = .int i
  | .str s, v => v = .str s
  | .list ds, v => ∃ a vs, v = .ref a ∧ FzL K.K H a vs ∧ vs.length ≤ sizeLine ∧ ImAll K H ds vs
  | .tuple ds, v => ∃ a vs, v = .ref a ∧ SqT K.K H a vs ∧ vs.length ≤ sizeLine ∧ ImAll K H ds vs
  | .dict kvs, v => ∃ a o u ws, v = .ref a ∧ H a = some (.frz o u) ∧ DHo K.w (kvs.map fun q => nk q.1) ws a u ∧ kvs.length ≤ sizeLine ∧ ImKvs K H kvs ws
def ImAll (K : KW) (H : Hp) : List P → List V → Prop
  | [], vs => vs = []
  | d :: ds, vs => ∃ v r, vs = v :: r ∧ Im K H d v ∧ ImAll K H ds r
/-- keys and values -/
def ImKvs (K : KW) (H : Hp) : List (P × P) → List (V × V) → Prop
  | [], ws => ws = []
  | (k, p) :: r, ws => ∃ x v t, ws = (x, v) :: t ∧ Im K H k x ∧ Im K H p v ∧ ImKvs K H r t
end

/-- what is known stays -/
structure Ext (H H' : Hp) : Prop where
  tup : ∀ a xs, H a = some (.tup xs) → H' a = some (.tup xs)
  frz : ∀ a o u, H a = some (.frz o u) → H' a = some (.frz o u)
theorem Ext.refl {H : Hp} : Ext H H := ⟨fun _ _ h => h, fun _ _ _ h => h⟩
theorem Ext.trans {H1 H2 H3 : Hp} (a : Ext H1 H2) (b : Ext H2 H3) : Ext H1 H3 :=
  ⟨fun x xs h => b.tup x xs (a.tup x xs h), fun x o u h => b.frz x o u (a.frz x o u h)⟩
theorem Ext.new {H : Hp} {p : Addr} {o : HO} (h : H p = none) : Ext H (upd H p o) :=
  ⟨fun a xs e => by rw [upd_ne (ne_of_none e h)]; exact e, fun a ob u e => by rw [upd_ne (ne_of_none e h)]; exact e⟩
theorem Ext.mut {H : Hp} {p : Addr} {o u : HO} (h : H p = some u) (m : Mut (some u)) : Ext H (upd H p o) := by
  refine ⟨fun a ys e => ?_, fun a ob u' e => ?_⟩
  · have n : a ≠ p := fun z => by subst z; rw [h] at e; cases e; exact m
    rw [upd_ne n]; exact e
  · have n : a ≠ p := fun z => by subst z; rw [h] at e; cases e; exact m
    rw [upd_ne n]; exact e
theorem Ext.lst {H : Hp} {p : Addr} {o : HO} {xs : List V} (h : H p = some (.lst xs)) : Ext H (upd H p o) := Ext.mut h trivial

theorem SqT.ext {K : PySem.W.Frag} {H H' : Hp} {a : Addr} {vs : List V} (e : Ext H H') (h : SqT K H a vs) : SqT K H' a vs := by
  rcases h with (h | ⟨o, h⟩) | h
  · exact .inl (.inl (e.tup _ _ h))
  · exact .inl (.inr ⟨o, e.frz _ _ _ h⟩)
  · exact .inr h
theorem FzL.ext {K : PySem.W.Frag} {H H' : Hp} {a : Addr} {vs : List V} (e : Ext H H') (h : FzL K H a vs) : FzL K H' a vs := by
  rcases h with ⟨o, h⟩ | h
  · exact .inl ⟨o, e.frz _ _ _ h⟩
  · exact .inr h

mutual
theorem Im.ext {K : KW} {H H' : Hp} (e : Ext H H') : ∀ (p : P) (v : V), Im K H p v → Im K H' p v
  | .none, v, h => h
  | .bool b, v, h => h
  | .int i, v, h => h
  | .str s, v, h => h
  | .list ds, v, h => by
    obtain ⟨a, vs, e1, h1, h2, h3⟩ := h
    exact ⟨a, vs, e1, h1.ext e, h2, ImAll.ext e ds vs h3⟩
  | .tuple ds, v, h => by
    obtain ⟨a, vs, e1, h1, h2, h3⟩ := h
    exact ⟨a, vs, e1, SqT.ext e h1, h2, ImAll.ext e ds vs h3⟩
  | .dict kvs, v, h => by
    obtain ⟨a, o, u, ws, e1, h1, h2, h3, h4⟩ := h
    exact ⟨a, o, u, ws, e1, e.frz _ _ _ h1, h2, h3, ImKvs.ext e kvs ws h4⟩
theorem ImAll.ext {K : KW} {H H' : Hp} (e : Ext H H') : ∀ (ps : List P) (vs : List V), ImAll K H ps vs → ImAll K H' ps vs
  | [], vs, h => h
  | d :: ds, vs, h => by
    obtain ⟨v, r, e1, h1, h2⟩ := h
    exact ⟨v, r, e1, Im.ext e d v h1, ImAll.ext e ds r h2⟩
theorem ImKvs.ext {K : KW} {H H' : Hp} (e : Ext H H') : ∀ (kvs : List (P × P)) (ws : List (V × V)), ImKvs K H kvs ws → ImKvs K H' kvs ws
  | [], ws, h => h
  | (k, p) :: r, ws, h => by
    obtain ⟨x, v, t, e1, h1, h2, h3⟩ := h
    exact ⟨x, v, t, e1, Im.ext e k x h1, Im.ext e p v h2, ImKvs.ext e r t h3⟩
end

section
variable {K : KW} {H : Hp}
theorem ImAll.length : ∀ {ps : List P} {vs : List V}, ImAll K H ps vs → ps.length = vs.length
  | [], vs, h => by have h : vs = [] := h; subst h; rfl
  | d :: ds, vs, h => by
    obtain ⟨v, r, e, _, h2⟩ := h
    subst e
    rw [List.length_cons, List.length_cons, ImAll.length h2]
theorem ImAll.nil : ImAll K H [] [] := rfl
theorem ImAll.cons {p : P} {v : V} {ps : List P} {vs : List V} (h : Im K H p v) (t : ImAll K H ps vs) : ImAll K H (p :: ps) (v :: vs) := ⟨v, vs, rfl, h, t⟩
theorem ImAll.append : ∀ {ps qs : List P} {vs ws : List V}, ImAll K H ps vs → ImAll K H qs ws → ImAll K H (ps ++ qs) (vs ++ ws)
  | [], qs, vs, ws, h, g => by have h : vs = [] := h; subst h; exact g
  | d :: ds, qs, vs, ws, h, g => by
    obtain ⟨v, r, e, h1, h2⟩ := h
    subst e
    exact ⟨v, r ++ ws, rfl, h1, h2.append g⟩
theorem ImAll.take : ∀ {ps : List P} {vs : List V} (n : Nat), ImAll K H ps vs → ImAll K H (ps.take n) (vs.take n)
  | [], vs, n, h => by have h : vs = [] := h; subst h; cases n <;> exact ImAll.nil
  | d :: ds, vs, 0, h => ImAll.nil
  | d :: ds, vs, n + 1, h => by
    obtain ⟨v, r, e, h1, h2⟩ := h
    subst e
    exact ⟨v, r.take n, rfl, h1, h2.take n⟩
theorem ImAll.drop : ∀ {ps : List P} {vs : List V} (n : Nat), ImAll K H ps vs → ImAll K H (ps.drop n) (vs.drop n)
  | [], vs, n, h => by have h : vs = [] := h; subst h; cases n <;> exact ImAll.nil
  | d :: ds, vs, 0, h => h
  | d :: ds, vs, n + 1, h => by
    obtain ⟨v, r, e, h1, h2⟩ := h
    subst e
    exact h2.drop n
theorem ImAll.get : ∀ {ps : List P} {vs : List V} {i : Nat} {p : P}, ImAll K H ps vs → ps[i]? = some p → ∃ v, vs[i]? = some v ∧ Im K H p v
  | [], vs, i, p, h, e => by simp at e
  | d :: ds, vs, 0, p, h, e => by
    obtain ⟨v, r, e1, h1, h2⟩ := h
    subst e1
    have e : d = p := by simpa using e
    subst e
    exact ⟨v, rfl, h1⟩
  | d :: ds, vs, i + 1, p, h, e => by
    obtain ⟨v, r, e1, h1, h2⟩ := h
    subst e1
    have e : ds[i]? = some p := by simpa using e
    obtain ⟨w, q1, q2⟩ := h2.get e
    exact ⟨w, by simpa using q1, q2⟩
theorem ImAll.get' : ∀ {ps : List P} {vs : List V} {i : Nat} {v : V}, ImAll K H ps vs → vs[i]? = some v → ∃ p, ps[i]? = some p ∧ Im K H p v
  | [], vs, i, v, h, e => by have h : vs = [] := h; subst h; simp at e
  | d :: ds, vs, 0, v, h, e => by
    obtain ⟨w, r, e1, h1, h2⟩ := h
    subst e1
    have e : w = v := by simpa using e
    subst e
    exact ⟨d, rfl, h1⟩
  | d :: ds, vs, i + 1, v, h, e => by
    obtain ⟨w, r, e1, h1, h2⟩ := h
    subst e1
    have e : r[i]? = some v := by simpa using e
    obtain ⟨p, q1, q2⟩ := h2.get' e
    exact ⟨p, by simpa using q1, q2⟩
theorem ImAll.set : ∀ {ps : List P} {vs : List V} (i : Nat) {p : P} {v : V}, ImAll K H ps vs → Im K H p v → ImAll K H (ps.set i p) (vs.set i v)
  | [], vs, i, p, v, h, g => by have h : vs = [] := h; subst h; exact ImAll.nil
  | d :: ds, vs, 0, p, v, h, g => by
    obtain ⟨w, r, e1, h1, h2⟩ := h
    subst e1
    exact ⟨v, r, rfl, g, h2⟩
  | d :: ds, vs, i + 1, p, v, h, g => by
    obtain ⟨w, r, e1, h1, h2⟩ := h
    subst e1
    exact ⟨w, r.set i v, rfl, h1, h2.set i g⟩
theorem ImAll.at {ps : List P} {vs : List V} {i : Int} {p : P} (h : ImAll K H ps vs) (e : atI ps i = some p) : ∃ v, atI vs i = some v ∧ Im K H p v := by
  unfold atI at e ⊢
  rw [← h.length]
  cases q : ixN ps.length i with
  | none => rw [q] at e; cases e
  | some j =>
    rw [q] at e
    exact h.get e
theorem ImAll.cut {ps : List P} {vs : List V} (lo hi : Option Int) (h : ImAll K H ps vs) : ImAll K H (cutL ps lo hi) (cutV vs lo hi) := by
  unfold cutL cutV
  rw [h.length]
  exact (h.drop _).take _
end

/-- the dict's own object -/
theorem pairs_rel {P : Program} {w : World} : ∀ {ks : List (Key × V)} {vs : List (Key × Value)} {es : List DictEntry}, KV ks vs → Pairs (mixKind P w) es vs → Paired (fun (q : V × V) (e : DictEntry) => RelV q.1 e.key ∧ RelV q.2 e.val) (dkWs ks) es
  | _, _, _, .nil, .nil => .nil
  | _, _, _, .cons r rs, .cons h1 h2 hs => by
    refine .cons ⟨?_, ?_⟩ (pairs_rel rs hs)
    · show RelV (kV _) _
      rw [r.1]
      exact relV_key h1
    · show RelV _ _
      rw [h2]
      exact r.2
theorem nd_rel {w : World} : ∀ {ws : List (V × V)} {xs : List (NestedKey × Addr × Value)}, Paired (fun (q : V × V) (x : NestedKey × Addr × Value) => q.1 = .ref x.2.1 ∧ RelV q.2 x.2.2) ws xs → Paired (fun (q : V × V) (e : DictEntry) => RelV q.1 e.key ∧ RelV q.2 e.val) ws (xs.map (ndE w))
  | _, _, .nil => .nil
  | _, _, .cons r rs => by
    refine .cons ⟨?_, r.2⟩ (nd_rel rs)
    rw [r.1]
    rfl
theorem DHo.at {X : Cx} {pins : List (Addr × Obj)} {σ : L2.St} {H : Hp} {s : Shared} (I : Inv X pins σ H s) {nks : List NestedKey} {ws : List (V × V)} {a : Addr} {u : HO} (r : Rd H a u) (h : DHo X.w nks ws a u) :
    ∃ o es ep, s.heap.get? a = some o ∧ o.ExactDict ∧ o.data = .dict es ep ∧ (a == sysModules) = false ∧ Paired (fun (q : V × V) (e : DictEntry) => RelV q.1 e.key ∧ RelV q.2 e.val) ws es.toList := by
  rcases h with ⟨ks, rfl, rfl, _⟩ | ⟨o, rfl, h, hs⟩
  · obtain ⟨z, hs, vs, rel, o, es, ep, ho, hx, hd, _, hp, _⟩ := dk_rd I.hok r
    exact ⟨o, es, ep, ho, hx, hd, hs, pairs_rel rel hp⟩
  · obtain ⟨h0, _, _⟩ := r.ok I.hok
    obtain ⟨es, ep, hd, xs, e1, e2, hp⟩ := h.dat
    exact ⟨o, es, ep, h0, h.ex, hd, hs, by rw [e1]; exact nd_rel hp⟩
/-! ### as the library reads data -/
mutual
theorem Im.reads {X : Cx} {pins : List (Addr × Obj)} {σ : L2.St} {H : Hp} {s : Shared} (I : Inv X pins σ H s) : ∀ (p : P) (v : V) (u : Value), Im X.kw H p v → RelV v u → ∃ as, Reads s.heap u p as
  | .none, v, u, h, r => by
    have h : v = .non := h
    subst h
    cases (show u = Value.none from r)
    exact ⟨_, .none⟩
  | .bool b, v, u, h, r => by
    have h : v = .bl b := h
    subst h
    cases (show u = Value.bool b from r)
    exact ⟨_, .bool b⟩
  | .int i, v, u, h, r => by
    have h : v = .int i := h
    subst h
    obtain ⟨t, e⟩ := (show ∃ t, u = Value.int i t from r)
    subst e
    exact ⟨_, .int i t⟩
  | .str x, v, u, h, r => by
    have h : v = .str x := h
    subst h
    obtain ⟨t, e⟩ := (show ∃ t, u = Value.str x t from r)
    subst e
    exact ⟨_, .str x t⟩
  | .list ds, v, u, h, r => by
    obtain ⟨a, vs, e, h1, h2, h3⟩ := h
    subst e
    cases (show u = Value.ref a from r)
    obtain ⟨its, rv, ⟨o, n, e1, e2, e3, e4⟩, _⟩ := I.list h1.sq
    obtain ⟨as, q⟩ := ImAll.reads I ds vs its h3 rv
    exact ⟨_, .list e1 e2 e4 (by simpa using q)⟩
  | .tuple ds, v, u, h, r => by
    obtain ⟨a, vs, e, h1, h2, h3⟩ := h
    subst e
    cases (show u = Value.ref a from r)
    obtain ⟨its, rv, ⟨o, e1, e2, n, e4⟩, _⟩ := I.tuple h1
    obtain ⟨as, q⟩ := ImAll.reads I ds vs its h3 rv
    exact ⟨_, .tuple e1 e2 e4 (by simpa using q)⟩
  | .dict kvs, v, u, h, r => by
    obtain ⟨a, o, y, ws, e, h1, h2, h3, h4⟩ := h
    subst e
    cases (show u = Value.ref a from r)
    obtain ⟨o, es, ep, ho, hx, hd, _, hp⟩ := DHo.at I (.inr ⟨_, h1⟩) h2
    obtain ⟨as, bs, q1, q2⟩ := ImKvs.reads I kvs ws es.toList h4 hp
    exact ⟨_, .dict ho hx.1 hd q1 q2⟩
theorem ImAll.reads {X : Cx} {pins : List (Addr × Obj)} {σ : L2.St} {H : Hp} {s : Shared} (I : Inv X pins σ H s) : ∀ (ps : List P) (vs : List V) (us : List Value), ImAll X.kw H ps vs → Vals vs us → ∃ as, ReadsAll s.heap us ps as
  | [], vs, us, h, r => by
    have h : vs = [] := h
    subst h
    cases r
    exact ⟨_, .nil⟩
  | d :: ds, vs, us, h, r => by
    obtain ⟨v, q, e, h1, h2⟩ := h
    subst e
    cases r with
    | cons r1 r2 =>
      obtain ⟨as, x1⟩ := Im.reads I d v _ h1 r1
      obtain ⟨bs, x2⟩ := ImAll.reads I ds q _ h2 r2
      exact ⟨_, .cons x1 x2⟩
theorem ImKvs.reads {X : Cx} {pins : List (Addr × Obj)} {σ : L2.St} {H : Hp} {s : Shared} (I : Inv X pins σ H s) : ∀ (kvs : List (P × P)) (ws : List (V × V)) (es : List DictEntry), ImKvs X.kw H kvs ws → Paired (fun (q : V × V) (e : DictEntry) => RelV q.1 e.key ∧ RelV q.2 e.val) ws es →
    ∃ as bs, ReadsAll s.heap (es.map (·.key)) (kvs.map (·.1)) as ∧ ReadsAll s.heap (es.map (·.val)) (kvs.map (·.2)) bs
  | [], ws, es, h, r => by
    have h : ws = [] := h
    subst h
    cases r
    exact ⟨_, _, .nil, .nil⟩
  | (k, p) :: t, ws, es, h, r => by
    obtain ⟨x, v, w, e, h1, h2, h3⟩ := h
    subst e
    cases r with
    | cons r1 r2 =>
      obtain ⟨as, x1⟩ := Im.reads I k x _ h1 r1.1
      obtain ⟨bs, x2⟩ := Im.reads I p v _ h2 r1.2
      obtain ⟨cs, ds, x3, x4⟩ := ImKvs.reads I t w _ h3 r2
      exact ⟨_, _, .cons x1 x3, .cons x2 x4⟩
end
/-- a tuple's key at the heap -/
theorem nks_eq : ∀ ps : List P, nks ps = ps.map nk
  | [] => rfl
  | p :: ps => by rw [nks, nks_eq ps]; rfl
mutual
theorem Im.nested {X : Cx} {pins : List (Addr × Obj)} {σ : L2.St} {H : Hp} {s : Shared} (I : Inv X pins σ H s) : ∀ (p : P) (v : V) (u : Value), keyN p = true → Im X.kw H p v → RelV v u → NestedIs s.heap (nk p) u
  | .none, v, u, hk, h, r => by
    have h : v = .non := h
    subst h
    cases (show u = Value.none from r)
    exact .none
  | .bool b, v, u, hk, h, r => by
    have h : v = .bl b := h
    subst h
    cases (show u = Value.bool b from r)
    exact .bool rfl
  | .int i, v, u, hk, h, r => by
    have h : v = .int i := h
    subst h
    obtain ⟨t, e⟩ := (show ∃ t, u = Value.int i t from r)
    subst e
    exact .int i t
  | .str x, v, u, hk, h, r => by
    have h : v = .str x := h
    subst h
    obtain ⟨t, e⟩ := (show ∃ t, u = Value.str x t from r)
    subst e
    exact .text x t
  | .list ds, v, u, hk, h, r => by simp [keyN] at hk
  | .dict ds, v, u, hk, h, r => by simp [keyN] at hk
  | .tuple ds, v, u, hk, h, r => by
    rw [keyN] at hk
    obtain ⟨a, vs, e, h1, h2, h3⟩ := h
    subst e
    cases (show u = Value.ref a from r)
    obtain ⟨its, rv, ⟨o, e1, e2, n, e4⟩, _⟩ := I.tuple h1
    exact .tup e1 e2 e4 (by simpa using ImAll.nested I ds vs its hk h3 rv)
theorem ImAll.nested {X : Cx} {pins : List (Addr × Obj)} {σ : L2.St} {H : Hp} {s : Shared} (I : Inv X pins σ H s) : ∀ (ps : List P) (vs : List V) (us : List Value), keyNs ps = true → ImAll X.kw H ps vs → Vals vs us → NestedAll s.heap (nks ps) us
  | [], vs, us, hk, h, r => by
    have h : vs = [] := h
    subst h
    cases r
    exact .nil
  | d :: ds, vs, us, hk, h, r => by
    rw [keyNs, Bool.and_eq_true] at hk
    obtain ⟨v, q, e, h1, h2⟩ := h
    subst e
    cases r with
    | cons r1 r2 => exact .cons (Im.nested I d v _ hk.1 h1 r1) (ImAll.nested I ds q _ hk.2 h2 r2)
end
mutual
theorem nk_depth : ∀ p : P, keyN p = true → (nk p).depth = p.depth
  | .none, _ => rfl
  | .bool b, _ => rfl
  | .int i, _ => rfl
  | .str s, _ => rfl
  | .tuple ps, h => by
    rw [keyN] at h
    rw [nk, NestedKey.depth, PyData.depth, nks_depth ps h]
  | .list ps, h => by simp [keyN] at h
  | .dict ps, h => by simp [keyN] at h
theorem nks_depth : ∀ ps : List P, keyNs ps = true → NestedKey.depthAll (nks ps) = PyData.depthAll ps
  | [], _ => rfl
  | p :: ps, h => by
    rw [keyNs, Bool.and_eq_true] at h
    rw [nks, NestedKey.depthAll, PyData.depthAll, nk_depth p h.1, nks_depth ps h.2]
end
mutual
theorem nk_beq : ∀ p q : P, keyN p = true → keyN q = true → NestedKey.beq (nk p) (nk q) = p.eqv q
  | .none, q, _, hq => by cases q <;> first | rfl | (simp [keyN] at hq)
  | .bool b, q, _, hq => by
    cases q <;> first | rfl | (simp [keyN] at hq; done) | skip
    · rename_i c
      cases b <;> cases c <;> rfl
  | .int i, q, _, hq => by
    cases q <;> first | rfl | (simp [keyN] at hq; done) | skip
  | .str x, q, _, hq => by
    cases q <;> first | rfl | (simp [keyN] at hq; done) | skip
  | .tuple ps, q, hp, hq => by
    cases q <;> first | rfl | (simp [keyN] at hq; done) | skip
    rename_i qs
    rw [keyN] at hp hq
    exact nks_beq ps qs hp hq
  | .list ps, _, h, _ => by simp [keyN] at h
  | .dict ps, _, h, _ => by simp [keyN] at h
theorem nks_beq : ∀ ps qs : List P, keyNs ps = true → keyNs qs = true → NestedKey.beqAll (nks ps) (nks qs) = PyData.eqvAll ps qs
  | [], [], _, _ => rfl
  | [], _ :: _, _, _ => rfl
  | _ :: _, [], _, _ => rfl
  | p :: ps, q :: qs, hp, hq => by
    rw [keyNs, Bool.and_eq_true] at hp hq
    rw [nks, nks, NestedKey.beqAll, PyData.eqvAll, nk_beq p q hp.1 hq.1, nks_beq ps qs hp.2 hq.2]
end

/-! ### values and the store -/
def DR (K : KW) (α : List Addr) (H : Hp) : D → V → Prop
  | .py p, v => Im K H p v
  | .ref n, v => ∃ a, α[n]? = some a ∧ v = .ref a
def DRs (K : KW) (α : List Addr) (H : Hp) : List D → List V → Prop
  | [], vs => vs = []
  | d :: ds, vs => ∃ v r, vs = v :: r ∧ DR K α H d v ∧ DRs K α H ds r
def ObR (K : KW) (α : List Addr) (H : Hp) : Ob → Addr → Prop
  | .lst ds, a => ∃ vs, H a = some (.lst vs) ∧ vs.length ≤ sizeLine ∧ ImAll K H ds vs
  | .dct kvs, a => ∃ u ws, H a = some u ∧ DHo K.w (kvs.map fun q => nk q.1) ws a u ∧ kvs.length ≤ sizeLine ∧ ImKvs K H kvs ws
  | .dead, a => ∃ o, H a = some o
structure StR (K : KW) (α : List Addr) (H : Hp) (st : Sto) : Prop where
  len : α.length = st.length
  nd : α.Nodup
  ob : ∀ (n : Nat) (o : Ob) (a : Addr), st[n]? = some o → α[n]? = some a → ObR K α H o a
structure EvR (K : KW) (α : List Addr) (H : Hp) (env : Ev) (σ : L2.St) : Prop where
  len : env.length = σ.length
  at_ : ∀ (i : Nat) (d : D), env[i]? = some (some d) → ∃ v, σ[i]? = some (some v) ∧ DR K α H d v
def RvR (K : KW) (α : List Addr) (H : Hp) : Rv → V → Prop
  | .im d, v => DR K α H d v
  | .nl ds, v => ∃ a vs, v = .ref a ∧ H a = some (.lst vs) ∧ vs.length ≤ sizeLine ∧ ImAll K H ds vs ∧ a ∉ α
  | .nd kvs, v => ∃ a u ws, v = .ref a ∧ H a = some u ∧ DHo K.w (kvs.map fun q => nk q.1) ws a u ∧ kvs.length ≤ sizeLine ∧ ImKvs K H kvs ws ∧ a ∉ α
/-- .. new lists frozen -/
def RvF (K : KW) (α : List Addr) (H : Hp) (r : Rv) (v : V) : Prop := DR K α H r.frz v

/-- the addresses of the store grow -/
def Pre (α β : List Addr) : Prop := ∃ γ, β = α ++ γ
theorem Pre.refl {α : List Addr} : Pre α α := ⟨[], by simp⟩
theorem Pre.trans {α β γ : List Addr} (a : Pre α β) (b : Pre β γ) : Pre α γ := by
  obtain ⟨x, rfl⟩ := a
  obtain ⟨y, rfl⟩ := b
  exact ⟨x ++ y, by simp⟩
theorem Pre.get {α β : List Addr} (h : Pre α β) {n : Nat} {a : Addr} (e : α[n]? = some a) : β[n]? = some a := by
  obtain ⟨x, rfl⟩ := h
  have hn := (List.getElem?_eq_some_iff.mp e).1
  rw [List.getElem?_append_left hn]; exact e
theorem Pre.len {α β : List Addr} (h : Pre α β) : α.length ≤ β.length := by
  obtain ⟨x, rfl⟩ := h
  simp

section
variable {K : KW} {α β : List Addr} {H H' : Hp}
theorem DR.mono (p : Pre α β) (e : Ext H H') : ∀ {d : D} {v : V}, DR K α H d v → DR K β H' d v
  | .py q, v, h => Im.ext e q v h
  | .ref n, v, h => by
    obtain ⟨a, h1, h2⟩ := h
    exact ⟨a, p.get h1, h2⟩
theorem DRs.mono (p : Pre α β) (e : Ext H H') : ∀ {ds : List D} {vs : List V}, DRs K α H ds vs → DRs K β H' ds vs
  | [], vs, h => h
  | d :: ds, vs, h => by
    obtain ⟨v, r, e1, h1, h2⟩ := h
    exact ⟨v, r, e1, h1.mono p e, DRs.mono p e h2⟩
theorem DRs.length : ∀ {ds : List D} {vs : List V}, DRs K α H ds vs → ds.length = vs.length
  | [], vs, h => by have h : vs = [] := h; subst h; rfl
  | d :: ds, vs, h => by
    obtain ⟨v, r, e1, h1, h2⟩ := h
    subst e1
    rw [List.length_cons, List.length_cons, DRs.length h2]
theorem EvR.mono (p : Pre α β) (e : Ext H H') {env : Ev} {σ : L2.St} (h : EvR K α H env σ) : EvR K β H' env σ :=
  ⟨h.len, fun i d q => by
    obtain ⟨v, h1, h2⟩ := h.at_ i d q
    exact ⟨v, h1, h2.mono p e⟩⟩
theorem EvR.set {env : Ev} {σ : L2.St} (h : EvR K α H env σ) (i : Nat) {d : D} {v : V} (r : DR K α H d v) : EvR K α H (env.set i (some d)) (σ.set i (some v)) := by
  refine ⟨by rw [List.length_set, List.length_set]; exact h.len, fun j d' q => ?_⟩
  by_cases e : i = j
  · subst e
    by_cases hi : i < env.length
    · rw [List.getElem?_set_self hi] at q
      have q : d = d' := by simpa using q
      subst q
      refine ⟨v, ?_, r⟩
      rw [List.getElem?_set_self (by rw [← h.len]; exact hi)]
    · rw [List.getElem?_eq_none (by rw [List.length_set]; omega)] at q
      cases q
  · rw [List.getElem?_set_ne e] at q
    obtain ⟨w, h1, h2⟩ := h.at_ j d' q
    exact ⟨w, by rw [List.getElem?_set_ne e]; exact h1, h2⟩
/-- an object of the store as data -/
theorem StR.lst {st : Sto} (S : StR K α H st) {n : Nat} {xs : List P} (h : st[n]? = some (.lst xs)) : ∃ a vs, α[n]? = some a ∧ H a = some (.lst vs) ∧ vs.length ≤ sizeLine ∧ ImAll K H xs vs := by
  have hn := (List.getElem?_eq_some_iff.mp h).1
  have hn' : n < α.length := by rw [S.len]; exact hn
  have e := List.getElem?_eq_getElem hn'
  obtain ⟨vs, h1, h2, h3⟩ := S.ob n _ _ h e
  exact ⟨_, vs, e, h1, h2, h3⟩
theorem StR.some_ {st : Sto} (S : StR K α H st) {a : Addr} (ha : a ∈ α) : ∃ o, H a = some o := by
  obtain ⟨m, hm⟩ := List.getElem?_of_mem ha
  have hl : m < st.length := by rw [← S.len]; exact (List.getElem?_eq_some_iff.mp hm).1
  have q := S.ob m _ a (List.getElem?_eq_getElem hl) hm
  cases o : st[m] with
  | lst ds => rw [o] at q; obtain ⟨vs, q1, _⟩ := q; exact ⟨_, q1⟩
  | dct _ => rw [o] at q; obtain ⟨u, ws, q1, _⟩ := q; exact ⟨_, q1⟩
  | dead => rw [o] at q; exact q
theorem StR.out {st : Sto} (S : StR K α H st) {p : Addr} (n : H p = none) : p ∉ α := fun hp => by
  obtain ⟨o, e⟩ := S.some_ hp
  rw [n] at e; cases e
/-- the store's own objects are as they were -/
theorem StR.keep {st : Sto} (S : StR K α H st) (e : Ext H H') (k : ∀ a, a ∈ α → H' a = H a) : StR K α H' st := by
  refine ⟨S.len, S.nd, fun n o a h1 h2 => ?_⟩
  have q := S.ob n o a h1 h2
  have ka := k a (List.mem_of_getElem? h2)
  cases o with
  | lst ds =>
    obtain ⟨vs, q1, q2, q3⟩ := q
    exact ⟨vs, by rw [ka]; exact q1, q2, ImAll.ext e _ _ q3⟩
  | dct kvs =>
    obtain ⟨u, ws, q1, q2, q3, q4⟩ := q
    exact ⟨u, ws, by rw [ka]; exact q1, q2, q3, ImKvs.ext e _ _ q4⟩
  | dead =>
    obtain ⟨o, q⟩ := q
    exact ⟨o, by rw [ka]; exact q⟩
theorem StR.new {st : Sto} (S : StR K α H st) {p : Addr} {o : HO} (n : H p = none) : StR K α (upd H p o) st :=
  S.keep (Ext.new n) fun a ha => upd_ne fun e => S.out n (e ▸ ha)
theorem StR.froz {st : Sto} (S : StR K α H st) {p : Addr} {o u : HO} (h : H p = some u) (m : Mut (some u)) (n : p ∉ α) : StR K α (upd H p o) st :=
  S.keep (Ext.mut h m) fun a ha => upd_ne fun e => n (e ▸ ha)
/-- readable as data: as Im, but a list may be one that changes later -/
def PR (K : KW) (H : Hp) : P → V → Prop
  | .list ds, v => ∃ a vs, v = .ref a ∧ SqL K.K H a vs ∧ vs.length ≤ sizeLine ∧ ImAll K H ds vs
  | .dict kvs, v => ∃ a u ws, v = .ref a ∧ Rd H a u ∧ DHo K.w (kvs.map fun q => nk q.1) ws a u ∧ kvs.length ≤ sizeLine ∧ ImKvs K H kvs ws
  | p, v => Im K H p v
theorem Im.pr : ∀ {p : P} {v : V}, Im K H p v → PR K H p v
  | .none, v, h => h
  | .bool b, v, h => h
  | .int i, v, h => h
  | .str s, v, h => h
  | .list ds, v, h => by
    obtain ⟨a, vs, e, h1, h2, h3⟩ := h
    exact ⟨a, vs, e, h1.sq, h2, h3⟩
  | .tuple ds, v, h => h
  | .dict _, v, h => by
    obtain ⟨a, o, u, ws, e, h1, h2, h3, h4⟩ := h
    exact ⟨a, u, ws, e, .inr ⟨o, h1⟩, h2, h3, h4⟩
theorem DR.pr {st : Sto} (S : StR K α H st) {d : D} {v : V} {p : P} (h : DR K α H d v) (e : deref st d = some p) : PR K H p v := by
  cases d with
  | py q =>
    have e : some q = some p := e
    cases e
    exact Im.pr h
  | ref n =>
    obtain ⟨a, h1, h2⟩ := h
    subst h2
    simp only [deref] at e
    split at e
    · rename_i xs q
      cases e
      have z := S.ob n _ a q h1
      obtain ⟨vs, z1, z2, z3⟩ := z
      exact ⟨a, vs, rfl, .inl (.inl z1), z2, z3⟩
    · rename_i kvs q
      cases e
      obtain ⟨u, ws, z1, z2, z3, z4⟩ := S.ob n _ a q h1
      exact ⟨a, u, ws, rfl, .inl z1, z2, z3, z4⟩
    · cases e
theorem RvR.pr {st : Sto} (S : StR K α H st) {r : Rv} {v : V} {p : P} (h : RvR K α H r v) (e : asP st r = some p) : PR K H p v := by
  cases r with
  | im d => exact DR.pr S h e
  | nl ds =>
    have e : some (PyData.list ds) = some p := e
    cases e
    obtain ⟨a, vs, e1, h1, h2, h3, _⟩ := h
    exact ⟨a, vs, e1, .inl (.inl h1), h2, h3⟩
  | nd kvs =>
    have e : some (PyData.dict kvs) = some p := e
    cases e
    obtain ⟨a, u, ws, e1, h1, h2, h3, h4, _⟩ := h
    exact ⟨a, u, ws, e1, .inl h1, h2, h3, h4⟩
theorem PR.reads {X : Cx} {pins : List (Addr × Obj)} {σ : L2.St} {H : Hp} {s : Shared} (I : Inv X pins σ H s) {p : P} {v : V} {u : Value} (h : PR X.kw H p v) (r : RelV v u) : ∃ as, Reads s.heap u p as := by
  cases p with
  | list ds =>
    obtain ⟨a, vs, e, h1, h2, h3⟩ := h
    subst e
    cases (show u = Value.ref a from r)
    obtain ⟨its, rv, ⟨o, n, e1, e2, e3, e4⟩, _⟩ := I.list h1
    obtain ⟨as, q⟩ := ImAll.reads I ds vs its h3 rv
    exact ⟨_, .list e1 e2 e4 (by simpa using q)⟩
  | none => exact Im.reads I _ v u h r
  | bool b => exact Im.reads I _ v u h r
  | int i => exact Im.reads I _ v u h r
  | str x => exact Im.reads I _ v u h r
  | tuple ds => exact Im.reads I _ v u h r
  | dict kvs =>
    obtain ⟨a, y, ws, e, h1, h2, h3, h4⟩ := h
    subst e
    cases (show u = Value.ref a from r)
    obtain ⟨o, es, ep, ho, hx, hd, _, hp⟩ := DHo.at I h1 h2
    obtain ⟨as, bs, q1, q2⟩ := ImKvs.reads I kvs ws es.toList h4 hp
    exact ⟨_, .dict ho hx.1 hd q1 q2⟩
end
end Kp

/-! Kp, part 4: what is to be shown of a step; freezing. -/
namespace Kp
open PySem PySem.Spec PyProof.Rows L2

/-- the fixed things: the module's own objects, the classes by number -/
structure Fx where
  K : KW
  cls : Nat → Value

/-- how an exception's attributes stand -/
def ExcR (K : KW) (H : Hp) (fs : List (Str × P)) (d : Option Addr) : Prop :=
  match fs with
  | [] => d = none
  | fs => ∃ dx vs, d = some dx ∧ H dx = some (.xd vs) ∧ ∀ f p, fs.lookup f = some p → ∃ v, vs.lookup f = some v ∧ Im K H p v

theorem sqlX {X : Cx} {F : Fx} {H : Hp} {a : Addr} {vs : List V} (hF : F.K = X.kw) (h : SqL F.K.K H a vs) : SqL X.K H a vs := by
  rw [hF] at h
  exact h
theorem sqtX {X : Cx} {F : Fx} {H : Hp} {a : Addr} {vs : List V} (hF : F.K = X.kw) (h : SqT F.K.K H a vs) : SqT X.K H a vs := by
  rw [hF] at h
  exact h
section
variable {β γ δ : Type}
/-- from a result of the evaluator: what is wanted behind it -/
def Out (F : Fx) (W : WX) (RR : List Addr → Hp → β → γ → Prop) (σ : L2.St) (α : List Addr) (H : Hp) (m : R β) (Q : γ → Hp → Prop) : Prop :=
  match m with
  | .ok r st => ∀ (g : γ) (H' : Hp) (α' : List Addr), Pre α α' → Ext H H' → StR F.K α' H' st → RR α' H' r g → Q g H'
  | .exc c fs st => ∀ (d : Option Addr) (H' : Hp) (α' : List Addr), Pre α α' → Ext H H' → StR F.K α' H' st → ExcR F.K H' fs d → W (F.cls c) d σ H'
  | .bad => False
theorem Out.mono {F : Fx} {W : WX} {RR : List Addr → Hp → β → γ → Prop} {σ : L2.St} {α α1 : List Addr} {H H1 : Hp} {m : R β} {Q : γ → Hp → Prop}
    (h : Out F W RR σ α H m Q) (p : Pre α α1) (e : Ext H H1) : Out F W RR σ α1 H1 m Q := by
  cases m with
  | ok r st => exact fun g H' α' p' e' => h g H' α' (p.trans p') (e.trans e')
  | exc c fs st => exact fun d H' α' p' e' => h d H' α' (p.trans p') (e.trans e')
  | bad => exact h
theorem Out.imp {F : Fx} {W : WX} {RR : List Addr → Hp → β → γ → Prop} {σ : L2.St} {α : List Addr} {H : Hp} {m : R β} {Q Q' : γ → Hp → Prop}
    (h : Out F W RR σ α H m Q) (q : ∀ g H, Q g H → Q' g H) : Out F W RR σ α H m Q' := by
  cases m with
  | ok r st => exact fun g H' α' p' e' s rr => q _ _ (h g H' α' p' e' s rr)
  | exc c fs st => exact h
  | bad => exact h

/-- the reading of a tree that the evaluator gives the meaning m -/
def tM (F : Fx) (W : WX) (RR : List Addr → Hp → β → γ → Prop) (m : Ev → Sto → R β) : L2.St → Hp → (γ → Hp → Prop) → Prop := fun σ H Q =>
  ∃ env st α, EvR F.K α H env σ ∧ StR F.K α H st ∧ Out F W RR σ α H (m env st) Q
theorem tM.imp {F : Fx} {W : WX} {RR : List Addr → Hp → β → γ → Prop} {m : Ev → Sto → R β} {σ : L2.St} {H : Hp} {Q Q' : γ → Hp → Prop} (h : tM F W RR m σ H Q) (q : ∀ g H, Q g H → Q' g H) : tM F W RR m σ H Q' := by
  obtain ⟨env, st, α, hE, hS, ho⟩ := h
  exact ⟨env, st, α, hE, hS, ho.imp q⟩
/-- behind a part: what stands -/
structure At (F : Fx) (σ : L2.St) (α α1 : List Addr) (H H1 : Hp) (env : Ev) (st1 : Sto) : Prop where
  pre : Pre α α1
  ext : Ext H H1
  E : EvR F.K α1 H1 env σ
  S : StR F.K α1 H1 st1
theorem tM.bind {F : Fx} {W : WX} {RR : List Addr → Hp → β → γ → Prop} {ζ : Type} {RR' : List Addr → Hp → δ → ζ → Prop} {σ : L2.St} {α : List Addr} {H : Hp} {m : Ev → Sto → R β} {f : β → Sto → R δ} {Q : ζ → Hp → Prop} {env : Ev} {st : Sto}
    (hE : EvR F.K α H env σ) (hS : StR F.K α H st) (h : Out F W RR' σ α H ((m env st).bind f) Q) :
    tM F W RR m σ H fun g H1 => ∃ r st1 α1, At F σ α α1 H H1 env st1 ∧ RR α1 H1 r g ∧ Out F W RR' σ α1 H1 (f r st1) Q := by
  refine ⟨env, st, α, hE, hS, ?_⟩
  cases e : m env st with
  | ok r st1 =>
    rw [e] at h
    exact fun g H1 α1 p x s rr => ⟨r, st1, α1, ⟨p, x, hE.mono p x, s⟩, rr, Out.mono (show Out F W RR' σ α H (f r st1) Q from h) p x⟩
  | exc c fs st1 =>
    rw [e] at h
    exact h
  | bad =>
    rw [e] at h
    exact h
end

/-! ### freezing -/
section
variable {X : Cx} {F : Fx} {W : WX}
theorem _root_.L2.PE.imp {e : Expr} {t t' : TE} (h : PE X e t) (i : ∀ σ H Q, t' σ H Q → t σ H Q) : PE X e t' := ⟨fun pins s σ H Q I q => h.run pins s σ H Q I (i _ _ _ q)⟩
theorem _root_.L2.PT.imp {e : Expr} {t t' : TT} (h : PT X e t) (i : ∀ σ H Q, t' σ H Q → t σ H Q) : PT X e t' := ⟨fun pins s σ H Q I q => h.run pins s σ H Q I (i _ _ _ q)⟩
theorem _root_.L2.PW.imp {e : Expr} {t t' : TT} (h : PW X e t) (i : ∀ σ H Q, t' σ H Q → t σ H Q) : PW X e t' := ⟨fun w pins s σ H Q I q => h.run w pins s σ H Q I (i _ _ _ q)⟩
theorem _root_.L2.PA.imp {e : List Expr} {t t' : TA} (h : PA X e t) (i : ∀ σ H Q, t' σ H Q → t σ H Q) : PA X e t' := ⟨fun p pins s σ H Q I q => h.run p pins s σ H Q I (i _ _ _ q)⟩
theorem _root_.L2.PS.imp {e : Stmt} {t t' : TS} (h : PS X e t) (i : ∀ D σ H, t' D σ H → t D σ H) : PS X e t' := ⟨fun pins s σ H D I q => h.run pins s σ H D I (i _ _ _ q)⟩
theorem _root_.L2.PSs.imp {e : List Stmt} {t t' : TS} (h : PSs X e t) (i : ∀ D σ H, t' D σ H → t D σ H) : PSs X e t' := ⟨fun pins s σ H D I q => h.run pins s σ H D I (i _ _ _ q)⟩

/-- a new list may be frozen at once -/
theorem pe_frz {e : Expr} {m : Ev → Sto → R Rv} (hF : F.K = X.kw) (h : PE X e (tM F W (RvR F.K) m)) : PE X e (tM F W (RvF F.K) m) := by
  refine ⟨fun pins s σ H Q I q => ?_⟩
  obtain ⟨env, st, α, hE, hS, ho⟩ := q
  refine thn (h.run pins s σ H (fun v H1 => (Q v H1) ∨ ∃ a y, v = .ref a ∧ H1 a = some y ∧ Mut (some y) ∧ ∀ o, Q v (upd H1 a (.frz o y))) I ⟨env, st, α, hE, hS, ?_⟩) fun u s1 hq => ?_
  · cases em : m env st with
    | bad => rw [em] at ho; exact ho
    | exc c fs st1 => rw [em] at ho; exact ho
    | ok r st1 =>
      rw [em] at ho
      intro v H1 α1 p x S rr
      cases r with
      | im d => exact .inl (ho v H1 α1 p x S rr)
      | nd kvs =>
        obtain ⟨a, y, ws, e1, h1, h2, h3, h4, h5⟩ := rr
        refine .inr ⟨a, y, e1, h1, h2.mut, fun o => ?_⟩
        have xe : Ext H1 (upd H1 a (.frz o y)) := Ext.mut h1 h2.mut
        exact ho v _ α1 p (x.trans xe) (S.froz h1 h2.mut h5) ⟨a, o, y, ws, e1, upd_same, h2, h3, ImKvs.ext xe _ _ h4⟩
      | nl ds =>
        obtain ⟨a, vs, e1, h1, h2, h3, h4⟩ := rr
        refine .inr ⟨a, _, e1, h1, trivial, fun o => ?_⟩
        have xe : Ext H1 (upd H1 a (.frz o (.lst vs))) := Ext.lst h1
        exact ho v _ α1 p (x.trans xe) (S.froz h1 trivial h4) ⟨a, vs, e1, .inl ⟨o, upd_same⟩, h2, ImAll.ext xe _ _ h3⟩
  · obtain ⟨v, H1, I1, rv, hq⟩ := hq
    rcases hq with hq | ⟨a, y, e1, h1, hm, hq⟩
    · exact ⟨v, H1, I1, rv, hq⟩
    · obtain ⟨o, I2⟩ := I1.lock h1 hm
      exact ⟨v, _, I2, rv, hq o⟩
end

/-! ### results -/
section
variable {F : Fx} {W : WX} {σ : L2.St} {α : List Addr} {H : Hp} {st : Sto} {Q : VK}
theorem Out.im {d : D} {v : V} (h : Out F W (RvR F.K) σ α H (.ok (.im d) st) Q) (S : StR F.K α H st) (i : DR F.K α H d v) : Q v H := h v H α Pre.refl Ext.refl S i
theorem Out.one {p : P} {v : V} (h : Out F W (RvR F.K) σ α H (ok1 p st) Q) (S : StR F.K α H st) (i : Im F.K H p v) : Q v H := h v H α Pre.refl Ext.refl S i
theorem Out.tup {ps : List P} {vs : List V} {a : Addr} (h : Out F W (RvR F.K) σ α H (ok1 (.tuple ps) st) Q) (S : StR F.K α H st) (n : H a = none) (z : vs.length ≤ sizeLine) (i : ImAll F.K H ps vs) : Q (.ref a) (upd H a (.tup vs)) :=
  h (.ref a) _ α Pre.refl (Ext.new n) (S.new n) ⟨a, vs, rfl, .inl (.inl upd_same), z, ImAll.ext (Ext.new n) _ _ i⟩
theorem Out.lst {ps : List P} {vs : List V} {a : Addr} (h : Out F W (RvR F.K) σ α H (.ok (.nl ps) st) Q) (S : StR F.K α H st) (n : H a = none) (z : vs.length ≤ sizeLine) (i : ImAll F.K H ps vs) : Q (.ref a) (upd H a (.lst vs)) :=
  h (.ref a) _ α Pre.refl (Ext.new n) (S.new n) ⟨a, vs, rfl, upd_same, z, ImAll.ext (Ext.new n) _ _ i, S.out n⟩
theorem Out.chk {β γ : Type} {RR : List Addr → Hp → β → γ → Prop} {c : Bool} {m : R β} {Q : γ → Hp → Prop} (h : Out F W RR σ α H (Kp.chk c m) Q) : c = true ∧ Out F W RR σ α H m Q := by
  unfold Kp.chk at h
  cases c with
  | true => exact ⟨rfl, h⟩
  | false => exact h.elim
end
end Kp

/-! Kp: dicts. -/
namespace Kp
open PySem PySem.Spec PyProof.Rows L2

theorem all_cons2 {α : Type} {f : α → Bool} {x : α} {xs : List α} (h : (x :: xs).all f = true) : f x = true ∧ xs.all f = true := by
  rwa [List.all_cons, Bool.and_eq_true] at h
theorem keyS_str {p : P} (h : keyS p = true) : ∃ z, p = .str z := by
  cases p <;> first | exact ⟨_, rfl⟩ | cases h
theorem keyT_tup {p : P} (h : keyT p = true) : ∃ ps, p = .tuple ps ∧ keyN p = true ∧ (nk p).depth ≤ 8 := by
  cases p <;> first | (cases h; done) | skip
  rename_i ps
  have h : (keyNs ps && decide ((PyData.tuple ps).depth ≤ 8)) = true := h
  rw [Bool.and_eq_true] at h
  have hn : keyN (.tuple ps) = true := by rw [keyN]; exact h.1
  exact ⟨ps, rfl, hn, by rw [nk_depth _ hn]; exact of_decide_eq_true h.2⟩
section
variable {K : KW} {H : Hp}
theorem ImKvs.len : ∀ {kvs : List (P × P)} {ws : List (V × V)}, ImKvs K H kvs ws → kvs.length = ws.length
  | [], ws, h => by have h : ws = [] := h; subst h; rfl
  | (k, p) :: r, ws, h => by
    obtain ⟨x, v, t, e, _, _, h3⟩ := h
    subst e
    rw [List.length_cons, List.length_cons, ImKvs.len h3]
theorem dkWs_cons {x v : V} {t : List (V × V)} : ∀ {ks : List (Key × V)}, dkWs ks = (x, v) :: t → ∃ k r, ks = (k, v) :: r ∧ x = kV k ∧ t = dkWs r
  | [], h => by cases h
  | (k, u) :: r, h => by
    have h : (kV k, u) :: dkWs r = (x, v) :: t := h
    injection h with h1 h2
    injection h1 with h3 h4
    exact ⟨k, r, by rw [h4], h3.symm, h2.symm⟩
/-- text keys: what is found -/
theorem val_str (z : Str) : ∀ {kvs : List (P × P)} {ks : List (Key × V)}, ImKvs K H kvs (dkWs ks) → (kvs.all fun q => keyS q.1) = true →
    (∀ p, dGet kvs (.str z) = some p → ∃ v, valV ks (.inr z) = some v ∧ Im K H p v) ∧ (dGet kvs (.str z) = none → valV ks (.inr z) = none)
  | [], ks, h, _ => by
    have h : dkWs ks = [] := h
    have e : ks = [] := by cases ks <;> first | rfl | cases h
    subst e
    exact ⟨fun p e => (by cases e), fun _ => rfl⟩
  | (k, p) :: r, ks, h, ha => by
    obtain ⟨x, v, t, e, h1, h2, h3⟩ := h
    obtain ⟨hk, hr⟩ := all_cons2 ha
    obtain ⟨y, ey⟩ := keyS_str (p := k) hk
    subst ey
    have h1 : x = .str y := h1
    obtain ⟨k', ks', rfl, ek, et⟩ := dkWs_cons e
    have ek' : k' = .inr y := by
      rw [h1] at ek
      cases k' with
      | inl i => cases ek
      | inr s => injection ek with q; rw [q]
    subst ek'
    rw [et] at h3
    obtain ⟨i1, i2⟩ := val_str z h3 hr
    by_cases hz : y = z
    · subst hz
      have e1 : dGet ((.str y, p) :: r) (.str y) = some p := by
        unfold dGet
        rw [List.find?_cons]
        have : (PyData.str y).eqv (.str y) = true := by show (y == y) = true; exact beq_self_eq_true y
        simp only [this]
        rfl
      rw [e1, valV_pos rfl]
      exact ⟨fun q e => by cases e; exact ⟨v, rfl, h2⟩, fun e => by cases e⟩
    · have e1 : dGet ((.str y, p) :: r) (.str z) = dGet r (.str z) := by
        unfold dGet
        rw [List.find?_cons]
        have : (PyData.str y).eqv (.str z) = false := by show (y == z) = false; exact beq_eq_false_iff_ne.mpr hz
        simp only [this]
      have e2 : valV ((Sum.inr y, v) :: ks') (.inr z) = valV ks' (.inr z) := valV_neg (fun e => hz (Sum.inr.inj e))
      rw [e1, e2]
      exact ⟨i1, i2⟩
theorem any_str (z : Str) : ∀ {kvs : List (P × P)} {ks : List (Key × V)}, ImKvs K H kvs (dkWs ks) → (kvs.all fun q => keyS q.1) = true → (kvs.any fun q => q.1.eqv (.str z)) = (ks.any fun q => decide (q.1 = .inr z))
  | [], ks, h, _ => by
    have h : dkWs ks = [] := h
    have e : ks = [] := by cases ks <;> first | rfl | cases h
    subst e
    rfl
  | (k, p) :: r, ks, h, ha => by
    obtain ⟨x, v, t, e, h1, h2, h3⟩ := h
    obtain ⟨hk, hr⟩ := all_cons2 ha
    obtain ⟨y, ey⟩ := keyS_str (p := k) hk
    subst ey
    have h1 : x = .str y := h1
    obtain ⟨k', ks', rfl, ek, et⟩ := dkWs_cons e
    have ek' : k' = .inr y := by
      rw [h1] at ek
      cases k' with
      | inl i => cases ek
      | inr s => injection ek with q; rw [q]
    subst ek'
    rw [et] at h3
    rw [List.any_cons, List.any_cons, any_str z h3 hr]
    congr 1
    show (y == z) = decide ((Sum.inr y : Key) = Sum.inr z)
    rw [key_rr]
    rfl
/-- .. what is put -/
theorem put_map_str (z : Str) {p : P} {v : V} (hp : Im K H p v) : ∀ {kvs : List (P × P)} {ks : List (Key × V)}, ImKvs K H kvs (dkWs ks) → (kvs.all fun q => keyS q.1) = true →
    ImKvs K H (kvs.map fun q => if q.1.eqv (.str z) then (q.1, p) else q) (dkWs (ks.map fun kv => if kv.1 = .inr z then (kv.1, v) else kv))
  | [], ks, h, _ => by
    have h : dkWs ks = [] := h
    have e : ks = [] := by cases ks <;> first | rfl | cases h
    subst e
    exact h
  | (k, p0) :: r, ks, h, ha => by
    obtain ⟨x, u, t, e, h1, h2, h3⟩ := h
    obtain ⟨hk, hr⟩ := all_cons2 ha
    obtain ⟨y, ey⟩ := keyS_str (p := k) hk
    subst ey
    have h1 : x = .str y := h1
    obtain ⟨k', ks', rfl, ek, et⟩ := dkWs_cons e
    have ek' : k' = .inr y := by
      rw [h1] at ek
      cases k' with
      | inl i => cases ek
      | inr s => injection ek with q; rw [q]
    subst ek'
    rw [et] at h3
    have ih := put_map_str z hp h3 hr
    by_cases hz : y = z
    · subst hz
      have e1 : (PyData.str y).eqv (.str y) = true := by show (y == y) = true; exact beq_self_eq_true y
      rw [List.map_cons, List.map_cons]
      simp only [e1, if_true]
      exact ⟨.str y, v, _, rfl, rfl, hp, ih⟩
    · have e1 : (PyData.str y).eqv (.str z) = false := by show (y == z) = false; exact beq_eq_false_iff_ne.mpr hz
      have e2 : ¬ (Sum.inr y : Key) = .inr z := fun e => hz (Sum.inr.inj e)
      rw [List.map_cons, List.map_cons]
      simp only [e1, if_neg e2]
      exact ⟨.str y, u, _, rfl, rfl, h2, ih⟩
theorem dkWs_app (a b : List (Key × V)) : dkWs (a ++ b) = dkWs a ++ dkWs b := by simp [dkWs]
theorem ImKvs.app : ∀ {kvs kvs' : List (P × P)} {ws ws' : List (V × V)}, ImKvs K H kvs ws → ImKvs K H kvs' ws' → ImKvs K H (kvs ++ kvs') (ws ++ ws')
  | [], _, ws, _, h, g => by have h : ws = [] := h; subst h; exact g
  | (k, p) :: r, _, ws, _, h, g => by
    obtain ⟨x, v, t, e, h1, h2, h3⟩ := h
    subst e
    exact ⟨x, v, t ++ _, rfl, h1, h2, h3.app g⟩
theorem put_str (z : Str) {p : P} {v : V} {kvs : List (P × P)} {ks : List (Key × V)} (hp : Im K H p v) (h : ImKvs K H kvs (dkWs ks)) (ha : (kvs.all fun q => keyS q.1) = true) :
    ImKvs K H (dPut kvs (.str z) p) (dkWs (putK ks (.inr z) v)) := by
  have e := any_str z h ha
  unfold dPut putK
  rw [e]
  split
  · exact put_map_str z hp h ha
  · rw [dkWs_app]
    exact h.app ⟨.str z, v, [], rfl, rfl, hp, rfl⟩
theorem keys_putK {ks : List (Key × V)} {k : Key} {v : V} (h : (ks.map (·.1)).Nodup) : ((putK ks k v).map (·.1)).Nodup := by
  unfold putK
  split
  · have e : (ks.map fun kv => if kv.1 = k then (kv.1, v) else kv).map (·.1) = ks.map (·.1) := by
      rw [List.map_map]
      refine List.map_congr_left fun x _ => ?_
      show (if x.1 = k then (x.1, v) else x).1 = x.1
      split <;> rfl
    rw [e]; exact h
  · rename_i hn
    rw [List.map_append, List.nodup_append]
    refine ⟨h, by simp, fun a ha b hb e => ?_⟩
    have hb : b = k := by simpa using hb
    subst e
    obtain ⟨x, hx, rfl⟩ := List.mem_map.mp ha
    refine hn (List.any_eq_true.mpr ⟨x, hx, ?_⟩)
    rw [hb]
    simp
/-! tuple keys -/
abbrev Nx := NestedKey × Addr × Value
abbrev NdP : List (V × V) → List Nx → Prop := Paired (fun (q : V × V) (x : Nx) => q.1 = .ref x.2.1 ∧ RelV q.2 x.2.2)
theorem nk_dec {p q : P} (hp : keyN p = true) (hq : keyN q = true) : decide (nk p = nk q) = p.eqv q := by rw [NestedKey.decide_eq, nk_beq p q hp hq]
theorem val_nd {k : P} (hk : keyT k = true) : ∀ {kvs : List (P × P)} {ws : List (V × V)} {xs : List Nx}, ImKvs K H kvs ws → NdP ws xs → xs.map (·.1) = kvs.map (fun q => nk q.1) → (kvs.all fun q => keyT q.1) = true →
    (∀ p, dGet kvs k = some p → ∃ (b : Addr × Value) (v : V), atKey xs (nk k) = some b ∧ RelV v b.2 ∧ Im K H p v) ∧ (dGet kvs k = none → atKey xs (nk k) = none)
  | [], ws, xs, h, hp, _, _ => by
    have h : ws = [] := h
    subst h
    cases hp
    exact ⟨fun p e => (by cases e), fun _ => rfl⟩
  | (k0, p0) :: r, ws, xs, h, hp, hx, ha => by
    obtain ⟨x, v, t, e, h1, h2, h3⟩ := h
    subst e
    obtain ⟨hk0, hr⟩ := all_cons2 ha
    cases hp with
    | @cons _ y _ ys r1 r2 =>
      rw [List.map_cons, List.map_cons] at hx
      injection hx with hx1 hx2
      obtain ⟨i1, i2⟩ := val_nd hk h3 r2 hx2 hr
      obtain ⟨_, _, n0, _⟩ := keyT_tup hk0
      obtain ⟨_, _, n1, _⟩ := keyT_tup hk
      have hd := nk_dec n0 n1
      have hx1 : y.1 = nk k0 := hx1
      cases he : k0.eqv k with
      | true =>
        rw [he] at hd
        have e1 : dGet ((k0, p0) :: r) k = some p0 := by
          unfold dGet
          rw [List.find?_cons]
          simp only [he]
          rfl
        have e2 : atKey (y :: ys) (nk k) = some y.2 := by
          unfold atKey
          rw [List.find?_cons]
          simp only [hx1, hd]
          rfl
        rw [e1, e2]
        exact ⟨fun q e => by cases e; exact ⟨y.2, v, rfl, r1.2, h2⟩, fun e => by cases e⟩
      | false =>
        rw [he] at hd
        have e1 : dGet ((k0, p0) :: r) k = dGet r k := by
          unfold dGet
          rw [List.find?_cons]
          simp only [he]
        have e2 : atKey (y :: ys) (nk k) = atKey ys (nk k) := by
          unfold atKey
          rw [List.find?_cons]
          simp only [hx1, hd]
        rw [e1, e2]
        exact ⟨i1, i2⟩
theorem any_get (k : P) : ∀ kvs : List (P × P), (kvs.any fun q => q.1.eqv k) = (dGet kvs k).isSome
  | [] => rfl
  | q :: r => by
    unfold dGet
    rw [List.any_cons, List.find?_cons]
    cases q.1.eqv k with
    | true => rfl
    | false =>
      rw [Bool.false_or, any_get k r]
      rfl
theorem put_map_nd {k p : P} {v : V} {u : Value} (hk : keyT k = true) (hp : Im K H p v) (hv : RelV v u) : ∀ {kvs : List (P × P)} {ws : List (V × V)} {xs : List Nx}, ImKvs K H kvs ws → NdP ws xs → xs.map (·.1) = kvs.map (fun q => nk q.1) → (kvs.all fun q => keyT q.1) = true →
    ∃ ws', ImKvs K H (kvs.map fun q => if q.1.eqv k then (q.1, p) else q) ws' ∧ NdP ws' (xs.map (putAt (nk k) u))
  | [], ws, xs, h, hn, _, _ => by
    have h : ws = [] := h
    subst h
    cases hn
    exact ⟨[], rfl, .nil⟩
  | (k0, p0) :: r, ws, xs, h, hn, hx, ha => by
    obtain ⟨x, w, t, e, h1, h2, h3⟩ := h
    subst e
    obtain ⟨hk0, hr⟩ := all_cons2 ha
    cases hn with
    | @cons _ y _ ys r1 r2 =>
      rw [List.map_cons, List.map_cons] at hx
      injection hx with hx1 hx2
      obtain ⟨ws', i1, i2⟩ := put_map_nd hk hp hv h3 r2 hx2 hr
      obtain ⟨_, _, n0, _⟩ := keyT_tup hk0
      obtain ⟨_, _, n1, _⟩ := keyT_tup hk
      have hd := nk_dec n0 n1
      have hx1 : y.1 = nk k0 := hx1
      rw [List.map_cons, List.map_cons]
      cases he : k0.eqv k with
      | true =>
        rw [he] at hd
        have hd := of_decide_eq_true hd
        refine ⟨(x, v) :: ws', ?_, ?_⟩
        · rw [if_pos rfl]
          exact ⟨x, v, ws', rfl, h1, hp, i1⟩
        · refine .cons ⟨?_, ?_⟩ i2
          · unfold putAt; rw [if_pos (hx1.trans hd)]; exact r1.1
          · unfold putAt; rw [if_pos (hx1.trans hd)]; exact hv
      | false =>
        rw [he] at hd
        have hd := of_decide_eq_false hd
        refine ⟨(x, w) :: ws', ?_, ?_⟩
        · rw [if_neg Bool.false_ne_true]
          exact ⟨x, w, ws', rfl, h1, h2, i1⟩
        · refine .cons ⟨?_, ?_⟩ i2
          · unfold putAt; rw [if_neg (fun z => hd (hx1.symm.trans z))]; exact r1.1
          · unfold putAt; rw [if_neg (fun z => hd (hx1.symm.trans z))]; exact r1.2
theorem NdP.app : ∀ {ws ws' : List (V × V)} {xs xs' : List Nx}, NdP ws xs → NdP ws' xs' → NdP (ws ++ ws') (xs ++ xs')
  | _, _, _, _, .nil, g => g
  | _, _, _, _, .cons r rs, g => .cons r (NdP.app rs g)
theorem put_nd {k p : P} {v : V} {u : Value} {b : Addr} {kvs : List (P × P)} {ws : List (V × V)} {xs : List Nx} (hk : keyT k = true) (hkb : Im K H k (.ref b)) (hp : Im K H p v) (hv : RelV v u) (h : ImKvs K H kvs ws) (hn : NdP ws xs) (hx : xs.map (·.1) = kvs.map (fun q => nk q.1)) (ha : (kvs.all fun q => keyT q.1) = true) :
    ∃ ws', ImKvs K H (dPut kvs k p) ws' ∧ NdP ws' (storedH xs (nk k) b u) ∧ (storedH xs (nk k) b u).map (·.1) = (dPut kvs k p).map (fun q => nk q.1) := by
  obtain ⟨i1, i2⟩ := val_nd hk h hn hx ha
  unfold dPut storedH
  rw [any_get]
  cases e : dGet kvs k with
  | some q =>
    obtain ⟨c, w, e1, _⟩ := i1 q e
    rw [e1]
    obtain ⟨ws', j1, j2⟩ := put_map_nd hk hp hv h hn hx ha
    refine ⟨ws', by simpa using j1, by simpa using j2, ?_⟩
    simp only [Option.isSome_some, if_true]
    have a1 : (xs.map (putAt (nk k) u)).map (·.1) = xs.map (·.1) := by
      rw [List.map_map]
      refine List.map_congr_left fun y _ => ?_
      show (putAt (nk k) u y).1 = y.1
      unfold putAt
      split <;> rfl
    have a2 : (kvs.map fun q => if q.1.eqv k then (q.1, p) else q).map (fun q => nk q.1) = kvs.map (fun q => nk q.1) := by
      rw [List.map_map]
      refine List.map_congr_left fun y _ => ?_
      show nk (if y.1.eqv k then (y.1, p) else y).1 = nk y.1
      split <;> rfl
    rw [a1, a2]; exact hx
  | none =>
    rw [i2 e]
    refine ⟨ws ++ [(.ref b, v)], ?_, ?_, ?_⟩
    · exact h.app ⟨.ref b, v, [], rfl, hkb, hp, rfl⟩
    · exact NdP.app hn (.cons ⟨rfl, hv⟩ .nil)
    · show (xs ++ [(nk k, b, u)]).map (·.1) = (kvs ++ [(k, p)]).map (fun q => nk q.1)
      rw [List.map_append, List.map_append, hx]
      rfl
theorem dPut_ne {kvs : List (P × P)} {k p : P} : dPut kvs k p ≠ [] := by
  unfold dPut
  split
  · rename_i h
    intro e
    have : kvs = [] := List.map_eq_nil_iff.mp e
    rw [this] at h
    cases h
  · simp
theorem dPut_len {kvs : List (P × P)} {k p : P} : (dPut kvs k p).length ≤ kvs.length + 1 := by
  unfold dPut
  split <;> simp
end

section
variable {X : Cx} {pins : List (Addr × Obj)} {σ : L2.St} {H : Hp} {s : Shared} {F : Fx}
/-- a tuple that is a key -/
theorem key_at (I : Inv X pins σ H s) {k : P} {y : V} {u : Value} (hk : keyT k = true) (h : Im X.kw H k y) (r : RelV y u) : ∃ b, y = .ref b ∧ u = .ref b ∧ (nestedKind X.prog X.w).is s.heap (nk k) b := by
  obtain ⟨ps, e, hn, hd⟩ := keyT_tup hk
  have q := Im.nested I k y u hn h r
  subst e
  obtain ⟨b, vs, e1, _⟩ := h
  subst e1
  cases (show u = Value.ref b from r)
  exact ⟨b, rfl, rfl, q, hd⟩
theorem nd_is (I : Inv X pins σ H s) : ∀ {kvs : List (P × P)} {ws : List (V × V)} {xs : List Nx}, ImKvs X.kw H kvs ws → NdP ws xs → xs.map (·.1) = kvs.map (fun q => nk q.1) → (kvs.all fun q => keyT q.1) = true →
    ∀ x ∈ xs, (nestedKind X.prog X.w).is s.heap x.1 x.2.1
  | [], ws, xs, h, hn, _, _, x, hm => by
    have h : ws = [] := h
    subst h
    cases hn
    cases hm
  | (k0, p0) :: r, ws, xs, h, hn, hx, ha, x, hm => by
    obtain ⟨v0, w, t, e, h1, h2, h3⟩ := h
    subst e
    obtain ⟨hk0, hr⟩ := all_cons2 ha
    cases hn with
    | @cons _ y _ ys r1 r2 =>
      rw [List.map_cons, List.map_cons] at hx
      injection hx with hx1 hx2
      rcases List.mem_cons.mp hm with e | hm
      · subst e
        have hx1 : x.1 = nk k0 := hx1
        have e3 : v0 = .ref x.2.1 := r1.1
        obtain ⟨b, e1, e2, q⟩ := key_at (u := .ref x.2.1) I hk0 h1 (by rw [e3]; rfl)
        rw [e3] at e1
        cases e1
        rw [hx1]
        exact q
      · exact nd_is I h3 r2 hx2 hr x hm
/-- a dict with tuple keys, as the library tells it -/
theorem nd_view (I : Inv X pins σ H s) {kvs : List (P × P)} {ws : List (V × V)} {a : Addr} {u : HO} (r : Rd H a u) (h : DHo X.w (kvs.map fun q => nk q.1) ws a u) (i : ImKvs X.kw H kvs ws) (ht : (kvs.all fun q => keyT q.1) = true) :
    ∃ xs : List Nx, s.heap.DictOfH (nestedKind X.prog X.w) a xs ∧ (a == sysModules) = false ∧ xs.map (·.1) = kvs.map (fun q => nk q.1) ∧ NdP ws xs := by
  rcases h with ⟨ks, rfl, rfl, _⟩ | ⟨o, rfl, h, hs⟩
  · have e0 : kvs = [] ∧ ks = [] := by
      cases kvs with
      | nil =>
        have i : dkWs ks = [] := i
        exact ⟨rfl, by cases ks <;> first | rfl | cases i⟩
      | cons q r =>
        obtain ⟨k, p⟩ := q
        obtain ⟨x, v, t, e, h1, _⟩ := i
        obtain ⟨hk, _⟩ := all_cons2 ht
        obtain ⟨ps, ek, _⟩ := keyT_tup (p := k) hk
        subst ek
        obtain ⟨b, vs, e1, _⟩ := h1
        obtain ⟨k', ks', rfl, e2, _⟩ := dkWs_cons e
        rw [e1] at e2
        cases k' <;> cases e2
    obtain ⟨rfl, rfl⟩ := e0
    obtain ⟨z, hs, vs, rel, o, es, ep, ho, hx, hd, _, hp, _⟩ := dk_rd I.hok r
    cases rel
    generalize hes : es.toList = l at hp
    cases hp
    exact ⟨[], ⟨o, es, ep, ho, hx, hd, hes, fun x hx => (by cases hx), List.nodup_nil⟩, hs, rfl, .nil⟩
  · obtain ⟨h0, _, _⟩ := r.ok I.hok
    obtain ⟨es, ep, hd, xs, e1, e2, hp⟩ := h.dat
    exact ⟨xs, ⟨o, es, ep, h0, h.ex, hd, e1, nd_is I i hp e2 ht, by rw [e2]; exact h.nd⟩, hs, e2, hp⟩
theorem okKey_cases {kvs : List (P × P)} {k : P} (h : okKey kvs k = true) : (∃ z, k = .str z ∧ (kvs.all fun q => keyS q.1) = true) ∨ (keyT k = true ∧ (kvs.all fun q => keyT q.1) = true) := by
  unfold okKey at h
  rw [Bool.or_eq_true, Bool.and_eq_true, Bool.and_eq_true] at h
  rcases h with ⟨h1, h2⟩ | h
  · obtain ⟨z, e⟩ := keyS_str h1
    exact .inl ⟨z, e, h2⟩
  · exact .inr h
/-- text keys: the object -/
theorem dk_view {kvs : List (P × P)} {ws : List (V × V)} {a : Addr} {u : HO} (h : DHo X.w (kvs.map fun q => nk q.1) ws a u) (i : ImKvs X.kw H kvs ws) (hs : (kvs.all fun q => keyS q.1) = true) : ∃ ks, u = .dK ks ∧ ws = dkWs ks ∧ (ks.map (·.1)).Nodup := by
  rcases h with h | ⟨o, rfl, h, _⟩
  · exact h
  · exfalso
    obtain ⟨es, ep, hd, xs, e1, e2, hp⟩ := h.dat
    cases kvs with
    | nil => exact h.ne rfl
    | cons q r =>
      obtain ⟨k, p⟩ := q
      obtain ⟨x, v, t, e, h1, _⟩ := i
      obtain ⟨hk, _⟩ := all_cons2 hs
      obtain ⟨z, ek⟩ := keyS_str (p := k) hk
      subst ek
      have h1 : x = .str z := h1
      subst e
      cases hp with
      | cons r1 _ =>
        have r1 := r1.1
        rw [h1] at r1
        cases r1
/-- the dict at an address, as data -/
def DAt (K : KW) (H : Hp) (a : Addr) (kvs : List (P × P)) : Prop := ∃ u ws, Rd H a u ∧ DHo K.w (kvs.map fun q => nk q.1) ws a u ∧ kvs.length ≤ sizeLine ∧ ImKvs K H kvs ws
theorem PR.dict {K : KW} {H : Hp} {kvs : List (P × P)} {x : V} (h : PR K H (.dict kvs) x) : ∃ a, x = .ref a ∧ DAt K H a kvs := by
  obtain ⟨a, u, ws, e, h1, h2, h3, h4⟩ := h
  exact ⟨a, e, u, ws, h1, h2, h3, h4⟩
theorem DAt.ty (I : Inv X pins σ H s) {a : Addr} {kvs : List (P × P)} (d : DAt X.kw H a kvs) : s.TypeIs (.ref a) "dict" ∧ (∀ b, Value.ref a = .ref b → ∃ ob, s.heap.get? b = some ob ∧ ob.dict = none) ∧ (a == sysModules) = false := by
  obtain ⟨u, ws, h1, h2, _, _⟩ := d
  obtain ⟨o, es, ep, ho, hx, hd, hs, _⟩ := DHo.at I h1 h2
  refine ⟨⟨o, ho, hx.1⟩, fun b q => ?_, hs⟩
  cases q
  exact ⟨o, ho, hx.2.1⟩
/-- a key that is no object of the store -/
def KeyR (K : KW) (H : Hp) (k : P) (y : V) : Prop := Im K H k y
variable {A : Around} {E : Value → Shared → Prop}
/-- d[k] -/
theorem dd_get (hu : A.units + 20 < cLine) (I : Inv X pins σ H s) {a : Addr} {kvs : List (P × P)} {k p : P} {y : V} {u : Value} (d : DAt X.kw H a kvs) (hk : okKey kvs k = true) (hy : Im X.kw H k y) (ry : RelV y u) (hp : dGet kvs k = some p) :
    ∃ v w', Im X.kw H p v ∧ RelV v w' ∧ ∀ Q : Value → Shared → Prop, (∀ s', Inv X pins σ H s' → Q w' s') → wpAny (model X.prog X.w) A (getItem (.ref a) u) Q E s := by
  obtain ⟨uo, ws, h1, h2, h3, h4⟩ := d
  rcases okKey_cases hk with ⟨z, ek, hs⟩ | ⟨hk, ht⟩
  · subst ek
    have hy : y = .str z := hy
    subst hy
    obtain ⟨ks, rfl, rfl, _⟩ := dk_view h2 h4 hs
    obtain ⟨v, e1, e2⟩ := (val_str z h4 hs).1 p hp
    obtain ⟨_, hd, vs, rel, dd⟩ := dk_rd I.hok h1
    obtain ⟨w', hw, rw'⟩ := RelO.some_of (v := v) (o := valueAt vs (.inr z)) (by rw [← e1]; exact rel.val (.inr z))
    exact ⟨v, w', e2, rw', fun Q h => wpAny_getItem_of (kV_is (k := .inr z) ry) dd.mapOf hw (h _ (I.tok _))⟩
  · obtain ⟨xs, x1, x2, x3, x4⟩ := nd_view I h1 h2 h4 ht
    obtain ⟨b, ey, eu, hb⟩ := key_at I hk hy ry
    subst ey eu
    obtain ⟨c, v, e1, e2, e3⟩ := (val_nd hk h4 x4 x3 ht).1 p hp
    exact ⟨v, c.2, e3, e2, fun Q h => wpAny_getItem_heap (by show A.in1.units + 8 < cLine; simp only [Around.in1_units]; omega) hb x1 e1 (h _ (I.tok _))⟩
/-- k in d -/
theorem dd_in (hu : A.units + 20 < cLine) (I : Inv X pins σ H s) {a : Addr} {kvs : List (P × P)} {k : P} {y : V} {u : Value} {Q : Value → Shared → Prop} (d : DAt X.kw H a kvs) (hk : okKey kvs k = true) (hy : Im X.kw H k y) (ry : RelV y u)
    (h : ∀ s', Inv X pins σ H s' → Q (.bool (dGet kvs k).isSome) s') : wpAny (model X.prog X.w) A (compareOp .In u (.ref a)) Q E s := by
  obtain ⟨uo, ws, h1, h2, h3, h4⟩ := d
  rcases okKey_cases hk with ⟨z, ek, hs⟩ | ⟨hk, ht⟩
  · subst ek
    have hy : y = .str z := hy
    subst hy
    obtain ⟨ks, rfl, rfl, _⟩ := dk_view h2 h4 hs
    refine d_in (o := valV ks (.inr z)) (by omega) I (.inl ⟨ks, .inr z, h1, rfl, rfl⟩) ry fun s' I' => ?_
    have e : (valV ks (.inr z)).isSome = (dGet kvs (.str z)).isSome := by
      cases e : dGet kvs (.str z) with
      | none => rw [(val_str z h4 hs).2 e]; rfl
      | some p =>
        obtain ⟨v, e1, _⟩ := (val_str z h4 hs).1 p e
        rw [e1]; rfl
    rw [e]
    exact h s' I'
  · obtain ⟨xs, x1, x2, x3, x4⟩ := nd_view I h1 h2 h4 ht
    obtain ⟨b, ey, eu, hb⟩ := key_at I hk hy ry
    subst ey eu
    refine wpAny_in_heap (by show A.in1.units + 8 < cLine; simp only [Around.in1_units]; omega) hb x2 x1 ?_
    have e : (atKey xs (nk k)).isSome = (dGet kvs k).isSome := by
      cases e : dGet kvs k with
      | none => rw [(val_nd hk h4 x4 x3 ht).2 e]; rfl
      | some p =>
        obtain ⟨c, v, e1, _⟩ := (val_nd hk h4 x4 x3 ht).1 p e
        rw [e1]; rfl
    rw [e]
    exact h _ (I.tok _)
theorem dd_notIn (hu : A.units + 20 < cLine) (I : Inv X pins σ H s) {a : Addr} {kvs : List (P × P)} {k : P} {y : V} {u : Value} {Q : Value → Shared → Prop} (d : DAt X.kw H a kvs) (hk : okKey kvs k = true) (hy : Im X.kw H k y) (ry : RelV y u)
    (h : ∀ s', Inv X pins σ H s' → Q (.bool (!(dGet kvs k).isSome)) s') : wpAny (model X.prog X.w) A (compareOp .NotIn u (.ref a)) Q E s := by
  obtain ⟨uo, ws, h1, h2, h3, h4⟩ := d
  rcases okKey_cases hk with ⟨z, ek, hs⟩ | ⟨hk, ht⟩
  · subst ek
    have hy : y = .str z := hy
    subst hy
    obtain ⟨ks, rfl, rfl, _⟩ := dk_view h2 h4 hs
    refine d_notIn (o := valV ks (.inr z)) (by omega) I (.inl ⟨ks, .inr z, h1, rfl, rfl⟩) ry fun s' I' => ?_
    have e : (valV ks (.inr z)).isSome = (dGet kvs (.str z)).isSome := by
      cases e : dGet kvs (.str z) with
      | none => rw [(val_str z h4 hs).2 e]; rfl
      | some p =>
        obtain ⟨v, e1, _⟩ := (val_str z h4 hs).1 p e
        rw [e1]; rfl
    rw [e]
    exact h s' I'
  · obtain ⟨xs, x1, x2, x3, x4⟩ := nd_view I h1 h2 h4 ht
    obtain ⟨b, ey, eu, hb⟩ := key_at I hk hy ry
    subst ey eu
    refine wpAny_notIn_heap (by show A.in1.units + 8 < cLine; simp only [Around.in1_units]; omega) hb x2 x1 ?_
    have e : (atKey xs (nk k)).isSome = (dGet kvs k).isSome := by
      cases e : dGet kvs k with
      | none => rw [(val_nd hk h4 x4 x3 ht).2 e]; rfl
      | some p =>
        obtain ⟨c, v, e1, _⟩ := (val_nd hk h4 x4 x3 ht).1 p e
        rw [e1]; rfl
    rw [e]
    exact h _ (I.tok _)
/-- len(d) -/
theorem dd_len (I : Inv X pins σ H s) {a : Addr} {kvs : List (P × P)} {Q : Value → Shared → Prop} (d : DAt X.kw H a kvs) (hk : ((kvs.all fun q => keyS q.1) || (kvs.all fun q => keyT q.1)) = true) (h : ∀ t s', Inv X pins σ H s' → Q (.int kvs.length t) s') : wpAny (model X.prog X.w) A (call (.builtin "len") [.ref a]) Q E s := by
  obtain ⟨u, ws, h1, h2, h3, h4⟩ := d
  rw [Bool.or_eq_true] at hk
  rcases hk with hk | hk
  · obtain ⟨ks, rfl, rfl, _⟩ := dk_view h2 h4 hk
    refine d_len I h1 fun t s' I' => ?_
    have e : ks.length = kvs.length := by rw [h4.len]; unfold dkWs; rw [List.length_map]
    rw [e]
    exact h t s' I'
  · obtain ⟨xs, x1, x2, x3, x4⟩ := nd_view I h1 h2 h4 hk
    have e : xs.length = kvs.length := by
      have := congrArg List.length x3
      rwa [List.length_map, List.length_map] at this
    refine call_len_dictH x2 x1 (by rw [sizeLine_eq] at h3; omega) ?_
    rw [e]
    exact h _ _ (I.tok _)
/-- d[k] = v -/
theorem dd_set (hu : A.units + 20 < cLine) (I : Inv X pins σ H s) {a : Addr} {kvs : List (P × P)} {ws : List (V × V)} {uo : HO} {k p : P} {y v : V} {u r : Value} {Q : Unit → Shared → Prop} (h1 : H a = some uo) (h2 : DHo X.w (kvs.map fun q => nk q.1) ws a uo) (h4 : ImKvs X.kw H kvs ws)
    (hk : okKey kvs k = true) (hl : kvs.length < sizeLine) (hy : Im X.kw H k y) (ry : RelV y u) (hp : Im X.kw H p v) (rv : RelV v r)
    (h : ∀ u' ws' s', DHo X.w ((dPut kvs k p).map fun q => nk q.1) ws' a u' → ImKvs X.kw (upd H a u') (dPut kvs k p) ws' → Inv X pins σ (upd H a u') s' → Q () s') : wpAny (model X.prog X.w) A (setItem (.ref a) u r) Q E s := by
  rcases okKey_cases hk with ⟨z, ek, hs⟩ | ⟨hk, ht⟩
  · subst ek
    have hy : y = .str z := hy
    subst hy
    obtain ⟨ks, rfl, rfl, hnd⟩ := dk_view h2 h4 hs
    have hlen : ks.length < sizeLine := by
      have := h4.len
      unfold dkWs at this
      rw [List.length_map] at this
      omega
    refine d_setItem (by omega) I (DPut.k (k := .inr z) (v := v) h1 hlen) ry rv fun s' I' => ?_
    exact h _ (dkWs (putK ks (.inr z) v)) s' (.inl ⟨_, rfl, rfl, keys_putK hnd⟩) (ImKvs.ext (Ext.mut h1 trivial) _ _ (put_str z hp h4 hs)) I'
  · obtain ⟨xs, x1, x2, x3, x4⟩ := nd_view I (.inl h1) h2 h4 ht
    obtain ⟨b, ey, eu, hb⟩ := key_at I hk hy ry
    subst ey eu
    have hxl : xs.length ≤ sizeLine := by
      have := congrArg List.length x3
      rw [List.length_map, List.length_map] at this
      omega
    obtain ⟨ws', j1, j2, j3⟩ := put_nd (b := b) hk hy hp rv h4 x4 x3 ht
    refine wpAny_setItem_heap (by show A.in1.units + 8 < cLine; simp only [Around.in1_units]; omega) hb x1 (fun h' hd hsb => ?_) hxl
    obtain ⟨o', es', ep', g1, g2, g3, g4, g5, g6⟩ := hd
    have ex : Ext H (upd H a (NdO a o')) := Ext.mut h1 h2.mut
    refine h (NdO a o') ws' _ (.inr ⟨o', rfl, ⟨g2, ⟨es', ep', g3, _, g4, j3, j2⟩, by rw [← j3]; exact g6, fun e => dPut_ne (List.map_eq_nil_iff.mp e)⟩, x2⟩) (ImKvs.ext ex _ _ j1) ?_
    refine I.write (x := a) (e := a) (by rw [h1]; exact h2.mut) (.inl rfl) (fun c q hb z => (hsb.2 c hb).trans z) ⟨o', g1⟩ ?_
    exact ⟨g1, ⟨o', g1⟩, fun h1 h2 p k => k o' p⟩
end
end Kp

/-! Kp: sorted. -/
namespace Kp
open PySem PySem.Spec PyProof.Rows L2

theorem srt_of {xs : List P} (h : srtOk xs = true) : xs.length ≤ sizeLine ∧ PySem.W.AllAlike xs ∧ PySem.W.Sortable xs ∧ ∀ x ∈ xs, x.depth ≤ 100 := by
  unfold srtOk at h
  rw [Bool.and_eq_true, Bool.and_eq_true, Bool.and_eq_true] at h
  obtain ⟨⟨⟨h1, h2⟩, h3⟩, h4⟩ := h
  rw [List.all_eq_true] at h2 h3
  refine ⟨of_decide_eq_true h1, fun d hd d' hd' => ?_, ?_, fun x hx => ?_⟩
  · have := h3 d hd
    rw [List.all_eq_true] at this
    exact this d' hd'
  · rw [Bool.or_eq_true, List.all_eq_true, List.all_eq_true] at h4
    rcases h4 with h4 | h4
    · refine .inl fun d hd => ?_
      have q := h4 d hd
      cases d <;> try (cases q; done)
      rename_i ys
      cases ys with
      | nil => cases q
      | cons y ys => exact ⟨y, ys, rfl⟩
    · refine .inr fun d hd => ?_
      have q := h4 d hd
      cases d <;> try (cases q; done)
      · exact ⟨fun e => (by cases e), fun xs e => (by cases e)⟩
      · exact ⟨fun e => (by cases e), fun xs e => (by cases e)⟩
  · have q := h2 x hx
    unfold fit at q
    rw [Bool.and_eq_true] at q
    exact of_decide_eq_true q.2
section
variable {X : Cx} {pins : List (Addr × Obj)} {σ : L2.St} {H : Hp} {s : Shared} {A : Around} {E : Value → Shared → Prop}
theorem each_of (I : Inv X pins σ H s) : ∀ {ps : List P} {vs : List V} {us : List Value}, ImAll X.kw H ps vs → Vals vs us →
    PySem.W.EachIs (fun u p => ∃ v, RelV v u ∧ Im X.kw H p v) us ps ∧ PySem.W.EachIs (fun u p => ∃ as, Reads s.heap u (id p) as) us ps
  | [], vs, us, h, r => by
    have h : vs = [] := h
    subst h
    cases r
    exact ⟨.nil, .nil⟩
  | p :: ps, vs, us, h, r => by
    obtain ⟨v, w, e, h1, h2⟩ := h
    subst e
    cases r with
    | cons r1 r2 =>
      obtain ⟨e1, e2⟩ := each_of I h2 r2
      obtain ⟨as, q⟩ := Im.reads I p v _ h1 r1
      exact ⟨.cons ⟨v, r1, h1⟩ e1, .cons ⟨as, q⟩ e2⟩
theorem of_each {K : KW} : ∀ {us : List Value} {ps : List P}, PySem.W.EachIs (fun u p => ∃ v, RelV v u ∧ Im K H p v) us ps → ∃ vs, Vals vs us ∧ ImAll K H ps vs
  | _, _, .nil => ⟨[], .nil, ImAll.nil⟩
  | _, _, .cons ⟨v, r, i⟩ h => by
    obtain ⟨vs, r2, i2⟩ := of_each h
    exact ⟨v :: vs, .cons r r2, ImAll.cons i i2⟩
theorem sort_eq (ps : List P) : ps.mergeSort leP = ps.mergeSort (PySem.W.dataLe false id) := by
  have e : (PySem.W.dataLe false (id : P → P)) = leP := by
    rw [PySem.W.dataLe_eq]
    funext a b
    rfl
  rw [e]
/-- sorted(xs) -/
theorem sorted_any (hu : A.units + 150 < cLine) (I : Inv X pins σ H s) {a : Addr} {ps : List P} {vs : List V} {Q : Value → Shared → Prop} (h : SqL X.K H a vs) (i : ImAll X.kw H ps vs) (ok : srtOk ps = true)
    (hQ : ∀ p vs' s', H p = none → ImAll X.kw H (ps.mergeSort leP) vs' → vs'.length ≤ sizeLine → Inv X pins σ (upd H p (.lst vs')) s' → Q (.ref p) s') : wpAny (model X.prog X.w) A (call (.builtin "sorted") [.ref a]) Q E s := by
  obtain ⟨its, r, pl, hz⟩ := I.list h
  obtain ⟨c1, c2, c3, c4⟩ := srt_of ok
  obtain ⟨e1, e2⟩ := each_of I i r
  refine PySem.W.sorted_data (enc := id) (vs := its) (bs := ps) pl.isList e1 e2 (by rw [List.map_id]; exact c2) (by rw [List.map_id]; exact c3) c1 (fun b hb => by have := c4 b hb; simp only [id]; omega) fun out hl eo => ?_
  rw [← sort_eq] at eo
  obtain ⟨vs', r', i'⟩ := of_each eo
  obtain ⟨c, hc⟩ := sortedAll_at s.heap its out.toArray
  have hl' : vs'.length ≤ sizeLine := by rw [r'.length, hl]; exact c1
  refine hQ _ vs' _ (I.hok.fresh (Nat.le_succ _)) i' hl' ?_
  exact I.laid (t' := s.toks) (fun b o e => sortedAll_old e) (Nat.le_succ _) ⟨hl', out, c, r', hc⟩
end

/-! dict(pairs) -/
section
variable {K : KW} {H : Hp}
theorem dPut_keyS {kvs : List (P × P)} {k p : P} (h : (kvs.all fun q => keyS q.1) = true) (hk : keyS k = true) : ((dPut kvs k p).all fun q => keyS q.1) = true := by
  unfold dPut
  rw [List.all_eq_true] at h ⊢
  split
  · intro q hq
    obtain ⟨y, hy, rfl⟩ := List.mem_map.mp hq
    have := h y hy
    split <;> exact this
  · intro q hq
    rcases List.mem_append.mp hq with z | z
    · exact h q z
    · rw [List.mem_singleton.mp z]; exact hk
theorem dPut_keyT {kvs : List (P × P)} {k p : P} (h : (kvs.all fun q => keyT q.1) = true) (hk : keyT k = true) : ((dPut kvs k p).all fun q => keyT q.1) = true := by
  unfold dPut
  rw [List.all_eq_true] at h ⊢
  split
  · intro q hq
    obtain ⟨y, hy, rfl⟩ := List.mem_map.mp hq
    have := h y hy
    split <;> exact this
  · intro q hq
    rcases List.mem_append.mp hq with z | z
    · exact h q z
    · rw [List.mem_singleton.mp z]; exact hk
theorem merge_str : ∀ {more : List (P × P)} {ms : List (Key × V)} {kvs : List (P × P)} {ks : List (Key × V)}, ImKvs K H more (dkWs ms) → (more.all fun q => keyS q.1) = true → ImKvs K H kvs (dkWs ks) → (kvs.all fun q => keyS q.1) = true → (ks.map (·.1)).Nodup →
    ImKvs K H (dMerge kvs more) (dkWs (mergeK ks ms)) ∧ ((mergeK ks ms).map (·.1)).Nodup ∧ ((dMerge kvs more).all fun q => keyS q.1) = true
  | [], ms, kvs, ks, h, _, g, ga, gn => by
    have h : dkWs ms = [] := h
    have e : ms = [] := by cases ms <;> first | rfl | cases h
    subst e
    exact ⟨g, gn, ga⟩
  | (k, p) :: r, ms, kvs, ks, h, ha, g, ga, gn => by
    obtain ⟨x, v, t, e, h1, h2, h3⟩ := h
    obtain ⟨hk, hr⟩ := all_cons2 ha
    obtain ⟨y, ey⟩ := keyS_str (p := k) hk
    subst ey
    have h1 : x = .str y := h1
    obtain ⟨k', ms', rfl, ek, et⟩ := dkWs_cons e
    have ek' : k' = .inr y := by
      rw [h1] at ek
      cases k' with
      | inl i => cases ek
      | inr s => injection ek with q; rw [q]
    subst ek'
    rw [et] at h3
    have q := merge_str h3 hr (put_str y h2 g ga) (dPut_keyS ga hk) (keys_putK gn)
    exact q
theorem dMerge_len (more : List (P × P)) : ∀ kvs : List (P × P), (dMerge kvs more).length ≤ kvs.length + more.length := by
  induction more with
  | nil => intro kvs; exact Nat.le_refl _
  | cons q r ih =>
    intro kvs
    have h1 := ih (dPut kvs q.1 q.2)
    have h2 := dPut_len (kvs := kvs) (k := q.1) (p := q.2)
    show (dMerge (dPut kvs q.1 q.2) r).length ≤ _
    rw [List.length_cons]
    omega
theorem prs_im : ∀ {ys : List P} {kvs : List (P × P)} {vs : List V}, prsOf ys = some kvs → (kvs.all fun q => keyS q.1) = true → ImAll K H ys vs →
    ∃ (ps : List Addr) (ks : List (Key × V)), vs = ps.map V.ref ∧ Paired (fun p kv => SqT K.K H p [kV kv.1, kv.2]) ps ks ∧ ImKvs K H kvs (dkWs ks)
  | [], kvs, vs, e, _, h => by
    have e : [] = kvs := Option.some.inj e
    subst e
    exact ⟨[], [], h, .nil, rfl⟩
  | y :: ys, kvs, vs, e, ha, h => by
    have hy : ∃ k p, y = .tuple [k, p] := by
      cases y <;> try (cases e; done)
      rename_i zs
      rcases zs with _ | ⟨k, _ | ⟨p, _ | ⟨z, r⟩⟩⟩ <;> first | (cases e; done) | exact ⟨k, p, rfl⟩
    obtain ⟨k, p, rfl⟩ := hy
    have e : (prsOf ys).map ((k, p) :: ·) = some kvs := e
    cases q : prsOf ys with
    | none => rw [q] at e; cases e
    | some r =>
      rw [q] at e
      have e : (k, p) :: r = kvs := Option.some.inj e
      subst e
      obtain ⟨v, w, ev, h1, h2⟩ := h
      obtain ⟨a, us, ea, g1, _, g3⟩ := h1
      obtain ⟨x, t, e1, g4, g5⟩ := g3
      obtain ⟨u, t', e2, g6, g7⟩ := g5
      have g7 : t' = [] := g7
      subst g7 e2 e1 ea ev
      obtain ⟨hk, hr⟩ := all_cons2 ha
      obtain ⟨z, ez⟩ := keyS_str (p := k) hk
      subst ez
      have g4 : x = .str z := g4
      subst g4
      obtain ⟨ps, ks, e3, g8, g9⟩ := prs_im q hr h2
      exact ⟨a :: ps, (.inr z, u) :: ks, by rw [e3]; rfl, .cons g1 g8, ⟨.str z, u, dkWs ks, rfl, rfl, g6, g9⟩⟩
end
end Kp

/-! Kp, part 5: the operations. -/
namespace Kp
open PySem PySem.Spec PyProof.Rows L2

section
variable {X : Cx} {F : Fx} {W : WX}

/-- two values that are readable as data, an operation on them -/
def rBin (F : Fx) (W : WX) (f : P → P → Sto → R Rv) : R2 := fun x y H Q =>
  ∃ p q st α σ, PR F.K H p x ∧ PR F.K H q y ∧ StR F.K α H st ∧ Out F W (RvR F.K) σ α H (f p q st) Q

theorem op_cat_any : OpR X (binaryOp .Add) (fun x y H Q => ∃ l b xs zs, x = .ref l ∧ y = .ref b ∧ SqL X.K H l xs ∧ SqL X.K H b zs ∧ xs.length + zs.length ≤ sizeLine ∧ ∀ p, H p = none → Q (.ref p) (upd H p (.lst (xs ++ zs)))) := by
  intro pins s σ H x y v u Q I rx ry h
  obtain ⟨l, b, xs, zs, rfl, rfl, hl, hb, hz, q⟩ := h
  cases rx
  cases ry
  obtain ⟨its, r, ⟨⟨c, d, dt, sl⟩, n, e1, e2, e3, e4⟩, _⟩ := I.list hl
  obtain ⟨its2, r2, ⟨⟨c', d', dt', sl'⟩, n2, e1', e2', e3', e4'⟩, _⟩ := I.list hb
  simp only at e2 e3 e4 e2' e3' e4'
  subst e2 e4 e2' e4'
  have l1 := r.length
  have l2 := r2.length
  have ea : its.toArray ++ its2.toArray = (its ++ its2).toArray := by simp
  refine PySem.concat_meets ⟨_, e1, rfl⟩ ⟨_, e1', rfl⟩ PySem.noFill_list_add PySem.seq_list_add PySem.F.slot_list_add PySem.F.entry_list_add (PySem.F.args_list_add_2 _ _)
    (PyProof.Rows.list_addW l b its.toArray its2.toArray n n2 d d' sl sl' (by simp only [List.size_toArray]; omega)) ⟨e1, e1', ?_⟩
  rw [ea]
  exact ⟨.ref _, _, I.lnew (t' := s.toks) (r.append r2) (by rw [List.length_append]; omega), rfl, q _ I.fresh⟩

theorem bin_add (hF : F.K = X.kw) : OpR X (binaryOp .Add) (rBin F W (binop .add)) := by
  intro pins s σ H x y v u Q I rx ry h
  obtain ⟨p, q, st, α, σ', hp, hq, S, h⟩ := h
  cases p <;> cases q <;> first | exact h.elim | skip
  · exact op_add pins s σ H x y v u Q I rx ry ⟨_, _, hp, hq, h.one S rfl⟩
  · obtain ⟨c, h⟩ := h.chk
    exact op_add_str pins s σ H x y v u Q I rx ry ⟨_, _, hp, hq, of_decide_eq_true c, h.one S rfl⟩
  · obtain ⟨c, h⟩ := h.chk
    obtain ⟨a, vs, e1, h1, z1, i1⟩ := hp
    obtain ⟨b, ws, e2, h2, z2, i2⟩ := hq
    have c := of_decide_eq_true c
    rw [i1.length, i2.length] at c
    refine op_cat_any pins s σ H x y v u Q I rx ry ⟨a, b, vs, ws, e1, e2, (by first | exact sqlX hF (h1) | exact sqtX hF (h1)), (by first | exact sqlX hF (h2) | exact sqtX hF (h2)), c, fun p n => ?_⟩
    exact h.lst S n (by rw [List.length_append]; exact c) (i1.append i2)
  · obtain ⟨c, h⟩ := h.chk
    obtain ⟨a, vs, e1, h1, z1, i1⟩ := hp
    obtain ⟨b, ws, e2, h2, z2, i2⟩ := hq
    have c := of_decide_eq_true c
    rw [i1.length, i2.length] at c
    refine op_catA pins s σ H x y v u Q I rx ry ⟨a, b, vs, ws, e1, e2, (by first | exact sqlX hF (h1) | exact sqtX hF (h1)), (by first | exact sqlX hF (h2) | exact sqtX hF (h2)), c, fun e => ?_, fun e1 e2 => ?_, fun _ _ p n => ?_⟩
    · subst e
      refine h.one S ⟨b, ws, rfl, h2, z2, ?_⟩
      have := i1.append i2
      rwa [List.nil_append] at this
    · subst e2
      refine h.one S ⟨a, vs, rfl, h1, z1, ?_⟩
      have := i1.append i2
      rwa [List.append_nil] at this
    · exact h.tup S n (by rw [List.length_append]; exact c) (i1.append i2)
theorem bin_sub : OpR X (binaryOp .Sub) (rBin F W (binop .sub)) := by
  intro pins s σ H x y v u Q I rx ry h
  obtain ⟨p, q, st, α, σ', hp, hq, S, h⟩ := h
  cases p <;> cases q <;> first | exact h.elim | skip
  exact op_sub pins s σ H x y v u Q I rx ry ⟨_, _, hp, hq, h.one S rfl⟩
theorem ImAll.flat {K : KW} {H : Hp} {ps : List P} {vs : List V} (h : ImAll K H ps vs) : ∀ n, ImAll K H (List.replicate n ps).flatten (List.replicate n vs).flatten
  | 0 => ImAll.nil
  | n + 1 => by
    rw [List.replicate_succ, List.replicate_succ, List.flatten_cons, List.flatten_cons]
    exact h.append (ImAll.flat h n)
theorem flat_length {α : Type} (xs : List α) : ∀ n, (List.replicate n xs).flatten.length = xs.length * n
  | 0 => by simp
  | n + 1 => by rw [List.replicate_succ, List.flatten_cons, List.length_append, flat_length xs n, Nat.mul_succ]; omega
theorem bin_mul (hF : F.K = X.kw) : OpR X (binaryOp .Mult) (rBin F W (binop .mul)) := by
  intro pins s σ H x y v u Q I rx ry h
  obtain ⟨p, q, st, α, σ', hp, hq, S, h⟩ := h
  cases p <;> cases q <;> first | exact h.elim | skip
  · obtain ⟨c, h⟩ := h.chk
    rw [Bool.and_eq_true] at c
    exact op_mul pins s σ H x y v u Q I rx ry ⟨_, _, hp, hq, .inr ⟨of_decide_eq_true c.1, of_decide_eq_true c.2⟩, h.one S rfl⟩
  · obtain ⟨c, h⟩ := h.chk
    rw [Bool.and_eq_true, Bool.and_eq_true, Bool.and_eq_true] at c
    obtain ⟨a, vs, e1, h1, z1, i1⟩ := hp
    have c1 := of_decide_eq_true c.1.1.1
    have c2 := of_decide_eq_true c.1.1.2
    have c3 := of_decide_eq_true c.1.2
    have ne : vs ≠ [] := fun e => by
      subst e
      have := i1.length
      have e0 := List.length_eq_zero_iff.mp this
      rw [e0] at c
      simp at c
    rw [i1.length] at c3
    refine op_repT pins s σ H x y v u Q I rx ry ⟨a, _, vs, e1, hq, sqtX hF h1, ne, c1, c2, c3, fun p n => ?_⟩
    refine h.tup S n ?_ (i1.flat _)
    rw [flat_length, sizeLine_eq]
    exact Nat.le_trans (Nat.mul_le_mul c3 (show _ ≤ 1000 by omega)) (by decide)
theorem bin_fdiv : OpR X (binaryOp .FloorDiv) (rBin F W (binop .fdiv)) := by
  intro pins s σ H x y v u Q I rx ry h
  obtain ⟨p, q, st, α, σ', hp, hq, S, h⟩ := h
  cases p <;> cases q <;> first | exact h.elim | skip
  obtain ⟨c, h⟩ := h.chk
  rw [Bool.and_eq_true] at c
  exact op_fdiv pins s σ H x y v u Q I rx ry ⟨_, _, hp, hq, ⟨of_decide_eq_true c.1, of_decide_eq_true c.2⟩, h.one S rfl⟩
theorem bin_mod : OpR X (binaryOp .Mod) (rBin F W (binop .mod)) := by
  intro pins s σ H x y v u Q I rx ry h
  obtain ⟨p, q, st, α, σ', hp, hq, S, h⟩ := h
  cases p <;> cases q <;> first | exact h.elim | skip
  obtain ⟨c, h⟩ := h.chk
  exact op_mod pins s σ H x y v u Q I rx ry ⟨_, _, hp, hq, of_decide_eq_true c, h.one S rfl⟩
theorem bin_pow : OpR X (binaryOp .Pow) (rBin F W (binop .pow)) := by
  intro pins s σ H x y v u Q I rx ry h
  obtain ⟨p, q, st, α, σ', hp, hq, S, h⟩ := h
  cases p <;> cases q <;> first | exact h.elim | skip
  obtain ⟨c, h⟩ := h.chk
  rw [Bool.and_eq_true, Bool.and_eq_true] at c
  have c1 := of_decide_eq_true c.1.2
  exact op_pow pins s σ H x y v u Q I rx ry ⟨_, _, hp, hq, ⟨of_decide_eq_true c.1.1, by omega, of_decide_eq_true c.2⟩, h.one S rfl⟩
theorem bin_any (hF : F.K = X.kw) {o : Operator} {b : Bop} (h : bopOf o = some b) : OpR X (binaryOp o) (rBin F W (binop b)) := by
  cases o <;> cases h
  · exact bin_add hF
  · exact bin_sub
  · exact bin_mul hF
  · exact bin_mod
  · exact bin_pow
  · exact bin_fdiv

/-! ### comparisons -/
/-- .. that gives a truth value -/
def rCmp (F : Fx) (f : P → P → Option Bool) : R2 := fun x y H Q => ∃ p q k, PR F.K H p x ∧ PR F.K H q y ∧ f p q = some k ∧ Q (.bl k) H
theorem fit_of {p : P} (h : fit p = true) : p.plain = true ∧ p.depth ≤ 100 := by
  unfold fit at h
  rw [Bool.and_eq_true] at h
  exact ⟨h.1, of_decide_eq_true h.2⟩
theorem ite_some {α : Type} {c : Bool} {a b : α} (h : (if c = true then some a else none) = some b) : c = true ∧ a = b := by
  cases c with
  | true => exact ⟨rfl, Option.some.inj h⟩
  | false => cases h
theorem fits_all : ∀ {ys : List P}, ys.all fit = true → PyData.plainAll ys = true ∧ PyData.depthAll ys ≤ 100
  | [], _ => ⟨rfl, by simp [PyData.depthAll]⟩
  | y :: ys, h => by
    rw [List.all_cons, Bool.and_eq_true] at h
    obtain ⟨h1, h2⟩ := fit_of h.1
    obtain ⟨h3, h4⟩ := fits_all h.2
    refine ⟨by rw [PyData.plainAll, h1, h3]; rfl, ?_⟩
    rw [PyData.depthAll]
    omega
theorem notNone_of {p : P} (h : (!isNone p) = true) : p ≠ .none := by
  intro e
  subst e
  cases h
/-- room in the C stack for data of small depth -/
def CR (A : Around) : Prop := A.units + 150 < cLine

theorem cmp_eq (hF : F.K = X.kw) (hu : CR X.A) : OpR X (compareOp .Eq) (rCmp F (cmpop .eq)) := by
  intro pins s σ H x y v u Q I rx ry h
  obtain ⟨p, q, k, hp, hq, e, h⟩ := h
  obtain ⟨c, e⟩ := ite_some e
  subst e
  rw [Bool.and_eq_true] at c
  obtain ⟨p1, p2⟩ := fit_of c.1
  obtain ⟨q1, q2⟩ := fit_of c.2
  obtain ⟨as, ra⟩ := PR.reads I (hF ▸ hp) rx
  obtain ⟨bs, rb⟩ := PR.reads I (hF ▸ hq) ry
  have hu : X.A.units + 150 < cLine := hu
  exact SeqAt.eq_plain ra rb p1 q1 (by omega) ⟨.bl _, H, I, rfl, h⟩
theorem cmp_ne (hF : F.K = X.kw) (hu : CR X.A) : OpR X (compareOp .NotEq) (rCmp F (cmpop .ne)) := by
  intro pins s σ H x y v u Q I rx ry h
  obtain ⟨p, q, k, hp, hq, e, h⟩ := h
  obtain ⟨c, e⟩ := ite_some e
  subst e
  rw [Bool.and_eq_true] at c
  obtain ⟨p1, p2⟩ := fit_of c.1
  obtain ⟨q1, q2⟩ := fit_of c.2
  obtain ⟨as, ra⟩ := PR.reads I (hF ▸ hp) rx
  obtain ⟨bs, rb⟩ := PR.reads I (hF ▸ hq) ry
  have hu : X.A.units + 150 < cLine := hu
  exact SeqAt.ne_plain ra rb p1 q1 (by omega) ⟨.bl _, H, I, rfl, h⟩
theorem alike_of {a b : P} (c : (PySem.W.alike a b && !isNone a && fit a && fit b) = true) : PySem.W.alike a b = true ∧ a ≠ .none ∧ a.depth ≤ 100 ∧ b.depth ≤ 100 := by
  rw [Bool.and_eq_true, Bool.and_eq_true, Bool.and_eq_true] at c
  exact ⟨c.1.1.1, notNone_of c.1.1.2, (fit_of c.1.2).2, (fit_of c.2).2⟩
theorem cmp_lt (hF : F.K = X.kw) (hu : CR X.A) : OpR X (compareOp .Lt) (rCmp F (cmpop .lt)) := by
  intro pins s σ H x y v u Q I rx ry h
  obtain ⟨p, q, k, hp, hq, e, h⟩ := h
  obtain ⟨c, e⟩ := ite_some e
  subst e
  obtain ⟨c1, c2, c3, c4⟩ := alike_of c
  obtain ⟨as, ra⟩ := PR.reads I (hF ▸ hp) rx
  obtain ⟨bs, rb⟩ := PR.reads I (hF ▸ hq) ry
  have hu : X.A.units + 150 < cLine := hu
  exact PySem.W.lt_data ra rb c1 c2 (by omega) ⟨.bl _, H, I, rfl, h⟩
theorem cmp_gt (hF : F.K = X.kw) (hu : CR X.A) : OpR X (compareOp .Gt) (rCmp F (cmpop .gt)) := by
  intro pins s σ H x y v u Q I rx ry h
  obtain ⟨p, q, k, hp, hq, e, h⟩ := h
  obtain ⟨c, e⟩ := ite_some e
  subst e
  obtain ⟨c1, c2, c3, c4⟩ := alike_of c
  obtain ⟨as, ra⟩ := PR.reads I (hF ▸ hp) rx
  obtain ⟨bs, rb⟩ := PR.reads I (hF ▸ hq) ry
  have hu : X.A.units + 150 < cLine := hu
  exact PySem.W.gt_data ra rb c1 c2 (by omega) ⟨.bl _, H, I, rfl, h⟩
theorem cmp_le (hF : F.K = X.kw) (hu : CR X.A) : OpR X (compareOp .LtE) (rCmp F (cmpop .le)) := by
  intro pins s σ H x y v u Q I rx ry h
  obtain ⟨p, q, k, hp, hq, e, h⟩ := h
  obtain ⟨c, e⟩ := ite_some e
  subst e
  obtain ⟨c1, c2, c3, c4⟩ := alike_of c
  obtain ⟨as, ra⟩ := PR.reads I (hF ▸ hp) rx
  obtain ⟨bs, rb⟩ := PR.reads I (hF ▸ hq) ry
  have hu : X.A.units + 150 < cLine := hu
  exact PySem.W.le_data ra rb c1 c2 (by omega) ⟨.bl _, H, I, rfl, h⟩
theorem cmp_ge (hF : F.K = X.kw) (hu : CR X.A) : OpR X (compareOp .GtE) (rCmp F (cmpop .ge)) := by
  intro pins s σ H x y v u Q I rx ry h
  obtain ⟨p, q, k, hp, hq, e, h⟩ := h
  obtain ⟨c, e⟩ := ite_some e
  subst e
  obtain ⟨c1, c2, c3, c4⟩ := alike_of c
  obtain ⟨as, ra⟩ := PR.reads I (hF ▸ hp) rx
  obtain ⟨bs, rb⟩ := PR.reads I (hF ▸ hq) ry
  have hu : X.A.units + 150 < cLine := hu
  exact PySem.W.ge_data ra rb c1 c2 (by omega) ⟨.bl _, H, I, rfl, h⟩
theorem PR.non_iff {K : KW} {H : Hp} {p : P} {x : V} (h : PR K H p x) : decide (x = .non) = isNone p := by
  cases p with
  | none => have h : x = .non := h; subst h; rfl
  | bool b => have h : x = .bl b := h; subst h; rfl
  | int b => have h : x = .int b := h; subst h; rfl
  | str b => have h : x = .str b := h; subst h; rfl
  | list ds => obtain ⟨a, vs, e, _⟩ := h; subst e; rfl
  | tuple ds => obtain ⟨a, vs, e, _⟩ := h; subst e; rfl
  | dict _ => obtain ⟨a, u, ws, e, _⟩ := h; subst e; rfl
theorem cmp_is_cases {p q : P} {k : Bool} (e : cmpop .is p q = some k) : (∃ a b, p = .bool a ∧ q = .bool b ∧ k = (a == b)) ∨ (q = .none ∧ k = isNone p) := by
  cases p <;> cases q <;> first
    | (cases (show (none : Option Bool) = some k from e); done)
    | exact .inl ⟨_, _, rfl, rfl, (Option.some.inj e).symm⟩
    | exact .inr ⟨rfl, (Option.some.inj e).symm⟩
theorem cmp_isnot_cases {p q : P} {k : Bool} (e : cmpop .isnot p q = some k) : (∃ a b, p = .bool a ∧ q = .bool b ∧ k = !(a == b)) ∨ (q = .none ∧ k = !isNone p) := by
  cases p <;> cases q <;> first
    | (cases (show (none : Option Bool) = some k from e); done)
    | exact .inl ⟨_, _, rfl, rfl, (Option.some.inj e).symm⟩
    | exact .inr ⟨rfl, (Option.some.inj e).symm⟩
theorem cmp_is : OpR X (compareOp .Is) (rCmp F (cmpop .is)) := by
  intro pins s σ H x y v u Q I rx ry h
  obtain ⟨p, q, k, hp, hq, e, h⟩ := h
  rcases cmp_is_cases e with ⟨a, b, rfl, rfl, rfl⟩ | ⟨rfl, rfl⟩
  · exact op_isBl pins s σ H x y v u Q I rx ry ⟨a, b, hp, hq, by rw [Bool.beq_eq_decide_eq] at h; exact h⟩
  · exact op_isN pins s σ H x y v u Q I rx ry ⟨hq, by rw [hp.non_iff]; exact h⟩
theorem cmp_isnot : OpR X (compareOp .IsNot) (rCmp F (cmpop .isnot)) := by
  intro pins s σ H x y v u Q I rx ry h
  obtain ⟨p, q, k, hp, hq, e, h⟩ := h
  rcases cmp_isnot_cases e with ⟨a, b, rfl, rfl, rfl⟩ | ⟨rfl, rfl⟩
  · exact op_notBl pins s σ H x y v u Q I rx ry ⟨a, b, hp, hq, by rw [Bool.beq_eq_decide_eq] at h; exact h⟩
  · exact op_notN pins s σ H x y v u Q I rx ry ⟨hq, by rw [hp.non_iff]; exact h⟩
theorem isIn_cases {x c : P} {k : Bool} (e : isIn x c = some k) : (∃ ys, (c = .list ys ∨ c = .tuple ys) ∧ fit x = true ∧ ys.all fit = true ∧ k = ys.any fun y => y.eqv x) ∨
    (∃ z y, x = .str z ∧ c = .str y ∧ k = !(Builtin.Str.occurrences y z 0 y.length 1).isEmpty) ∨ (∃ kvs, c = .dict kvs ∧ okKey kvs x = true ∧ k = (dGet kvs x).isSome) := by
  cases c with
  | dict kvs =>
    obtain ⟨c, e⟩ := ite_some (show (if okKey kvs x = true then some (dGet kvs x).isSome else none) = some k from e)
    exact .inr (.inr ⟨kvs, rfl, c, e.symm⟩)
  | list ys =>
    obtain ⟨c, e⟩ := ite_some (show (if (fit x && ys.all fit) = true then some (ys.any fun y => y.eqv x) else none) = some k from e)
    rw [Bool.and_eq_true] at c
    exact .inl ⟨ys, .inl rfl, c.1, c.2, e.symm⟩
  | tuple ys =>
    obtain ⟨c, e⟩ := ite_some (show (if (fit x && ys.all fit) = true then some (ys.any fun y => y.eqv x) else none) = some k from e)
    rw [Bool.and_eq_true] at c
    exact .inl ⟨ys, .inr rfl, c.1, c.2, e.symm⟩
  | str y =>
    cases x with
    | str z => exact .inr (.inl ⟨z, y, rfl, rfl, (Option.some.inj e).symm⟩)
    | _ => cases (show (none : Option Bool) = some k from e)
  | _ => cases (show (none : Option Bool) = some k from e)
theorem PR.key {K : KW} {H : Hp} {kvs : List (P × P)} {p : P} {x : V} (hk : okKey kvs p = true) (h : PR K H p x) : Im K H p x := by
  rcases okKey_cases hk with ⟨z, e, _⟩ | ⟨h2, _⟩
  · subst e; exact h
  · obtain ⟨ps, e, _⟩ := keyT_tup h2
    subst e; exact h
theorem imX {X : Cx} {F : Fx} {H : Hp} {p : P} {x : V} (hF : F.K = X.kw) (h : Im F.K H p x) : Im X.kw H p x := hF ▸ h
theorem imF {X : Cx} {F : Fx} {H : Hp} {p : P} {x : V} (hF : F.K = X.kw) (h : Im X.kw H p x) : Im F.K H p x := hF ▸ h
theorem cmp_in (hF : F.K = X.kw) (hu : CR X.A) : OpR X (compareOp .In) (rCmp F (cmpop .in_)) := by
  intro pins s σ H x y v u Q I rx ry h
  obtain ⟨p, q, k, hp, hq, e, h⟩ := h
  have hu : X.A.units + 150 < cLine := hu
  rcases isIn_cases e with ⟨ys, hc, c1, c2, rfl⟩ | ⟨z, y', rfl, rfl, rfl⟩ | ⟨kvs, rfl, c1, rfl⟩
  · obtain ⟨p1, p2⟩ := fit_of c1
    obtain ⟨q1, q2⟩ := fits_all c2
    obtain ⟨as, ra⟩ := PR.reads I (hF ▸ hp) rx
    obtain ⟨bs, rb⟩ := PR.reads I (hF ▸ hq) ry
    rcases hc with rfl | rfl
    · exact SeqAt.in_list_data rb ra q1 p1 (by omega) ⟨.bl _, H, I, rfl, h⟩
    · exact SeqAt.in_tuple_data rb ra q1 p1 (by omega) ⟨.bl _, H, I, rfl, h⟩
  · exact op_in_str pins s σ H x y v u Q I rx ry ⟨z, y', hp, hq, h⟩
  · obtain ⟨a, ea, d⟩ := PR.dict (hF ▸ hq)
    subst ea
    obtain rfl : u = .ref a := ry
    exact dd_in (by omega) I d c1 (imX hF (hp.key c1)) rx fun s' I' => ⟨.bl _, H, I', rfl, h⟩
theorem cmp_notin (hF : F.K = X.kw) (hu : CR X.A) : OpR X (compareOp .NotIn) (rCmp F (cmpop .notin)) := by
  intro pins s σ H x y v u Q I rx ry h
  obtain ⟨p, q, k, hp, hq, e, h⟩ := h
  have hu : X.A.units + 150 < cLine := hu
  have e' : ∃ k', isIn p q = some k' ∧ k = !k' := by
    have e : (isIn p q).map (!·) = some k := e
    cases z : isIn p q with
    | none => rw [z] at e; cases e
    | some k' => rw [z] at e; exact ⟨k', rfl, (Option.some.inj e).symm⟩
  obtain ⟨k', e', rfl⟩ := e'
  rcases isIn_cases e' with ⟨ys, hc, c1, c2, rfl⟩ | ⟨z, y', rfl, rfl, rfl⟩ | ⟨kvs, rfl, c1, rfl⟩
  · obtain ⟨p1, p2⟩ := fit_of c1
    obtain ⟨q1, q2⟩ := fits_all c2
    obtain ⟨as, ra⟩ := PR.reads I (hF ▸ hp) rx
    obtain ⟨bs, rb⟩ := PR.reads I (hF ▸ hq) ry
    rcases hc with rfl | rfl
    · exact SeqAt.notIn_list_data rb ra q1 p1 (by omega) ⟨.bl _, H, I, rfl, h⟩
    · exact SeqAt.notIn_tuple_data rb ra q1 p1 (by omega) ⟨.bl _, H, I, rfl, h⟩
  · exact op_notin_str pins s σ H x y v u Q I rx ry ⟨z, y', hp, hq, h⟩
  · obtain ⟨a, ea, d⟩ := PR.dict (hF ▸ hq)
    subst ea
    obtain rfl : u = .ref a := ry
    exact dd_notIn (by omega) I d c1 (imX hF (hp.key c1)) rx fun s' I' => ⟨.bl _, H, I', rfl, h⟩
theorem cmp_any (hF : F.K = X.kw) (hu : CR X.A) {o : CmpOp} {b : Cop} (h : copOf o = some b) : OpR X (compareOp o) (rCmp F (cmpop b)) := by
  cases o <;> cases h
  · exact cmp_eq hF hu
  · exact cmp_ne hF hu
  · exact cmp_lt hF hu
  · exact cmp_le hF hu
  · exact cmp_gt hF hu
  · exact cmp_ge hF hu
  · exact cmp_is
  · exact cmp_isnot
  · exact cmp_in hF hu
  · exact cmp_notin hF hu

/-! ### items and slices -/
def rIdx (F : Fx) : R2 := fun x y H Q => ∃ p q r, PR F.K H p x ∧ PR F.K H q y ∧ idxop p q = some r ∧ ∀ v, Im F.K H r v → Q v H
theorem idx_dict {kvs : List (P × P)} {k r : P} (e : idxop (.dict kvs) k = some r) : okKey kvs k = true ∧ dGet kvs k = some r := by
  have e : (if okKey kvs k = true then dGet kvs k else none) = some r := by cases k <;> exact e
  cases c : okKey kvs k with
  | true => rw [c] at e; exact ⟨rfl, e⟩
  | false => rw [c] at e; cases e
theorem idx_any (hF : F.K = X.kw) (hu : CR X.A) : IxR X (rIdx F) := by
  intro value slice pins s σ H x y v u Q I rx ry h hs
  obtain ⟨p, q, r, hp, hq, e, h⟩ := h
  by_cases hd : ∃ kvs, p = .dict kvs
  · obtain ⟨kvs, rfl⟩ := hd
    obtain ⟨c1, c2⟩ := idx_dict e
    obtain ⟨a, ea, d⟩ := PR.dict (hF ▸ hp)
    subst ea
    obtain rfl : v = .ref a := rx
    have hu : X.A.units + 150 < cLine := hu
    obtain ⟨w, w', e1, e2, key⟩ := dd_get (E := X.xe) (A := X.A) (by omega) I d c1 (imX hF (hq.key c1)) ry c2
    exact subscriptTail_builtinR (x := w') (d.ty I).1 PySem.F.slot_dict_getitem.lookup (key (fun r' s' => r' = w' ∧ EP X pins σ Q r' s') fun s' I' => ⟨rfl, w, H, I', e2, h w (imF hF e1)⟩) hs
  cases p <;> first | exact absurd ⟨_, rfl⟩ hd | skip
  all_goals cases q <;> first | (cases (show (none : Option P) = some r from e); done) | skip
  · rename_i z i
    have hp : x = .str z := hp
    have hq : y = .int i := hq
    have e : (if z.length ≤ SZ then (L2.atI z.cps.toList i).map fun c => PyData.str ⟨#[c]⟩ else none) = some r := e
    by_cases hz : z.length ≤ SZ
    · rw [if_pos hz] at e
      cases q2 : L2.atI z.cps.toList i with
      | none => rw [q2] at e; cases e
      | some c =>
        rw [q2] at e
        have e : PyData.str ⟨#[c]⟩ = r := Option.some.inj e
        subst e
        exact ix_str value slice pins s σ H x y v u Q I rx ry ⟨z, i, c, hp, hq, hz, q2, h _ rfl⟩ hs
    · rw [if_neg hz] at e; cases e
  · obtain ⟨a, vs, e1, h1, z1, i1⟩ := hp
    obtain ⟨w, e2, h2⟩ := i1.at e
    exact ix_list value slice pins s σ H x y v u Q I rx ry ⟨a, vs, _, w, e1, hq, (by first | exact sqlX hF (h1) | exact sqtX hF (h1)), e2, h w h2⟩ hs
  · obtain ⟨a, vs, e1, h1, z1, i1⟩ := hp
    obtain ⟨w, e2, h2⟩ := i1.at e
    exact ix_tup value slice pins s σ H x y v u Q I rx ry ⟨a, vs, _, w, e1, hq, (by first | exact sqlX hF (h1) | exact sqtX hF (h1)), e2, h w h2⟩ hs
def rSlc (F : Fx) (W : WX) : V → Option Int → Option Int → Hp → VK → Prop := fun x lo hi H Q =>
  ∃ p st α σ, PR F.K H p x ∧ StR F.K α H st ∧ Out F W (RvR F.K) σ α H (slcop p lo hi st) Q
theorem slc_any (hF : F.K = X.kw) : SlR X (rSlc F W) := by
  intro pins s σ H x v vl vu lo hi sl Q I rx hs pl pu h
  obtain ⟨p, st, α, σ', hp, S, h⟩ := h
  cases p <;> first | exact h.elim | skip
  · obtain ⟨c, h⟩ := h.chk
    exact sl_str pins s σ H x v vl vu lo hi sl Q I rx hs pl pu ⟨_, hp, of_decide_eq_true c, h.one S rfl⟩
  · obtain ⟨a, vs, e1, h1, z1, i1⟩ := hp
    refine sl_list pins s σ H x v vl vu lo hi sl Q I rx hs pl pu ⟨a, vs, e1, (by first | exact sqlX hF (h1) | exact sqtX hF (h1)), fun p n => ?_⟩
    exact h.lst S n (Nat.le_trans (cutV_length _ _ _) z1) (i1.cut lo hi)
  · obtain ⟨a, vs, e1, h1, z1, i1⟩ := hp
    refine sl_tupA pins s σ H x v vl vu lo hi sl Q I rx hs pl pu ⟨a, vs, e1, (by first | exact sqlX hF (h1) | exact sqtX hF (h1)), fun c => ?_, fun c p n => ?_⟩
    · refine h.one S ⟨a, vs, rfl, h1, z1, ?_⟩
      have q := i1.cut lo hi
      have e : cutV vs lo hi = vs := by
        unfold cutV
        rw [c.1, c.2, List.drop_zero, Nat.sub_zero, List.take_length]
      rw [e] at q
      exact q
    · exact h.tup S n (Nat.le_trans (cutV_length _ _ _) z1) (i1.cut lo hi)

/-! ### isinstance, built-ins -/
def tyName : Ty → String
  | .str => "str" | .tup => "tuple" | .bool => "bool" | .list => "list" | .int => "int"
theorem isi_any (hF : F.K = X.kw) (t : Ty) : CallR X (.builtin "isinstance") (fun xs H Q => ∃ x p, xs = [x, .ty (tyName t)] ∧ PR F.K H p x ∧ Q (.bl (isTy t p)) H) := by
  intro pins s σ H xs us Q I r h
  obtain ⟨x, p, rfl, hp, q⟩ := h
  obtain ⟨u, w', rfl, rx, rt⟩ := vals2 r
  cases (show w' = Value.type (tyName t) from rt)
  obtain ⟨as, ra⟩ := PR.reads I (hF ▸ hp) rx
  have fin : ∀ k, k = isTy t p → ∀ tk, s.toks ≤ tk → EP X pins σ Q (.bool k) { s with toks := tk } := fun k e tk _ => by
    subst e
    exact ⟨.bl _, H, I.tok tk, rfl, q⟩
  cases t with
  | str => exact PySem.W.isinstance_str_data ra (fin _ (by cases p <;> rfl))
  | tup => exact PySem.W.isinstance_tuple_data ra (fin _ (by cases p <;> rfl))
  | bool => exact PySem.W.isinstance_bool_data ra (fin _ (by cases p <;> rfl))
  | list => exact PySem.W.isinstance_list_data ra (fin _ (by cases p <;> rfl))
  | int => exact PySem.W.isinstance_int_data ra (fin _ (by cases p <;> rfl))

/-- several values, readable as data -/
def PRs (K : KW) (H : Hp) : List P → List V → Prop
  | [], vs => vs = []
  | p :: ps, vs => ∃ v r, vs = v :: r ∧ PR K H p v ∧ PRs K H ps r
theorem PRs.one {K : KW} {H : Hp} {p : P} {vs : List V} (h : PRs K H [p] vs) : ∃ v, vs = [v] ∧ PR K H p v := by
  obtain ⟨v, r, e, h1, h2⟩ := h
  have h2 : r = [] := h2
  subst h2
  exact ⟨v, e, h1⟩
theorem PRs.two {K : KW} {H : Hp} {p q : P} {vs : List V} (h : PRs K H [p, q] vs) : ∃ v w, vs = [v, w] ∧ PR K H p v ∧ PR K H q w := by
  obtain ⟨v, r, e, h1, h2⟩ := h
  obtain ⟨w, e2, h3⟩ := h2.one
  subst e2
  exact ⟨v, w, e, h1, h3⟩
theorem bools_map : ∀ {ys : List P} {bs : List Bool}, bools ys = some bs → ∀ {K : KW} {H : Hp} {vs : List V}, ImAll K H ys vs → vs = bs.map V.bl
  | [], bs, e, K, H, vs, h => by
    have e : [] = bs := Option.some.inj e
    subst e
    exact h
  | y :: ys, bs, e, K, H, vs, h => by
    cases y with
    | bool b =>
      have e : (bools ys).map (b :: ·) = some bs := e
      cases q : bools ys with
      | none => rw [q] at e; cases e
      | some cs =>
        rw [q] at e
        have e : b :: cs = bs := Option.some.inj e
        subst e
        obtain ⟨v, r, e1, h1, h2⟩ := h
        have h1 : v = .bl b := h1
        subst h1 e1
        rw [bools_map q h2]
        rfl
    | _ => cases (show (none : Option (List Bool)) = some bs from e)
/-- the built-in's name -/
def bltV : Blt → Value
  | .len => .builtin "len" | .all => .builtin "all" | .any => .builtin "any" | .max => .builtin "max" | .min => .builtin "min" | .sorted => .builtin "sorted" | .dict => .type "dict"
  | .int => .type "int" | .list => .type "list" | .tuple => .type "tuple" | .str => .type "str"
def rBlt (F : Fx) (W : WX) (b : Blt) : List V → Hp → VK → Prop := fun xs H Q => ∃ ps st α σ, PRs F.K H ps xs ∧ StR F.K α H st ∧ Out F W (RvR F.K) σ α H (bltop b ps st) Q
theorem blt_any (hF : F.K = X.kw) (hc : X.calm = true) (hu : CR X.A) (b : Blt) : CallR X (bltV b) (rBlt F W b) := by
  intro pins s σ H xs us Q I r h
  obtain ⟨ps, st, α, σ', hp, S, h⟩ := h
  cases b with
  | len =>
    have z : ∃ a n, ps = [a] ∧ lenP a = some n ∧ Out F W (RvR F.K) σ' α H (ok1 (.int n) st) Q := by
      rcases ps with _ | ⟨a, _ | ⟨b, r⟩⟩
      · exact (show False from h).elim
      · have h : Out F W (RvR F.K) σ' α H (match lenP a with | some n => ok1 (.int n) st | none => .bad) Q := by
          cases a <;> exact h
        cases e : lenP a with
        | none => rw [e] at h; exact h.elim
        | some n => rw [e] at h; exact ⟨a, n, rfl, e, h⟩
      · cases a <;> cases b <;> exact (show False from h).elim
    obtain ⟨a, n, rfl, e, h⟩ := z
    have q := h.one (v := .int n) S rfl
    obtain ⟨v, rfl, h0⟩ := hp.one
    by_cases hd : ∃ kvs, a = .dict kvs
    · obtain ⟨kvs, rfl⟩ := hd
      have e : (if ((kvs.all fun q => keyS q.1) || (kvs.all fun q => keyT q.1)) = true then some kvs.length else none) = some n := e
      obtain ⟨c, e⟩ := ite_some e
      subst e
      obtain ⟨b, eb, d⟩ := PR.dict (hF ▸ h0)
      subst eb
      obtain ⟨u, rfl, rx⟩ := vals1 r
      obtain rfl : u = .ref b := rx
      exact dd_len I d c fun t s' I' => ⟨.int _, H, I', ⟨t, rfl⟩, q⟩
    refine call_len pins s σ H [v] us Q I r ⟨v, n, rfl, ?_, q⟩
    cases a with
    | str y =>
      have h0 : v = .str y := h0
      subst h0
      have e : (if y.length ≤ SZ then some y.length else none) = some n := e
      by_cases hz : y.length ≤ SZ
      · rw [if_pos hz] at e
        exact ⟨hz, (Option.some.inj e).symm⟩
      · rw [if_neg hz] at e; cases e
    | list ys =>
      obtain ⟨b, vs, e1, h1, z1, i1⟩ := h0
      subst e1
      exact .inl ⟨vs, (by first | exact sqlX hF (h1) | exact sqtX hF (h1)), by rw [← i1.length]; exact (Option.some.inj e).symm⟩
    | tuple ys =>
      obtain ⟨b, vs, e1, h1, z1, i1⟩ := h0
      subst e1
      exact .inr ⟨vs, (by first | exact sqlX hF (h1) | exact sqtX hF (h1)), by rw [← i1.length]; exact (Option.some.inj e).symm⟩
    | dict _ => exact absurd ⟨_, rfl⟩ hd
    | none => cases (show (none : Option Nat) = some n from e)
    | bool _ => cases (show (none : Option Nat) = some n from e)
    | int _ => cases (show (none : Option Nat) = some n from e)
  | all =>
    have z : ∃ ys bs, ps = [.list ys] ∧ bools ys = some bs ∧ Out F W (RvR F.K) σ' α H (ok1 (.bool (bs.all id)) st) Q := by
      rcases ps with _ | ⟨a, _ | ⟨b, r⟩⟩
      · exact (show False from h).elim
      · cases a <;> try exact (show False from h).elim
        rename_i ys
        have h : Out F W (RvR F.K) σ' α H (match bools ys with | some bs => ok1 (.bool (bs.all id)) st | none => .bad) Q := h
        cases e : bools ys with
        | none => rw [e] at h; exact h.elim
        | some bs => rw [e] at h; exact ⟨ys, bs, rfl, e, h⟩
      · cases a <;> cases b <;> exact (show False from h).elim
    obtain ⟨ys, bs, rfl, e, h⟩ := z
    obtain ⟨v, rfl, b, vs, e1, h1, z1, i1⟩ := hp.one
    have q := bools_map e i1
    subst q
    exact cr_all hc pins s σ H _ us Q I r ⟨b, bs, by rw [e1], (by first | exact sqlX hF (h1) | exact sqtX hF (h1)), h.one S rfl⟩
  | any =>
    have z : ∃ ys bs, ps = [.list ys] ∧ bools ys = some bs ∧ Out F W (RvR F.K) σ' α H (ok1 (.bool (bs.any id)) st) Q := by
      rcases ps with _ | ⟨a, _ | ⟨b, r⟩⟩
      · exact (show False from h).elim
      · cases a <;> try exact (show False from h).elim
        rename_i ys
        have h : Out F W (RvR F.K) σ' α H (match bools ys with | some bs => ok1 (.bool (bs.any id)) st | none => .bad) Q := h
        cases e : bools ys with
        | none => rw [e] at h; exact h.elim
        | some bs => rw [e] at h; exact ⟨ys, bs, rfl, e, h⟩
      · cases a <;> cases b <;> exact (show False from h).elim
    obtain ⟨ys, bs, rfl, e, h⟩ := z
    obtain ⟨v, rfl, b, vs, e1, h1, z1, i1⟩ := hp.one
    have q := bools_map e i1
    subst q
    exact cr_any hc pins s σ H _ us Q I r ⟨b, bs, by rw [e1], (by first | exact sqlX hF (h1) | exact sqtX hF (h1)), h.one S rfl⟩
  | max =>
    have z : ∃ i j, ps = [.int i, .int j] ∧ Out F W (RvR F.K) σ' α H (ok1 (.int (if j > i then j else i)) st) Q := by
      rcases ps with _ | ⟨a, _ | ⟨b, _ | ⟨c, r⟩⟩⟩
      · exact (show False from h).elim
      · cases a <;> exact (show False from h).elim
      · cases a <;> cases b <;> first | exact (show False from h).elim | exact ⟨_, _, rfl, h⟩
      · cases a <;> cases b <;> exact (show False from h).elim
    obtain ⟨i, j, rfl, h⟩ := z
    obtain ⟨v, w', rfl, h1, h2⟩ := hp.two
    have h1 : v = .int i := h1
    have h2 : w' = .int j := h2
    exact call_max2 hc pins s σ H _ us Q I r ⟨i, j, by rw [h1, h2], h.one S rfl⟩
  | min =>
    have z : ∃ i j, ps = [.int i, .int j] ∧ Out F W (RvR F.K) σ' α H (ok1 (.int (if j < i then j else i)) st) Q := by
      rcases ps with _ | ⟨a, _ | ⟨b, _ | ⟨c, r⟩⟩⟩
      · exact (show False from h).elim
      · cases a <;> exact (show False from h).elim
      · cases a <;> cases b <;> first | exact (show False from h).elim | exact ⟨_, _, rfl, h⟩
      · cases a <;> cases b <;> exact (show False from h).elim
    obtain ⟨i, j, rfl, h⟩ := z
    obtain ⟨v, w', rfl, h1, h2⟩ := hp.two
    have h1 : v = .int i := h1
    have h2 : w' = .int j := h2
    exact call_min2 hc pins s σ H _ us Q I r ⟨i, j, by rw [h1, h2], h.one S rfl⟩
  | int =>
    have z : (∃ i, ps = [.int i] ∧ Out F W (RvR F.K) σ' α H (ok1 (.int i) st) Q) ∨ ∃ k, ps = [.bool k] ∧ Out F W (RvR F.K) σ' α H (ok1 (.int (if k then 1 else 0)) st) Q := by
      rcases ps with _ | ⟨a, _ | ⟨b, r⟩⟩
      · exact (show False from h).elim
      · cases a <;> first | exact (show False from h).elim | exact .inl ⟨_, rfl, h⟩ | exact .inr ⟨_, rfl, h⟩
      · cases a <;> cases b <;> exact (show False from h).elim
    rcases z with ⟨i, rfl, h⟩ | ⟨k, rfl, h⟩
    · obtain ⟨v, rfl, h1⟩ := hp.one
      have h1 : v = .int i := h1
      exact call_int1 pins s σ H _ us Q I r (.inl ⟨i, by rw [h1], h.one S rfl⟩)
    · obtain ⟨v, rfl, h1⟩ := hp.one
      have h1 : v = .bl k := h1
      exact call_int1 pins s σ H _ us Q I r (.inr ⟨k, by rw [h1], h.one S rfl⟩)
  | list =>
    have z : (∃ ys, ps = [.list ys] ∧ Out F W (RvR F.K) σ' α H (.ok (.nl ys) st) Q) ∨ ∃ ys, ps = [.tuple ys] ∧ Out F W (RvR F.K) σ' α H (.ok (.nl ys) st) Q := by
      rcases ps with _ | ⟨a, _ | ⟨b, r⟩⟩
      · exact (show False from h).elim
      · cases a <;> first | exact (show False from h).elim | exact .inl ⟨_, rfl, h⟩ | exact .inr ⟨_, rfl, h⟩
      · cases a <;> cases b <;> exact (show False from h).elim
    rcases z with ⟨ys, rfl, h⟩ | ⟨ys, rfl, h⟩
    · obtain ⟨v, rfl, b, vs, e1, h1, z1, i1⟩ := hp.one
      exact call_list_of pins s σ H _ us Q I r ⟨b, vs, by rw [e1], .inl ((by first | exact sqlX hF (h1) | exact sqtX hF (h1))), fun l n => h.lst S n z1 i1⟩
    · obtain ⟨v, rfl, b, vs, e1, h1, z1, i1⟩ := hp.one
      exact call_list_of pins s σ H _ us Q I r ⟨b, vs, by rw [e1], .inr ((by first | exact sqlX hF (h1) | exact sqtX hF (h1))), fun l n => h.lst S n z1 i1⟩
  | tuple =>
    have z : (∃ ys, ps = [.list ys] ∧ Out F W (RvR F.K) σ' α H (ok1 (.tuple ys) st) Q) ∨ ∃ ys, ps = [.tuple ys] ∧ Out F W (RvR F.K) σ' α H (ok1 (.tuple ys) st) Q := by
      rcases ps with _ | ⟨a, _ | ⟨b, r⟩⟩
      · exact (show False from h).elim
      · cases a <;> first | exact (show False from h).elim | exact .inl ⟨_, rfl, h⟩ | exact .inr ⟨_, rfl, h⟩
      · cases a <;> cases b <;> exact (show False from h).elim
    rcases z with ⟨ys, rfl, h⟩ | ⟨ys, rfl, h⟩
    · obtain ⟨v, rfl, b, vs, e1, h1, z1, i1⟩ := hp.one
      exact call_tuple_of pins s σ H _ us Q I r ⟨b, vs, by rw [e1], .inl ⟨(by first | exact sqlX hF (h1) | exact sqtX hF (h1)), fun l n => h.tup S n z1 i1⟩⟩
    · obtain ⟨v, rfl, h0⟩ := hp.one
      have h0' := h0
      obtain ⟨b, vs, e1, h1, z1, i1⟩ := h0'
      exact call_tuple_of pins s σ H _ us Q I r ⟨b, vs, by rw [e1], .inr ⟨(by first | exact sqlX hF (h1) | exact sqtX hF (h1)), by rw [← e1]; exact h.one S h0⟩⟩
  | str => exact (show False by
      rcases ps with _ | ⟨a, _ | ⟨b, r⟩⟩
      · exact h
      · cases a <;> exact h
      · cases a <;> cases b <;> exact h).elim
  | sorted =>
    have z : ∃ ys, ps = [.list ys] ∧ Out F W (RvR F.K) σ' α H (chk (srtOk ys) (.ok (.nl (ys.mergeSort leP)) st)) Q := by
      rcases ps with _ | ⟨a, _ | ⟨b, r⟩⟩
      · exact (show False from h).elim
      · cases a <;> first | exact (show False from h).elim | exact ⟨_, rfl, h⟩
      · cases a <;> cases b <;> exact (show False from h).elim
    obtain ⟨ys, rfl, h⟩ := z
    obtain ⟨c, h⟩ := h.chk
    obtain ⟨v, rfl, b, vs, e1, h1, z1, i1⟩ := hp.one
    subst e1
    obtain ⟨u, rfl, rx⟩ := vals1 r
    obtain rfl : u = .ref b := rx
    refine sorted_any hu I (sqlX hF h1) (hF ▸ i1) c fun p vs' s' n i' z' I' => ⟨.ref p, _, I', rfl, h.lst S n z' (hF ▸ i')⟩
  | dict =>
    have z : ∃ ys kvs, ps = [.list ys] ∧ prsOf ys = some kvs ∧ Out F W (RvR F.K) σ' α H (chk (decide (kvs.length ≤ SZ) && kvs.all fun q => keyS q.1) (.ok (.nd (dMerge [] kvs)) st)) Q := by
      rcases ps with _ | ⟨a, _ | ⟨b, r⟩⟩
      · exact (show False from h).elim
      · cases a <;> try exact (show False from h).elim
        rename_i ys
        have h : Out F W (RvR F.K) σ' α H (match prsOf ys with | some kvs => chk (decide (kvs.length ≤ SZ) && kvs.all fun q => keyS q.1) (.ok (.nd (dMerge [] kvs)) st) | none => .bad) Q := h
        cases e : prsOf ys with
        | none => rw [e] at h; exact h.elim
        | some kvs => rw [e] at h; exact ⟨ys, kvs, rfl, e, h⟩
      · cases a <;> cases b <;> exact (show False from h).elim
    obtain ⟨ys, kvs, rfl, e, h⟩ := z
    obtain ⟨c, h⟩ := h.chk
    rw [Bool.and_eq_true] at c
    obtain ⟨v, rfl, b, vs, e1, h1, z1, i1⟩ := hp.one
    obtain ⟨as, ks, e2, g1, g2⟩ := prs_im e c.2 i1
    subst e2
    refine call_dictP hc pins s σ H _ us Q I r ⟨b, as, ks, by rw [e1], sqlX hF h1, ?_, fun p n => ?_⟩
    · have g1 := g1
      rw [hF] at g1
      exact g1
    · obtain ⟨m1, m2, m3⟩ := merge_str (kvs := []) (ks := []) g2 c.2 rfl rfl List.nodup_nil
      have x := Ext.new (o := .dK (mergeK [] ks)) n
      refine h (.ref p) _ α Pre.refl x (S.new n) ⟨p, .dK (mergeK [] ks), dkWs (mergeK [] ks), rfl, upd_same, .inl ⟨_, rfl, rfl, m2⟩, ?_, ImKvs.ext x _ _ m1, S.out n⟩
      have := dMerge_len kvs []
      have c1 : kvs.length ≤ sizeLine := of_decide_eq_true c.1
      rw [List.length_nil] at this
      exact Nat.le_trans this (by omega)
end
end Kp

/-! Kp, part 6: what compiles is read as the evaluator says: expressions. -/
namespace Kp
open PySem PySem.Spec PyProof.Rows L2

/-- what a def does, as the evaluator has it -/
def spFn (F : Fx) (Φ : Nat → List D → Sto → R Rv) (j : Nat) (n : Nat) : Sp := fun vs H Q E =>
  ∃ ds st α, vs.length = n ∧ DRs F.K α H ds vs ∧ StR F.K α H st ∧ Out F (fun c d _ H' => E c d H') (RvR F.K) [] α H (Φ j ds st) Q
def GlobOk (P : Program) (w : World) (K : PySem.W.Frag) (mg : Str → Option Value) (base : Heap) (F : Fx) (Φ : Nat → List D → Sto → R Rv) (k : Nat) (x : Str) : G → Prop
  | .fn j => ∃ f fd ps, mg x = some (.ref f) ∧ PySem.W.keepIn K (.ref f) = true ∧ Binds K fd ps [] ∧ FnOk P w K mg base (L2.CX P w) k f fd ps (spFn F Φ j ps.length) ∧ ∀ ds st, ds.length ≠ ps.length → Φ j ds st = .bad
  | .con p => ∃ u v, mg x = some u ∧ RelV v u ∧ ∀ H, Im F.K H p v
  | .blt b => mg x = none ∧ bootBuiltins x = some (bltV b)
  | .ty t => mg x = none ∧ bootBuiltins x = some (.type (tyName t))
  | .isi => mg x = none ∧ bootBuiltins x = some (.builtin "isinstance")
  | .range => mg x = none ∧ x = ("range" : Str)
  | .set => mg x = none ∧ x = ("set" : Str)
  | .exc c => ∃ C, mg x = some (.ref C) ∧ F.cls c = .ref C ∧ PySem.W.excIn K C [.type "ValueError", .type "Exception", .type "BaseException", .type "object"] "ValueError.__new__" = true ∧ PySem.W.keepIn K (.ref C) = true ∧
      PySem.W.subIn K (.ref C) (.type "BaseException") = some true ∧ PySem.W.typeIn K (.ref C) = some (.type "type")
  | .clsx c => ∃ C, mg x = some (.ref C) ∧ F.cls c = .ref C
  | .enum => mg x = none ∧ x = ("enumerate" : Str)
  | .zip => mg x = none ∧ x = ("zip" : Str)
structure Cxt (c : Cfg) (sc : Scope) (F : Fx) (W : WX) (Φ : Nat → List D → Sto → R Rv) (k : Nat) (X : Cx) : Prop where
  hF : F.K = X.kw
  hN : X.N = c.N
  nd : c.N.Nodup
  sc : X.env.scope = sc
  calm : X.calm = true
  cr : CR X.A
  room : Room k X.A
  tk : Takes X W
  ex : ∀ a b, a ∈ c.cs → b ∈ c.cs → PySem.W.exmOne X.K (F.cls a) (F.cls b) = some (subC a b)
  g : ∀ x g, c.g x = some g → GlobOk X.prog X.w X.K X.mg X.base F Φ k x g

abbrev tE (F : Fx) (W : WX) (Φ : Nat → List D → Sto → R Rv) (i : Kp.X) : TE := tM F W (RvR F.K) (fun env st => evE Φ env i st)
abbrev tT (F : Fx) (W : WX) (Φ : Nat → List D → Sto → R Rv) (i : Kp.X) : TT := tM F W (fun _ _ (b : Bool) k => b = k) (fun env st => evB Φ env i st)
abbrev tD (F : Fx) (W : WX) (Φ : Nat → List D → Sto → R Rv) (is : List Kp.X) : TA := tM F W (DRs F.K) (fun env st => evDs Φ env is st)

section
variable {β γ : Type} {F : Fx} {W : WX} {RR : List Addr → Hp → β → γ → Prop} {σ : L2.St} {α : List Addr} {H : Hp} {Q : γ → Hp → Prop} {st : Sto}
theorem Out.needP {r : Rv} {f : P → R β} (h : Out F W RR σ α H (Kp.needP r st f) Q) : ∃ p, asP st r = some p ∧ Out F W RR σ α H (f p) Q := by
  unfold Kp.needP at h
  cases e : asP st r with
  | none => rw [e] at h; exact h.elim
  | some p => rw [e] at h; exact ⟨p, rfl, h⟩
theorem Out.needI {r : Rv} {f : P → R β} (h : Out F W RR σ α H (Kp.needI r f) Q) : ∃ p, r.frz = .py p ∧ Out F W RR σ α H (f p) Q := by
  unfold Kp.needI at h
  cases e : r.frz with
  | py p => rw [e] at h; exact ⟨p, rfl, h⟩
  | ref _ => rw [e] at h; exact h.elim
theorem Out.needO {r : Rv} {f : Option Int → R β} {K : KW} {α' : List Addr} {H' : Hp} {y : V} (h : Out F W RR σ α H (Kp.needO r f) Q) (hr : DR K α' H' r.frz y) : ∃ l, ((l = none ∧ y = .non) ∨ ∃ i, l = some i ∧ y = .int i) ∧ Out F W RR σ α H (f l) Q := by
  unfold Kp.needO at h
  split at h
  · rename_i e
    rw [e] at hr
    exact ⟨none, .inl ⟨rfl, hr⟩, h⟩
  · rename_i e
    rw [e] at hr
    exact ⟨_, .inr ⟨_, rfl, hr⟩, h⟩
  · exact h.elim
theorem Out.needB {r : Rv} {f : Bool → R β} (h : Out F W RR σ α H (Kp.needB r f) Q) : ∃ k, r = .im (.py (.bool k)) ∧ Out F W RR σ α H (f k) Q := by
  unfold Kp.needB at h
  split at h
  · exact ⟨_, rfl, h⟩
  · exact h.elim
end

theorem idxOf_get {x : Str} : ∀ {N : List Str} {i : Nat}, N.idxOf? x = some i → N[i]? = some x
  | [], i, h => by simp at h
  | y :: N, i, h => by
    rw [List.idxOf?_cons] at h
    split at h
    · rename_i e
      have e : y = x := eq_of_beq e
      cases h
      rw [e]; rfl
    · cases q : List.idxOf? x N with
      | none => rw [q] at h; cases h
      | some j =>
        rw [q] at h
        have h : j + 1 = i := Option.some.inj h
        subst h
        have z : N[j]? = some x := idxOf_get q
        simpa using z
theorem slot_ok {c : Cfg} {sc : Scope} {x : Str} {i : Nat} (h : slot c sc x = some i) : c.N[i]? = some x ∧ Vis sc x ∧ (x == ("__debug__" : Str)) = false ∧ (x == ("__classdict__" : Str)) = false := by
  unfold slot at h
  split at h
  · rename_i k hk
    split at h
    · rename_i hv
      rw [Bool.and_eq_true] at hv
      obtain ⟨hv, ho⟩ := hv
      unfold okN at ho
      rw [Bool.and_eq_true] at ho
      refine ⟨idxOf_get h, ?_, by simpa using ho.1, by simpa using ho.2⟩
      cases k <;> first | exact .inl hk | exact .inr (.inl hk) | exact .inr (.inr hk) | cases hv
    · cases h
  · cases h
theorem glob_ok {c : Cfg} {sc : Scope} {x : Str} {g : G} (h : glob c sc x = some g) : c.g x = some g ∧ sc.names.lookup x = some .globalImplicit ∧ (x == ("__debug__" : Str)) = false ∧ x ≠ "__name__" := by
  unfold glob at h
  split at h
  · rename_i hk
    split at h
    · rename_i hv
      rw [Bool.and_eq_true] at hv
      refine ⟨h, hk, by simpa using hv.1, fun e => ?_⟩
      have := hv.2
      rw [e] at this
      simp at this
    · cases h
  · cases h

section
variable {c : Cfg} {sc : Scope} {F : Fx} {W : WX} {Φ : Nat → List D → Sto → R Rv} {k : Nat} {X : Cx}
theorem Cxt.gl (C : Cxt c sc F W Φ k X) {x : Str} {g : G} (h : glob c sc x = some g) : Gl X x ∧ GlobOk X.prog X.w X.K X.mg X.base F Φ k x g ∧ (x == ("__debug__" : Str)) = false ∧ x ≠ "__name__" := by
  obtain ⟨h1, h2, h3, h4⟩ := glob_ok h
  refine ⟨?_, C.g x g h1, h3, h4⟩
  show X.env.scope.names.lookup x = _
  rw [C.sc]; exact h2
theorem Cxt.vis (C : Cxt c sc F W Φ k X) {x : Str} {i : Nat} (h : slot c sc x = some i) : X.N[i]? = some x ∧ Vis X.env.scope x ∧ (x == ("__debug__" : Str)) = false ∧ (x == ("__classdict__" : Str)) = false := by
  obtain ⟨h1, h2, h3⟩ := slot_ok h
  exact ⟨by rw [C.hN]; exact h1, by rw [C.sc]; exact h2, h3⟩

/-! ### one step each -/
theorem s_var (C : Cxt c sc F W Φ k X) {x : Str} {i : Nat} {pos : Pos} (h : slot c sc x = some i) : PE X (.Name x pos) (tE F W Φ (.var i)) := by
  obtain ⟨h1, h2, h3, h4⟩ := C.vis h
  refine (pe_var h1 h2 h3 h4).imp fun σ H Q q => ?_
  obtain ⟨env, st, α, hE, hS, ho⟩ := q
  simp only [evE] at ho
  split at ho
  · rename_i d e
    obtain ⟨v, e1, r⟩ := hE.at_ i d e
    exact ⟨v, e1, ho.im hS r⟩
  · exact ho.elim
theorem im_con {K : KW} {H : Hp} : ∀ {kc : Const} {p : P}, constOf kc = some p → ∃ v, Im K H p v ∧ v = (match kc with | .none => V.non | .bool b => .bl b | .int i => .int i | .str s => .str s | _ => .non) := by
  intro kc p h
  cases kc <;> cases h <;> exact ⟨_, rfl, rfl⟩
theorem tC_imp (C : Cxt c sc F W Φ k X) {p : P} {v : V} (i : ∀ H, Im F.K H p v) : ∀ σ H Q, tE F W Φ (.const p) σ H Q → tC v σ H Q := fun σ H Q q => by
  obtain ⟨env, st, α, hE, hS, ho⟩ := q
  simp only [evE] at ho
  exact ho.one hS (i H)
theorem s_con (C : Cxt c sc F W Φ k X) {kc : Const} {p : P} {j : Nat} {pos : Pos} (h : constOf kc = some p) : PE X (.Constant kc j pos) (tE F W Φ (.const p)) := by
  cases kc <;> cases h
  · exact pe_non.imp (tC_imp C fun H => rfl)
  · exact pe_bl.imp (tC_imp C fun H => rfl)
  · exact pe_int.imp (tC_imp C fun H => rfl)
  · exact pe_str.imp (tC_imp C fun H => rfl)
theorem s_glob (C : Cxt c sc F W Φ k X) {x : Str} {p : P} {pos : Pos} (h : glob c sc x = some (.con p)) : PE X (.Name x pos) (tE F W Φ (.const p)) := by
  obtain ⟨h1, ⟨u, v, h2, h3, h4⟩, h5, h6⟩ := C.gl h
  exact (pe_glob h1 h2 h3 h5).imp (tC_imp C h4)

/-- values in a row -/
theorem s_nil : PA X [] (tD F W Φ []) := pa_nil.imp fun σ H Q q => by
  obtain ⟨env, st, α, hE, hS, ho⟩ := q
  simp only [evDs] at ho
  exact ho [] H α Pre.refl Ext.refl hS rfl
theorem s_cons (C : Cxt c sc F W Φ k X) {e : Expr} {es : List Expr} {i : Kp.X} {is : List Kp.X} (he : PE X e (tE F W Φ i)) (hs : PA X es (tD F W Φ is)) (hst : starEach (e :: es) X.env = (false, eval e X.env) :: starEach es X.env) : PA X (e :: es) (tD F W Φ (i :: is)) :=
  (pa_cons (pe_frz C.hF he) hs hst).imp fun σ H Q q => by
    obtain ⟨env, st, α, hE, hS, ho⟩ := q
    simp only [evDs] at ho
    refine (tM.bind hE hS ho).imp fun x H1 ⟨r, st1, α1, a1, r1, ho⟩ => ?_
    refine (tM.bind a1.E a1.S ho).imp fun vs H2 ⟨ds, st2, α2, a2, r2, ho⟩ => ?_
    exact ho (x :: vs) H2 α2 Pre.refl Ext.refl a2.S ⟨x, vs, rfl, DR.mono a2.pre a2.ext r1, r2⟩
theorem toPs_all {K : KW} {α : List Addr} {H : Hp} : ∀ {ds : List D} {ps : List P} {vs : List V}, toPs ds = some ps → DRs K α H ds vs → ImAll K H ps vs
  | [], ps, vs, e, h => by
    cases (show some [] = some ps from e)
    exact h
  | .py p :: ds, ps, vs, e, h => by
    have e : (toPs ds).map (p :: ·) = some ps := e
    cases q : toPs ds with
    | none => rw [q] at e; cases e
    | some qs =>
      rw [q] at e
      have e : p :: qs = ps := Option.some.inj e
      subst e
      obtain ⟨v, r, e1, h1, h2⟩ := h
      exact ⟨v, r, e1, h1, toPs_all q h2⟩
  | .ref _ :: _, ps, vs, e, h => by cases (show none = some ps from e)
theorem s_tup (C : Cxt c sc F W Φ k X) {es : List Expr} {is : List Kp.X} {x1 : Nat} {pos : Pos} (h : PA X es (tD F W Φ is)) : PE X (.Tuple es x1 pos) (tE F W Φ (.tup is)) :=
  (pe_tup h).imp fun σ H Q q => by
    obtain ⟨env, st, α, hE, hS, ho⟩ := q
    simp only [evE] at ho
    refine (tM.bind hE hS ho).imp fun vs H1 ⟨ds, st1, α1, a1, r1, ho⟩ => ?_
    cases e : toPs ds with
    | none => rw [e] at ho; exact ho.elim
    | some ps =>
      rw [e] at ho
      obtain ⟨z, ho⟩ := ho.chk
      have r := toPs_all e r1
      have z := of_decide_eq_true z
      rw [r.length] at z
      exact ⟨z, fun p n => ho.tup a1.S n z r⟩
theorem s_lst (C : Cxt c sc F W Φ k X) {es : List Expr} {is : List Kp.X} {pos : Pos} (h : PA X es (tD F W Φ is)) : PE X (.List es pos) (tE F W Φ (.lst is)) :=
  (pe_lst h).imp fun σ H Q q => by
    obtain ⟨env, st, α, hE, hS, ho⟩ := q
    simp only [evE] at ho
    refine (tM.bind hE hS ho).imp fun vs H1 ⟨ds, st1, α1, a1, r1, ho⟩ => ?_
    cases e : toPs ds with
    | none => rw [e] at ho; exact ho.elim
    | some ps =>
      rw [e] at ho
      obtain ⟨z, ho⟩ := ho.chk
      have r := toPs_all e r1
      have z := of_decide_eq_true z
      rw [r.length] at z
      exact ⟨z, fun p n => ho.lst a1.S n z r⟩

/-- two operands, frozen, then an operation -/
theorem two {r : R2} {m1 m2 : Ev → Sto → R Rv} {f : Rv → Rv → Sto → R Rv} 
    (hr : ∀ σ α H st x y a b Q, StR F.K α H st → DR F.K α H (Rv.frz a) x → DR F.K α H (Rv.frz b) y → Out F W (RvR F.K) σ α H (f a b st) Q → r x y H Q) :
    ∀ σ H Q, tM F W (RvR F.K) (fun env st => (m1 env st).bind fun x st1 => (m2 env st1).bind fun y st2 => f x y st2) σ H Q → tOp r (tM F W (RvF F.K) m1) (tM F W (RvF F.K) m2) σ H Q := fun σ H Q q => by
  obtain ⟨env, st, α, hE, hS, ho⟩ := q
  refine (tM.bind hE hS ho).imp fun x H1 ⟨a, st1, α1, a1, r1, ho⟩ => ?_
  refine (tM.bind a1.E a1.S ho).imp fun y H2 ⟨b, st2, α2, a2, r2, ho⟩ => ?_
  exact hr σ α2 H2 st2 x y a b Q a2.S (DR.mono a2.pre a2.ext r1) r2 ho
theorem s_bin (C : Cxt c sc F W Φ k X) {o : Operator} {b : Bop} {l r : Expr} {i j : Kp.X} {pos : Pos} (h : bopOf o = some b) (hl : PE X l (tE F W Φ i)) (hr : PE X r (tE F W Φ j)) : PE X (.BinOp l o r pos) (tE F W Φ (.bin b i j)) :=
  (pe_op (bin_any (F := F) (W := W) C.hF h) (pe_frz C.hF hl) (pe_frz C.hF hr)).imp fun σ H Q q => by
    simp only [tE, evE] at q
    refine two (fun σ α H st x y a b' Q S ha hb ho => ?_) σ H Q q
    obtain ⟨p, e1, ho⟩ := ho.needP
    obtain ⟨p', e2, ho⟩ := ho.needP
    exact ⟨p, p', st, α, σ, DR.pr S ha e1, DR.pr S hb e2, S, ho⟩
theorem cmp_hr {b : Cop} : ∀ σ α H st x y (a b' : Rv) (Q : VK), StR F.K α H st → DR F.K α H a.frz x → DR F.K α H b'.frz y →
    Out F W (RvR F.K) σ α H (needP a st fun p => needP b' st fun q => match cmpop b p q with | some k => ok1 (.bool k) st | none => .bad) Q → rCmp F (cmpop b) x y H Q := fun σ α H st x y a b' Q S ha hb ho => by
  obtain ⟨p, e1, ho⟩ := ho.needP
  obtain ⟨p', e2, ho⟩ := ho.needP
  cases e : cmpop b p p' with
  | none => rw [e] at ho; exact ho.elim
  | some kk =>
    rw [e] at ho
    exact ⟨p, p', kk, DR.pr S ha e1, DR.pr S hb e2, e, ho.one S rfl⟩
theorem bool_one {σ : L2.St} {α : List Addr} {H : Hp} {st : Sto} {kk : Bool} {Q : Bool → Hp → Prop} (S : StR F.K α H st) (h : Out F W (fun _ _ (b : Bool) k => b = k) σ α H (.ok kk st) Q) : Q kk H := h kk H α Pre.refl Ext.refl S rfl
theorem bind_needB {m : R Rv} : (m.bind fun r st1 => needB r fun k => R.ok k st1) = (m.bind fun r st1 => needB r fun k => R.ok k st1) := rfl
theorem R.bind_assoc {α β γ : Type} (m : R α) (f : α → Sto → R β) (g : β → Sto → R γ) : (m.bind f).bind g = m.bind fun a st => (f a st).bind g := by
  cases m <;> rfl
theorem s_cmp (C : Cxt c sc F W Φ k X) {o : CmpOp} {b : Cop} {l r : Expr} {i j : Kp.X} {pos : Pos} (h : copOf o = some b) (hm : behindInMarks o r = false) (hl : PE X l (tE F W Φ i)) (hr : PE X r (tE F W Φ j)) :
    PE X (.Compare l [o] [r] pos) (tE F W Φ (.cmp b i j)) ∧ PT X (.Compare l [o] [r] pos) (tT F W Φ (.cmp b i j)) := by
  refine ⟨(pe_cmpR (cmp_any (F := F) C.hF C.cr h) (pe_frz C.hF hl) (pe_frz C.hF hr) hm).imp fun σ H Q q => ?_, (pt_cmpR (cmp_any (F := F) C.hF C.cr h) (pe_frz C.hF hl) (pe_frz C.hF hr) hm).imp fun σ H Q q => ?_⟩
  · simp only [tE, evE] at q
    exact two cmp_hr σ H Q q
  · simp only [tT, evB, evE, R.bind_assoc] at q
    obtain ⟨env, st, α, hE, hS, ho⟩ := q
    refine (tM.bind hE hS ho).imp fun x H1 ⟨a, st1, α1, a1, r1, ho⟩ => ?_
    refine (tM.bind a1.E a1.S ho).imp fun y H2 ⟨b', st2, α2, a2, r2, ho⟩ => ?_
    have ha := DR.mono a2.pre a2.ext r1
    unfold needP at ho
    cases e1 : asP st2 a with
    | none => rw [e1] at ho; exact ho.elim
    | some p =>
      rw [e1] at ho
      cases e2 : asP st2 b' with
      | none => simp only [e2] at ho; exact ho.elim
      | some p' =>
        simp only [e2] at ho
        cases e : cmpop b p p' with
        | none => rw [e] at ho; exact ho.elim
        | some kk =>
          rw [e] at ho
          exact ⟨p, p', kk, DR.pr a2.S ha e1, DR.pr a2.S r2 e2, e, kk, rfl, bool_one a2.S ho⟩

/-- a test from a value -/
theorem t_val {e : Expr} {i : Kp.X} (h : PE X e (tE F W Φ i)) (he : ∀ whole, isTrue e X.env whole = (do let v ← whole; standAt e.pos; holding [v] (truthy v))) : PT X e (tT F W Φ i) :=
  (pt_val h he).imp fun σ H Q q => by
    obtain ⟨env, st, α, hE, hS, ho⟩ := q
    refine (tM.bind hE hS ho).imp fun x H1 ⟨r, st1, α1, a1, r1, ho⟩ => ?_
    obtain ⟨b, e, ho⟩ := ho.needB
    subst e
    have r1 : x = .bl b := r1
    exact ⟨b, r1, bool_one a1.S ho⟩
theorem s_chain (C : Cxt c sc F W Φ k X) {o o' : CmpOp} {b b' : Cop} {l r r' : Expr} {i j j' : Kp.X} {pos : Pos} (h : copOf o = some b) (h' : copOf o' = some b') (hm : lastMarks [o, o'] [r, r'] = false)
    (hl : PE X l (tE F W Φ i)) (hr : PE X r (tE F W Φ j)) (hr' : PE X r' (tE F W Φ j')) :
    PE X (.Compare l [o, o'] [r, r'] pos) (tE F W Φ (.chain b b' i j j')) ∧ PT X (.Compare l [o, o'] [r, r'] pos) (tT F W Φ (.chain b b' i j j')) := by
  have key : ∀ σ H (Q : VK), tE F W Φ (.chain b b' i j j') σ H Q → tChain (rCmp F (cmpop b)) (rCmp F (cmpop b')) (tM F W (RvF F.K) (fun env st => evE Φ env i st)) (tM F W (RvF F.K) (fun env st => evE Φ env j st)) (tM F W (RvF F.K) (fun env st => evE Φ env j' st)) σ H Q := fun σ H Q q => by
    simp only [tE, evE] at q
    obtain ⟨env, st, α, hE, hS, ho⟩ := q
    refine (tM.bind hE hS ho).imp fun x H1 ⟨a, st1, α1, a1, r1, ho⟩ => ?_
    refine (tM.bind a1.E a1.S ho).imp fun y H2 ⟨a', st2, α2, a2, r2, ho⟩ => ?_
    have ha := DR.mono a2.pre a2.ext r1
    obtain ⟨p, e1, ho⟩ := ho.needP
    obtain ⟨p', e2, ho⟩ := ho.needP
    cases e : cmpop b p p' with
    | none => rw [e] at ho; exact ho.elim
    | some kk =>
      refine ⟨p, p', kk, DR.pr a2.S ha e1, DR.pr a2.S r2 e2, e, kk, rfl, ?_⟩
      cases kk with
      | false =>
        rw [e] at ho
        exact ho.one a2.S rfl
      | true =>
        rw [e] at ho
        rw [if_pos rfl]
        refine (tM.bind a2.E a2.S ho).imp fun z H3 ⟨a3', st3, α3, a3, r3, ho⟩ => ?_
        obtain ⟨q1, e3, ho⟩ := ho.needP
        obtain ⟨q2, e4, ho⟩ := ho.needP
        cases e5 : cmpop b' q1 q2 with
        | none => rw [e5] at ho; exact ho.elim
        | some k2 =>
          rw [e5] at ho
          exact ⟨q1, q2, k2, DR.pr a3.S (DR.mono a3.pre a3.ext r2) e3, DR.pr a3.S r3 e4, e5, ho.one a3.S rfl⟩
  refine ⟨(pe_chain (cmp_any (F := F) C.hF C.cr h) (cmp_any (F := F) C.hF C.cr h') (pe_frz C.hF hl) (pe_frz C.hF hr) (pe_frz C.hF hr') hm).imp key, (pt_chain (cmp_any (F := F) C.hF C.cr h) (cmp_any (F := F) C.hF C.cr h') (pe_frz C.hF hl) (pe_frz C.hF hr) (pe_frz C.hF hr') hm).imp fun σ H Q q => ?_⟩
  refine key σ H _ ?_
  obtain ⟨env, st, α, hE, hS, ho⟩ := q
  refine (tM.bind hE hS ho).imp fun x H1 ⟨r, st1, α1, a1, r1, ho⟩ => ?_
  obtain ⟨kb, e, ho⟩ := ho.needB
  subst e
  have r1 : x = .bl kb := r1
  exact ⟨kb, r1, bool_one a1.S ho⟩
/-- not, and, or -/
theorem s_not {e : Expr} {i : Kp.X} {pos : Pos} (h : PE X e (tE F W Φ i)) (h2 : PT X e (tT F W Φ i)) : PE X (.UnaryOp .Not e pos) (tE F W Φ (.not i)) ∧ PT X (.UnaryOp .Not e pos) (tT F W Φ (.not i)) := by
  refine ⟨(pe_not h).imp fun σ H Q q => ?_, (pt_not h2).imp fun σ H Q q => ?_⟩
  · simp only [tE, evE] at q
    obtain ⟨env, st, α, hE, hS, ho⟩ := q
    refine (tM.bind hE hS ho).imp fun x H1 ⟨r, st1, α1, a1, r1, ho⟩ => ?_
    obtain ⟨kb, e, ho⟩ := ho.needB
    subst e
    have r1 : x = .bl kb := r1
    exact ⟨kb, r1, ho.one a1.S rfl⟩
  · obtain ⟨env, st, α, hE, hS, ho⟩ := q
    have e : evB Φ env (.not i) st = (evB Φ env i st).bind fun kb st1 => .ok (!kb) st1 := by
      simp only [evB, evE, R.bind_assoc]
      cases evE Φ env i st with
      | ok r st1 =>
        simp only [ok_bind]
        unfold needB
        split <;> rfl
      | exc c fs st1 => rfl
      | bad => rfl
    have ho : Out F W (fun _ _ (b : Bool) k => b = k) σ α H (evB Φ env (.not i) st) Q := ho
    rw [e] at ho
    refine (tM.bind (m := fun env st => evB Φ env i st) hE hS ho).imp fun x H1 ⟨r, st1, α1, a1, r1, ho⟩ => ?_
    subst r1
    exact bool_one a1.S ho
theorem evB_and {env : Ev} {i j : Kp.X} {st : Sto} : evB Φ env (.and i j) st = (evB Φ env i st).bind fun kb st1 => if kb then evB Φ env j st1 else .ok false st1 := by
  simp only [evB, evE, R.bind_assoc]
  cases evE Φ env i st with
  | ok r st1 =>
    simp only [ok_bind]
    unfold needB
    split
    · rename_i kb
      simp only [ok_bind]
      cases kb <;> rfl
    · rfl
  | exc c fs st1 => rfl
  | bad => rfl
theorem evB_or {env : Ev} {i j : Kp.X} {st : Sto} : evB Φ env (.or i j) st = (evB Φ env i st).bind fun kb st1 => if kb then .ok true st1 else evB Φ env j st1 := by
  simp only [evB, evE, R.bind_assoc]
  cases evE Φ env i st with
  | ok r st1 =>
    simp only [ok_bind]
    unfold needB
    split
    · rename_i kb
      simp only [ok_bind]
      cases kb <;> rfl
    · rfl
  | exc c fs st1 => rfl
  | bad => rfl
theorem s_and {e e2 : Expr} {es : List Expr} {i j : Kp.X} {pos : Pos} (h : PE X e (tE F W Φ i)) (h2 : PT X e (tT F W Φ i)) (g : PE X (.BoolOp .And (e2 :: es) pos) (tE F W Φ j)) (g2 : PW X (.BoolOp .And (e2 :: es) pos) (tT F W Φ j)) :
    PE X (.BoolOp .And (e :: e2 :: es) pos) (tE F W Φ (.and i j)) ∧ PW X (.BoolOp .And (e :: e2 :: es) pos) (tT F W Φ (.and i j)) := by
  refine ⟨(pe_and h g).imp fun σ H Q q => ?_, (pw_and h2 g2).imp fun σ H Q q => ?_⟩
  · simp only [tE, evE] at q
    obtain ⟨env, st, α, hE, hS, ho⟩ := q
    refine (tM.bind hE hS ho).imp fun x H1 ⟨r, st1, α1, a1, r1, ho⟩ => ?_
    obtain ⟨kb, e, ho⟩ := ho.needB
    subst e
    have r1 : x = .bl kb := r1
    refine ⟨kb, r1, ?_⟩
    cases kb with
    | true => exact ⟨env, st1, α1, a1.E, a1.S, ho⟩
    | false => exact ho.one a1.S rfl
  · obtain ⟨env, st, α, hE, hS, ho⟩ := q
    have ho : Out F W (fun _ _ (b : Bool) k => b = k) σ α H (evB Φ env (.and i j) st) Q := ho
    rw [evB_and] at ho
    refine (tM.bind (m := fun env st => evB Φ env i st) hE hS ho).imp fun x H1 ⟨r, st1, α1, a1, r1, ho⟩ => ?_
    subst r1
    cases r with
    | true => exact ⟨env, st1, α1, a1.E, a1.S, ho⟩
    | false => exact bool_one a1.S ho
theorem s_or {e e2 : Expr} {es : List Expr} {i j : Kp.X} {pos : Pos} (h : PE X e (tE F W Φ i)) (h2 : PT X e (tT F W Φ i)) (g : PE X (.BoolOp .Or (e2 :: es) pos) (tE F W Φ j)) (g2 : PW X (.BoolOp .Or (e2 :: es) pos) (tT F W Φ j)) :
    PE X (.BoolOp .Or (e :: e2 :: es) pos) (tE F W Φ (.or i j)) ∧ PW X (.BoolOp .Or (e :: e2 :: es) pos) (tT F W Φ (.or i j)) := by
  refine ⟨(pe_or h g).imp fun σ H Q q => ?_, (pw_or h2 g2).imp fun σ H Q q => ?_⟩
  · simp only [tE, evE] at q
    obtain ⟨env, st, α, hE, hS, ho⟩ := q
    refine (tM.bind hE hS ho).imp fun x H1 ⟨r, st1, α1, a1, r1, ho⟩ => ?_
    obtain ⟨kb, e, ho⟩ := ho.needB
    subst e
    have r1 : x = .bl kb := r1
    refine ⟨kb, r1, ?_⟩
    cases kb with
    | false => exact ⟨env, st1, α1, a1.E, a1.S, ho⟩
    | true => exact ho.one a1.S rfl
  · obtain ⟨env, st, α, hE, hS, ho⟩ := q
    have ho : Out F W (fun _ _ (b : Bool) k => b = k) σ α H (evB Φ env (.or i j) st) Q := ho
    rw [evB_or] at ho
    refine (tM.bind (m := fun env st => evB Φ env i st) hE hS ho).imp fun x H1 ⟨r, st1, α1, a1, r1, ho⟩ => ?_
    subst r1
    cases r with
    | false => exact ⟨env, st1, α1, a1.E, a1.S, ho⟩
    | true => exact bool_one a1.S ho
theorem s_ife {t a b : Expr} {i j j' : Kp.X} {pos : Pos} (ht : PT X t (tT F W Φ i)) (ha : PE X a (tE F W Φ j)) (hb : PE X b (tE F W Φ j')) : PE X (.IfExp t a b pos) (tE F W Φ (.ife i j j')) :=
  (pe_ifExp ht ha hb).imp fun σ H Q q => by
    obtain ⟨env, st, α, hE, hS, ho⟩ := q
    have e : evE Φ env (.ife i j j') st = (evB Φ env i st).bind fun kb st1 => if kb then evE Φ env j st1 else evE Φ env j' st1 := by
      simp only [evB, evE, R.bind_assoc]
      cases evE Φ env i st with
      | ok r st1 =>
        simp only [ok_bind]
        unfold needB
        split <;> rfl
      | exc c fs st1 => rfl
      | bad => rfl
    have ho : Out F W (RvR F.K) σ α H (evE Φ env (.ife i j j') st) Q := ho
    rw [e] at ho
    refine (tM.bind (m := fun env st => evB Φ env i st) hE hS ho).imp fun x H1 ⟨r, st1, α1, a1, r1, ho⟩ => ?_
    subst r1
    cases r with
    | true => exact ⟨env, st1, α1, a1.E, a1.S, ho⟩
    | false => exact ⟨env, st1, α1, a1.E, a1.S, ho⟩
theorem s_neg {e : Expr} {i : Kp.X} {pos : Pos} (h : PE X e (tE F W Φ i)) : PE X (.UnaryOp .USub e pos) (tE F W Φ (.neg i)) :=
  (pe_un un_neg h).imp fun σ H Q q => by
    simp only [tE, evE] at q
    obtain ⟨env, st, α, hE, hS, ho⟩ := q
    refine (tM.bind hE hS ho).imp fun x H1 ⟨r, st1, α1, a1, r1, ho⟩ => ?_
    split at ho
    · exact ⟨_, r1, ho.one a1.S rfl⟩
    · exact ho.elim
/-- items, slices -/
theorem s_idx (C : Cxt c sc F W Φ k X) {a b : Expr} {i j : Kp.X} {pos : Pos} (ha : PE X a (tE F W Φ i)) (hb : PE X b (tE F W Φ j)) (hp : PlainIx b) : PE X (.Subscript a b pos) (tE F W Φ (.idx i j)) :=
  (pe_ix (idx_any (F := F) C.hF C.cr) (pe_frz C.hF ha) (pe_frz C.hF hb) hp).imp fun σ H Q q => by
    simp only [tE, evE] at q
    refine two (fun σ α H st x y a b' Q S ha hb ho => ?_) σ H Q q
    obtain ⟨p, e1, ho⟩ := ho.needP
    obtain ⟨p', e2, ho⟩ := ho.needP
    cases e : idxop p p' with
    | none => rw [e] at ho; exact ho.elim
    | some r =>
      rw [e] at ho
      exact ⟨p, p', r, DR.pr S ha e1, DR.pr S hb e2, e, fun v hv => ho.one S hv⟩
def tPO (F : Fx) (W : WX) (m : Ev → Sto → R Rv) : TO := fun σ H Q => tM F W (RvF F.K) m σ H fun x H1 => (x = .non ∧ Q none H1) ∨ ∃ i, x = .int i ∧ Q (some i) H1
theorem po_any (C : Cxt c sc F W Φ k X) {e : Expr} {i : Kp.X} (h : PE X e (tE F W Φ i)) : PO X (some e) (tPO F W fun env st => evE Φ env i st) := by
  refine ⟨fun pins s σ H Q I hw => ?_⟩
  rw [evalPart_some]
  refine thn ((pe_frz C.hF h).run pins s σ H _ I hw) fun u s1 ⟨x, H1, I1, r1, q1⟩ => ?_
  rcases q1 with ⟨e, q⟩ | ⟨i, e, q⟩
  · subst e
    cases r1
    exact ⟨none, H1, I1, .none, q⟩
  · subst e
    obtain ⟨t, rfl⟩ := r1
    exact ⟨some i, H1, I1, .int i t, q⟩
theorem s_slc (C : Cxt c sc F W Φ k X) {a : Expr} {lo hi : Option Expr} {i j j' : Kp.X} {pos p2 : Pos} (ha : PE X a (tE F W Φ i)) (hl : PO X lo (tPO F W fun env st => evE Φ env j st)) (hh : PO X hi (tPO F W fun env st => evE Φ env j' st)) :
    PE X (.Subscript a (.Slice lo hi none p2) pos) (tE F W Φ (.slc i j j')) :=
  (pe_slice (slc_any (F := F) (W := W) C.hF) (pe_frz C.hF ha) hl hh).imp fun σ H Q q => by
    simp only [tE, evE] at q
    obtain ⟨env, st, α, hE, hS, ho⟩ := q
    refine (tM.bind hE hS ho).imp fun x H1 ⟨r, st1, α1, a1, r1, ho⟩ => ?_
    refine (tM.bind a1.E a1.S ho).imp fun y H2 ⟨r', st2, α2, a2, r2, ho⟩ => ?_
    have hx := DR.mono a2.pre a2.ext r1
    obtain ⟨l, e1, ho⟩ := ho.needO r2
    have fin : tPO F W (fun env st => evE Φ env j' st) σ H2 fun u H3 => rSlc F W x l u H3 Q := by
      refine (tM.bind a2.E a2.S ho).imp fun z H3 ⟨r'', st3, α3, a3, r3, ho⟩ => ?_
      obtain ⟨u, e2, ho⟩ := ho.needO r3
      obtain ⟨p, q1, ho⟩ := ho.needP
      have hx := DR.pr a3.S (DR.mono a3.pre a3.ext hx) q1
      rcases e2 with ⟨e, e'⟩ | ⟨i, e, e'⟩
      · subst e
        exact .inl ⟨e', p, st3, α3, σ, hx, a3.S, ho⟩
      · subst e
        exact .inr ⟨i, e', p, st3, α3, σ, hx, a3.S, ho⟩
    rcases e1 with ⟨e, e'⟩ | ⟨i, e, e'⟩
    · subst e
      exact .inl ⟨e', fin⟩
    · subst e
      exact .inr ⟨i, e', fin⟩
end
end Kp

/-! Kp, part 7: calls, what is gone through, comprehensions. -/
namespace Kp
open PySem PySem.Spec PyProof.Rows L2

/-! ### no star -/
def noStar : Expr → Bool
  | .Starred .. => false
  | _ => true
theorem star_cons {e : Expr} {es : List Expr} {env : Env} (h : noStar e = true) : starEach (e :: es) env = (false, eval e env) :: starEach es env := by
  cases e <;> first | rfl | cases h
theorem star_any {pos : Pos} {env : Env} : ∀ {es : List Expr}, es.all noStar = true → (backTo pos (starEach es env)).any (·.1) = false
  | [], _ => rfl
  | e :: es, h => by
    rw [List.all_cons, Bool.and_eq_true] at h
    rw [star_cons h.1]
    show (false || (backTo pos (starEach es env)).any (·.1)) = false
    rw [star_any h.2]; rfl

section
variable {c : Cfg} {sc : Scope} {F : Fx} {W : WX} {Φ : Nat → List D → Sto → R Rv} {k : Nat} {X : Cx}
theorem s_call (C : Cxt c sc F W Φ k X) {x : Str} {j : Nat} {e : Expr} {es : List Expr} {is : List Kp.X} {p pos : Pos} (h : glob c sc x = some (.fn j)) (ha : PA X (e :: es) (tD F W Φ is)) (hn : (e :: es).all noStar = true) :
    PE X (.Call (.Name x p) (e :: es) [] pos) (tE F W Φ (.call j is)) := by
  obtain ⟨h1, ⟨f, fd, ps, hm, hk, hb, hf, hbad⟩, h5, h6⟩ := C.gl h
  rw [List.all_cons, Bool.and_eq_true] at hn
  refine (pe_callS (E := WE W) hf C.room h1 hm hk hb (passAt C.tk) ha h5 (star_cons hn.1) (star_any hn.2)).imp fun σ H Q q => ?_
  simp only [tE, evE] at q
  obtain ⟨env, st, α, hE, hS, ho⟩ := q
  refine (tM.bind hE hS ho).imp fun vs H1 ⟨ds, st1, α1, a1, r1, ho⟩ => ?_
  refine ⟨ds, st1, α1, ?_, r1, a1.S, ?_⟩
  · rw [← r1.length]
    by_cases z : ds.length = ps.length
    · exact z
    · rw [hbad ds st1 z] at ho
      exact ho.elim
  · cases e : Φ j ds st1 with
    | ok r st2 => rw [e] at ho; exact ho
    | exc cc fs st2 => rw [e] at ho; exact ho
    | bad => rw [e] at ho; exact ho
theorem prs_of {K : KW} {α : List Addr} {H : Hp} {st : Sto} (S : StR K α H st) : ∀ {ds : List D} {ps : List P} {vs : List V}, DRs K α H ds vs → ds.mapM (deref st) = some ps → PRs K H ps vs
  | [], ps, vs, h, e => by
    have e : [] = ps := by simpa using e
    subst e
    exact h
  | d :: ds, ps, vs, h, e => by
    obtain ⟨v, r, e1, h1, h2⟩ := h
    rw [List.mapM_cons] at e
    cases q : deref st d with
    | none => rw [q] at e; cases e
    | some p =>
      cases q2 : ds.mapM (deref st) with
      | none => rw [q, q2] at e; cases e
      | some qs =>
        rw [q, q2] at e
        have e : p :: qs = ps := by simpa using e
        subst e
        exact ⟨v, r, e1, DR.pr S h1 q, prs_of S h2 q2⟩
theorem blt_imp {b : Blt} {is : List Kp.X} : ∀ σ H Q, tE F W Φ (.blt b is) σ H Q → tCB (rBlt F W b) (tD F W Φ is) σ H Q := fun σ H Q q => by
  simp only [tE, evE] at q
  obtain ⟨env, st, α, hE, hS, ho⟩ := q
  refine (tM.bind hE hS ho).imp fun vs H1 ⟨ds, st1, α1, a1, r1, ho⟩ => ?_
  cases e : ds.mapM (deref st1) with
  | none => rw [e] at ho; exact ho.elim
  | some ps =>
    rw [e] at ho
    exact ⟨ps, st1, α1, σ, prs_of a1.S r1 e, a1.S, ho⟩
theorem s_blt (C : Cxt c sc F W Φ k X) {x : Str} {b : Blt} {e : Expr} {es : List Expr} {is : List Kp.X} {p pos : Pos} (h : glob c sc x = some (.blt b)) (ha : PA X (e :: es) (tD F W Φ is)) (hn : (e :: es).all noStar = true) :
    PE X (.Call (.Name x p) (e :: es) [] pos) (tE F W Φ (.blt b is)) := by
  obtain ⟨h1, ⟨hm, hv⟩, h5, h6⟩ := C.gl h
  rw [List.all_cons, Bool.and_eq_true] at hn
  have hr := blt_any (X := X) (F := F) (W := W) C.hF C.calm C.cr b
  cases b <;> first
    | exact (pe_callB hr h1 hm hv ha h6 h5 (star_cons hn.1) (star_any hn.2)).imp blt_imp
    | exact (pe_callTy hr h1 hm hv ha h6 h5 (star_cons hn.1) (star_any hn.2)).imp blt_imp
theorem s_ty (C : Cxt c sc F W Φ k X) {x : Str} {t : Ty} {b : Blt} {e : Expr} {es : List Expr} {is : List Kp.X} {p pos : Pos} (h : glob c sc x = some (.ty t)) (ht : tyCall t = some b) (ha : PA X (e :: es) (tD F W Φ is)) (hn : (e :: es).all noStar = true) :
    PE X (.Call (.Name x p) (e :: es) [] pos) (tE F W Φ (.blt b is)) := by
  obtain ⟨h1, ⟨hm, hv⟩, h5, h6⟩ := C.gl h
  rw [List.all_cons, Bool.and_eq_true] at hn
  have hr := blt_any (X := X) (F := F) (W := W) C.hF C.calm C.cr b
  cases t <;> cases ht <;> exact (pe_callTy hr h1 hm hv ha h6 h5 (star_cons hn.1) (star_any hn.2)).imp blt_imp
theorem s_isi (C : Cxt c sc F W Φ k X) {x y : Str} {t : Ty} {e : Expr} {i : Kp.X} {p p2 pos : Pos} (h : glob c sc x = some .isi) (h2 : glob c sc y = some (.ty t)) (he : PE X e (tE F W Φ i)) (hn : noStar e = true) :
    PE X (.Call (.Name x p) [e, .Name y p2] [] pos) (tE F W Φ (.isi t i)) := by
  obtain ⟨h1, ⟨hm, hv⟩, h5, h6⟩ := C.gl h
  obtain ⟨g1, ⟨gm, gv⟩, g5, g6⟩ := C.gl h2
  have ha : PA X [e, .Name y p2] (tCons (tM F W (RvF F.K) (fun env st => evE Φ env i st)) (tCons (tC (.ty (tyName t))) tNil)) :=
    pa_cons (pe_frz C.hF he) (pa_cons (pe_bltn g1 gm gv rfl g6 g5) pa_nil (star_cons rfl)) (star_cons hn)
  refine (pe_callB (isi_any (F := F) C.hF t) h1 hm hv ha h6 h5 (star_cons hn) (star_any rfl)).imp fun σ H Q q => ?_
  simp only [tE, evE] at q
  obtain ⟨env, st, α, hE, hS, ho⟩ := q
  refine (tM.bind hE hS ho).imp fun x H1 ⟨r, st1, α1, a1, r1, ho⟩ => ?_
  obtain ⟨pp, e1, ho⟩ := ho.needP
  exact ⟨x, pp, rfl, DR.pr a1.S r1 e1, ho.one a1.S rfl⟩

/-! ### what is gone through -/
structure IterOk (K : KW) (J : It) (H0 : Hp) (ys : List P) : Prop where
  go : ∀ i H, Ext H0 H → i < ys.length → J.go i H
  stop : ∀ i H, Ext H0 H → ys.length ≤ i → J.stop i H
  yld : ∀ i H x H', Ext H0 H → i < ys.length → J.yld i H x H' → Ext H H' ∧ (∀ α st, StR K α H st → StR K α H' st) ∧ ∃ p, ys[i]? = some p ∧ Im K H' p x
def evI (Φ : Nat → List D → Sto → R Rv) (env : Ev) (ik : Ik) (is : List Kp.X) (st : Sto) : R (List P) :=
  (evDs Φ env is st).bind fun ds st1 => match itemsD ik ds with
    | some ys => .ok ys st1
    | none => .bad
abbrev tI (F : Fx) (W : WX) (Φ : Nat → List D → Sto → R Rv) (ik : Ik) (is : List Kp.X) : TI := tM F W (fun _ H ys J => IterOk F.K J H ys) (fun env st => evI Φ env ik is st)
theorem iter_list {K : KW} {H0 : Hp} {a : Addr} {vs : List V} {ys : List P} (h : FzL K H0 a vs) (i : ImAll K H0 ys vs) : IterOk K (Itl K a) H0 ys := by
  refine ⟨fun n H x hn => ?_, fun n H x hn => ?_, fun n H v H' x hn y => ?_⟩
  · obtain ⟨v, e, _⟩ := i.get (List.getElem?_eq_getElem hn)
    exact ⟨vs, v, (h.ext x).sq, e⟩
  · exact ⟨vs, (h.ext x).sq, by rw [← i.length]; exact hn⟩
  · obtain ⟨e, y⟩ := y
    subst e
    have q := y vs (h.ext x).sq
    obtain ⟨p, e, r⟩ := i.get' q
    exact ⟨Ext.refl, fun _ _ s => s, p, e, Im.ext x _ _ r⟩
theorem iter_tup {K : KW} {H0 : Hp} {a : Addr} {vs : List V} {ys : List P} (h : SqT K H0 a vs) (i : ImAll K H0 ys vs) : IterOk K (Itt K a) H0 ys := by
  refine ⟨fun n H x hn => ?_, fun n H x hn => ?_, fun n H v H' x hn y => ?_⟩
  · obtain ⟨v, e, _⟩ := i.get (List.getElem?_eq_getElem hn)
    exact ⟨vs, v, SqT.ext x h, e⟩
  · exact ⟨vs, SqT.ext x h, by rw [← i.length]; exact hn⟩
  · obtain ⟨e, y⟩ := y
    subst e
    have q := y vs (SqT.ext x h)
    obtain ⟨p, e, r⟩ := i.get' q
    exact ⟨Ext.refl, fun _ _ s => s, p, e, Im.ext x _ _ r⟩
theorem iter_str {K : KW} {H0 : Hp} {x : Str} : IterOk K (Its x) H0 (x.cps.toList.map fun c => .str ⟨#[c]⟩) := by
  have hl : (x.cps.toList.map fun c => PyData.str ⟨#[c]⟩).length = x.cps.size := by simp
  refine ⟨fun n H _ hn => by rw [hl] at hn; exact hn, fun n H _ hn => by rw [hl] at hn; exact hn, fun n H v H' _ hn y => ?_⟩
  obtain ⟨e, c, h1, h2⟩ := y
  subst e
  refine ⟨Ext.refl, fun _ _ s => s, .str ⟨#[c]⟩, ?_, h2⟩
  rw [List.getElem?_map]
  have : x.cps.toList[n]? = some c := by simpa using h1
  rw [this]; rfl
theorem iter_range {K : KW} {H0 : Hp} {lo : Int} {n : Nat} : IterOk K (Itr lo n) H0 ((List.range n).map fun (i : Nat) => .int (lo + (i : Int))) := by
  have hl : ((List.range n).map fun (i : Nat) => PyData.int (lo + (i : Int))).length = n := by simp
  refine ⟨fun j H _ hn => by rw [hl] at hn; exact hn, fun j H _ hn => by rw [hl] at hn; exact hn, fun j H v H' _ hn y => ?_⟩
  obtain ⟨e, h2⟩ := y
  subst e
  rw [hl] at hn
  refine ⟨Ext.refl, fun _ _ s => s, .int (lo + (j : Int)), ?_, h2⟩
  rw [List.getElem?_map, List.getElem?_range hn]; rfl
theorem tM.out {β γ : Type} {F : Fx} {W : WX} {RR : List Addr → Hp → β → γ → Prop} {m : Ev → Sto → R β} {σ : L2.St} {α : List Addr} {H : Hp} {Q : γ → Hp → Prop} {env : Ev} {st : Sto}
    (hE : EvR F.K α H env σ) (hS : StR F.K α H st) (h : Out F W RR σ α H (m env st) Q) : tM F W RR m σ H Q := ⟨env, st, α, hE, hS, h⟩
theorem evI_seq {env : Ev} {i : Kp.X} {st : Sto} : evI Φ env .seq [i] st = (evE Φ env i st).bind fun r st1 => match r.frz with
    | .py p => (match items .seq [p] with | some ys => .ok ys st1 | none => .bad)
    | .ref _ => .bad := by
  unfold evI
  simp only [evDs, R.bind_assoc]
  cases evE Φ env i st with
  | ok r st1 =>
    simp only [ok_bind]
    cases r.frz <;> rfl
  | exc cc fs st1 => rfl
  | bad => rfl
theorem items_rng1 {ps : List P} {ys : List P} (h : items .rng1 ps = some ys) : ∃ j, ps = [.int j] ∧ -(2 ^ 62) ≤ j ∧ j < 2 ^ 62 ∧ ys = (List.range j.toNat).map fun (i : Nat) => .int (0 + (i : Int)) := by
  rcases ps with _ | ⟨a, _ | ⟨b, r⟩⟩
  · cases (show none = some ys from h)
  · cases a <;> try cases (show none = some ys from h)
    rename_i j
    have h : (if -(2 ^ 62) ≤ j ∧ j < 2 ^ 62 then some ((List.range j.toNat).map fun (i : Nat) => PyData.int (0 + (i : Int))) else none) = some ys := h
    split at h
    · rename_i c
      exact ⟨j, rfl, c.1, c.2, (Option.some.inj h).symm⟩
    · cases h
  · cases a <;> cases b <;> cases (show none = some ys from h)
theorem items_rng2 {ps : List P} {ys : List P} (h : items .rng2 ps = some ys) : ∃ i j, ps = [.int i, .int j] ∧ (-(2 ^ 62) ≤ i ∧ i < 2 ^ 62 ∧ -(2 ^ 62) ≤ j ∧ j < 2 ^ 62) ∧ ys = (List.range (j - i).toNat).map fun (n : Nat) => .int (i + (n : Int)) := by
  rcases ps with _ | ⟨a, _ | ⟨b, _ | ⟨cc, r⟩⟩⟩
  · cases (show none = some ys from h)
  · cases a <;> cases (show none = some ys from h)
  · cases a <;> cases b <;> try cases (show none = some ys from h)
    rename_i i j
    have h : (if -(2 ^ 62) ≤ i ∧ i < 2 ^ 62 ∧ -(2 ^ 62) ≤ j ∧ j < 2 ^ 62 then some ((List.range (j - i).toNat).map fun (n : Nat) => PyData.int (i + (n : Int))) else none) = some ys := h
    split at h
    · rename_i c
      exact ⟨i, j, rfl, c, (Option.some.inj h).symm⟩
    · cases h
  · cases a <;> cases b <;> cases cc <;> cases (show none = some ys from h)
theorem evI_out {env : Ev} {ik : Ik} {is : List Kp.X} {st : Sto} {σ : L2.St} {α : List Addr} {H : Hp} {R : It → Hp → Prop} (hE : EvR F.K α H env σ) (hS : StR F.K α H st) (ho : Out F W (fun _ H ys J => IterOk F.K J H ys) σ α H (evI Φ env ik is st) R) :
    tD F W Φ is σ H fun vs H1 => ∃ ps ys st1 α1, At F σ α α1 H H1 env st1 ∧ ImAll F.K H1 ps vs ∧ items ik ps = some ys ∧ ∀ J, IterOk F.K J H1 ys → R J H1 := by
  unfold evI at ho
  refine (tM.bind hE hS ho).imp fun vs H1 ⟨ds, st1, α1, a1, r1, ho⟩ => ?_
  unfold itemsD at ho
  cases e : toPs ds with
  | none => rw [e] at ho; exact ho.elim
  | some ps =>
    rw [e] at ho
    cases e2 : items ik ps with
    | none => simp only [e2] at ho; exact ho.elim
    | some ys =>
      simp only [e2] at ho
      exact ⟨ps, ys, st1, α1, a1, toPs_all e r1, e2, fun J hJ => ho J H1 α1 Pre.refl Ext.refl a1.S hJ⟩
theorem i_rng1 (C : Cxt c sc F W Φ k X) {tg a : Expr} {x : Str} {i : Kp.X} {p pos : Pos} (h : glob c sc x = some .range) (ha : PA X [a] (tD F W Φ [i])) (hn : noStar a = true) : PI X tg (.Call (.Name x p) [a] [] pos) (tI F W Φ .rng1 [i]) := by
  obtain ⟨h1, ⟨hm, e⟩, h5, h6⟩ := C.gl h
  subst e
  refine ⟨fun pins s σ H R I q => ?_⟩
  obtain ⟨env, st, α, hE, hS, ho⟩ := q
  refine (pi_range1 (tg := tg) h1 hm ha (star_cons hn)).run pins s σ H R I ((evI_out hE hS ho).imp fun vs H1 ⟨ps, ys, st1, α1, a1, r1, e, hJ⟩ => ?_)
  obtain ⟨j, e1, c1, c2, e2⟩ := items_rng1 e
  subst e1 e2
  obtain ⟨v, r, e3, q1, q2⟩ := r1
  have q1 : v = .int j := q1
  have q2 : r = [] := q2
  subst q1 q2
  exact ⟨j, e3, c1, c2, hJ _ iter_range⟩
theorem i_rng2 (C : Cxt c sc F W Φ k X) {tg a b : Expr} {x : Str} {i i2 : Kp.X} {p pos : Pos} (h : glob c sc x = some .range) (ha : PA X [a, b] (tD F W Φ [i, i2])) (hn : noStar a = true) (hn2 : noStar b = true) : PI X tg (.Call (.Name x p) [a, b] [] pos) (tI F W Φ .rng2 [i, i2]) := by
  obtain ⟨h1, ⟨hm, e⟩, h5, h6⟩ := C.gl h
  subst e
  refine ⟨fun pins s σ H R I q => ?_⟩
  obtain ⟨env, st, α, hE, hS, ho⟩ := q
  refine (pi_range2 (tg := tg) h1 hm ha (by rw [star_cons hn, star_cons hn2]; rfl) (star_cons hn2)).run pins s σ H R I ((evI_out hE hS ho).imp fun vs H1 ⟨ps, ys, st1, α1, a1, r1, e, hJ⟩ => ?_)
  obtain ⟨j, j2, e1, c1, e2⟩ := items_rng2 e
  subst e1 e2
  obtain ⟨v, r, e3, q1, q2⟩ := r1
  obtain ⟨v2, r2, e4, q3, q4⟩ := q2
  have q1 : v = .int j := q1
  have q3 : v2 = .int j2 := q3
  have q4 : r2 = [] := q4
  subst q1 q3 q4 e4
  exact ⟨j, j2, e3, c1, hJ _ iter_range⟩
end
end Kp

/-! Kp: dicts gone through, enumerate, zip. -/
namespace Kp
open PySem PySem.Spec PyProof.Rows L2 RZ

abbrev EnP : List (V × V) → List DictEntry → Prop := Paired (fun (q : V × V) (e : DictEntry) => RelV q.1 e.key ∧ RelV q.2 e.val)
theorem EnP.len : ∀ {ws : List (V × V)} {es : List DictEntry}, EnP ws es → ws.length = es.length
  | _, _, .nil => rfl
  | _, _, .cons _ t => by rw [List.length_cons, List.length_cons, EnP.len t]
theorem EnP.get : ∀ {ws : List (V × V)} {es : List DictEntry} {i : Nat} {q : V × V}, EnP ws es → ws[i]? = some q → ∃ e, es[i]? = some e ∧ RelV q.1 e.key
  | _, _, i, q, .nil, h => by simp at h
  | _, _, 0, q, .cons r _, h => by
    simp at h
    subst h
    exact ⟨_, rfl, r.1⟩
  | _, _, i + 1, q, .cons _ t, h => by
    obtain ⟨e, h1, h2⟩ := EnP.get (i := i) t (by simpa using h)
    exact ⟨e, by simpa using h1, h2⟩
/-- the keys of a dict that does not change -/
def Itw (d : Addr) (o : Obj) (ws : List (V × V)) : It :=
  ⟨fun i H => (∃ u, H d = some (.frz o u)) ∧ i < ws.length, fun i H x H' => H' = H ∧ ∃ q, ws[i]? = some q ∧ x = q.1, fun i H => (∃ u, H d = some (.frz o u)) ∧ ws.length ≤ i⟩
theorem turn_w {P : Program} {w : World} {K : PySem.W.Frag} {tg : Expr} {d : Addr} {o : Obj} {es : Array DictEntry} {ep : Nat} {ws : List (V × V)} (it : Addr) (hod : o.data = .dict es ep) (hp : EnP ws es.toList) :
    Turn P w K tg (Itw d o ws) [it] it (fun i h => h.IsKeyIter it d i ws.length ep) where
  mem := List.mem_singleton.mpr rfl
  obj := fun i h st b hb => by
    obtain rfl : b = it := List.mem_singleton.mp hb
    obtain ⟨oi, e1, e2, e3⟩ := st
    exact ⟨oi, e1, fun v z => by rw [e3] at z; cases z⟩
  keep := fun i h h' st k => st.at fun oi e => k it (List.mem_singleton.mpr rfl) oi e
  item := by
    intro X hP hw hK hc i pins s σ H E I hf st hg
    subst hP hw hK
    obtain ⟨⟨u, hd⟩, hi⟩ := hg
    obtain ⟨g0, g1, g2, g3, g4, g5⟩ := hf it (List.mem_singleton.mpr rfl)
    have hgd : s.heap.get? d = some o := (I.hok d _ hd).1
    have hl := EnP.len hp
    obtain ⟨q, hq⟩ : ∃ q, ws[i]? = some q := ⟨ws[i], List.getElem?_eq_getElem hi⟩
    obtain ⟨en, hen, hk⟩ := hp.get hq
    refine next_key_item st hgd hod (by rw [hl, Array.length_toList]) (by rw [← Array.getElem?_toList]; exact hen) fun h' st' sb => ?_
    have J : Inv X pins σ H { s with heap := h' } := I.turned (t' := s.toks) (fun b ob hb e => (sb.2 b hb).trans e) g0 g1 g3 g4 g5
    obtain ⟨oi, e1, e2, e3⟩ := id st'
    exact ⟨en.key, rfl, go_of (s := { s with heap := h' }) e1 e2 e3 (by decide) ⟨q.1, H, J, hk, ⟨rfl, q, hq, rfl⟩, st', fun b hb => (hf b hb).1⟩⟩
  done := by
    intro X hP hw hK hc i pins s σ H E I hf st hg
    subst hP hw hK
    obtain ⟨⟨u, hd⟩, hi⟩ := hg
    obtain ⟨g0, g1, g2, g3, g4, g5⟩ := hf it (List.mem_singleton.mpr rfl)
    have hgd : s.heap.get? d = some o := (I.hok d _ hd).1
    have hl := EnP.len hp
    exact next_key_end (I.ok.hd hc) st hgd hod (by rw [hl, Array.length_toList]) hi fun h' eb => ⟨rfl, I.turned (t' := s.toks) (fun b ob hb e => eb b ob hb e) g0 g1 g3 g4 g5⟩
  self := fun A i s Q E st h => by
    refine wpAny_pyIter_slot st.typeIs F.slot_dict_keyiterator_iter (wpAny_call_entry F.slot_dict_keyiterator_iter st.typeIs F.entry_dict_keyiterator_iter ?_ (F.args_dict_keyiterator_iter_1 _))
    exact wpAny_pure ⟨_, rfl, "dict_keyiterator", _, st.typeIs, F.slot_dict_keyiterator_next.lookup, h⟩
/-- for k in d -/
theorem pi_w {X : Cx} {tg e : Expr} {td : TE} (he : PE X e td) : PI X tg e (fun σ H R => td σ H fun x H1 => ∃ d o u nks ws, x = .ref d ∧ H1 d = some (.frz o u) ∧ DHo X.w nks ws d u ∧ R (Itw d o ws) H1) := by
  refine ⟨fun pins s σ H R I h => ?_⟩
  refine thn (he.run pins s σ H _ I h) fun uu s1 ⟨x, H1, I1, rx, d, o, u, nks, ws, ex, hd, hD, q⟩ => ?_
  subst ex
  obtain rfl : uu = Value.ref d := rx
  obtain ⟨o', es, ep, ho, hx, hdt, hs, hp⟩ := DHo.at I1 (.inr ⟨o, hd⟩) hD
  have e : o' = o := by
    have := (I1.hok d _ hd).1
    rw [ho] at this
    exact Option.some.inj this
  subst e
  have hl := EnP.len hp
  refine iter_keys hs ho hx hdt (pi_one (tk := s1.toks) I1 _ (turn_w _ hdt hp) ⟨_, Heap.get?_push_size _ rfl, rfl, ?_⟩ q)
  rw [hl, Array.length_toList] <;> rfl
theorem ImKvs.key {K : KW} {H : Hp} : ∀ {kvs : List (P × P)} {ws : List (V × V)} {i : Nat} {q : V × V}, ImKvs K H kvs ws → ws[i]? = some q → ∃ p, (kvs.map (·.1))[i]? = some p ∧ Im K H p q.1
  | [], ws, i, q, h, e => by
    have h : ws = [] := h
    subst h
    simp at e
  | (k, p) :: r, ws, 0, q, h, e => by
    obtain ⟨x, v, t, e1, h1, h2, h3⟩ := h
    subst e1
    have e : (x, v) = q := by simpa using e
    subst e
    exact ⟨k, rfl, h1⟩
  | (k, p) :: r, ws, i + 1, q, h, e => by
    obtain ⟨x, v, t, e1, h1, h2, h3⟩ := h
    subst e1
    obtain ⟨z, q1, q2⟩ := ImKvs.key (i := i) h3 (by simpa using e)
    exact ⟨z, by simpa using q1, q2⟩
theorem iter_dict {K : KW} {H0 : Hp} {d : Addr} {o : Obj} {u : HO} {kvs : List (P × P)} {ws : List (V × V)} (hd : H0 d = some (.frz o u)) (i : ImKvs K H0 kvs ws) : IterOk K (Itw d o ws) H0 (kvs.map (·.1)) := by
  have hl : (kvs.map (·.1)).length = ws.length := by rw [List.length_map]; exact i.len
  refine ⟨fun n H x hn => ⟨⟨u, x.frz _ _ _ hd⟩, by omega⟩, fun n H x hn => ⟨⟨u, x.frz _ _ _ hd⟩, by omega⟩, fun n H v H' x hn y => ?_⟩
  obtain ⟨e, q, hq, ev⟩ := y
  subst e ev
  obtain ⟨p, e, r⟩ := i.key hq
  exact ⟨Ext.refl, fun _ _ s => s, p, e, Im.ext x _ _ r⟩
section
variable {c : Cfg} {sc : Scope} {F : Fx} {W : WX} {Φ : Nat → List D → Sto → R Rv} {k : Nat} {X : Cx}
theorem i_seq (C : Cxt c sc F W Φ k X) {tg e : Expr} {i : Kp.X} (he : PE X e (tE F W Φ i)) : PI X tg e (tI F W Φ .seq [i]) := by
  have hf := pe_frz C.hF he
  refine ⟨fun pins s σ H R I q => ?_⟩
  obtain ⟨env, st, α, hE, hS, ho⟩ := q
  have ho : Out F W (fun _ H ys J => IterOk F.K J H ys) σ α H (evI Φ env .seq [i] st) R := ho
  rw [evI_seq] at ho
  cases e1 : evE Φ env i st with
  | bad => rw [e1] at ho; exact ho.elim
  | exc cc fs st1 =>
    rw [e1] at ho
    exact (pi_list (tg := tg) hf).run pins s σ H R I ⟨env, st, α, hE, hS, by simp only [e1]; exact ho⟩
  | ok r st1 =>
    rw [e1] at ho
    cases e2 : r.frz with
    | ref n => simp only [ok_bind, e2] at ho; exact ho.elim
    | py p =>
      have ho : Out F W (fun _ H ys J => IterOk F.K J H ys) σ α H (match items .seq [p] with | some ys => .ok ys st1 | none => .bad) R := by
        simp only [ok_bind, e2] at ho; exact ho
      cases p <;> try exact (show False from ho).elim
      · rename_i x
        refine (pi_str (tg := tg) hf).run pins s σ H R I ⟨env, st, α, hE, hS, ?_⟩
        simp only [e1]
        intro v H1 α1 p1 x1 S1 r1
        have r1 : DR F.K α1 H1 r.frz v := r1
        rw [e2] at r1
        have r1 : v = .str x := r1
        exact ⟨x, r1, ho _ H1 α1 p1 x1 S1 iter_str⟩
      · rename_i ys
        refine (pi_list (tg := tg) hf).run pins s σ H R I ⟨env, st, α, hE, hS, ?_⟩
        simp only [e1]
        intro v H1 α1 p1 x1 S1 r1
        have r1 : DR F.K α1 H1 r.frz v := r1
        rw [e2] at r1
        obtain ⟨a, vs, e3, h1, z1, i1⟩ := r1
        refine ⟨a, e3, ⟨vs, (by first | exact sqlX C.hF (h1.sq) | exact sqtX C.hF (h1.sq))⟩, ho _ H1 α1 p1 x1 S1 ?_⟩
        have q := iter_list h1 i1
        rw [C.hF] at q ⊢
        exact q
      · rename_i ys
        refine (pi_tup (tg := tg) hf).run pins s σ H R I ⟨env, st, α, hE, hS, ?_⟩
        simp only [e1]
        intro v H1 α1 p1 x1 S1 r1
        have r1 : DR F.K α1 H1 r.frz v := r1
        rw [e2] at r1
        obtain ⟨a, vs, e3, h1, z1, i1⟩ := r1
        refine ⟨a, e3, ⟨vs, (by first | exact sqlX C.hF (h1) | exact sqtX C.hF (h1))⟩, ho _ H1 α1 p1 x1 S1 ?_⟩
        have q := iter_tup h1 i1
        rw [C.hF] at q ⊢
        exact q
      · rename_i kvs
        refine (pi_w (tg := tg) hf).run pins s σ H R I ⟨env, st, α, hE, hS, ?_⟩
        simp only [e1]
        intro v H1 α1 p1 x1 S1 r1
        have r1 : DR F.K α1 H1 r.frz v := r1
        rw [e2] at r1
        obtain ⟨d, o, u, ws, e3, h1, h2, z1, i1⟩ := r1
        have hw : F.K.w = X.w := by rw [C.hF]
        exact ⟨d, o, u, _, ws, e3, h1, hw ▸ h2, ho _ H1 α1 p1 x1 S1 (iter_dict h1 i1)⟩

theorem zipIdx_get {α : Type} : ∀ {ys : List α} {n i : Nat} {y : α}, ys[i]? = some y → (ys.zipIdx n)[i]? = some (y, n + i) := by
  intro ys n i y h
  rw [List.getElem?_zipIdx, h]
  rfl
theorem iter_enum {K : KW} {H0 : Hp} {a : Addr} {vs : List V} {ys : List P} (h : FzL K.K H0 a vs) (i : ImAll K H0 ys vs) : IterOk K (Ite K.K a) H0 (ys.zipIdx.map fun q => .tuple [.int (q.2 : Nat), q.1]) := by
  have hl : (ys.zipIdx.map fun q => PyData.tuple [.int (q.2 : Nat), q.1]).length = ys.length := by simp
  refine ⟨fun n H x hn => ?_, fun n H x hn => ?_, fun n H v H' x hn y => ?_⟩
  · rw [hl] at hn
    obtain ⟨v, e, _⟩ := i.get (List.getElem?_eq_getElem hn)
    exact ⟨vs, v, (h.ext x).sq, e⟩
  · rw [hl] at hn
    exact ⟨vs, (h.ext x).sq, by rw [← i.length]; exact hn⟩
  · obtain ⟨T, w, e1, e2, e3, e4⟩ := y
    have q := e4 vs (h.ext x).sq
    obtain ⟨p, e, r⟩ := i.get' q
    subst e3
    refine ⟨Ext.new e2, fun α st S => S.new e2, .tuple [.int (n : Nat), p], ?_, ?_⟩
    · rw [List.getElem?_map, zipIdx_get e]
      simp
    · rw [e1]
      refine ⟨T, _, rfl, .inl (.inl upd_same), by show 2 ≤ sizeLine; decide, ImAll.cons rfl (ImAll.cons (Im.ext (x.trans (Ext.new e2)) _ _ r) ImAll.nil)⟩
theorem iter_zipL {K : KW} {H0 : Hp} {a b : Addr} {vs us : List V} {xs ys : List P} (h : FzL K.K H0 a vs) (i : ImAll K H0 xs vs) (h2 : FzL K.K H0 b us) (i2 : ImAll K H0 ys us) : IterOk K (Itz K.K a b) H0 (List.zipWith (fun x y => .tuple [x, y]) xs ys) := by
  have hl : (List.zipWith (fun x y => PyData.tuple [x, y]) xs ys).length = min xs.length ys.length := by simp
  refine ⟨fun n H x hn => ?_, fun n H x hn => ?_, fun n H v H' x hn y => ?_⟩
  · rw [hl] at hn
    obtain ⟨v, e, _⟩ := i.get (List.getElem?_eq_getElem (show n < xs.length by omega))
    obtain ⟨u, e', _⟩ := i2.get (List.getElem?_eq_getElem (show n < ys.length by omega))
    exact ⟨vs, us, v, u, (h.ext x).sq, (h2.ext x).sq, e, e'⟩
  · rw [hl] at hn
    have := i.length
    have := i2.length
    exact ⟨vs, us, (h.ext x).sq, (h2.ext x).sq, by omega⟩
  · obtain ⟨T, w, w2, e1, e2, e3, e4, e5⟩ := y
    obtain ⟨p, e, r⟩ := i.get' (e4 vs (h.ext x).sq)
    obtain ⟨p2, e', r'⟩ := i2.get' (e5 us (h2.ext x).sq)
    subst e3
    refine ⟨Ext.new e2, fun α st S => S.new e2, .tuple [p, p2], ?_, ?_⟩
    · rw [List.getElem?_zipWith, e, e']
    · rw [e1]
      refine ⟨T, _, rfl, .inl (.inl upd_same), by show 2 ≤ sizeLine; decide, ImAll.cons (Im.ext (x.trans (Ext.new e2)) _ _ r) (ImAll.cons (Im.ext (x.trans (Ext.new e2)) _ _ r') ImAll.nil)⟩
theorem iter_zipT {K : KW} {H0 : Hp} {a b : Addr} {vs us : List V} {xs ys : List P} (h : SqT K.K H0 a vs) (i : ImAll K H0 xs vs) (h2 : SqT K.K H0 b us) (i2 : ImAll K H0 ys us) : IterOk K (ItzT K.K a b) H0 (List.zipWith (fun x y => .tuple [x, y]) xs ys) := by
  have hl : (List.zipWith (fun x y => PyData.tuple [x, y]) xs ys).length = min xs.length ys.length := by simp
  refine ⟨fun n H x hn => ?_, fun n H x hn => ?_, fun n H v H' x hn y => ?_⟩
  · rw [hl] at hn
    obtain ⟨v, e, _⟩ := i.get (List.getElem?_eq_getElem (show n < xs.length by omega))
    obtain ⟨u, e', _⟩ := i2.get (List.getElem?_eq_getElem (show n < ys.length by omega))
    exact ⟨vs, us, v, u, SqT.ext x h, SqT.ext x h2, e, e'⟩
  · rw [hl] at hn
    have := i.length
    have := i2.length
    exact ⟨vs, us, SqT.ext x h, SqT.ext x h2, by omega⟩
  · obtain ⟨T, w, w2, e1, e2, e3, e4, e5⟩ := y
    obtain ⟨p, e, r⟩ := i.get' (e4 vs (SqT.ext x h))
    obtain ⟨p2, e', r'⟩ := i2.get' (e5 us (SqT.ext x h2))
    subst e3
    refine ⟨Ext.new e2, fun α st S => S.new e2, .tuple [p, p2], ?_, ?_⟩
    · rw [List.getElem?_zipWith, e, e']
    · rw [e1]
      refine ⟨T, _, rfl, .inl (.inl upd_same), by show 2 ≤ sizeLine; decide, ImAll.cons (Im.ext (x.trans (Ext.new e2)) _ _ r) (ImAll.cons (Im.ext (x.trans (Ext.new e2)) _ _ r') ImAll.nil)⟩
theorem items_enum {ps ys : List P} (h : items .enum ps = some ys) : ∃ xs, ps = [.list xs] ∧ ys = xs.zipIdx.map fun q => .tuple [.int (q.2 : Nat), q.1] := by
  rcases ps with _ | ⟨a, _ | ⟨b, r⟩⟩
  · cases (show none = some ys from h)
  · cases a <;> first | (cases (show none = some ys from h); done) | exact ⟨_, rfl, (Option.some.inj h).symm⟩
  · cases a <;> cases b <;> cases (show none = some ys from h)
theorem items_zip {ps ys : List P} (h : items .zip ps = some ys) : ∃ xs zs, (ps = [.list xs, .list zs] ∨ ps = [.tuple xs, .tuple zs]) ∧ ys = List.zipWith (fun x y => .tuple [x, y]) xs zs := by
  rcases ps with _ | ⟨a, _ | ⟨b, _ | ⟨d, r⟩⟩⟩
  · cases (show none = some ys from h)
  · cases a <;> cases (show none = some ys from h)
  · cases a <;> cases b <;> first | (cases (show none = some ys from h); done) | exact ⟨_, _, .inl rfl, (Option.some.inj h).symm⟩ | exact ⟨_, _, .inr rfl, (Option.some.inj h).symm⟩
  · cases a <;> cases b <;> cases d <;> cases (show none = some ys from h)
theorem i_enum (C : Cxt c sc F W Φ k X) {a : Expr} {elts : List Expr} {kk : Nat} {tpos : Pos} {x : Str} {i : Kp.X} {p pos : Pos} (h : glob c sc x = some .enum) (ha : PA X [a] (tD F W Φ [i])) (hn : noStar a = true) : PI X (.Tuple elts kk tpos) (.Call (.Name x p) [a] [] pos) (tI F W Φ .enum [i]) := by
  obtain ⟨h1, ⟨hm, e⟩, h5, h6⟩ := C.gl h
  subst e
  refine ⟨fun pins s σ H R I q => ?_⟩
  obtain ⟨env, st, α, hE, hS, ho⟩ := q
  refine (pi_enum h1 hm ha (star_cons hn)).run pins s σ H R I ((evI_out hE hS ho).imp fun vs H1 ⟨ps, ys, st1, α1, a1, r1, e, hJ⟩ => ?_)
  obtain ⟨xs, e1, e2⟩ := items_enum e
  subst e1 e2
  obtain ⟨v, r, e3, q1, q2⟩ := r1
  have q2 : r = [] := q2
  subst q2
  obtain ⟨b, us, e4, g1, g2, g3⟩ := q1
  have g := iter_enum g1 g3
  refine ⟨b, us, by rw [e3, e4], sqlX C.hF g1.sq, hJ _ ?_⟩
  rw [C.hF] at g ⊢
  exact g
theorem i_zip (C : Cxt c sc F W Φ k X) {a b : Expr} {elts : List Expr} {kk : Nat} {tpos : Pos} {x : Str} {i i2 : Kp.X} {p pos : Pos} (h : glob c sc x = some .zip) (ha : PA X [a, b] (tD F W Φ [i, i2])) (hn : noStar a = true) (hn2 : noStar b = true) : PI X (.Tuple elts kk tpos) (.Call (.Name x p) [a, b] [] pos) (tI F W Φ .zip [i, i2]) := by
  obtain ⟨h1, ⟨hm, e⟩, h5, h6⟩ := C.gl h
  subst e
  refine ⟨fun pins s σ H R I q => ?_⟩
  obtain ⟨env, st, α, hE, hS, ho⟩ := q
  refine (pi_zipA h1 hm ha (star_cons hn) (star_any (by rw [List.all_cons, hn2]; rfl))).run pins s σ H R I ((evI_out hE hS ho).imp fun vs H1 ⟨ps, ys, st1, α1, a1, r1, e, hJ⟩ => ?_)
  obtain ⟨xs, zs, e1, e2⟩ := items_zip e
  subst e2
  rcases e1 with e1 | e1
  · subst e1
    obtain ⟨v, r, e3, q1, q2⟩ := r1
    obtain ⟨v2, r2, e4, q3, q4⟩ := q2
    have q4 : r2 = [] := q4
    subst q4 e4 e3
    obtain ⟨b1, us, e4, g1, g2, g3⟩ := q1
    obtain ⟨b2, us2, e5, g4, g5, g6⟩ := q3
    have g := iter_zipL g1 g3 g4 g6
    refine ⟨b1, b2, us, us2, by rw [e4, e5], .inl ⟨sqlX C.hF g1.sq, sqlX C.hF g4.sq, hJ _ ?_⟩⟩
    rw [C.hF] at g ⊢
    exact g
  · subst e1
    obtain ⟨v, r, e3, q1, q2⟩ := r1
    obtain ⟨v2, r2, e4, q3, q4⟩ := q2
    have q4 : r2 = [] := q4
    subst q4 e4 e3
    obtain ⟨b1, us, e4, g1, g2, g3⟩ := q1
    obtain ⟨b2, us2, e5, g4, g5, g6⟩ := q3
    have g := iter_zipT g1 g3 g4 g6
    refine ⟨b1, b2, us, us2, by rw [e4, e5], .inr ⟨sqtX C.hF g1, sqtX C.hF g4, hJ _ ?_⟩⟩
    rw [C.hF] at g ⊢
    exact g
end
end Kp

/-! Kp, part 8: targets, comprehensions. -/
namespace Kp
open PySem PySem.Spec PyProof.Rows L2

/-! ### slots forgotten -/
theorem wipe_get {σ : L2.St} {j : Nat} : ∀ {vs : List Nat}, (wipe σ vs)[j]? = if j ∈ vs ∧ j < σ.length then some none else σ[j]?
  | [] => by simp [wipe]
  | v :: vs => by
    unfold wipe
    by_cases e : v = j
    · subst e
      by_cases h : v < σ.length
      · rw [List.getElem?_set_self (by rw [wipe_length]; exact h)]
        simp [h]
      · rw [List.getElem?_eq_none (by rw [List.length_set, wipe_length]; omega)]
        have e : σ[v]? = none := List.getElem?_eq_none (by omega)
        simp [h]
    · rw [List.getElem?_set_ne e, wipe_get]
      have e' : j ≠ v := fun z => e z.symm
      simp [List.mem_cons, e']
theorem wipe_set {σ : L2.St} {i : Nat} {x : Option V} {vs : List Nat} (h : i ∈ vs) : wipe (σ.set i x) vs = wipe σ vs := by
  apply List.ext_getElem?
  intro j
  rw [wipe_get, wipe_get, List.length_set]
  by_cases e : i = j
  · subst e
    by_cases hl : i < σ.length
    · simp [h, hl]
    · have e1 : (σ.set i x)[i]? = none := List.getElem?_eq_none (by rw [List.length_set]; omega)
      have e2 : σ[i]? = none := List.getElem?_eq_none (by omega)
      simp [hl]
  · rw [List.getElem?_set_ne e]
theorem wipe_wipe {σ : L2.St} {vs : List Nat} : wipe (wipe σ vs) vs = wipe σ vs := by
  apply List.ext_getElem?
  intro j
  rw [wipe_get, wipe_length, wipe_get]
  split <;> rfl
section
variable {K : KW} {α : List Addr} {H : Hp}
theorem EvR.clear {env : Ev} {σ : L2.St} (h : EvR K α H env σ) (i : Nat) : EvR K α H (env.set i none) (σ.set i none) := by
  refine ⟨by rw [List.length_set, List.length_set]; exact h.len, fun j d q => ?_⟩
  by_cases e : i = j
  · subst e
    by_cases hi : i < env.length
    · rw [List.getElem?_set_self hi] at q
      cases q
    · rw [List.getElem?_eq_none (by rw [List.length_set]; omega)] at q
      cases q
  · rw [List.getElem?_set_ne e] at q
    rw [List.getElem?_set_ne e]
    exact h.at_ j d q
theorem EvR.wipe {env : Ev} {σ : L2.St} (h : EvR K α H env σ) : ∀ vs, EvR K α H (wipeE env vs) (L2.wipe σ vs)
  | [] => h
  | v :: vs => (h.wipe vs).clear v

/-! ### targets -/
def gNs : List Nat → TGs
  | [] => gNil
  | i :: is => gCons (gName i) (gNs is)
def gT (K : PySem.W.Frag) : Tg → TG
  | .one i => gName i
  | .tup is => gTup K is.length (gNs is)
theorem gNs_bind : ∀ {is : List Nat} {ys : List P} {vs : List V} {env : Ev} {σ : L2.St} {Q : L2.St → Hp → Prop}, EvR K α H env σ → ImAll K H ys vs → ys.length = is.length →
    (∀ σ1, EvR K α H (setName env is ys) σ1 → (∀ ws : List Nat, (∀ i ∈ is, i ∈ ws) → L2.wipe σ1 ws = L2.wipe σ ws) → Q σ1 H) → gNs is vs σ H Q
  | [], [], vs, env, σ, Q, hE, hi, hl, q => ⟨hi, q σ hE fun _ _ => rfl⟩
  | [], y :: ys, vs, env, σ, Q, hE, hi, hl, q => by cases hl
  | i :: is, [], vs, env, σ, Q, hE, hi, hl, q => by cases hl
  | i :: is, y :: ys, vs, env, σ, Q, hE, hi, hl, q => by
    obtain ⟨v, r, e, h1, h2⟩ := hi
    refine ⟨v, r, e, ?_⟩
    refine gNs_bind (env := env.set i (some (.py y))) (EvR.set hE i h1) h2 (by simpa using hl) fun σ1 h3 h4 => q σ1 h3 fun ws hw => ?_
    rw [h4 ws fun j hj => hw j (List.mem_cons_of_mem _ hj), wipe_set (hw i List.mem_cons_self)]
theorem g_bind {t : Tg} {p : P} {v : V} {env env1 : Ev} {σ : L2.St} {Q : L2.St → Hp → Prop} (hE : EvR K α H env σ) (hi : Im K H p v) (hb : bindT t env p = some env1)
    (q : ∀ σ1, EvR K α H env1 σ1 → (∀ ws : List Nat, (∀ i ∈ tgSlots t, i ∈ ws) → L2.wipe σ1 ws = L2.wipe σ ws) → Q σ1 H) : gT K t v σ H Q := by
  cases t with
  | one i =>
    have e : env.set i (some (.py p)) = env1 := Option.some.inj hb
    subst e
    exact q _ (EvR.set hE i hi) fun ws hw => wipe_set (hw i (by simp [tgSlots]))
  | tup is =>
    cases p <;> try (cases (show none = some env1 from hb); done)
    rename_i ys
    have hb : (if ys.length = is.length then some (setName env is ys) else none) = some env1 := hb
    split at hb
    · rename_i hl
      cases hb
      obtain ⟨a, vs, e, h1, z1, i1⟩ := hi
      exact ⟨a, vs, e, h1, by rw [← i1.length]; exact hl, gNs_bind hE i1 hl q⟩
    · cases hb
end

section
variable {X : Cx}
/-- the names of a target stand at these slots -/
def NmOk (X : Cx) (x : Str) (i : Nat) : Prop := X.N[i]? = some x ∧ Loc X.env.scope x ∧ (X.fn x = true ∨ X.env.scope.names.lookup x = some .local)
theorem pgs_names (nd : X.N.Nodup) : ∀ {es : List Expr} {xs : List Str} {is : List Nat}, es.mapM nameOf = some xs → xs.length = is.length → (∀ p ∈ xs.zip is, NmOk X p.1 p.2) → PGs X es (gNs is) ∧ (assignEach es X.env).length = is.length ∧ (assignEach es X.env).findIdx? (·.1) = none
  | [], xs, is, h, hl, hn => by
    have h : [] = xs := by simpa using h
    subst h
    cases is with
    | nil => exact ⟨pgs_nil, rfl, rfl⟩
    | cons _ _ => cases hl
  | e :: es, xs, is, h, hl, hn => by
    rw [List.mapM_cons] at h
    cases e <;> try (cases h; done)
    rename_i x pos
    cases q : es.mapM nameOf with
    | none => rw [q] at h; cases h
    | some ys =>
      rw [q] at h
      have h : x :: ys = xs := by simpa [nameOf] using h
      subst h
      cases is with
      | nil => cases hl
      | cons i is =>
        obtain ⟨h1, h2, h3⟩ := pgs_names nd q (by simpa using hl) fun p hp => hn p (by rw [List.zip_cons_cons]; exact List.mem_cons_of_mem _ hp)
        obtain ⟨n1, n2, n3⟩ := hn (x, i) (by rw [List.zip_cons_cons]; exact List.mem_cons_self)
        have e1 : assignEach (.Name x pos :: es) X.env = (false, assign (.Name x pos) X.env) :: assignEach es X.env := rfl
        refine ⟨pgs_cons (pg_name nd n1 n2 n3) h1 (by rw [e1]; rfl), by rw [e1, List.length_cons, h2]; rfl, ?_⟩
        rw [e1, List.findIdx?_cons, h3]
        rfl
theorem mapM_len {α β : Type} {f : α → Option β} : ∀ {xs : List α} {ys : List β}, xs.mapM f = some ys → xs.length = ys.length
  | [], ys, h => by have h : [] = ys := by simpa using h
                    subst h; rfl
  | x :: xs, ys, h => by
    rw [List.mapM_cons] at h
    cases q : f x with
    | none => rw [q] at h; cases h
    | some y =>
      cases q2 : xs.mapM f with
      | none => rw [q, q2] at h; cases h
      | some zs =>
        rw [q, q2] at h
        have h : y :: zs = ys := by simpa using h
        subst h
        rw [List.length_cons, List.length_cons, mapM_len q2]
theorem mapM_mem {α β : Type} {f : α → Option β} : ∀ {xs : List α} {ys : List β}, xs.mapM f = some ys → ∀ p ∈ xs.zip ys, f p.1 = some p.2
  | [], ys, h, p, hp => by simp at hp
  | x :: xs, ys, h, p, hp => by
    rw [List.mapM_cons] at h
    cases q : f x with
    | none => rw [q] at h; cases h
    | some y =>
      cases q2 : xs.mapM f with
      | none => rw [q, q2] at h; cases h
      | some zs =>
        rw [q, q2] at h
        have h : y :: zs = ys := by simpa using h
        subst h
        rw [List.zip_cons_cons] at hp
        rcases List.mem_cons.mp hp with e | hp
        · subst e; exact q
        · exact mapM_mem q2 p hp
theorem slotOwn_ok {c : Cfg} {sc : Scope} {x : Str} {i : Nat} (h : slotOwn c sc x = some i) : c.N[i]? = some x ∧ Loc sc x := by
  unfold slotOwn at h
  split at h
  · rename_i hk
    exact ⟨idxOf_get h, .inl hk⟩
  · rename_i hk
    exact ⟨idxOf_get h, .inr hk⟩
  · cases h
theorem own_slots {c : Cfg} {scope : Scope} {tg : Expr} {t : Tg} {own : List (Str × Nat)} (h : tgOf c scope tg = some (t, own)) : own.map (·.2) = tgSlots t := by
  unfold tgOf at h
  split at h
  · rename_i x pos
    cases q : slotOwn c scope x with
    | none => rw [q] at h; cases h
    | some i => rw [q] at h; cases h; rfl
  · rename_i es k pos
    split at h
    · rename_i xs hx
      split at h
      · rename_i is hi
        cases h
        have hl := mapM_len hi
        show (xs.zip is).map Prod.snd = is
        rw [List.map_snd_zip]; omega
      · cases h
    · cases h
  · cases h
/-- a target, its names being those of the scope -/
theorem pg_tgt {c : Cfg} {sc : Scope} {tg : Expr} {t : Tg} {own : List (Str × Nat)} (hc : X.calm = true) (nd : X.N.Nodup) (h : tgOf c sc tg = some (t, own)) (hn : ∀ x i, slotOwn c sc x = some i → NmOk X x i) : PG X tg (gT X.K t) := by
  unfold tgOf at h
  split at h
  · rename_i x pos
    cases q : slotOwn c sc x with
    | none => rw [q] at h; cases h
    | some i =>
      rw [q] at h
      cases h
      obtain ⟨n1, n2, n3⟩ := hn x i q
      exact pg_name nd n1 n2 n3
  · rename_i es k pos
    split at h
    · rename_i xs hx
      split at h
      · rename_i is hi
        cases h
        obtain ⟨h1, h2, h3⟩ := pgs_names nd hx (mapM_len hi) fun p hp => hn p.1 p.2 (mapM_mem hi p hp)
        exact pg_tup hc h1 h2 h3
      · cases h
    · cases h
  · cases h
end

/-! ### the store grows, shrinks, changes -/
section
variable {K : KW} {α : List Addr} {H : Hp} {st : Sto}
theorem StR.push (S : StR K α H st) {D : Addr} {ps : List P} {vs : List V} (hD : H D = none) (z : vs.length ≤ sizeLine) (i : ImAll K H ps vs) : StR K (α ++ [D]) (upd H D (.lst vs)) (st ++ [.lst ps]) := by
  have S' := S.new (o := .lst vs) hD
  refine ⟨by rw [List.length_append, List.length_append, S.len]; rfl, ?_, fun n o a h1 h2 => ?_⟩
  · rw [List.nodup_append]
    exact ⟨S.nd, by simp, fun a ha b hb => by
      have e : b = D := by simpa using hb
      subst e
      exact fun z => S.out hD (z ▸ ha)⟩
  · by_cases hn : n < st.length
    · rw [List.getElem?_append_left hn] at h1
      rw [List.getElem?_append_left (by rw [S.len]; exact hn)] at h2
      have q := S'.ob n o a h1 h2
      exact q
    · have e : n = st.length := by
        have := (List.getElem?_eq_some_iff.mp h1).1
        rw [List.length_append] at this
        have : n < st.length + 1 := this
        omega
      subst e
      rw [List.getElem?_append_right (Nat.le_refl _), Nat.sub_self] at h1
      rw [← S.len, List.getElem?_append_right (Nat.le_refl _), Nat.sub_self] at h2
      cases h1
      have e : D = a := Option.some.inj h2
      subst e
      exact ⟨vs, upd_same, z, ImAll.ext (Ext.new hD) _ _ i⟩
theorem StR.take {β : List Addr} (S : StR K (α ++ β) H st) : StR K α H (st.take α.length) := by
  have hl := S.len
  rw [List.length_append] at hl
  refine ⟨by rw [List.length_take]; omega, (List.nodup_append.mp S.nd).1, fun n o a h1 h2 => ?_⟩
  have hn := (List.getElem?_eq_some_iff.mp h2).1
  rw [List.getElem?_take_of_lt hn] at h1
  have q := S.ob n o a h1 (by rw [List.getElem?_append_left hn]; exact h2)
  exact q
/-- an object is a list anew -/
theorem StR.write (S : StR K α H st) {n : Nat} {D : Addr} {ps : List P} {us vs : List V} (hD : α[n]? = some D) (hu : H D = some (.lst us)) (z : vs.length ≤ sizeLine) (i : ImAll K H ps vs) : StR K α (upd H D (.lst vs)) (st.set n (.lst ps)) := by
  have x : Ext H (upd H D (.lst vs)) := Ext.lst hu
  refine ⟨by rw [List.length_set]; exact S.len, S.nd, fun m o a h1 h2 => ?_⟩
  by_cases e : n = m
  · subst e
    have hn : n < st.length := by rw [← S.len]; exact (List.getElem?_eq_some_iff.mp hD).1
    rw [List.getElem?_set_self hn] at h1
    rw [hD] at h2
    cases h1
    cases h2
    exact ⟨vs, upd_same, z, ImAll.ext x _ _ i⟩
  · rw [List.getElem?_set_ne e] at h1
    have ne : a ≠ D := fun z => by
      subst z
      obtain ⟨l1, g1⟩ := List.getElem?_eq_some_iff.mp hD
      obtain ⟨l2, g2⟩ := List.getElem?_eq_some_iff.mp h2
      exact e ((List.getElem_inj S.nd).mp (g1.trans g2.symm))
    have q := S.ob m o a h1 h2
    cases o with
    | lst ds =>
      obtain ⟨ws, q1, q2, q3⟩ := q
      exact ⟨ws, by rw [upd_ne ne]; exact q1, q2, ImAll.ext x _ _ q3⟩
    | dct kvs =>
      obtain ⟨u, ws, q1, q2, q3, q4⟩ := q
      exact ⟨u, ws, by rw [upd_ne ne]; exact q1, q2, q3, ImKvs.ext x _ _ q4⟩
    | dead =>
      obtain ⟨o, q⟩ := q
      exact ⟨o, by rw [upd_ne ne]; exact q⟩
end

/-! ### comprehensions -/
def NoW : WX := fun _ _ _ _ => False
section
variable {c : Cfg} {sc : Scope} {F : Fx} {W : WX} {Φ : Nat → List D → Sto → R Rv} {k : Nat} {X : Cx}
abbrev tAll (F : Fx) (W : WX) (Φ : Nat → List D → Sto → R Rv) (is : List Kp.X) : TT := tM F W (fun _ _ (b : Bool) k => b = k) (fun env st => evAnd Φ env is st)
/-- a turn of a comprehension -/
def turnL (Φ : Nat → List D → Sto → R Rv) (env : Ev) (t : Tg) (ifs : List Kp.X) (elt : Kp.X) (y : P) (st : Sto) : R (Option P) :=
  match bindT t (wipeE env (tgSlots t)) y with
  | some env1 => (evAnd Φ env1 ifs st).bind fun c st3 => if c then (evE Φ env1 elt st3).bind fun r st4 => needI r fun p => .ok (some p) st4 else .ok none st3
  | none => .bad
theorem evE_comp {env : Ev} {elt : Kp.X} {t : Tg} {ik : Ik} {is ifs : List Kp.X} {st : Sto} : evE Φ env (.comp elt t ik is ifs) st =
    (evI Φ env ik is st).bind fun ys st1 => (compL st1.length (turnL Φ env t ifs elt) ys (st1 ++ [.lst []])).bind fun _ st2 => compEnd st1.length st2 := by
  simp only [evE, evI, R.bind_assoc]
  cases evDs Φ env is st with
  | ok ds st1 =>
    simp only [ok_bind]
    cases itemsD ik ds <;> rfl
  | exc cc fs st1 => rfl
  | bad => rfl
theorem noexc_ok {β γ δ : Type} {RR : List Addr → Hp → δ → γ → Prop} {m : R β} {g : β → Sto → R δ} {σ : L2.St} {α : List Addr} {H : Hp} {Q : γ → Hp → Prop} (h : Out F W RR σ α H (m.noexc.bind g) Q) : ∃ a st, m = .ok a st ∧ Out F W RR σ α H (g a st) Q := by
  cases m with
  | ok a st => exact ⟨a, st, rfl, h⟩
  | exc cc fs st => exact (show False from h).elim
  | bad => exact (show False from h).elim
theorem lc_imp (C : Cxt c sc F W Φ k X) {t : Tg} {ik : Ik} {is ifs : List Kp.X} {elt : Kp.X} : ∀ σ H Q, tE F W Φ (.comp elt t ik is ifs) σ H Q →
    tLc (tI F W Φ ik is) (gT X.K t) (tAll F NoW Φ ifs) (tM F NoW (RvF F.K) (fun env st => evE Φ env elt st)) (tgSlots t) σ H Q := fun σ H Q q => by
  obtain ⟨env, st, α, hE, hS, ho⟩ := q
  simp only [evE_comp] at ho
  refine (tM.bind (m := fun env st => evI Φ env ik is st) hE hS ho).imp fun J H1 ⟨ys, st1, α1, a1, hJ, ho⟩ => ?_
  intro D hD
  have hz : ([] : List V).length ≤ sizeLine := Nat.zero_le _
  have S2 := a1.S.push (ps := []) (vs := []) hD hz ImAll.nil
  have x2 : Ext H1 (upd H1 D (.lst [])) := Ext.new hD
  have hn : α1.length = st1.length := a1.S.len
  refine ⟨fun i m H => m = ys.length - i ∧ i ≤ ys.length ∧ ∃ st α, Pre (α1 ++ [D]) α ∧ Ext (upd H1 D (.lst [])) H ∧ StR F.K α H st ∧ Out F W (RvR F.K) σ α1 H1 ((compL st1.length (turnL Φ env t ifs elt) (ys.drop i) st).bind fun _ st2 => compEnd st1.length st2) Q,
    ⟨ys.length, by simp, Nat.zero_le _, st1 ++ [.lst []], α1 ++ [D], Pre.refl, Ext.refl, S2, by rw [List.drop_zero]; exact ho⟩, ?_⟩
  rintro i m H2 ⟨rfl, hi, st2, α2, p2, e2, S2, ho⟩
  have x12 : Ext H1 H2 := x2.trans e2
  by_cases hlt : i < ys.length
  · refine .inr ⟨hJ.go i H2 x12 hlt, _, fun H' w => ⟨ys.length - (i + 1), by omega, rfl, hlt, w⟩, fun x H3 hy => ?_⟩
    obtain ⟨e3, sk, p, hp, ip⟩ := hJ.yld i H2 x H3 x12 hlt hy
    have S3 := sk _ _ S2
    have x13 := x12.trans e3
    have hd : ys.drop i = ys[i] :: ys.drop (i + 1) := by rw [List.drop_eq_getElem_cons hlt]
    have hpe : ys[i] = p := by
      have := List.getElem?_eq_getElem hlt
      rw [this] at hp
      exact Option.some.inj hp
    rw [hd, hpe, compL, R.bind_assoc] at ho
    obtain ⟨o, st4, em, ho⟩ := noexc_ok ho
    unfold turnL at em
    cases eb : bindT t (wipeE env (tgSlots t)) p with
    | none => rw [eb] at em; cases em
    | some env1 =>
      rw [eb] at em
      have pre12 : Pre α1 (α1 ++ [D]) := ⟨[D], rfl⟩
      have pre13 : Pre α1 α2 := pre12.trans p2
      have E3 : EvR F.K α2 H3 (wipeE env (tgSlots t)) (wipe σ (tgSlots t)) := EvR.wipe (EvR.mono pre13 x13 a1.E) _
      have eK : X.K = F.K.K := by rw [C.hF]
      rw [eK]
      refine g_bind E3 ip eb fun σ1 E4 hw => ⟨by rw [hw _ (fun _ h => h), wipe_wipe], ?_⟩
      cases ea : evAnd Φ env1 ifs st2 with
      | bad => simp only [ea, bad_bind] at em; cases em
      | exc cc fs st5 => simp only [ea, exc_bind] at em; cases em
      | ok cb st5 =>
        simp only [ea, ok_bind] at em
        refine ⟨env1, st2, α2, E4, S3, ?_⟩
        simp only [ea]
        intro b H5 α5 p5 e5 S5 hb
        subst hb
        cases cb with
        | false =>
          rw [if_neg Bool.false_ne_true] at em ⊢
          cases em
          refine ⟨st4, α5, p2.trans p5, e2.trans (e3.trans e5), S5, ?_⟩
          simp only [] at ho
          exact ho
        | true =>
          rw [if_pos rfl] at em ⊢
          cases ee : evE Φ env1 elt st5 with
          | bad => simp only [ee, bad_bind] at em; cases em
          | exc cc fs st6 => simp only [ee, exc_bind] at em; cases em
          | ok r st6 =>
            simp only [ee, ok_bind] at em
            refine ⟨env1, st5, α5, E4.mono p5 e5, S5, ?_⟩
            simp only [ee]
            intro y H6 α6 p6 e6 S6 hr
            unfold needI at em
            have hr : DR F.K α6 H6 r.frz y := hr
            cases ef : r.frz with
            | ref nn => rw [ef] at em; cases em
            | py pv =>
              rw [ef] at em hr
              cases em
              have hD6 : α6[st1.length]? = some D := by
                refine Pre.get (p2.trans (p5.trans p6)) ?_
                rw [List.getElem?_append_right (by rw [hn]; exact Nat.le_refl _), hn, Nat.sub_self]; rfl
              simp only [] at ho
              cases eo : st4[st1.length]? with
              | none => rw [eo] at ho; exact (show False from ho).elim
              | some ob =>
                rw [eo] at ho
                cases ob with
                | dead => exact (show False from ho).elim
                | dct _ => exact (show False from ho).elim
                | lst acc =>
                  obtain ⟨vs, q1, q2, q3⟩ := S6.ob _ _ _ eo hD6
                  have ho : Out F W (RvR F.K) σ α1 H1 ((chk (decide (acc.length < SZ)) (compL st1.length (turnL Φ env t ifs elt) (ys.drop (i + 1)) (st4.set st1.length (.lst (acc ++ [pv]))))).bind fun _ st2 => compEnd st1.length st2) Q := ho
                  cases ec : decide (acc.length < SZ) with
                  | false => rw [ec] at ho; exact (show False from ho).elim
                  | true =>
                    rw [ec] at ho
                    have ec := of_decide_eq_true ec
                    have hv : vs.length < sizeLine := by rw [← q3.length]; exact ec
                    refine ⟨vs, q1, hv, st4.set st1.length (.lst (acc ++ [pv])), α6, p2.trans (p5.trans p6), e2.trans (e3.trans (e5.trans (e6.trans (Ext.lst q1)))), ?_, ho⟩
                    exact S6.write hD6 q1 (by rw [List.length_append]; exact hv) (q3.append (ImAll.cons hr ImAll.nil))
  · have e : i = ys.length := by omega
    subst e
    refine .inl ⟨hJ.stop _ H2 x12 (Nat.le_refl _), ?_⟩
    rw [List.drop_length, compL] at ho
    cases ec : decide (st2.length = st1.length + 1) with
    | false => rw [ec] at ho; exact (show False from ho).elim
    | true =>
      rw [ec] at ho
      have ec := of_decide_eq_true ec
      obtain ⟨γ, eγ⟩ := p2
      have hγ : γ = [] := by
        have l1 := S2.len
        rw [eγ, List.length_append, List.length_append, hn, ec] at l1
        have l1 : st1.length + 1 + γ.length = st1.length + 1 := l1
        exact List.length_eq_zero_iff.mp (by omega)
      subst hγ
      rw [List.append_nil] at eγ
      subst eγ
      have ho : Out F W (RvR F.K) σ α1 H1 (compEnd st1.length st2) Q := ho
      unfold compEnd at ho
      have hDn : (α1 ++ [D])[st1.length]? = some D := by
        rw [List.getElem?_append_right (by rw [hn]; exact Nat.le_refl _), hn, Nat.sub_self]; rfl
      cases eo : st2[st1.length]? with
      | none => rw [eo] at ho; exact (show False from ho).elim
      | some ob =>
        rw [eo] at ho
        cases ob with
        | dead => exact (show False from ho).elim
        | dct _ => exact (show False from ho).elim
        | lst zs =>
          obtain ⟨vs, q1, q2, q3⟩ := S2.ob _ _ _ eo hDn
          refine ho (.ref D) H2 α1 Pre.refl x12 ?_ ⟨D, vs, rfl, q1, q2, q3, ?_⟩
          · rw [← hn]
            exact S2.take
          · exact fun hm => (List.nodup_append.mp S2.nd).2.2 D hm D (by simp) rfl
end
end Kp

/-! Kp: methods of texts and lists. -/
namespace Kp
open PySem PySem.Spec PyProof.Rows L2
def mthTy : Mth → String
  | .join | .split => "str"
  | _ => "list"
def mthName : Mth → Str
  | .join => "join" | .split => "split" | .index => "index" | .append => "append" | .pop => "pop"
def mthId : Mth → String
  | .join => "str.join" | .split => "str.split" | .index => "list.index" | .append => "list.append" | .pop => "list.pop"
theorem mth_pa (m : Mth) : PlainAttrs (mthTy m) := by
  cases m
  · exact F.plainAttrs_str
  · exact F.plainAttrs_str
  · exact F.plainAttrs_list
  · exact F.plainAttrs_list
  · exact F.plainAttrs_list
theorem mth_slot (m : Mth) : Slot (mthTy m) (mthName m) (mthId m) := by
  cases m
  · exact F.slot_str_join
  · exact F.slot_str_split
  · exact F.slot_list_index
  · exact F.slot_list_append
  · exact F.slot_list_pop
theorem mth_ty (m : Mth) : typeOf (.builtin (mthId m)) = pure (.type "method_descriptor") := by
  cases m
  · exact F.type_str_join
  · exact F.type_str_split
  · exact F.type_list_index
  · exact F.type_list_append
  · exact F.type_list_pop
section
variable {X : Cx} {F : Fx} {W : WX}
theorem strsOf_map : ∀ {ps : List P} {ys : List Str}, strsOf ps = some ys → ∀ {K : KW} {H : Hp} {vs : List V}, ImAll K H ps vs → vs = ys.map V.str
  | [], ys, e, K, H, vs, h => by
    have e : [] = ys := Option.some.inj e
    subst e
    exact h
  | p :: ps, ys, e, K, H, vs, h => by
    cases p with
    | str s =>
      have e : (strsOf ps).map (s :: ·) = some ys := e
      cases q : strsOf ps with
      | none => rw [q] at e; cases e
      | some zs =>
        rw [q] at e
        have e : s :: zs = ys := Option.some.inj e
        subst e
        obtain ⟨v, r, e1, h1, h2⟩ := h
        have h1 : v = .str s := h1
        subst h1 e1
        rw [strsOf_map q h2]
        rfl
    | _ => cases (show none = some ys from e)
theorem im_strs {K : KW} {H : Hp} : ∀ (ys : List Str), ImAll K H (ys.map .str) (ys.map V.str)
  | [] => ImAll.nil
  | y :: ys => ImAll.cons rfl (im_strs ys)
def rMeth (F : Fx) (W : WX) (m : Mth) : V → List V → Hp → VK → Prop := fun x vs H Q => ∃ d ds st α σ, DR F.K α H d x ∧ DRs F.K α H ds vs ∧ StR F.K α H st ∧ Out F W (RvR F.K) σ α H (methop m d ds st) Q
theorem DRs.one {K : KW} {α : List Addr} {H : Hp} {d : Kp.D} {vs : List V} (h : DRs K α H [d] vs) : ∃ v, vs = [v] ∧ DR K α H d v := by
  obtain ⟨v, r, e, h1, h2⟩ := h
  have h2 : r = [] := h2
  subst h2
  exact ⟨v, e, h1⟩
theorem cases_join {d : Kp.D} {ds : List Kp.D} {st : Sto} {σ : L2.St} {α : List Addr} {H : Hp} {Q : VK} (h : Out F W (RvR F.K) σ α H (methop .join d ds st) Q) :
    ∃ a ps ys, d = .py (.str a) ∧ ds = [.py (.list ps)] ∧ strsOf ps = some ys ∧ joinOk a ys = true ∧ Out F W (RvR F.K) σ α H (ok1 (.str (Txt.join a ys)) st) Q := by
  cases d with
  | ref n => rcases ds with _ | ⟨e, _ | ⟨f, r⟩⟩ <;> exact (show False from h).elim
  | py p =>
    cases p <;> try (rcases ds with _ | ⟨e, _ | ⟨f, r⟩⟩ <;> exact (show False from h).elim)
    rename_i a
    rcases ds with _ | ⟨e, _ | ⟨f, r⟩⟩
    · exact (show False from h).elim
    · cases e with
      | ref n => exact (show False from h).elim
      | py p =>
        cases p <;> try exact (show False from h).elim
        rename_i ps
        have h : Out F W (RvR F.K) σ α H (match strsOf ps with | some ys => chk (joinOk a ys) (ok1 (.str (Txt.join a ys)) st) | none => .bad) Q := h
        cases e : strsOf ps with
        | none => rw [e] at h; exact (show False from h).elim
        | some ys =>
          rw [e] at h
          obtain ⟨c, h⟩ := h.chk
          exact ⟨a, ps, ys, rfl, rfl, e, c, h⟩
    · cases e with
      | ref n => exact (show False from h).elim
      | py p => cases p <;> exact (show False from h).elim
theorem meth_join (hF : F.K = X.kw) : MtR X "str.join" (rMeth F W .join) := by
  intro pins s σ H x xs v us Q I rx rs h
  obtain ⟨d, ds, st, α, σ', hx, hds, S, h⟩ := h
  obtain ⟨a, ps, ys, rfl, rfl, e, hj, h⟩ := cases_join h
  have hx : x = .str a := hx
  obtain ⟨w, rfl, hw⟩ := hds.one
  obtain ⟨p, vs, e2, h1, z1, i1⟩ := hw
  have ev := strsOf_map e i1
  subst ev
  exact mt_join pins s σ H x [w] v us Q I rx rs ⟨a, p, ys, hx, by rw [e2], .inl ((by first | exact sqlX hF (h1.sq) | exact sqtX hF (h1.sq))), of_decide_eq_true hj, h.one S rfl⟩
theorem cases_split {d : Kp.D} {ds : List Kp.D} {st : Sto} {σ : L2.St} {α : List Addr} {H : Hp} {Q : VK} (h : Out F W (RvR F.K) σ α H (methop .split d ds st) Q) :
    ∃ a b, d = .py (.str a) ∧ ds = [.py (.str b)] ∧ (b.length == 0) = false ∧ a.length + 2 ≤ sizeLine ∧ Out F W (RvR F.K) σ α H (.ok (.nl ((Txt.split a b).map .str)) st) Q := by
  cases d with
  | ref n => rcases ds with _ | ⟨e, _ | ⟨f, r⟩⟩ <;> exact (show False from h).elim
  | py p =>
    cases p <;> try (rcases ds with _ | ⟨e, _ | ⟨f, r⟩⟩ <;> exact (show False from h).elim)
    rename_i a
    rcases ds with _ | ⟨e, _ | ⟨f, r⟩⟩
    · exact (show False from h).elim
    · cases e with
      | ref n => exact (show False from h).elim
      | py p =>
        cases p <;> try exact (show False from h).elim
        rename_i b
        have h : Out F W (RvR F.K) σ α H (chk (!(b.length == 0) && decide (a.length + 2 ≤ SZ)) (.ok (.nl ((Txt.split a b).map .str)) st)) Q := h
        obtain ⟨c, h⟩ := h.chk
        rw [Bool.and_eq_true] at c
        exact ⟨a, b, rfl, rfl, by simpa using c.1, of_decide_eq_true c.2, h⟩
    · cases e with
      | ref n => exact (show False from h).elim
      | py p => cases p <;> exact (show False from h).elim
theorem meth_split (hF : F.K = X.kw) : MtR X "str.split" (rMeth F W .split) := by
  intro pins s σ H x xs v us Q I rx rs h
  obtain ⟨d, ds, st, α, σ', hx, hds, S, h⟩ := h
  obtain ⟨a, b, rfl, rfl, hb, ha, h⟩ := cases_split h
  have hx : x = .str a := hx
  obtain ⟨w, rfl, hw⟩ := hds.one
  have hw : w = .str b := hw
  have hl : (Txt.split a b).length ≤ sizeLine := Nat.le_trans (PyProof.Rows.split_le a b) ha
  exact mt_split pins s σ H x [w] v us Q I rx rs ⟨a, b, hx, by rw [hw], hb, ha, fun p n => h.lst S n (by rw [List.length_map]; exact hl) (im_strs _)⟩
theorem cases_append {d : Kp.D} {ds : List Kp.D} {st : Sto} {σ : L2.St} {α : List Addr} {H : Hp} {Q : VK} (h : Out F W (RvR F.K) σ α H (methop .append d ds st) Q) :
    ∃ n p xs, d = .ref n ∧ ds = [.py p] ∧ st[n]? = some (.lst xs) ∧ xs.length < SZ ∧ Out F W (RvR F.K) σ α H (ok1 .none (st.set n (.lst (xs ++ [p])))) Q := by
  cases d with
  | py p =>
    cases p <;> (rcases ds with _ | ⟨e, _ | ⟨f, r⟩⟩ <;> first | exact (show False from h).elim | (cases e <;> exact (show False from h).elim))
  | ref n =>
    rcases ds with _ | ⟨e, _ | ⟨f, r⟩⟩
    · exact (show False from h).elim
    · cases e with
      | ref m => exact (show False from h).elim
      | py p =>
        have h : Out F W (RvR F.K) σ α H (match st[n]? with
          | some (.lst xs) => chk (decide (xs.length < SZ)) (ok1 .none (st.set n (.lst (xs ++ [p]))))
          | _ => .bad) Q := h
        split at h
        · rename_i xs e
          obtain ⟨c, h⟩ := h.chk
          exact ⟨n, p, xs, rfl, rfl, e, of_decide_eq_true c, h⟩
        · exact h.elim
    · cases e <;> exact (show False from h).elim
theorem meth_append : MtR X "list.append" (rMeth F W .append) := by
  intro pins s σ H x xs v us Q I rx rs h
  obtain ⟨d, ds, st, α, σ', hx, hds, S, h⟩ := h
  obtain ⟨n, p, ys, rfl, rfl, e, hz, h⟩ := cases_append h
  obtain ⟨a, ha, e1⟩ := hx
  obtain ⟨w, rfl, hw⟩ := hds.one
  obtain ⟨vs, q1, q2, q3⟩ := S.ob n _ a e ha
  have hl : vs.length < sizeLine := by rw [← q3.length]; exact hz
  refine mt_append pins s σ H x [w] v us Q I rx rs ⟨a, vs, w, e1, rfl, q1, hl, ?_⟩
  exact h .non _ α Pre.refl (Ext.lst q1) (S.write ha q1 (by rw [List.length_append]; exact hl) (q3.append (ImAll.cons hw ImAll.nil))) rfl
theorem cases_pop {d : Kp.D} {ds : List Kp.D} {st : Sto} {σ : L2.St} {α : List Addr} {H : Hp} {Q : VK} (h : Out F W (RvR F.K) σ α H (methop .pop d ds st) Q) :
    ∃ n xs y, d = .ref n ∧ ds = [] ∧ st[n]? = some (.lst xs) ∧ xs[xs.length - 1]? = some y ∧ Out F W (RvR F.K) σ α H (ok1 y (st.set n (.lst xs.dropLast))) Q := by
  cases d with
  | py p =>
    cases p <;> (rcases ds with _ | ⟨e, r⟩ <;> first | exact (show False from h).elim | (cases e <;> exact (show False from h).elim))
  | ref n =>
    rcases ds with _ | ⟨e, r⟩
    · have h : Out F W (RvR F.K) σ α H (match st[n]? with
          | some (.lst xs) => (match xs[xs.length - 1]? with
            | some y => ok1 y (st.set n (.lst xs.dropLast))
            | none => .bad)
          | _ => .bad) Q := h
      split at h
      · rename_i xs e
        split at h
        · rename_i y ey
          exact ⟨n, xs, y, rfl, rfl, e, ey, h⟩
        · exact h.elim
      · exact h.elim
    · cases e <;> exact (show False from h).elim
theorem ImAll.dropLast {K : KW} {H : Hp} {ps : List P} {vs : List V} (h : ImAll K H ps vs) : ImAll K H ps.dropLast vs.dropLast := by
  rw [List.dropLast_eq_take, List.dropLast_eq_take, h.length]
  exact h.take _
theorem meth_pop : MtR X "list.pop" (rMeth F W .pop) := by
  intro pins s σ H x xs v us Q I rx rs h
  obtain ⟨d, ds, st, α, σ', hx, hds, S, h⟩ := h
  obtain ⟨n, ys, y, rfl, rfl, e, hy, h⟩ := cases_pop h
  obtain ⟨a, ha, e1⟩ := hx
  have hds : xs = [] := hds
  subst hds
  obtain ⟨vs, q1, q2, q3⟩ := S.ob n _ a e ha
  obtain ⟨w, hw, iw⟩ := q3.get hy
  refine mt_pop pins s σ H x [] v us Q I rx rs ⟨a, vs, w, e1, rfl, q1, by rw [← q3.length]; exact hw, ?_⟩
  exact h w _ α Pre.refl (Ext.lst q1) (S.write ha q1 (by rw [List.length_dropLast]; omega) q3.dropLast) (Im.ext (Ext.lst q1) _ _ iw)
theorem findP_ok {d : P} : ∀ {xs : List P} {j : Nat}, findP d xs = some j → (∃ z, xs[j]? = some z ∧ z.eqv d = true) ∧ ∀ (m : Nat) (z : P), m < j → xs[m]? = some z → z.eqv d = false
  | [], j, h => by cases h
  | x :: xs, j, h => by
    simp only [findP] at h
    split at h
    · rename_i e
      cases h
      exact ⟨⟨x, rfl, e⟩, fun m z h => absurd h (Nat.not_lt_zero _)⟩
    · rename_i e
      obtain ⟨i, h1, h2⟩ := Option.map_eq_some_iff.mp h
      subst h2
      obtain ⟨q1, q2⟩ := findP_ok h1
      refine ⟨q1, fun m z hm hz => ?_⟩
      cases m with
      | zero => cases hz; simpa using e
      | succ m => exact q2 m z (by omega) hz
theorem cases_index {x : Kp.D} {ds : List Kp.D} {st : Sto} {σ : L2.St} {α : List Addr} {H : Hp} {Q : VK} (h : Out F W (RvR F.K) σ α H (methop .index x ds st) Q) :
    ∃ d xs j, ds = [.py d] ∧ deref st x = some (.list xs) ∧ fit d = true ∧ xs.all fit = true ∧ findP d xs = some j ∧ Out F W (RvR F.K) σ α H (ok1 (.int j) st) Q := by
  rcases ds with _ | ⟨e, _ | ⟨f, r⟩⟩
  · exact (show False from h).elim
  · cases e with
    | ref m => exact (show False from h).elim
    | py d =>
      have h : Out F W (RvR F.K) σ α H (match deref st x with
        | some (.list xs) => if fit d && xs.all fit then (match findP d xs with
          | some j => ok1 (.int j) st
          | none => .bad) else .bad
        | _ => .bad) Q := h
      split at h
      · rename_i xs e
        split at h
        · rename_i c
          rw [Bool.and_eq_true] at c
          split at h
          · rename_i j ej
            exact ⟨d, xs, j, rfl, e, c.1, c.2, ej, h⟩
          · exact h.elim
        · exact h.elim
      · exact h.elim
  · cases e <;> exact (show False from h).elim
theorem meth_index (hF : F.K = X.kw) (hu : CR X.A) : MtR X "list.index" (rMeth F W .index) := by
  intro pins s σ H x xs v us Q I rx rs h
  have hu : X.A.units + 150 < cLine := hu
  obtain ⟨o, ds, st, α, σ', hx, hds, S, h⟩ := h
  obtain ⟨d, ys, j, rfl, e, c1, c2, hj, h⟩ := cases_index h
  obtain ⟨p1, p2⟩ := fit_of c1
  obtain ⟨q1, q2⟩ := fits_all c2
  have hp := DR.pr S hx e
  obtain ⟨a, vs, e1, hl, hz, hi⟩ := hp
  subst e1
  obtain ⟨w, e2, hw⟩ := hds.one
  subst e2
  cases rs with
  | cons ry rt =>
    rename_i uy ut
    cases rt
    cases rx
    obtain ⟨bs, r1⟩ := Im.reads I d w uy (hF ▸ hw) ry
    obtain ⟨its, rv, ⟨⟨cls, dd, data, sls⟩, n, ho, hc, hdn, hdt⟩, hlen⟩ := I.list (hF ▸ hl)
    simp only at hc hdt
    subst hc hdt
    obtain ⟨as, h4⟩ := ImAll.reads I ys vs its (hF ▸ hi) rv
    have hn : its.length = ys.length := SeqAt.ReadsAll.length ys its as h4
    have hmap : its.map (SeqAt.readOf s.heap) = ys := SeqAt.readsAll_map_plain ys its as q1 h4
    have hsl := sizeLine_eq
    obtain ⟨⟨z, hz1, hz2⟩, hno⟩ := findP_ok hj
    obtain ⟨hjd, _⟩ := List.getElem?_eq_some_iff.mp hz1
    have hvl := hi.length
    have hjl : j < its.length := by omega
    have hjs : j < its.toArray.size := by simpa using hjl
    have at_ : ∀ (m : Nat) (hm : m < its.toArray.size) (z' : PyData), ys[m]? = some z' → SeqAt.readOf s.heap its.toArray[m] = z' := by
      intro m hm z' hz'
      have hml : m < its.length := by simpa using hm
      rw [← hmap, List.getElem?_map, List.getElem?_eq_getElem hml] at hz'
      have e1 : SeqAt.readOf s.heap its[m] = z' := Option.some.inj (show some (SeqAt.readOf s.heap its[m]) = some z' from hz')
      simpa using e1
    refine call_meets PySem.F.slot_list_index ⟨_, ho, rfl⟩ PySem.F.entry_list_index (PySem.F.args_list_index_2 _ _)
      (SeqAt.list_indexAt a its.toArray n dd sls uy (fun u => PyData.eqv (SeqAt.readOf s.heap u) d) j hjs (by omega) ?_ ?_) ⟨ho, SeqAt.items_plain (vs := its.toArray) (show ReadsAll s.heap its.toArray.toList ys as from h4) r1 q1 p1 (by omega), ?_⟩
    · show PyData.eqv (SeqAt.readOf s.heap its.toArray[j]) d = true
      rw [at_ j hjs z hz1]
      exact hz2
    · intro m hm hmj
      have hmd : m < ys.length := by omega
      have hz' : ys[m]? = some ys[m] := List.getElem?_eq_getElem hmd
      show PyData.eqv (SeqAt.readOf s.heap its.toArray[m]) d = false
      rw [at_ m hm _ hz']
      exact hno m _ hmj hz'
    · exact ⟨.int (j : Nat), H, I.tok _, ⟨_, rfl⟩, h.one S rfl⟩
theorem meth_any (hF : F.K = X.kw) (hu : CR X.A) (m : Mth) : MtR X (mthId m) (rMeth F W m) := by
  cases m
  · exact meth_join hF
  · exact meth_split hF
  · exact meth_index hF hu
  · exact meth_append
  · exact meth_pop
theorem star_all {pos : Pos} {env : Env} : ∀ {es : List Expr}, es.all noStar = true → (backTo pos (starEach es env)).all (fun x => !x.1) = true
  | [], _ => rfl
  | e :: es, h => by
    rw [List.all_cons, Bool.and_eq_true] at h
    rw [star_cons h.1]
    show ((!false) && (backTo pos (starEach es env)).all (fun x => !x.1)) = true
    rw [star_all h.2]; rfl
theorem meth_tyV {m : Mth} {K : KW} {α : List Addr} {H : Hp} {st : Sto} (S : StR K α H st) {d : Kp.D} {x : V} (hx : DR K α H d x) (h : methTy m d st = true) : tyV K (mthTy m) x H := by
  have strc : ∀ y, d = .py (.str y) → tyV K "str" x H := fun y e => by
    subst e
    have hx : x = .str y := hx
    subst hx
    exact rfl
  have lstc : ∀ ys, deref st d = some (.list ys) → tyV K "list" x H := fun ys e => by
    obtain ⟨a, vs, e1, hl, _, _⟩ := DR.pr S hx e
    subst e1
    exact .inl ⟨rfl, vs, hl⟩
  have strd : (∀ y, d ≠ .py (.str y)) → methTy .join d st = false ∧ methTy .split d st = false := fun n => by
    cases d with
    | ref _ => exact ⟨rfl, rfl⟩
    | py p => cases p <;> first | exact ⟨rfl, rfl⟩ | exact absurd rfl (n _)
  have lstd : (∀ ys, deref st d ≠ some (.list ys)) → methTy .index d st = false := fun n => by
    show (match deref st d with | some (.list _) => true | _ => false) = false
    split
    · rename_i e; exact absurd e (n _)
    · rfl
  have c1 : methTy .join d st = true → tyV K "str" x H := fun h => by
    by_cases z : ∃ y, d = .py (.str y)
    · obtain ⟨y, e⟩ := z; exact strc y e
    · have := (strd fun y e => z ⟨y, e⟩).1
      rw [this] at h; cases h
  have c2 : methTy .index d st = true → tyV K "list" x H := fun h => by
    by_cases z : ∃ ys, deref st d = some (.list ys)
    · obtain ⟨y, e⟩ := z; exact lstc y e
    · have := lstd fun y e => z ⟨y, e⟩
      rw [this] at h; cases h
  cases m
  · exact c1 h
  · exact c1 h
  · exact c2 h
  · exact c2 h
  · exact c2 h
variable {c : Cfg} {sc : Scope} {Φ : Nat → List D → Sto → R Rv} {k : Nat}
theorem s_meth0 (C : Cxt c sc F W Φ k X) {m : Mth} {o : Expr} {i : Kp.X} {apos cpos : Pos} (ho : PE X o (tE F W Φ i))
    (hbase : attributeBase o (mthName m) X.env (eval o X.env) = eval o X.env) (hline : (apos.endLine == cpos.line) = true) :
    PE X (.Call (.Attribute o (mthName m) apos) [] [] cpos) (tE F W Φ (.meth m i [])) :=
  (pe_bm0 (mth_pa m) (mth_slot m) (mth_ty m) (meth_any (F := F) (W := W) C.hF C.cr m) (pe_frz C.hF ho) hbase hline).imp fun σ H Q q => by
    simp only [tE, evE, evDs] at q
    obtain ⟨env, st, α, hE, hS, ho⟩ := q
    refine (tM.bind hE hS ho).imp fun x H1 ⟨r, st1, α1, a1, r1, ho⟩ => ?_
    obtain ⟨z, ho⟩ := ho.chk
    refine ⟨?_, r.frz, [], st1, α1, σ, r1, rfl, a1.S, ho⟩
    have eK : X.K = F.K.K := by rw [C.hF]
    rw [eK]
    exact meth_tyV a1.S r1 z
theorem s_meth (C : Cxt c sc F W Φ k X) {m : Mth} {o e : Expr} {es : List Expr} {i : Kp.X} {is : List Kp.X} {apos cpos : Pos} (ho : PE X o (tE F W Φ i)) (ha : PA X (e :: es) (tD F W Φ is)) (hn : (e :: es).all noStar = true)
    (hbase : attributeBase o (mthName m) X.env (eval o X.env) = eval o X.env) (hline : (apos.endLine == cpos.line) = true) (hfew : (e :: es).length < 30) :
    PE X (.Call (.Attribute o (mthName m) apos) (e :: es) [] cpos) (tE F W Φ (.meth m i is)) := by
  have hn1 := hn
  rw [List.all_cons, Bool.and_eq_true] at hn1
  refine (pe_bm (mth_pa m) (mth_slot m) (mth_ty m) (meth_any (F := F) (W := W) C.hF C.cr m) (pe_frz C.hF ho) ha hbase ?_ hline (star_cons hn1.1) (star_any hn1.2)).imp fun σ H Q q => ?_
  · rw [star_all hn]
    show (true && true && decide ((e :: es).length + 0 + 0 < 30)) = true
    simpa using hfew
  · simp only [tE, evE] at q
    obtain ⟨env, st, α, hE, hS, ho⟩ := q
    refine (tM.bind hE hS ho).imp fun x H1 ⟨r, st1, α1, a1, r1, ho⟩ => ?_
    obtain ⟨z, ho⟩ := ho.chk
    refine ⟨?_, ?_⟩
    · have eK : X.K = F.K.K := by rw [C.hF]
      rw [eK]
      exact meth_tyV a1.S r1 z
    · refine (tM.bind a1.E a1.S ho).imp fun vs H2 ⟨ds, st2, α2, a2, r2, ho⟩ => ?_
      exact ⟨r.frz, ds, st2, α2, σ, DR.mono a2.pre a2.ext r1, r2, a2.S, ho⟩
theorem mthOf_ok {x : Str} {m : Mth} (h : mthOf x = some m) : x = mthName m := by
  unfold mthOf at h
  split at h
  · rename_i e; cases h; exact eq_of_beq e
  · split at h
    · rename_i e; cases h; exact eq_of_beq e
    · split at h
      · rename_i e; cases h; exact eq_of_beq e
      · split at h
        · rename_i e; cases h; exact eq_of_beq e
        · split at h
          · rename_i e; cases h; exact eq_of_beq e
          · cases h
theorem base_ok {o : Expr} {name : Str} {env : Env} (h : baseOk o = true) : attributeBase o name env (eval o env) = eval o env := by
  unfold attributeBase
  split
  · rename_i e; cases h
  · rfl
theorem s_methAny (C : Cxt c sc F W Φ k X) {name : Str} {m : Mth} {o : Expr} {es : List Expr} {i : Kp.X} {is : List Kp.X} {apos cpos : Pos} (hm : mthOf name = some m) (hk : methOk o es apos cpos = true) (ho : PE X o (tE F W Φ i)) (ha : PA X es (tD F W Φ is)) (h0 : es = [] → is = []) (hn : es.all noStar = true) :
    PE X (.Call (.Attribute o name apos) es [] cpos) (tE F W Φ (.meth m i is)) := by
  unfold methOk at hk
  rw [Bool.and_eq_true, Bool.and_eq_true] at hk
  obtain ⟨⟨h1, h2⟩, h3⟩ := hk
  rw [mthOf_ok hm]
  cases es with
  | nil =>
    rw [h0 rfl]
    exact s_meth0 C ho (base_ok h1) h2
  | cons e es => exact s_meth C ho ha hn (base_ok h1) h2 (of_decide_eq_true h3)

/-! d.get -/
theorem isDS_ok {K : KW} {α : List Addr} {H : Hp} {st : Sto} (S : StR K α H st) {d : Kp.D} {x : V} (hx : DR K α H d x) {kvs : List (P × P)} (e : deref st d = some (.dict kvs)) : ∃ a u ws, x = .ref a ∧ Rd H a u ∧ DHo K.w (kvs.map fun q => nk q.1) ws a u ∧ kvs.length ≤ sizeLine ∧ ImKvs K H kvs ws := DR.pr S hx e
theorem dk_viewW {w : World} {K : KW} {H : Hp} {kvs : List (P × P)} {ws : List (V × V)} {a : Addr} {u : HO} (h : DHo w (kvs.map fun q => nk q.1) ws a u) (i : ImKvs K H kvs ws) (hs : (kvs.all fun q => keyS q.1) = true) : ∃ ks, u = .dK ks ∧ ws = dkWs ks := by
  rcases h with ⟨ks, e1, e2, _⟩ | ⟨o, rfl, h, _⟩
  · exact ⟨ks, e1, e2⟩
  · exfalso
    obtain ⟨es, ep, hd, xs, e1, e2, hp⟩ := h.dat
    cases kvs with
    | nil => exact h.ne rfl
    | cons q r =>
      obtain ⟨k, p⟩ := q
      obtain ⟨x, v, t, e, h1, _⟩ := i
      obtain ⟨hk, _⟩ := all_cons2 hs
      obtain ⟨z, ek⟩ := keyS_str (p := k) hk
      subst ek
      have h1 : x = .str z := h1
      subst e
      cases hp with
      | cons r1 _ =>
        have r1 := r1.1
        rw [h1] at r1
        cases r1
theorem isDS_dk {st : Sto} {d : Kp.D} (h : isDS st d = true) : ∃ kvs, deref st d = some (.dict kvs) ∧ (kvs.all fun q => keyS q.1) = true := by
  unfold isDS at h
  split at h
  · rename_i kvs e
    exact ⟨kvs, e, h⟩
  · cases h
theorem get_out {K : KW} {H : Hp} {α : List Addr} {st : Sto} {d : Kp.D} {x : V} (S : StR K α H st) (hx : DR K α H d x) {kvs : List (P × P)} (e : deref st d = some (.dict kvs)) {p : P} {y : V} (hk : (keyS p && kvs.all fun q => keyS q.1) = true) (hy : Im K H p y) :
    ∃ a o, x = .ref a ∧ DGet H a y o ∧ ∀ q z, Im K H q z → Im K H ((dGet kvs p).getD q) (o.getD z) := by
  rw [Bool.and_eq_true] at hk
  obtain ⟨a, u, ws, ea, h1, h2, h3, h4⟩ := isDS_ok S hx e
  obtain ⟨ks, e1, e2⟩ := dk_viewW h2 h4 hk.2
  subst e1 e2
  obtain ⟨z, ez⟩ := keyS_str hk.1
  subst ez
  have hy : y = .str z := hy
  subst hy
  refine ⟨a, valV ks (.inr z), ea, .inl ⟨ks, .inr z, h1, rfl, rfl⟩, fun q w hq => ?_⟩
  cases eg : dGet kvs (.str z) with
  | none => rw [(val_str z h4 hk.2).2 eg]; exact hq
  | some p =>
    obtain ⟨v, q1, q2⟩ := (val_str z h4 hk.2).1 p eg
    rw [q1]; exact q2
theorem m1_of {o e : Expr} {m : Str} {apos cpos : Pos} (hn : noStar e = true) (hbase : attributeBase o m X.env (eval o X.env) = eval o X.env) (hline : (apos.endLine == cpos.line) = true) : M1 X o m apos e cpos := by
  refine ⟨hbase, ?_, hline, ?_⟩
  · rw [star_all (show [e].all noStar = true by rw [List.all_cons, hn]; rfl)]
    rfl
  · rw [star_cons hn]; rfl
theorem m2_of {o e f : Expr} {m : Str} {apos cpos : Pos} (hn : noStar e = true) (hn2 : noStar f = true) (hbase : attributeBase o m X.env (eval o X.env) = eval o X.env) (hline : (apos.endLine == cpos.line) = true) : M2 X o m apos e f cpos := by
  refine ⟨hbase, ?_, hline, ?_⟩
  · rw [star_all (show [e, f].all noStar = true by rw [List.all_cons, List.all_cons, hn, hn2]; rfl)]
    rfl
  · rw [star_cons hn, star_cons hn2]; rfl
theorem s_get1 (C : Cxt c sc F W Φ k X) {o e : Expr} {i j : Kp.X} {apos cpos : Pos} (ho : PE X o (tE F W Φ i)) (he : PE X e (tE F W Φ j)) (hn : noStar e = true) (hbase : attributeBase o "get" X.env (eval o X.env) = eval o X.env) (hline : (apos.endLine == cpos.line) = true) :
    PE X (.Call (.Attribute o "get" apos) [e] [] cpos) (tE F W Φ (.get1 i j)) := by
  have hu : X.A.units + 150 < cLine := C.cr
  refine (pe_dget1 (by omega) (pe_frz C.hF ho) (pe_frz C.hF he) (m1_of hn hbase hline)).imp fun σ H Q q => ?_
  simp only [tE, evE] at q
  obtain ⟨env, st, α, hE, hS, ho⟩ := q
  refine (tM.bind hE hS ho).imp fun x H1 ⟨r, st1, α1, a1, r1, ho⟩ => ?_
  obtain ⟨z, ho⟩ := ho.chk
  obtain ⟨kvs, e1, e2⟩ := isDS_dk z
  obtain ⟨a, u, ws, ea, h1, h2, h3, h4⟩ := isDS_ok a1.S r1 e1
  obtain ⟨ks, e3, e4⟩ := dk_viewW h2 h4 e2
  refine ⟨a, ea, .inl ⟨ks, by rw [← e3]; exact h1⟩, ?_⟩
  refine (tM.bind a1.E a1.S ho).imp fun y H2 ⟨r', st2, α2, a2, r2, ho⟩ => ?_
  obtain ⟨p, ep, ho⟩ := ho.needI
  have r2 : DR F.K α2 H2 r'.frz y := r2
  rw [ep] at r2
  split at ho
  · rename_i kvs' e5
    obtain ⟨c5, ho⟩ := ho.chk
    obtain ⟨a', o, ea', g, gd⟩ := get_out a2.S (DR.mono a2.pre a2.ext r1) e5 c5 r2
    rw [ea] at ea'
    cases ea'
    exact ⟨o, g, ho.one a2.S (gd .none .non rfl)⟩
  · exact ho.elim
theorem s_get2 (C : Cxt c sc F W Φ k X) {o e f : Expr} {i j l : Kp.X} {apos cpos : Pos} (ho : PE X o (tE F W Φ i)) (he : PE X e (tE F W Φ j)) (hf : PE X f (tE F W Φ l)) (hn : noStar e = true) (hn2 : noStar f = true) (hbase : attributeBase o "get" X.env (eval o X.env) = eval o X.env) (hline : (apos.endLine == cpos.line) = true) :
    PE X (.Call (.Attribute o "get" apos) [e, f] [] cpos) (tE F W Φ (.get2 i j l)) := by
  have hu : X.A.units + 150 < cLine := C.cr
  refine (pe_dget2 (by omega) (pe_frz C.hF ho) (pe_frz C.hF he) (pe_frz C.hF hf) (m2_of hn hn2 hbase hline)).imp fun σ H Q q => ?_
  simp only [tE, evE] at q
  obtain ⟨env, st, α, hE, hS, ho⟩ := q
  refine (tM.bind hE hS ho).imp fun x H1 ⟨r, st1, α1, a1, r1, ho⟩ => ?_
  obtain ⟨z, ho⟩ := ho.chk
  obtain ⟨kvs, e1, e2⟩ := isDS_dk z
  obtain ⟨a, u, ws, ea, h1, h2, h3, h4⟩ := isDS_ok a1.S r1 e1
  obtain ⟨ks, e3, e4⟩ := dk_viewW h2 h4 e2
  refine ⟨a, ea, .inl ⟨ks, by rw [← e3]; exact h1⟩, ?_⟩
  refine (tM.bind a1.E a1.S ho).imp fun y H2 ⟨r', st2, α2, a2, r2, ho⟩ => ?_
  refine (tM.bind a2.E a2.S ho).imp fun w H3 ⟨r'', st3, α3, a3, r3, ho⟩ => ?_
  obtain ⟨p, ep, ho⟩ := ho.needI
  obtain ⟨p', ep', ho⟩ := ho.needI
  have r2 : DR F.K α3 H3 r'.frz y := DR.mono a3.pre a3.ext r2
  have r3 : DR F.K α3 H3 r''.frz w := r3
  rw [ep] at r2
  rw [ep'] at r3
  split at ho
  · rename_i kvs' e5
    obtain ⟨c5, ho⟩ := ho.chk
    obtain ⟨a', o, ea', g, gd⟩ := get_out a3.S (DR.mono a3.pre a3.ext (DR.mono a2.pre a2.ext r1)) e5 c5 r2
    rw [ea] at ea'
    cases ea'
    exact ⟨o, g, ho.one a3.S (gd p' w r3)⟩
  · exact ho.elim
end
end Kp

/-! Kp, part 9: every expression. -/
namespace Kp
open PySem PySem.Spec PyProof.Rows L2
section
variable {c : Cfg} {sc : Scope} {F : Fx} {W : WX} {Φ : Nat → List D → Sto → R Rv} {k : Nat} {X : Cx}
theorem Cxt.blk (C : Cxt c sc F W Φ k X) (s : Shared) (H : Hp) (scope : Scope) (C0 : Addr) (cl : List (Str × Addr)) (fp : List Addr) :
    Cxt c (relS scope sc) F NoW Φ k (X.blk s H scope (compEnvC scope cl C0 X.env) fp) :=
  ⟨C.hF, C.hN, C.nd, by show relS scope X.env.scope = _; rw [C.sc], C.calm, C.cr, C.room, fun u s' x => by
    obtain ⟨_, _, _, _, _, _, _, _, _, _, _, _, _, _, _, _, w⟩ := x
    exact w, C.ex, C.g⟩
theorem blk_tgt (C : Cxt c sc F W Φ k X) {scope : Scope} {tg : Expr} {t : Tg} {own : List (Str × Nat)} (h : tgOf c scope tg = some (t, own)) (s : Shared) (H : Hp) (C0 : Addr) (cl : List (Str × Addr)) (fp : List Addr) :
    PG (X.blk s H scope (compEnvC scope cl C0 X.env) fp) tg (gT X.K t) := by
  refine pg_tgt (c := c) (sc := scope) (X := X.blk s H scope (compEnvC scope cl C0 X.env) fp) C.calm (by show X.N.Nodup; rw [C.hN]; exact C.nd) h fun x i hx => ?_
  have hx' := hx
  unfold slotOwn at hx
  split at hx
  · rename_i hk
    refine ⟨by show X.N[i]? = _; rw [C.hN]; exact idxOf_get hx, .inl (lookup_relS_keep (by decide) hk), .inr (lookup_relS_keep (by decide) hk)⟩
  · rename_i hk
    refine ⟨by show X.N[i]? = _; rw [C.hN]; exact idxOf_get hx, .inr (lookup_relS_keep (by decide) hk), .inl ?_⟩
    show (scope.names.lookup x == some .cell) = true
    rw [hk]; rfl
  · cases hx
theorem fold_id {e : Expr} (h : isSet e = false) : ∀ env x, foldedSetIterable e env x = pure x := by
  intro env x
  cases e <;> first | rfl | cases h
/-- what a comprehension's parts are to be -/
structure LcOk (C : Cxt c sc F W Φ k X) (tg iter elt : Expr) (ifs : List Expr) (scope : Scope) (t : Tg) (own : List (Str × Nat)) (ik : Ik) (is fs : List Kp.X) (x : Kp.X) : Prop where
  tgt : tgOf c scope tg = some (t, own)
  blk : blkC c.N sc scope own = true
  it : PI X tg iter (tI F W Φ ik is)
  set : isSet iter = false
  ifs : ∀ X', Cxt c (relS scope sc) F NoW Φ k X' → PTs X' ifs (tAll F NoW Φ fs)
  elt : ∀ X', Cxt c (relS scope sc) F NoW Φ k X' → PE X' elt (tE F NoW Φ x)
theorem s_lc (C : Cxt c sc F W Φ k X) {tg iter elt : Expr} {ifs : List Expr} {scope : Scope} {t : Tg} {own : List (Str × Nat)} {ik : Ik} {is fs : List Kp.X} {x : Kp.X} {pos : Pos} (L : LcOk C tg iter elt ifs scope t own ik is fs x) :
    PE X (.ListComp elt [⟨tg, iter, ifs, 0⟩] scope pos) (tE F W Φ (.comp x t ik is fs)) := by
  have h := pe_lc (X := X) (pos := pos) (elt := elt) C.calm (by rw [C.hN]; exact C.nd) L.it (own := own) (scope := scope) (blkOk_by (by rw [C.hN, C.sc]; exact L.blk)) (fun s H C0 cl fp => blk_tgt C L.tgt s H C0 cl fp)
    (fun s H C0 cl fp => L.ifs _ (C.blk s H scope C0 cl fp)) (fun s H C0 cl fp => pe_frz (C.blk s H scope C0 cl fp).hF (L.elt _ (C.blk s H scope C0 cl fp))) (fold_id L.set X.env)
  rw [own_slots L.tgt] at h
  exact h.imp (lc_imp C)
theorem s_asgLc (C : Cxt c sc F W Φ k X) {tg iter elt : Expr} {ifs : List Expr} {scope : Scope} {t : Tg} {own : List (Str × Nat)} {ik : Ik} {is fs : List Kp.X} {x : Kp.X} {i : Nat} {y : Str} {py pos spos : Pos} (L : LcOk C tg iter elt ifs scope t own ik is fs x)
    (hy : X.N[i]? = some y) (hyl : X.env.scope.names.lookup y = some .local) (hsw : swapsWith (.ListComp elt [⟨tg, iter, ifs, 0⟩] scope pos) (some (.Name y py)) spos.line X.env = pure true) :
    PS X (.Assign [.Name y py] (.ListComp elt [⟨tg, iter, ifs, 0⟩] scope pos) spos) (tAsg (tE F W Φ (.comp x t ik is fs)) (gName i)) := by
  have h := ps_setLc (X := X) (pos := pos) (spos := spos) (elt := elt) C.calm (by rw [C.hN]; exact C.nd) hy hyl hsw L.it (own := own) (scope := scope) (blkOk_by (by rw [C.hN, C.sc]; exact L.blk)) (fun s H C0 cl fp => blk_tgt C L.tgt s H C0 cl fp)
    (fun s H C0 cl fp => L.ifs _ (C.blk s H scope C0 cl fp)) (fun s H C0 cl fp => pe_frz (C.blk s H scope C0 cl fp).hF (L.elt _ (C.blk s H scope C0 cl fp))) (fold_id L.set X.env)
  rw [own_slots L.tgt] at h
  exact h.imp fun D σ H q => lc_imp C σ H _ q
theorem pts_of {ifs : List Expr} {fs : List Kp.X} (h : ifs.length ≤ 1) (hl : ifs.length = fs.length) (hp : ∀ e i, ifs = [e] → fs = [i] → PT X e (tT F NoW Φ i)) : PTs X ifs (tAll F NoW Φ fs) := by
  rcases ifs with _ | ⟨e, _ | ⟨e2, es⟩⟩
  · cases fs with
    | nil =>
      refine ⟨fun pins s σ H Q I q => pts_nil.run pins s σ H Q I ?_⟩
      obtain ⟨env, st, α, hE, hS, ho⟩ := q
      simp only [evAnd] at ho
      exact bool_one hS ho
    | cons _ _ => cases hl
  · rcases fs with _ | ⟨i, _ | ⟨i2, is⟩⟩
    · cases hl
    · refine ⟨fun pins s σ H Q I q => (pts_one (hp e i rfl rfl)).run pins s σ H Q I ?_⟩
      obtain ⟨env, st, α, hE, hS, ho⟩ := q
      refine ⟨env, st, α, hE, hS, ?_⟩
      have e : evAnd Φ env [i] st = evB Φ env i st := by
        simp only [evAnd, evB]
        congr
        funext r st1
        unfold needB
        split
        · rename_i b
          cases b <;> rfl
        · rfl
      simp only [e] at ho
      exact ho
    · cases hl
  · exact absurd h (by simp)
end

theorem noStar_of {c : Cfg} {sc : Scope} {e : Expr} {i : Kp.X} (h : compE c sc e = some i) : noStar e = true := by
  cases e <;> first | rfl | (simp only [compE] at h; cases h)
theorem noStars_of {c : Cfg} {sc : Scope} : ∀ {es : List Expr} {is : List Kp.X}, compEs c sc es = some is → es.all noStar = true ∧ es.length = is.length
  | [], is, h => by
    simp only [compEs] at h
    cases h
    exact ⟨rfl, rfl⟩
  | e :: es, is, h => by
    simp only [compEs] at h
    split at h
    · rename_i x xs h1 h2
      cases h
      obtain ⟨q1, q2⟩ := noStars_of h2
      exact ⟨by rw [List.all_cons, noStar_of h1, q1]; rfl, by rw [List.length_cons, List.length_cons, q2]⟩
    · cases h
theorem noSet_of {c : Cfg} {sc : Scope} {e : Expr} {i : Kp.X} (h : compE c sc e = some i) : isSet e = false := by
  cases e <;> first | rfl | (simp only [compE] at h; cases h)
theorem nomarks {o : CmpOp} {r : Expr} (h : isSet r = false) : behindInMarks o r = false := by
  cases r <;> first | rfl | cases h
theorem plainIx_of {c : Cfg} {sc : Scope} {e : Expr} {i : Kp.X} (h : compE c sc e = some i) : PlainIx e := by
  intro o j
  cases e <;> first | rfl | (simp only [compE] at h; cases h)
section
variable {c : Cfg} {sc : Scope} {F : Fx} {W : WX} {Φ : Nat → List D → Sto → R Rv} {k : Nat} {X : Cx}
/-- a if t else b, as a test -/
theorem t_ife {t a b : Expr} {i j j' : Kp.X} {pos : Pos} (ht : PT X t (tT F W Φ i)) (ha : PT X a (tT F W Φ j)) (hb : PT X b (tT F W Φ j')) : PT X (.IfExp t a b pos) (tT F W Φ (.ife i j j')) := by
  refine ⟨fun pins s σ H Q I q => ?_⟩
  rw [arm_isTrue_IfExp]
  obtain ⟨env, st, α, hE, hS, ho⟩ := q
  have e : evB Φ env (.ife i j j') st = (evB Φ env i st).bind fun kb st1 => if kb then evB Φ env j st1 else evB Φ env j' st1 := by
    simp only [evB, evE, R.bind_assoc]
    cases evE Φ env i st with
    | ok r st1 =>
      simp only [ok_bind]
      unfold needB
      split
      · rename_i kb
        simp only [ok_bind]
        cases kb <;> rfl
      · rfl
    | exc c fs st1 => rfl
    | bad => rfl
  have ho : Out F W (fun _ _ (b : Bool) k => b = k) σ α H (evB Φ env (.ife i j j') st) Q := ho
  rw [e] at ho
  refine wpAny_bind (thn (ht.run pins s σ H _ I (tM.bind (m := fun env st => evB Φ env i st) hE hS ho)) fun kb s1 hh => ?_)
  obtain ⟨H1, I1, r, st1, α1, a1, r1, ho⟩ := hh
  subst r1
  cases r with
  | true => exact ha.run pins s1 σ H1 Q I1 ⟨env, st1, α1, a1.E, a1.S, ho⟩
  | false => exact hb.run pins s1 σ H1 Q I1 ⟨env, st1, α1, a1.E, a1.S, ho⟩
theorem o_none : PO X none (tPO F W fun env st => evE Φ env (.const .none) st) := by
  refine ⟨fun pins s σ H Q I q => po_none.run pins s σ H Q I ?_⟩
  obtain ⟨env, st, α, hE, hS, ho⟩ := q
  simp only [evE] at ho
  have z := ho .non H α Pre.refl Ext.refl hS (show Im F.K H .none .non from rfl)
  rcases z with ⟨_, q⟩ | ⟨i, e, _⟩
  · exact q
  · cases e
end
end Kp

/-! Kp: list times int, reversed lists, displays and comprehensions of dicts. -/
namespace Kp
open PySem PySem.Spec PyProof.Rows L2

/-- an object that nobody else holds comes into the store -/
theorem StR.adopt {K : KW} {α : List Addr} {H : Hp} {st : Sto} (hS : StR K α H st) {a : Addr} {o : Ob} (h : ObR K (α ++ [a]) H o a) (h4 : a ∉ α) : StR K (α ++ [a]) H (st ++ [o]) := by
  refine ⟨by rw [List.length_append, List.length_append, hS.len]; rfl, ?_, fun n o' b q1 q2 => ?_⟩
  · rw [List.nodup_append]
    exact ⟨hS.nd, by simp, fun x hx y hy z => by
      have e : y = a := by simpa using hy
      subst e
      exact h4 (z ▸ hx)⟩
  · by_cases hn : n < st.length
    · rw [List.getElem?_append_left hn] at q1
      rw [List.getElem?_append_left (by rw [hS.len]; exact hn)] at q2
      exact hS.ob n o' b q1 q2
    · have e : n = st.length := by
        have := (List.getElem?_eq_some_iff.mp q1).1
        rw [List.length_append] at this
        have : n < st.length + 1 := this
        omega
      subst e
      rw [List.getElem?_append_right (Nat.le_refl _), Nat.sub_self] at q1
      rw [← hS.len, List.getElem?_append_right (Nat.le_refl _), Nat.sub_self] at q2
      cases q1
      have e : a = b := Option.some.inj q2
      subst e
      exact h
/-- an object of the store is written anew -/
theorem StR.put {K : KW} {α : List Addr} {H : Hp} {st : Sto} (S : StR K α H st) {n : Nat} {D : Addr} {u u' : HO} {o : Ob} (hD : α[n]? = some D) (hu : H D = some u) (hm : Mut (some u)) (h : ObR K α (upd H D u') o D) : StR K α (upd H D u') (st.set n o) := by
  have x : Ext H (upd H D u') := Ext.mut hu hm
  refine ⟨by rw [List.length_set]; exact S.len, S.nd, fun m o' a h1 h2 => ?_⟩
  by_cases e : n = m
  · subst e
    have hn : n < st.length := by rw [← S.len]; exact (List.getElem?_eq_some_iff.mp hD).1
    rw [List.getElem?_set_self hn] at h1
    rw [hD] at h2
    cases h1
    cases h2
    exact h
  · rw [List.getElem?_set_ne e] at h1
    have ne : a ≠ D := fun z => by
      subst z
      obtain ⟨l1, g1⟩ := List.getElem?_eq_some_iff.mp hD
      obtain ⟨l2, g2⟩ := List.getElem?_eq_some_iff.mp h2
      exact e ((List.getElem_inj S.nd).mp (g1.trans g2.symm))
    have q := S.ob m o' a h1 h2
    cases o' with
    | lst ds =>
      obtain ⟨ws, q1, q2, q3⟩ := q
      exact ⟨ws, by rw [upd_ne ne]; exact q1, q2, ImAll.ext x _ _ q3⟩
    | dct kvs =>
      obtain ⟨u0, ws, q1, q2, q3, q4⟩ := q
      exact ⟨u0, ws, by rw [upd_ne ne]; exact q1, q2, q3, ImKvs.ext x _ _ q4⟩
    | dead =>
      obtain ⟨o0, q⟩ := q
      exact ⟨o0, by rw [upd_ne ne]; exact q⟩
/-- the last object of the store -/
theorem last_addr {α : List Addr} {D : Addr} {n : Nat} (hn : α.length = n) : (α ++ [D])[n]? = some D := by
  rw [List.getElem?_append_right (by rw [hn]; exact Nat.le_refl _), hn, Nat.sub_self]; rfl
theorem last_get {st : Sto} {o : Ob} {n : Nat} (hn : st.length = n) : (st ++ [o])[n]? = some o := by
  rw [List.getElem?_append_right (by rw [hn]; exact Nat.le_refl _), hn, Nat.sub_self]; rfl
theorem pre_last {α α' : List Addr} {D : Addr} {n : Nat} (p : Pre (α ++ [D]) α') (hl : α'.length = n + 1) (hn : α.length = n) : α' = α ++ [D] := by
  obtain ⟨γ, e⟩ := p
  have : γ = [] := by
    rw [e, List.length_append, List.length_append, hn] at hl
    have : n + 1 + γ.length = n + 1 := hl
    exact List.length_eq_zero_iff.mp (by omega)
  rw [e, this, List.append_nil]
theorem ImAll.reverse {K : KW} {H : Hp} : ∀ {ps : List P} {vs : List V}, ImAll K H ps vs → ImAll K H ps.reverse vs.reverse
  | [], vs, h => by have h : vs = [] := h; subst h; exact ImAll.nil
  | p :: ps, vs, h => by
    obtain ⟨v, r, e, h1, h2⟩ := h
    subst e
    rw [List.reverse_cons, List.reverse_cons]
    exact (ImAll.reverse h2).append (ImAll.cons h1 ImAll.nil)
/-- a part that runs in a larger store -/
theorem tM.ext {F : Fx} {W : WX} {β γ δ ζ : Type} {RR : List Addr → Hp → β → γ → Prop} {RR' : List Addr → Hp → δ → ζ → Prop} {σ : L2.St} {α α2 : List Addr} {H H2 : Hp} {m : Ev → Sto → R β} {f : β → Sto → R δ} {Q : ζ → Hp → Prop} {env : Ev} {st2 : Sto}
    (p : Pre α α2) (x : Ext H H2) (hE : EvR F.K α2 H2 env σ) (hS : StR F.K α2 H2 st2) (h : Out F W RR' σ α H ((m env st2).bind f) Q) :
    tM F W RR m σ H2 fun g H3 => ∃ r st3 α3, At F σ α2 α3 H2 H3 env st3 ∧ RR α3 H3 r g ∧ Out F W RR' σ α H (f r st3) Q := by
  refine ⟨env, st2, α2, hE, hS, ?_⟩
  cases e : m env st2 with
  | ok r st3 =>
    rw [e] at h
    exact fun g H3 α3 p3 x3 s rr => ⟨r, st3, α3, ⟨p3, x3, hE.mono p3 x3, s⟩, rr, h⟩
  | exc c fs st3 =>
    rw [e] at h
    exact fun d H' α' p' x' s rr => h d H' α' (p.trans p') (x.trans x') s rr
  | bad =>
    rw [e] at h
    exact h
section
variable {c : Cfg} {sc : Scope} {F : Fx} {W : WX} {Φ : Nat → List D → Sto → R Rv} {k : Nat} {X : Cx}
theorem s_rev (C : Cxt c sc F W Φ k X) {e : Expr} {i : Kp.X} {j : Nat} {p1 p2 p3 pos : Pos} (he : PE X e (tE F W Φ i)) : PE X (.Subscript e (.Slice none none (some (.UnaryOp .USub (.Constant (.int 1) j p1) p2)) p3) pos) (tE F W Φ (.rev i)) :=
  (pe_revL (pe_frz C.hF he)).imp fun σ H Q q => by
    simp only [tE, evE] at q
    obtain ⟨env, st, α, hE, hS, ho⟩ := q
    refine (tM.bind hE hS ho).imp fun x H1 ⟨r, st1, α1, a1, r1, ho⟩ => ?_
    obtain ⟨p, e1, ho⟩ := ho.needP
    have hp := DR.pr a1.S r1 e1
    cases p <;> try exact (show False from ho).elim
    obtain ⟨a, vs, e2, h1, z1, i1⟩ := hp
    exact ⟨a, vs, e2, sqlX C.hF h1, fun p n => ho.lst a1.S n (by rw [List.length_reverse]; exact z1) i1.reverse⟩
theorem s_rep (C : Cxt c sc F W Φ k X) {l r : Expr} {i j : Kp.X} {pos : Pos} (hl : PE X l (tE F W Φ i)) (hr : PE X r (tE F W Φ j)) : PE X (.BinOp l .Mult r pos) (tE F W Φ (.rep i j)) :=
  (pe_op op_rep hl hr).imp fun σ H Q q => by
    simp only [tE, evE] at q
    obtain ⟨env, st, α, hE, hS, ho⟩ := q
    refine (tM.bind hE hS ho).imp fun x H1 ⟨r, st1, α1, a1, r1, ho⟩ => ?_
    cases r <;> try exact (show False from ho).elim
    rename_i xs
    obtain ⟨D, vs, e1, h1, z1, i1, hD⟩ := r1
    have S2 : StR F.K (α1 ++ [D]) H1 (st1 ++ [.lst xs]) := a1.S.adopt ⟨vs, h1, z1, i1⟩ hD
    have hn := a1.S.len
    have pr : Pre α1 (α1 ++ [D]) := ⟨[D], rfl⟩
    refine (tM.ext (m := fun env st => evE Φ env j st) pr Ext.refl (a1.E.mono pr Ext.refl) S2 ho).imp fun v H2 ⟨y, st2, α2, a2, r2, ho⟩ => ?_
    have hDn : α2[st1.length]? = some D := a2.pre.get (last_addr hn)
    split at ho
    · rename_i kk zs eo
      obtain ⟨c1, ho⟩ := ho.chk
      rw [Bool.and_eq_true, Bool.and_eq_true, Bool.and_eq_true] at c1
      have r2 : v = .int kk := r2
      obtain ⟨us, q1, q2, q3⟩ := a2.S.ob _ _ _ eo hDn
      have c4 := of_decide_eq_true c1.2
      have c3 := of_decide_eq_true c1.1.2
      rw [q3.length] at c3
      have e2 := pre_last a2.pre (by rw [a2.S.len]; exact c4) hn
      subst e2
      refine ⟨D, kk, us, e1, r2, q1, of_decide_eq_true c1.1.1.1, of_decide_eq_true c1.1.1.2, c3, fun p n => ?_⟩
      have S4 : StR F.K α1 H2 (st2.take st1.length) := by rw [← hn]; exact a2.S.take
      exact ho (.ref p) _ α1 Pre.refl (a2.ext.trans (Ext.new n)) (S4.new n) ⟨p, _, rfl, upd_same, by rw [flat_length]; exact c3, ImAll.ext (Ext.new n) _ _ (q3.flat _), S4.out n⟩
    · exact ho.elim
/-! ### displays of dicts -/
def trsOf (F : Fx) (W : WX) (Φ : Nat → List D → Sto → R Rv) : List Kp.X → List Kp.X → List (TE × TE)
  | k :: ks, v :: vs => (tM F W (RvF F.K) (fun env st => evE Φ env k st), tM F W (RvF F.K) (fun env st => evE Φ env v st)) :: trsOf F W Φ ks vs
  | _, _ => []
def flatP : List (V × V) → List V
  | [] => []
  | q :: r => q.1 :: q.2 :: flatP r
theorem tPairs_mono {σ : L2.St} : ∀ (trs : List (TE × TE)) (H : Hp) (Q1 Q2 : List (V × V) → Hp → Prop), (∀ ps H, Q1 ps H → Q2 ps H) → (∀ t ∈ trs, (∀ H (Q Q' : VK), (∀ v H, Q v H → Q' v H) → t.1 σ H Q → t.1 σ H Q') ∧ (∀ H (Q Q' : VK), (∀ v H, Q v H → Q' v H) → t.2 σ H Q → t.2 σ H Q')) → tPairs trs σ H Q1 → tPairs trs σ H Q2 := by
  intro trs
  induction trs with
  | nil => intro H Q1 Q2 h _ q; exact h _ _ q
  | cons t trs ih =>
    intro H Q1 Q2 h hm q
    obtain ⟨m1, m2⟩ := hm t List.mem_cons_self
    refine m1 _ _ _ (fun v H1 q => m2 _ _ _ (fun w H2 q => ?_) q) q
    exact ih H2 _ _ (fun ps H q => h _ _ q) (fun t ht => hm t (List.mem_cons_of_mem _ ht)) q
theorem trs_mem {σ : L2.St} : ∀ (ks vs : List Kp.X), ∀ t ∈ trsOf F W Φ ks vs, (∀ H (Q Q' : VK), (∀ v H, Q v H → Q' v H) → t.1 σ H Q → t.1 σ H Q') ∧ (∀ H (Q Q' : VK), (∀ v H, Q v H → Q' v H) → t.2 σ H Q → t.2 σ H Q') := by
  intro ks
  induction ks with
  | nil => intro vs t ht; cases vs <;> simp [trsOf] at ht
  | cons k ks ih =>
    intro vs t ht
    cases vs with
    | nil => simp [trsOf] at ht
    | cons v vs =>
      rcases List.mem_cons.mp ht with e | ht
      · subst e
        exact ⟨fun H Q Q' h q => tM.imp q h, fun H Q Q' h q => tM.imp q h⟩
      · exact ih vs t ht
theorem pairs_go {β ζ : Type} {RR' : List Addr → Hp → β → ζ → Prop} {σ : L2.St} {env : Ev} {Q : ζ → Hp → Prop} {αb : List Addr} {Hb : Hp} : ∀ (ks vs : List Kp.X) (f : List Kp.D → Sto → R β) (H : Hp) (α : List Addr) (st : Sto), Pre αb α → Ext Hb H → EvR F.K α H env σ → StR F.K α H st →
    Out F W RR' σ αb Hb ((evDs Φ env (inter ks vs) st).bind f) Q →
    tPairs (trsOf F W Φ ks vs) σ H fun ps H1 => ∃ ds st1 α1, At F σ α α1 H H1 env st1 ∧ DRs F.K α1 H1 ds (flatP ps) ∧ Out F W RR' σ αb Hb (f ds st1) Q
  | [], vs, f, H, α, st, hp, hx, hE, hS, ho => by
    simp only [inter, evDs, ok_bind] at ho
    exact ⟨[], st, α, ⟨Pre.refl, Ext.refl, hE, hS⟩, rfl, ho⟩
  | k :: ks, [], f, H, α, st, hp, hx, hE, hS, ho => by
    simp only [inter, evDs, ok_bind] at ho
    exact ⟨[], st, α, ⟨Pre.refl, Ext.refl, hE, hS⟩, rfl, ho⟩
  | k :: ks, v :: vs, f, H, α, st, hp, hx, hE, hS, ho => by
    simp only [inter, evDs, R.bind_assoc, ok_bind] at ho
    refine (tM.ext (m := fun env st => evE Φ env k st) hp hx hE hS ho).imp fun x H1 ⟨r, st1, α1, a1, r1, ho⟩ => ?_
    refine (tM.ext (m := fun env st => evE Φ env v st) (hp.trans a1.pre) (hx.trans a1.ext) a1.E a1.S ho).imp fun y H2 ⟨r', st2, α2, a2, r2, ho⟩ => ?_
    have ih := pairs_go ks vs (fun ds st3 => f (r.frz :: r'.frz :: ds) st3) H2 α2 st2 (hp.trans (a1.pre.trans a2.pre)) (hx.trans (a1.ext.trans a2.ext)) a2.E a2.S ho
    refine tPairs_mono _ H2 _ _ (fun ps H3 ⟨ds, st3, α3, a3, r3, ho⟩ => ?_) (trs_mem ks vs) ih
    refine ⟨r.frz :: r'.frz :: ds, st3, α3, ⟨a1.pre.trans (a2.pre.trans a3.pre), a1.ext.trans (a2.ext.trans a3.ext), a3.E, a3.S⟩, ?_, ho⟩
    exact ⟨x, _, rfl, DR.mono (a2.pre.trans a3.pre) (a2.ext.trans a3.ext) r1, y, _, rfl, DR.mono a3.pre a3.ext r2, r3⟩
theorem pps_of (C : Cxt c sc F W Φ k X) {pos : Pos} : ∀ {kes : List Expr} {ves : List Expr} {ks vs : List Kp.X}, kes.length = ves.length → (∀ (n : Nat) (h1 : n < kes.length) (h2 : n < ks.length), PE X kes[n] (tE F W Φ ks[n])) → (∀ (n : Nat) (h1 : n < ves.length) (h2 : n < vs.length), PE X ves[n] (tE F W Φ vs[n])) → kes.length = ks.length → ves.length = vs.length →
    PPs X pos (kes.map some) ves (trsOf F W Φ ks vs)
  | [], ves, ks, vs, hl, h1, h2, l1, l2 => by
    have e1 : ves = [] := List.length_eq_zero_iff.mp hl.symm
    have e2 : ks = [] := List.length_eq_zero_iff.mp l1.symm
    subst e1 e2
    exact pps_nil
  | ke :: kes, ves, ks, vs, hl, h1, h2, l1, l2 => by
    cases ves with
    | nil => cases hl
    | cons ve ves =>
      cases ks with
      | nil => cases l1
      | cons k0 ks =>
        cases vs with
        | nil => cases l2
        | cons v0 vs =>
          refine pps_cons (pe_frz C.hF (h1 0 (by simp) (by simp))) (pe_frz C.hF (h2 0 (by simp) (by simp))) (pps_of C (by simpa using hl) (fun n a b => ?_) (fun n a b => ?_) (by simpa using l1) (by simpa using l2))
          · have := h1 (n + 1) (by simpa using a) (by simpa using b)
            simpa using this
          · have := h2 (n + 1) (by simpa using a) (by simpa using b)
            simpa using this
theorem pair_im {K : KW} {α : List Addr} {H : Hp} : ∀ {ps : List (V × V)} {ds : List Kp.D} {xs : List P} {kvs : List (P × P)}, DRs K α H ds (flatP ps) → toPs ds = some xs → pairUp xs = some kvs → (kvs.all fun q => keyS q.1) = true →
    ∃ ks : List (Key × V), ps = ks.map (fun kv => (kV kv.1, kv.2)) ∧ ImKvs K H kvs (dkWs ks) ∧ ks.length = kvs.length
  | [], ds, xs, kvs, h, e1, e2, ha => by
    cases ds with
    | nil =>
      cases (show some [] = some xs from e1)
      cases (show some [] = some kvs from e2)
      exact ⟨[], rfl, rfl, rfl⟩
    | cons d ds =>
      obtain ⟨v, r, e, _⟩ := h
      cases e
  | (x, y) :: ps, ds, xs, kvs, h, e1, e2, ha => by
    rcases ds with _ | ⟨d1, _ | ⟨d2, ds⟩⟩
    · cases (show x :: y :: flatP ps = [] from h)
    · obtain ⟨v, r, e, h1, h2⟩ := h
      have h2 : r = [] := h2
      subst h2
      cases (show x :: y :: flatP ps = [v] from e)
    · obtain ⟨v, r, e, h1, v2, r2, e', h2, h3⟩ := h
      subst e'
      injection (show x :: y :: flatP ps = v :: v2 :: r2 from e) with a1 a2
      injection a2 with a3 a4
      subst a1 a3 a4
      cases d1 with
      | ref _ => cases (show none = some xs from e1)
      | py p1 =>
        cases d2 with
        | ref _ =>
          have e1 : (toPs (.ref _ :: ds)).map (p1 :: ·) = some xs := e1
          cases e1
        | py p2 =>
          have e1 : ((toPs ds).map (p2 :: ·)).map (p1 :: ·) = some xs := e1
          cases q : toPs ds with
          | none => rw [q] at e1; cases e1
          | some zs =>
            rw [q] at e1
            have e1 : p1 :: p2 :: zs = xs := Option.some.inj e1
            subst e1
            have e2 : (pairUp zs).map ((p1, p2) :: ·) = some kvs := e2
            cases q2 : pairUp zs with
            | none => rw [q2] at e2; cases e2
            | some r =>
              rw [q2] at e2
              have e2 : (p1, p2) :: r = kvs := Option.some.inj e2
              subst e2
              obtain ⟨hk, hr⟩ := all_cons2 ha
              obtain ⟨z, ez⟩ := keyS_str (p := p1) hk
              subst ez
              have h1 : x = .str z := h1
              subst h1
              obtain ⟨ks, e3, g, gl⟩ := pair_im h3 q q2 hr
              exact ⟨(.inr z, y) :: ks, by rw [e3]; rfl, ⟨.str z, y, dkWs ks, rfl, rfl, h2, g⟩, by simp [gl]⟩
theorem s_dic (C : Cxt c sc F W Φ k X) {kes ves : List Expr} {ks vs : List Kp.X} {pos : Pos} (hp : PPs X pos (kes.map some) ves (trsOf F W Φ ks vs)) (hl : kes.length = ves.length) (h0 : kes ≠ []) (h15 : kes.length ≤ 15) :
    PE X (.Dict (kes.map some) ves pos) (tE F W Φ (.dic (inter ks vs))) := by
  refine (pe_disp hp (by simp) (by simpa using hl) (by simpa using h0) (by simpa using h15)).imp fun σ H Q q => ?_
  simp only [tE, evE] at q
  obtain ⟨env, st, α, hE, hS, ho⟩ := q
  intro D hD
  have x0 : Ext H (upd H D (.dK [])) := Ext.new hD
  have pr : Pre α (α ++ [D]) := ⟨[D], rfl⟩
  have hn := hS.len
  have S2 : StR F.K (α ++ [D]) (upd H D (.dK [])) (st ++ [.dct []]) := by
    refine (hS.new (o := .dK []) hD).adopt ⟨.dK [], [], upd_same, .inl ⟨[], rfl, rfl, List.nodup_nil⟩, Nat.zero_le _, rfl⟩ (hS.out hD)
  refine tPairs_mono _ _ _ _ (fun ps H2 ⟨ds, st1, α1, a1, r1, ho⟩ => ?_) (trs_mem ks vs) (pairs_go ks vs (fun ds st1 => dicEnd st.length ds st1) _ _ _ pr x0 (hE.mono pr x0) S2 ho)
  unfold dicEnd at ho
  have hDn : α1[st.length]? = some D := a1.pre.get (last_addr hn)
  cases et : toPs ds with
  | none => rw [et] at ho; exact ho.elim
  | some xs =>
    rw [et] at ho
    cases eo : st1[st.length]? with
    | none => rw [eo] at ho; exact ho.elim
    | some ob =>
      rw [eo] at ho
      cases ob with
      | lst _ => exact (show False from ho).elim
      | dead => exact (show False from ho).elim
      | dct kv0 =>
        cases kv0 with
        | cons _ _ => exact (show False from ho).elim
        | nil =>
          cases eu : pairUp xs with
          | none => simp only [eu] at ho; exact (show False from ho).elim
          | some kvs =>
            simp only [eu] at ho
            obtain ⟨c1, ho⟩ := Out.chk ho
            rw [Bool.and_eq_true, Bool.and_eq_true] at c1
            obtain ⟨ks', e3, g, gl⟩ := pair_im r1 et eu c1.2.2
            have e2 := pre_last a1.pre (by rw [a1.S.len]; exact of_decide_eq_true c1.2.1) hn
            subst e2
            obtain ⟨u, ws, q1, q2, q3, q4⟩ := a1.S.ob _ _ _ eo hDn
            obtain ⟨k0, e4, e5, _⟩ := (show ∃ ks, u = .dK ks ∧ ws = dkWs ks ∧ True from by
              obtain ⟨ks, h1, h2⟩ := dk_viewW q2 q4 rfl
              exact ⟨ks, h1, h2, trivial⟩)
            have e6 : k0 = [] := by
              have q4 : ws = [] := q4
              rw [q4] at e5
              cases k0 <;> first | rfl | cases e5
            subst e6 e4
            refine ⟨q1, ks', e3, by rw [gl]; exact of_decide_eq_true c1.1, ?_⟩
            obtain ⟨m1, m2, m3⟩ := merge_str (kvs := []) (ks := []) g c1.2.2 rfl rfl List.nodup_nil
            have x2 : Ext H2 (upd H2 D (.dK (mergeK [] ks'))) := Ext.mut q1 trivial
            have S4 : StR F.K α H2 (st1.take st.length) := by rw [← hn]; exact a1.S.take
            have hDo : D ∉ α := fun z => by
              have nd := a1.S.nd
              rw [List.nodup_append] at nd
              exact nd.2.2 D z D (by simp) rfl
            have hlen := dMerge_len kvs []
            have c15 := of_decide_eq_true c1.1
            rw [List.length_nil] at hlen
            exact ho (.ref D) _ α Pre.refl (x0.trans (a1.ext.trans x2)) (S4.froz q1 trivial hDo) ⟨D, _, _, rfl, upd_same, .inl ⟨_, rfl, rfl, m2⟩, by rw [sizeLine_eq]; omega, ImKvs.ext x2 _ _ m1, hDo⟩
/-- {} -/
theorem s_dic0 (C : Cxt c sc F W Φ k X) {pos : Pos} : PE X (.Dict [] [] pos) (tE F W Φ (.dic [])) := by
  refine pe_dnewK.imp fun σ H Q q => ?_
  simp only [tE, evE, evDs, ok_bind] at q
  obtain ⟨env, st, α, hE, hS, ho⟩ := q
  intro D hD
  have e : dicEnd st.length [] (st ++ [.dct []]) = .ok (.nd []) st := by
    unfold dicEnd
    rw [last_get rfl]
    simp [toPs, pairUp, chk, dMerge]
  simp only [e] at ho
  exact ho (.ref D) _ α Pre.refl (Ext.new hD) (hS.new hD) ⟨D, _, [], rfl, upd_same, .inl ⟨[], rfl, rfl, List.nodup_nil⟩, Nat.zero_le _, rfl, hS.out hD⟩

/-! ### dict comprehensions -/
def turnD (Φ : Nat → List Kp.D → Sto → R Rv) (env : Ev) (t : Tg) (key val : Kp.X) (y : P) (st : Sto) : R (P × P) :=
  match bindT t (wipeE env (tgSlots t)) y with
  | some env1 => (evE Φ env1 key st).bind fun r st3 => (evE Φ env1 val st3).bind fun r' st4 => needI r fun p => needI r' fun q => .ok (p, q) st4
  | none => .bad
theorem evE_dcomp {env : Ev} {key val : Kp.X} {t : Tg} {ik : Ik} {is : List Kp.X} {st : Sto} : evE Φ env (.dcomp key val t ik is) st =
    (evI Φ env ik is st).bind fun ys st1 => (compD st1.length (turnD Φ env t key val) ys (st1 ++ [.dct []])).bind fun _ st2 => compEndD st1.length st2 := by
  simp only [evE, evI, R.bind_assoc]
  cases evDs Φ env is st with
  | ok ds st1 =>
    simp only [ok_bind]
    cases itemsD ik ds <;> rfl
  | exc cc fs st1 => rfl
  | bad => rfl
theorem dc_imp (C : Cxt c sc F W Φ k X) {t : Tg} {ik : Ik} {is : List Kp.X} {key val : Kp.X} : ∀ σ H Q, tE F W Φ (.dcomp key val t ik is) σ H Q →
    tDc (tI F W Φ ik is) (gT X.K t) (tAll F NoW Φ []) (tM F NoW (RvF F.K) (fun env st => evE Φ env key st)) (tM F NoW (RvF F.K) (fun env st => evE Φ env val st)) (tgSlots t) σ H Q := fun σ H Q q => by
  obtain ⟨env, st, α, hE, hS, ho⟩ := q
  simp only [evE_dcomp] at ho
  refine (tM.bind (m := fun env st => evI Φ env ik is st) hE hS ho).imp fun J H1 ⟨ys, st1, α1, a1, hJ, ho⟩ => ?_
  intro D hD
  have x2 : Ext H1 (upd H1 D (.dK [])) := Ext.new hD
  have hn : α1.length = st1.length := a1.S.len
  have S2 : StR F.K (α1 ++ [D]) (upd H1 D (.dK [])) (st1 ++ [.dct []]) :=
    (a1.S.new (o := .dK []) hD).adopt ⟨.dK [], [], upd_same, .inl ⟨[], rfl, rfl, List.nodup_nil⟩, Nat.zero_le _, rfl⟩ (a1.S.out hD)
  refine ⟨fun i m H => m = ys.length - i ∧ i ≤ ys.length ∧ ∃ st α, Pre (α1 ++ [D]) α ∧ Ext (upd H1 D (.dK [])) H ∧ StR F.K α H st ∧ Out F W (RvR F.K) σ α1 H1 ((compD st1.length (turnD Φ env t key val) (ys.drop i) st).bind fun _ st2 => compEndD st1.length st2) Q,
    ⟨ys.length, by simp, Nat.zero_le _, st1 ++ [.dct []], α1 ++ [D], Pre.refl, Ext.refl, S2, by rw [List.drop_zero]; exact ho⟩, ?_⟩
  rintro i m H2 ⟨rfl, hi, st2, α2, p2, e2, S2, ho⟩
  have x12 : Ext H1 H2 := x2.trans e2
  by_cases hlt : i < ys.length
  · refine .inr ⟨hJ.go i H2 x12 hlt, _, fun H' w => ⟨ys.length - (i + 1), by omega, rfl, hlt, w⟩, fun x H3 hy => ?_⟩
    obtain ⟨e3, sk, p, hp, ip⟩ := hJ.yld i H2 x H3 x12 hlt hy
    have S3 := sk _ _ S2
    have x13 := x12.trans e3
    have hd : ys.drop i = ys[i] :: ys.drop (i + 1) := by rw [List.drop_eq_getElem_cons hlt]
    have hpe : ys[i] = p := by
      have := List.getElem?_eq_getElem hlt
      rw [this] at hp
      exact Option.some.inj hp
    rw [hd, hpe, compD, R.bind_assoc] at ho
    obtain ⟨o, st4, em, ho⟩ := noexc_ok ho
    unfold turnD at em
    cases eb : bindT t (wipeE env (tgSlots t)) p with
    | none => rw [eb] at em; cases em
    | some env1 =>
      rw [eb] at em
      have pre12 : Pre α1 (α1 ++ [D]) := ⟨[D], rfl⟩
      have pre13 : Pre α1 α2 := pre12.trans p2
      have E3 : EvR F.K α2 H3 (wipeE env (tgSlots t)) (wipe σ (tgSlots t)) := EvR.wipe (EvR.mono pre13 x13 a1.E) _
      have eK : X.K = F.K.K := by rw [C.hF]
      rw [eK]
      refine g_bind E3 ip eb fun σ1 E4 hw => ⟨by rw [hw _ (fun _ h => h), wipe_wipe], ?_⟩
      refine ⟨env1, st2, α2, E4, S3, ?_⟩
      simp only [evAnd]
      intro b H5 α5 p5 e5 S5 hb
      subst hb
      rw [if_pos rfl]
      simp only [] at em
      cases ek : evE Φ env1 key st2 with
      | bad => simp only [ek, bad_bind] at em; cases em
      | exc cc fs st6 => simp only [ek, exc_bind] at em; cases em
      | ok r st6 =>
        simp only [ek, ok_bind] at em
        refine ⟨env1, st2, α5, E4.mono p5 e5, S5, ?_⟩
        simp only [ek]
        intro y H6 α6 p6 e6 S6 hr
        cases ev : evE Φ env1 val st6 with
        | bad => simp only [ev, bad_bind] at em; cases em
        | exc cc fs st7 => simp only [ev, exc_bind] at em; cases em
        | ok r' st7 =>
          simp only [ev, ok_bind] at em
          refine ⟨env1, st6, α6, (E4.mono p5 e5).mono p6 e6, S6, ?_⟩
          simp only [ev]
          intro z H7 α7 p7 e7 S7 hr'
          unfold needI at em
          have hr : DR F.K α7 H7 r.frz y := DR.mono p7 e7 hr
          have hr' : DR F.K α7 H7 r'.frz z := hr'
          cases ef : r.frz with
          | ref nn => rw [ef] at em; cases em
          | py pk =>
            rw [ef] at em hr
            simp only [] at em
            cases ef' : r'.frz with
            | ref nn => rw [ef'] at em; cases em
            | py pv =>
              rw [ef'] at em hr'
              cases em
              have hD7 : α7[st1.length]? = some D := Pre.get (p2.trans (p5.trans (p6.trans p7))) (last_addr hn)
              simp only [ok_bind] at ho
              cases eo : st4[st1.length]? with
              | none => rw [eo] at ho; exact (show False from ho).elim
              | some ob =>
                rw [eo] at ho
                cases ob with
                | dead => exact (show False from ho).elim
                | lst _ => exact (show False from ho).elim
                | dct acc =>
                  obtain ⟨u, ws, q1, q2, q3, q4⟩ := S7.ob _ _ _ eo hD7
                  have ho : Out F W (RvR F.K) σ α1 H1 ((chk (decide (acc.length < SZ) && (keyS pk && acc.all fun q => keyS q.1)) (compD st1.length (turnD Φ env t key val) (ys.drop (i + 1)) (st4.set st1.length (.dct (dPut acc pk pv))))).bind fun _ st2 => compEndD st1.length st2) Q := ho
                  cases ec : (decide (acc.length < SZ) && (keyS pk && acc.all fun q => keyS q.1)) with
                  | false => rw [ec] at ho; exact (show False from ho).elim
                  | true =>
                    rw [ec] at ho
                    rw [Bool.and_eq_true, Bool.and_eq_true] at ec
                    obtain ⟨ks, e8, e9⟩ := dk_viewW q2 q4 ec.2.2
                    have hnd : (ks.map (·.1)).Nodup := by
                      rcases q2 with ⟨ks', h1, _, h3⟩ | ⟨o, h1, _⟩
                      · rw [e8] at h1
                        cases h1
                        exact h3
                      · rw [e8] at h1
                        cases h1
                    subst e8 e9
                    have hl : acc.length < sizeLine := of_decide_eq_true ec.1
                    have hkl : ks.length < sizeLine := by
                      have := q4.len
                      unfold dkWs at this
                      rw [List.length_map] at this
                      omega
                    obtain ⟨zz, ez⟩ := keyS_str ec.2.1
                    subst ez
                    have hr : y = .str zz := hr
                    refine ⟨ks, .inr zz, hr, q1, hkl, st4.set st1.length (.dct (dPut acc (.str zz) pv)), α7, p2.trans (p5.trans (p6.trans p7)), e2.trans (e3.trans (e5.trans (e6.trans (e7.trans (Ext.mut q1 trivial))))), ?_, ho⟩
                    refine S7.put hD7 q1 trivial ⟨_, _, upd_same, .inl ⟨_, rfl, rfl, keys_putK hnd⟩, ?_, ImKvs.ext (Ext.mut q1 trivial) _ _ (put_str zz hr' q4 ec.2.2)⟩
                    have := dPut_len (kvs := acc) (k := .str zz) (p := pv)
                    omega
  · have e : i = ys.length := by omega
    subst e
    refine .inl ⟨hJ.stop _ H2 x12 (Nat.le_refl _), ?_⟩
    rw [List.drop_length, compD] at ho
    cases ec : decide (st2.length = st1.length + 1) with
    | false => rw [ec] at ho; exact (show False from ho).elim
    | true =>
      rw [ec] at ho
      have ec := of_decide_eq_true ec
      have e5 := pre_last p2 (by rw [S2.len]; exact ec) hn
      subst e5
      have ho : Out F W (RvR F.K) σ α1 H1 (compEndD st1.length st2) Q := ho
      unfold compEndD at ho
      cases eo : st2[st1.length]? with
      | none => rw [eo] at ho; exact (show False from ho).elim
      | some ob =>
        rw [eo] at ho
        cases ob with
        | dead => exact (show False from ho).elim
        | lst _ => exact (show False from ho).elim
        | dct zs =>
          obtain ⟨u, ws, q1, q2, q3, q4⟩ := S2.ob _ _ _ eo (last_addr hn)
          refine ho (.ref D) H2 α1 Pre.refl x12 ?_ ⟨D, u, ws, rfl, q1, q2, q3, q4, ?_⟩
          · rw [← hn]
            exact S2.take
          · exact fun hm => (List.nodup_append.mp S2.nd).2.2 D hm D (by simp) rfl
structure DcOk (C : Cxt c sc F W Φ k X) (tg iter ke ve : Expr) (scope : Scope) (t : Tg) (own : List (Str × Nat)) (ik : Ik) (is : List Kp.X) (key val : Kp.X) : Prop where
  tgt : tgOf c scope tg = some (t, own)
  blk : blkC c.N sc scope own = true
  it : PI X tg iter (tI F W Φ ik is)
  set : isSet iter = false
  ke : ∀ X', Cxt c (relS scope sc) F NoW Φ k X' → PE X' ke (tE F NoW Φ key)
  ve : ∀ X', Cxt c (relS scope sc) F NoW Φ k X' → PE X' ve (tE F NoW Φ val)
theorem s_dc (C : Cxt c sc F W Φ k X) {tg iter ke ve : Expr} {scope : Scope} {t : Tg} {own : List (Str × Nat)} {ik : Ik} {is : List Kp.X} {key val : Kp.X} {pos : Pos} (L : DcOk C tg iter ke ve scope t own ik is key val) :
    PE X (.DictComp ke ve [⟨tg, iter, [], 0⟩] scope pos) (tE F W Φ (.dcomp key val t ik is)) := by
  have h := pe_dc (X := X) (pos := pos) (kx := ke) (vx := ve) (ifs := []) C.calm (by rw [C.hN]; exact C.nd) L.it (own := own) (scope := scope) (blkOk_by (by rw [C.hN, C.sc]; exact L.blk)) (fun s H C0 cl fp => blk_tgt C L.tgt s H C0 cl fp)
    (tt := tAll F NoW Φ []) (fun s H C0 cl fp => pts_of (ifs := []) (by simp) rfl (fun e i h => (by cases h))) (fun s H C0 cl fp => pe_frz (C.blk s H scope C0 cl fp).hF (L.ke _ (C.blk s H scope C0 cl fp))) (fun s H C0 cl fp => pe_frz (C.blk s H scope C0 cl fp).hF (L.ve _ (C.blk s H scope C0 cl fp))) (fold_id L.set X.env)
  rw [own_slots L.tgt] at h
  exact h.imp (dc_imp C)
end
end Kp

/-! Kp, part 10: the recursion over expressions. -/
namespace Kp
open PySem PySem.Spec PyProof.Rows L2
theorem opt_map {α β : Type} {f : α → β} {o : Option α} {b : β} (h : o.map f = some b) : ∃ a, o = some a ∧ f a = b := by
  cases o with
  | none => cases h
  | some a => exact ⟨a, rfl, Option.some.inj h⟩

/-- what is gone through -/
theorem i_any {tg e : Expr} {c : Cfg} {sc : Scope} {F : Fx} {W : WX} {Φ : Nat → List D → Sto → R Rv} {k : Nat} {X : Cx} (C : Cxt c sc F W Φ k X) {ik : Ik} {is : List Kp.X} (h : itOf c sc tg e (compE c sc e) (compA c sc e) = some (ik, is))
    (hw : ∀ i, compE c sc e = some i → PE X e (tE F W Φ i)) (hA : ∀ f args ks pos is, e = .Call f args ks pos → compEs c sc args = some is → PA X args (tD F W Φ is)) : PI X tg e (tI F W Φ ik is) ∧ isSet e = false := by
  have whole : (compE c sc e).map (fun i => (Ik.seq, [i])) = some (ik, is) → PI X tg e (tI F W Φ ik is) ∧ isSet e = false := fun h => by
    obtain ⟨i, h1, h2⟩ := opt_map h
    cases h2
    exact ⟨i_seq C (hw i h1), noSet_of h1⟩
  unfold itOf at h
  split at h
  · rename_i f p args pos
    split at h
    · rename_i hg
      split at h
      · rename_i a ha
        cases h
        simp only [compA] at ha
        have n := noStars_of ha
        match args, ha, n, hA with
        | [e1], ha, n, hA => exact ⟨i_rng1 C hg (hA _ _ _ _ _ rfl ha) (by have := n.1; simpa using this), rfl⟩
        | [], ha, n, hA => exact absurd n.2 (by simp)
        | e1 :: e2 :: es, ha, n, hA => exact absurd n.2 (by simp)
      · rename_i a b ha
        cases h
        simp only [compA] at ha
        have n := noStars_of ha
        match args, ha, n, hA with
        | [e1, e2], ha, n, hA =>
          have n := n.1
          rw [List.all_cons, List.all_cons, Bool.and_eq_true, Bool.and_eq_true] at n
          exact ⟨i_rng2 C hg (hA _ _ _ _ _ rfl ha) n.1 n.2.1, rfl⟩
        | [], ha, n, hA => exact absurd n.2 (by simp)
        | [e1], ha, n, hA => exact absurd n.2 (by simp)
        | e1 :: e2 :: e3 :: es, ha, n, hA => exact absurd n.2 (by simp)
      · cases h
    · rename_i hg
      split at h
      · rename_i a ha
        split at h
        · rename_i ht
          cases h
          simp only [compA] at ha
          have n := noStars_of ha
          cases tg <;> try (cases ht; done)
          match args, ha, n, hA with
          | [e1], ha, n, hA => exact ⟨i_enum C hg (hA _ _ _ _ _ rfl ha) (by have := n.1; simpa using this), rfl⟩
          | [], ha, n, hA => exact absurd n.2 (by simp)
          | e1 :: e2 :: es, ha, n, hA => exact absurd n.2 (by simp)
        · cases h
      · cases h
    · rename_i hg
      split at h
      · rename_i a b ha
        split at h
        · rename_i ht
          cases h
          simp only [compA] at ha
          have n := noStars_of ha
          cases tg <;> try (cases ht; done)
          match args, ha, n, hA with
          | [e1, e2], ha, n, hA =>
            have n := n.1
            rw [List.all_cons, List.all_cons, Bool.and_eq_true, Bool.and_eq_true] at n
            exact ⟨i_zip C hg (hA _ _ _ _ _ rfl ha) n.1 n.2.1, rfl⟩
          | [], ha, n, hA => exact absurd n.2 (by simp)
          | [e1], ha, n, hA => exact absurd n.2 (by simp)
          | e1 :: e2 :: e3 :: es, ha, n, hA => exact absurd n.2 (by simp)
        · cases h
      · cases h
    · exact whole h
  · cases h
  · exact whole h

def isSlice : Expr → Bool
  | .Slice .. => true
  | _ => false
theorem comp_sub {c : Cfg} {sc : Scope} {v i0 : Expr} {pos : Pos} {i : Kp.X} (hs : isSlice i0 = false) (h : compE c sc (.Subscript v i0 pos) = some i) : ∃ x y, compE c sc v = some x ∧ compE c sc i0 = some y ∧ i = .idx x y := by
  rw [compE] at h
  · split at h
    · rename_i x y h1 h2
      cases h
      exact ⟨x, y, h1, h2, rfl⟩
    · cases h
  all_goals (intros; subst_vars; cases hs)
mutual
theorem sndE (e : Expr) (c : Cfg) (sc : Scope) (F : Fx) (W : WX) (Φ : Nat → List D → Sto → R Rv) (k : Nat) (X : Cx) (C : Cxt c sc F W Φ k X) (i : Kp.X) (h : compE c sc e = some i) : PE X e (tE F W Φ i) ∧ PT X e (tT F W Φ i) := by
  match e, h with
  | .Constant kc j pos, h =>
    simp only [compE] at h
    obtain ⟨p, e1, e2⟩ := opt_map h
    subst e2
    have q := s_con (j := j) (pos := pos) C e1
    exact ⟨q, t_val q fun _ => rfl⟩
  | .Name x pos, h =>
    simp only [compE] at h
    split at h
    · rename_i j hj
      cases h
      have q := s_var (pos := pos) C hj
      exact ⟨q, t_val q fun _ => rfl⟩
    · split at h
      · rename_i p hp
        cases h
        have q := s_glob (pos := pos) C hp
        exact ⟨q, t_val q fun _ => rfl⟩
      · cases h
  | .Tuple es x1 pos, h =>
    simp only [compE] at h
    obtain ⟨is, e1, e2⟩ := opt_map h
    subst e2
    have q := s_tup (x1 := x1) (pos := pos) C (sndEs es c sc F W Φ k X C is e1)
    exact ⟨q, t_val q fun _ => rfl⟩
  | .List es pos, h =>
    simp only [compE] at h
    obtain ⟨is, e1, e2⟩ := opt_map h
    subst e2
    have q := s_lst (pos := pos) C (sndEs es c sc F W Φ k X C is e1)
    exact ⟨q, t_val q fun _ => rfl⟩
  | .BinOp l o r pos, h =>
    simp only [compE] at h
    split at h
    · rename_i hm
      have ho : o = .Mult := by cases l <;> cases o <;> first | rfl | cases hm
      subst ho
      split at h
      · rename_i x y h2 h3
        cases h
        have q := s_rep (pos := pos) C (sndE l c sc F W Φ k X C x h2).1 (sndE r c sc F W Φ k X C y h3).1
        exact ⟨q, t_val q fun _ => rfl⟩
      · cases h
    split at h
    · rename_i b x y h1 h2 h3
      cases h
      have q := s_bin (pos := pos) C h1 (sndE l c sc F W Φ k X C x h2).1 (sndE r c sc F W Φ k X C y h3).1
      exact ⟨q, t_val q fun _ => rfl⟩
    · cases h
  | .UnaryOp .Not x pos, h =>
    simp only [compE] at h
    obtain ⟨j, e1, e2⟩ := opt_map h
    subst e2
    have q := sndE x c sc F W Φ k X C j e1
    exact s_not q.1 q.2
  | .UnaryOp .USub x pos, h =>
    simp only [compE] at h
    obtain ⟨j, e1, e2⟩ := opt_map h
    subst e2
    have q := s_neg (pos := pos) (sndE x c sc F W Φ k X C j e1).1
    exact ⟨q, t_val q fun _ => rfl⟩
  | .BoolOp .And es pos, h =>
    simp only [compE] at h
    have q := sndAnd es c sc F W Φ k X C i h pos
    exact ⟨q.1, q.2.pt⟩
  | .BoolOp .Or es pos, h =>
    simp only [compE] at h
    have q := sndOr es c sc F W Φ k X C i h pos
    exact ⟨q.1, q.2.pt⟩
  | .Compare l [o] [r] pos, h =>
    simp only [compE] at h
    split at h
    · cases h
    · rename_i hs
      split at h
      · rename_i b x y h1 h2 h3
        cases h
        exact s_cmp C h1 (nomarks (by simpa using hs)) (sndE l c sc F W Φ k X C x h2).1 (sndE r c sc F W Φ k X C y h3).1
      · cases h
  | .Compare l [o, o'] [r, r'] pos, h =>
    simp only [compE] at h
    split at h
    · cases h
    · rename_i hs
      split at h
      · rename_i b b' x y z h1 h2 h3 h4 h5
        cases h
        exact s_chain C h1 h2 (nomarks (by simpa using hs)) (sndE l c sc F W Φ k X C x h3).1 (sndE r c sc F W Φ k X C y h4).1 (sndE r' c sc F W Φ k X C z h5).1
      · cases h
  | .IfExp t a b pos, h =>
    simp only [compE] at h
    split at h
    · rename_i x y z h1 h2 h3
      cases h
      have ht := sndE t c sc F W Φ k X C x h1
      have ha := sndE a c sc F W Φ k X C y h2
      have hb := sndE b c sc F W Φ k X C z h3
      exact ⟨s_ife ht.2 ha.1 hb.1, t_ife ht.2 ha.2 hb.2⟩
    · cases h
  | .Subscript v i0 pos, h =>
    have q := sndSub i0 c sc F W Φ k X C i v pos (fun x hx => (sndE v c sc F W Φ k X C x hx).1) (fun x hx => (sndE i0 c sc F W Φ k X C x hx).1) h
    exact ⟨q, t_val q fun _ => rfl⟩
  | .Call (.Name f p) (a :: args) [] pos, h =>
    have key : PE X (.Call (.Name f p) (a :: args) [] pos) (tE F W Φ i) := by
      simp only [compE] at h
      split at h
      · rename_i as' j hg
        split at h
        · rename_i xs hx
          cases h
          exact s_call C hg (sndEs _ c sc F W Φ k X C xs hx) (noStars_of hx).1
        · cases h
      · rename_i as' b hg
        split at h
        · rename_i xs hx
          cases h
          exact s_blt C hg (sndEs _ c sc F W Φ k X C xs hx) (noStars_of hx).1
        · cases h
      · rename_i as' t hg
        split at h
        · rename_i b xs ht hx
          cases h
          exact s_ty C hg ht (sndEs _ c sc F W Φ k X C xs hx) (noStars_of hx).1
        · cases h
      · rename_i t p2 hg
        split at h
        · rename_i ty x ht hx
          cases h
          exact s_isi C hg ht (sndE a c sc F W Φ k X C x hx).1 (noStar_of hx)
        · cases h
      · cases h
    exact ⟨key, t_val key fun _ => rfl⟩
  | .ListComp elt [⟨tg, iter, ifs, nn⟩] scope pos, h =>
    have hnn : nn = 0 := by
      by_cases z : nn = 0
      · exact z
      · rw [compE] at h
        · cases h
        all_goals (intros; simp_all)
    subst hnn
    simp only [compE] at h
    split at h
    · rename_i t own ht
      split at h
      · rename_i hb
        rw [Bool.and_eq_true] at hb
        split at h
        · rename_i ik is fs x hi hf hx
          cases h
          have q := s_lc (pos := pos) C ⟨ht, hb.1, (i_any C hi (fun i hi => (sndE iter c sc F W Φ k X C i hi).1) (sndA iter c sc F W Φ k X C)).1, (i_any (tg := tg) C hi (fun i hi => (sndE iter c sc F W Φ k X C i hi).1) (sndA iter c sc F W Φ k X C)).2, fun X' C' => pts_of (of_decide_eq_true hb.2) (noStars_of hf).2 (sndF ifs c (relS scope sc) F NoW Φ k X' C' fs hf), fun X' C' => (sndE elt c (relS scope sc) F NoW Φ k X' C' x hx).1⟩
          exact ⟨q, t_val q fun _ => rfl⟩
        · cases h
      · cases h
    · cases h
  | .UnaryOp .Invert x pos, h => simp only [compE] at h; cases h
  | .UnaryOp .UAdd x pos, h => simp only [compE] at h; cases h
  | .NamedExpr .., h => simp only [compE] at h; cases h
  | .Lambda .., h => simp only [compE] at h; cases h
  | .Dict keys values pos, h =>
    have key : PE X (.Dict keys values pos) (tE F W Φ i) := by
      simp only [compE] at h
      split at h
      · rename_i ks vs hk hv
        split at h
        · rename_i hc
          cases h
          rw [Bool.and_eq_true] at hc
          obtain ⟨kes, ek, hl, hs⟩ := sndKs keys c sc F W Φ k X C ks hk
          have hvl := (noStars_of hv).2
          have hlen : kes.length = values.length := by
            have := of_decide_eq_true hc.1
            rw [ek, List.length_map] at this
            exact this
          rw [ek]
          cases kes with
          | nil =>
            have e1 : values = [] := List.length_eq_zero_iff.mp hlen.symm
            have e2 : ks = [] := List.length_eq_zero_iff.mp hl.symm
            subst e1 e2
            exact s_dic0 C
          | cons k0 kr =>
            refine s_dic C (pps_of C hlen (fun n h1 h2 => hs n h1 h2) (fun n h1 h2 => sndVs values c sc F W Φ k X C vs hv n h1 h2) hl hvl) hlen (by simp) ?_
            have := of_decide_eq_true hc.2
            rw [ek, List.length_map] at this
            exact this
        · cases h
      · cases h
    exact ⟨key, t_val key fun _ => rfl⟩
  | .Set .., h => simp only [compE] at h; cases h
  | .SetComp .., h => simp only [compE] at h; cases h
  | .DictComp ke ve [⟨tg, iter, [], nn⟩] scope pos, h =>
    have hnn : nn = 0 := by
      by_cases z : nn = 0
      · exact z
      · rw [compE] at h
        · cases h
        all_goals (intros; simp_all)
    subst hnn
    simp only [compE] at h
    split at h
    · rename_i t own ht
      split at h
      · rename_i hb
        split at h
        · rename_i ik is x y hi hx hy
          cases h
          have q := s_dc (pos := pos) C ⟨ht, hb, (i_any C hi (fun i hi => (sndE iter c sc F W Φ k X C i hi).1) (sndA iter c sc F W Φ k X C)).1, (i_any (tg := tg) C hi (fun i hi => (sndE iter c sc F W Φ k X C i hi).1) (sndA iter c sc F W Φ k X C)).2, fun X' C' => (sndE ke c (relS scope sc) F NoW Φ k X' C' x hx).1, fun X' C' => (sndE ve c (relS scope sc) F NoW Φ k X' C' y hy).1⟩
          exact ⟨q, t_val q fun _ => rfl⟩
        · cases h
      · cases h
    · cases h
  | .DictComp ke ve [] scope pos, h => simp only [compE] at h; cases h
  | .DictComp ke ve [⟨tg, iter, t0 :: ts, nn⟩] scope pos, h => simp only [compE] at h; cases h
  | .DictComp ke ve (g :: g2 :: gs) scope pos, h => simp only [compE] at h; cases h
  | .GeneratorExp .., h => simp only [compE] at h; cases h
  | .Await .., h => simp only [compE] at h; cases h
  | .Yield .., h => simp only [compE] at h; cases h
  | .YieldFrom .., h => simp only [compE] at h; cases h
  | .FormattedValue .., h => simp only [compE] at h; cases h
  | .JoinedStr .., h => simp only [compE] at h; cases h
  | .Attribute .., h => simp only [compE] at h; cases h
  | .Starred .., h => simp only [compE] at h; cases h
  | .Slice .., h => simp only [compE] at h; cases h
  | .Compare l [] rs pos, h => simp only [compE] at h; cases h
  | .Compare l [o] [] pos, h => simp only [compE] at h; cases h
  | .Compare l [o] (r :: r2 :: rs) pos, h => simp only [compE] at h; cases h
  | .Compare l [o, o'] [] pos, h => simp only [compE] at h; cases h
  | .Compare l [o, o'] [r] pos, h => simp only [compE] at h; cases h
  | .Compare l [o, o'] (r :: r2 :: r3 :: rs) pos, h => simp only [compE] at h; cases h
  | .Compare l (o :: o' :: o'' :: os) rs pos, h => simp only [compE] at h; cases h
  | .Call (.Attribute o name apos) args [] pos, h =>
    have key : PE X (.Call (.Attribute o name apos) args [] pos) (tE F W Φ i) := by
      simp only [compE] at h
      split at h
      · rename_i hg
        have hg : name = ("get" : Str) := eq_of_beq hg
        subst hg
        split at h
        · rename_i hk
          unfold methOk at hk
          rw [Bool.and_eq_true, Bool.and_eq_true] at hk
          obtain ⟨⟨h1, h2⟩, h3⟩ := hk
          split at h
          · rename_i x y ho hx
            cases h
            have n := noStars_of hx
            have sv := sndVs args c sc F W Φ k X C _ hx
            match args, n, sv with
            | [e1], n, sv => exact s_get1 C (sndE o c sc F W Φ k X C x ho).1 (sv 0 (by simp) (by simp)) (by have := n.1; simpa using this) (base_ok h1) h2
            | [], n, sv => exact absurd n.2 (by simp)
            | e1 :: e2 :: es, n, sv => exact absurd n.2 (by simp)
          · rename_i x y z ho hx
            cases h
            have n := noStars_of hx
            have sv := sndVs args c sc F W Φ k X C _ hx
            match args, n, sv with
            | [e1, e2], n, sv =>
              have n := n.1
              rw [List.all_cons, List.all_cons, Bool.and_eq_true, Bool.and_eq_true] at n
              exact s_get2 C (sndE o c sc F W Φ k X C x ho).1 (sv 0 (by simp) (by simp)) (sv 1 (by simp) (by simp)) n.1 n.2.1 (base_ok h1) h2
            | [], n, sv => exact absurd n.2 (by simp)
            | [e1], n, sv => exact absurd n.2 (by simp)
            | e1 :: e2 :: e3 :: es, n, sv => exact absurd n.2 (by simp)
          · cases h
        · cases h
      split at h
      · rename_i m x xs hm ho hx
        split at h
        · rename_i hk
          cases h
          exact s_methAny C hm hk (sndE o c sc F W Φ k X C x ho).1 (sndEs args c sc F W Φ k X C xs hx) (fun e => by subst e; simp only [compEs] at hx; cases hx; rfl) (noStars_of hx).1
        · cases h
      · cases h
    exact ⟨key, t_val key fun _ => rfl⟩
  | .Call f args (k0 :: ks) pos, h => cases f <;> cases args <;> (simp only [compE] at h; cases h)
  | .Call (.Name ..) [] [] pos, h => simp only [compE] at h; cases h
  | .Call (.BoolOp ..) args [] pos, h => cases args <;> (simp only [compE] at h; cases h)
  | .Call (.NamedExpr ..) args [] pos, h => cases args <;> (simp only [compE] at h; cases h)
  | .Call (.BinOp ..) args [] pos, h => cases args <;> (simp only [compE] at h; cases h)
  | .Call (.UnaryOp ..) args [] pos, h => cases args <;> (simp only [compE] at h; cases h)
  | .Call (.Lambda ..) args [] pos, h => cases args <;> (simp only [compE] at h; cases h)
  | .Call (.IfExp ..) args [] pos, h => cases args <;> (simp only [compE] at h; cases h)
  | .Call (.Dict ..) args [] pos, h => cases args <;> (simp only [compE] at h; cases h)
  | .Call (.Set ..) args [] pos, h => cases args <;> (simp only [compE] at h; cases h)
  | .Call (.ListComp ..) args [] pos, h => cases args <;> (simp only [compE] at h; cases h)
  | .Call (.SetComp ..) args [] pos, h => cases args <;> (simp only [compE] at h; cases h)
  | .Call (.DictComp ..) args [] pos, h => cases args <;> (simp only [compE] at h; cases h)
  | .Call (.GeneratorExp ..) args [] pos, h => cases args <;> (simp only [compE] at h; cases h)
  | .Call (.Await ..) args [] pos, h => cases args <;> (simp only [compE] at h; cases h)
  | .Call (.Yield ..) args [] pos, h => cases args <;> (simp only [compE] at h; cases h)
  | .Call (.YieldFrom ..) args [] pos, h => cases args <;> (simp only [compE] at h; cases h)
  | .Call (.Compare ..) args [] pos, h => cases args <;> (simp only [compE] at h; cases h)
  | .Call (.Call ..) args [] pos, h => cases args <;> (simp only [compE] at h; cases h)
  | .Call (.FormattedValue ..) args [] pos, h => cases args <;> (simp only [compE] at h; cases h)
  | .Call (.JoinedStr ..) args [] pos, h => cases args <;> (simp only [compE] at h; cases h)
  | .Call (.Constant ..) args [] pos, h => cases args <;> (simp only [compE] at h; cases h)
  | .Call (.Subscript ..) args [] pos, h => cases args <;> (simp only [compE] at h; cases h)
  | .Call (.Starred ..) args [] pos, h => cases args <;> (simp only [compE] at h; cases h)
  | .Call (.List ..) args [] pos, h => cases args <;> (simp only [compE] at h; cases h)
  | .Call (.Tuple ..) args [] pos, h => cases args <;> (simp only [compE] at h; cases h)
  | .Call (.Slice ..) args [] pos, h => cases args <;> (simp only [compE] at h; cases h)
  | .ListComp elt [] scope pos, h => simp only [compE] at h; cases h
  | .ListComp elt (g :: g2 :: gs) scope pos, h => simp only [compE] at h; cases h
termination_by structural e
theorem sndEs (es : List Expr) (c : Cfg) (sc : Scope) (F : Fx) (W : WX) (Φ : Nat → List D → Sto → R Rv) (k : Nat) (X : Cx) (C : Cxt c sc F W Φ k X) (is : List Kp.X) (h : compEs c sc es = some is) : PA X es (tD F W Φ is) := by
  match es, h with
  | [], h =>
    simp only [compEs] at h
    cases h
    exact s_nil
  | e :: es, h =>
    simp only [compEs] at h
    split at h
    · rename_i x xs h1 h2
      cases h
      exact s_cons C (sndE e c sc F W Φ k X C x h1).1 (sndEs es c sc F W Φ k X C xs h2) (star_cons (noStar_of h1))
    · cases h
termination_by structural es
/-- keys of a display -/
theorem sndKs (es : List (Option Expr)) (c : Cfg) (sc : Scope) (F : Fx) (W : WX) (Φ : Nat → List D → Sto → R Rv) (k : Nat) (X : Cx) (C : Cxt c sc F W Φ k X) (is : List Kp.X) (h : compKs c sc es = some is) :
    ∃ kes : List Expr, es = kes.map some ∧ kes.length = is.length ∧ ∀ (n : Nat) (h1 : n < kes.length) (h2 : n < is.length), PE X kes[n] (tE F W Φ is[n]) := by
  match es, h with
  | [], h =>
    simp only [compKs] at h
    cases h
    exact ⟨[], rfl, rfl, fun n h1 => absurd h1 (Nat.not_lt_zero _)⟩
  | none :: es, h => simp only [compKs] at h; cases h
  | some e :: es, h =>
    simp only [compKs] at h
    split at h
    · rename_i x xs h1 h2
      cases h
      obtain ⟨kes, e1, e2, e3⟩ := sndKs es c sc F W Φ k X C xs h2
      refine ⟨e :: kes, by rw [e1]; rfl, by rw [List.length_cons, List.length_cons, e2], fun n a b => ?_⟩
      cases n with
      | zero => exact (sndE e c sc F W Φ k X C x h1).1
      | succ n => exact e3 n (by simpa using a) (by simpa using b)
    · cases h
termination_by structural es
theorem sndVs (es : List Expr) (c : Cfg) (sc : Scope) (F : Fx) (W : WX) (Φ : Nat → List D → Sto → R Rv) (k : Nat) (X : Cx) (C : Cxt c sc F W Φ k X) (is : List Kp.X) (h : compEs c sc es = some is) :
    ∀ (n : Nat) (h1 : n < es.length) (h2 : n < is.length), PE X es[n] (tE F W Φ is[n]) := by
  match es, h with
  | [], h => exact fun n h1 => absurd h1 (Nat.not_lt_zero _)
  | e :: es, h =>
    simp only [compEs] at h
    split at h
    · rename_i x xs h1 h2
      cases h
      intro n a b
      cases n with
      | zero => exact (sndE e c sc F W Φ k X C x h1).1
      | succ n => exact sndVs es c sc F W Φ k X C xs h2 n (by simpa using a) (by simpa using b)
    · cases h
termination_by structural es
theorem sndAnd (es : List Expr) (c : Cfg) (sc : Scope) (F : Fx) (W : WX) (Φ : Nat → List D → Sto → R Rv) (k : Nat) (X : Cx) (C : Cxt c sc F W Φ k X) (i : Kp.X) (h : compAnd c sc es = some i) (pos : Pos) : PE X (.BoolOp .And es pos) (tE F W Φ i) ∧ PW X (.BoolOp .And es pos) (tT F W Φ i) := by
  match es, h with
  | [], h => simp only [compAnd] at h; cases h
  | [e], h =>
    simp only [compAnd] at h
    split at h
    · rename_i x y h1 h2
      cases h2
    · rename_i x h1 h2
      cases h
      have q := sndE e c sc F W Φ k X C i h1
      exact ⟨pe_one q.1, pw_and1 q.2⟩
    · cases h
  | e :: e2 :: es, h =>
    simp only [compAnd.eq_2] at h
    split at h
    · rename_i x y h1 h2
      cases h
      have q := sndE e c sc F W Φ k X C x h1
      have q2 := sndAnd (e2 :: es) c sc F W Φ k X C y h2 pos
      exact s_and q.1 q.2 q2.1 q2.2
    · cases h
    · cases h
termination_by structural es
theorem sndOr (es : List Expr) (c : Cfg) (sc : Scope) (F : Fx) (W : WX) (Φ : Nat → List D → Sto → R Rv) (k : Nat) (X : Cx) (C : Cxt c sc F W Φ k X) (i : Kp.X) (h : compOr c sc es = some i) (pos : Pos) : PE X (.BoolOp .Or es pos) (tE F W Φ i) ∧ PW X (.BoolOp .Or es pos) (tT F W Φ i) := by
  match es, h with
  | [], h => simp only [compOr] at h; cases h
  | [e], h =>
    simp only [compOr] at h
    split at h
    · rename_i x y h1 h2
      cases h2
    · rename_i x h1 h2
      cases h
      have q := sndE e c sc F W Φ k X C i h1
      exact ⟨pe_one q.1, pw_or1 q.2⟩
    · cases h
  | e :: e2 :: es, h =>
    simp only [compOr.eq_2] at h
    split at h
    · rename_i x y h1 h2
      cases h
      have q := sndE e c sc F W Φ k X C x h1
      have q2 := sndOr (e2 :: es) c sc F W Φ k X C y h2 pos
      exact s_or q.1 q.2 q2.1 q2.2
    · cases h
    · cases h
termination_by structural es
theorem sndO (o : Option Expr) (c : Cfg) (sc : Scope) (F : Fx) (W : WX) (Φ : Nat → List D → Sto → R Rv) (k : Nat) (X : Cx) (C : Cxt c sc F W Φ k X) (i : Kp.X) (h : compO c sc o = some i) : PO X o (tPO F W fun env st => evE Φ env i st) := by
  match o, h with
  | none, h =>
    simp only [compO] at h
    cases h
    exact o_none
  | some e, h =>
    simp only [compO] at h
    exact po_any C (sndE e c sc F W Φ k X C i h).1
termination_by structural o
/-- a comprehension's tests -/
theorem sndF (es : List Expr) (c : Cfg) (sc : Scope) (F : Fx) (W : WX) (Φ : Nat → List D → Sto → R Rv) (k : Nat) (X : Cx) (C : Cxt c sc F W Φ k X) (is : List Kp.X) (h : compEs c sc es = some is) : ∀ e i, es = [e] → is = [i] → PT X e (tT F W Φ i) := by
  match es, h with
  | [], h => intro e i e1; cases e1
  | e :: es, h =>
    simp only [compEs] at h
    split at h
    · rename_i x xs h1 h2
      cases h
      intro e' i' e1 e2
      cases e1
      cases e2
      exact (sndE e c sc F W Φ k X C x h1).2
    · cases h
termination_by structural es
/-- v[i0] -/
theorem sndSub (i0 : Expr) (c : Cfg) (sc : Scope) (F : Fx) (W : WX) (Φ : Nat → List D → Sto → R Rv) (k : Nat) (X : Cx) (C : Cxt c sc F W Φ k X) (i : Kp.X) (v : Expr) (pos : Pos) (hv : ∀ x, compE c sc v = some x → PE X v (tE F W Φ x)) (hi : ∀ x, compE c sc i0 = some x → PE X i0 (tE F W Φ x))
    (h : compE c sc (.Subscript v i0 pos) = some i) : PE X (.Subscript v i0 pos) (tE F W Φ i) := by
  match i0, hi, h with
  | .Slice lo hi none p2, hi', h =>
    simp only [compE] at h
    split at h
    · rename_i x y z h1 h2 h3
      cases h
      exact s_slc C (hv x h1) (sndO lo c sc F W Φ k X C y h2) (sndO hi c sc F W Φ k X C z h3)
    · cases h
  | .Slice lo hi (some st) p2, hi', h =>
    simp only [compE] at h
    split at h
    · rename_i hr
      obtain ⟨x, e1, e2⟩ := opt_map h
      subst e2
      have e : ∃ j p1 p3, lo = none ∧ hi = none ∧ st = .UnaryOp .USub (.Constant (.int 1) j p1) p3 := by
        unfold isRev at hr
        split at hr
        · exact ⟨_, _, _, rfl, rfl, rfl⟩
        · cases hr
      obtain ⟨j, p1, p3, e1', e2', e3'⟩ := e
      subst e1' e2' e3'
      exact s_rev C (hv x e1)
    · cases h
  | .BoolOp .., hi', h =>
    obtain ⟨x, y, h1, h2, e⟩ := comp_sub rfl h
    subst e
    exact s_idx C (hv x h1) (hi' y h2) (plainIx_of h2)
  | .NamedExpr .., hi', h =>
    obtain ⟨x, y, h1, h2, e⟩ := comp_sub rfl h
    subst e
    exact s_idx C (hv x h1) (hi' y h2) (plainIx_of h2)
  | .BinOp .., hi', h =>
    obtain ⟨x, y, h1, h2, e⟩ := comp_sub rfl h
    subst e
    exact s_idx C (hv x h1) (hi' y h2) (plainIx_of h2)
  | .UnaryOp .., hi', h =>
    obtain ⟨x, y, h1, h2, e⟩ := comp_sub rfl h
    subst e
    exact s_idx C (hv x h1) (hi' y h2) (plainIx_of h2)
  | .Lambda .., hi', h =>
    obtain ⟨x, y, h1, h2, e⟩ := comp_sub rfl h
    subst e
    exact s_idx C (hv x h1) (hi' y h2) (plainIx_of h2)
  | .IfExp .., hi', h =>
    obtain ⟨x, y, h1, h2, e⟩ := comp_sub rfl h
    subst e
    exact s_idx C (hv x h1) (hi' y h2) (plainIx_of h2)
  | .Dict .., hi', h =>
    obtain ⟨x, y, h1, h2, e⟩ := comp_sub rfl h
    subst e
    exact s_idx C (hv x h1) (hi' y h2) (plainIx_of h2)
  | .Set .., hi', h =>
    obtain ⟨x, y, h1, h2, e⟩ := comp_sub rfl h
    subst e
    exact s_idx C (hv x h1) (hi' y h2) (plainIx_of h2)
  | .ListComp .., hi', h =>
    obtain ⟨x, y, h1, h2, e⟩ := comp_sub rfl h
    subst e
    exact s_idx C (hv x h1) (hi' y h2) (plainIx_of h2)
  | .SetComp .., hi', h =>
    obtain ⟨x, y, h1, h2, e⟩ := comp_sub rfl h
    subst e
    exact s_idx C (hv x h1) (hi' y h2) (plainIx_of h2)
  | .DictComp .., hi', h =>
    obtain ⟨x, y, h1, h2, e⟩ := comp_sub rfl h
    subst e
    exact s_idx C (hv x h1) (hi' y h2) (plainIx_of h2)
  | .GeneratorExp .., hi', h =>
    obtain ⟨x, y, h1, h2, e⟩ := comp_sub rfl h
    subst e
    exact s_idx C (hv x h1) (hi' y h2) (plainIx_of h2)
  | .Await .., hi', h =>
    obtain ⟨x, y, h1, h2, e⟩ := comp_sub rfl h
    subst e
    exact s_idx C (hv x h1) (hi' y h2) (plainIx_of h2)
  | .Yield .., hi', h =>
    obtain ⟨x, y, h1, h2, e⟩ := comp_sub rfl h
    subst e
    exact s_idx C (hv x h1) (hi' y h2) (plainIx_of h2)
  | .YieldFrom .., hi', h =>
    obtain ⟨x, y, h1, h2, e⟩ := comp_sub rfl h
    subst e
    exact s_idx C (hv x h1) (hi' y h2) (plainIx_of h2)
  | .Compare .., hi', h =>
    obtain ⟨x, y, h1, h2, e⟩ := comp_sub rfl h
    subst e
    exact s_idx C (hv x h1) (hi' y h2) (plainIx_of h2)
  | .Call .., hi', h =>
    obtain ⟨x, y, h1, h2, e⟩ := comp_sub rfl h
    subst e
    exact s_idx C (hv x h1) (hi' y h2) (plainIx_of h2)
  | .FormattedValue .., hi', h =>
    obtain ⟨x, y, h1, h2, e⟩ := comp_sub rfl h
    subst e
    exact s_idx C (hv x h1) (hi' y h2) (plainIx_of h2)
  | .JoinedStr .., hi', h =>
    obtain ⟨x, y, h1, h2, e⟩ := comp_sub rfl h
    subst e
    exact s_idx C (hv x h1) (hi' y h2) (plainIx_of h2)
  | .Constant .., hi', h =>
    obtain ⟨x, y, h1, h2, e⟩ := comp_sub rfl h
    subst e
    exact s_idx C (hv x h1) (hi' y h2) (plainIx_of h2)
  | .Attribute .., hi', h =>
    obtain ⟨x, y, h1, h2, e⟩ := comp_sub rfl h
    subst e
    exact s_idx C (hv x h1) (hi' y h2) (plainIx_of h2)
  | .Subscript .., hi', h =>
    obtain ⟨x, y, h1, h2, e⟩ := comp_sub rfl h
    subst e
    exact s_idx C (hv x h1) (hi' y h2) (plainIx_of h2)
  | .Starred .., hi', h =>
    obtain ⟨x, y, h1, h2, e⟩ := comp_sub rfl h
    subst e
    exact s_idx C (hv x h1) (hi' y h2) (plainIx_of h2)
  | .Name .., hi', h =>
    obtain ⟨x, y, h1, h2, e⟩ := comp_sub rfl h
    subst e
    exact s_idx C (hv x h1) (hi' y h2) (plainIx_of h2)
  | .List .., hi', h =>
    obtain ⟨x, y, h1, h2, e⟩ := comp_sub rfl h
    subst e
    exact s_idx C (hv x h1) (hi' y h2) (plainIx_of h2)
  | .Tuple .., hi', h =>
    obtain ⟨x, y, h1, h2, e⟩ := comp_sub rfl h
    subst e
    exact s_idx C (hv x h1) (hi' y h2) (plainIx_of h2)
termination_by structural i0
/-- a call's arguments -/
theorem sndA (e : Expr) (c : Cfg) (sc : Scope) (F : Fx) (W : WX) (Φ : Nat → List D → Sto → R Rv) (k : Nat) (X : Cx) (C : Cxt c sc F W Φ k X) : ∀ f args ks pos is, e = .Call f args ks pos → compEs c sc args = some is → PA X args (tD F W Φ is) := by
  match e with
  | .Call f args ks pos =>
    intro f' args' ks' pos' is e1 h
    cases e1
    exact sndEs args c sc F W Φ k X C is h
  | .BoolOp .. | .NamedExpr .. | .BinOp .. | .UnaryOp .. | .Lambda .. | .IfExp .. | .Dict .. | .Set .. | .ListComp .. | .SetComp .. | .DictComp .. | .GeneratorExp .. | .Await .. | .Yield .. | .YieldFrom .. | .Compare .. | .FormattedValue .. | .JoinedStr .. | .Constant .. | .Attribute .. | .Subscript .. | .Starred .. | .Name .. | .List .. | .Tuple .. | .Slice .. =>
    intro f' args' ks' pos' is e1; cases e1
termination_by structural e
end
end Kp

/-! Kp, part 11: statements. -/
namespace Kp
open PySem PySem.Spec PyProof.Rows L2

def OutS (F : Fx) (W : WX) (α : List Addr) (H : Hp) (m : SR) (D : Ends) : Prop :=
  match m with
  | .nx env st => ∀ (σ' : L2.St) (H' : Hp) (α' : List Addr), Pre α α' → Ext H H' → EvR F.K α' H' env σ' → StR F.K α' H' st → D.nx σ' H'
  | .rt r st => ∀ (v : V) (H' : Hp) (α' : List Addr), Pre α α' → Ext H H' → StR F.K α' H' st → RvR F.K α' H' r v → D.rt v H'
  | .exc c fs env st => ∀ (d : Option Addr) (σ' : L2.St) (H' : Hp) (α' : List Addr), Pre α α' → Ext H H' → EvR F.K α' H' env σ' → StR F.K α' H' st → ExcR F.K H' fs d → W (F.cls c) d σ' H'
  | .bad => False
section
variable {F : Fx} {W : WX} {α α1 : List Addr} {H H1 : Hp} {m : SR} {D D' : Ends}
theorem OutS.mono (h : OutS F W α H m D) (p : Pre α α1) (e : Ext H H1) : OutS F W α1 H1 m D := by
  cases m with
  | nx env st => exact fun σ' H' α' p' e' => h σ' H' α' (p.trans p') (e.trans e')
  | rt r st => exact fun v H' α' p' e' => h v H' α' (p.trans p') (e.trans e')
  | exc c fs env st => exact fun d σ' H' α' p' e' => h d σ' H' α' (p.trans p') (e.trans e')
  | bad => exact h
theorem OutS.imp (h : OutS F W α H m D) (n : ∀ σ H, D.nx σ H → D'.nx σ H) (r : ∀ v H, D.rt v H → D'.rt v H) : OutS F W α H m D' := by
  cases m with
  | nx env st => exact fun σ' H' α' p' e' x y => n _ _ (h σ' H' α' p' e' x y)
  | rt r' st => exact fun v H' α' p' e' x y => r _ _ (h v H' α' p' e' x y)
  | exc c fs env st => exact h
  | bad => exact h
end
def tS (F : Fx) (W : WX) (m : Ev → Sto → SR) : TS := fun D σ H => ∃ env st α, EvR F.K α H env σ ∧ StR F.K α H st ∧ OutS F W α H (m env st) D
section
variable {F : Fx} {W : WX} {β γ : Type}
/-- an expression, then the rest of the statement -/
theorem tM.then {RR : List Addr → Hp → β → γ → Prop} {σ : L2.St} {α : List Addr} {H : Hp} {m : Ev → Sto → R β} {f : β → Sto → SR} {D : Ends} {env : Ev} {st : Sto}
    (hE : EvR F.K α H env σ) (hS : StR F.K α H st) (h : OutS F W α H ((m env st).then env f) D) :
    tM F W RR m σ H fun g H1 => ∃ r st1 α1, At F σ α α1 H H1 env st1 ∧ RR α1 H1 r g ∧ OutS F W α1 H1 (f r st1) D := by
  refine ⟨env, st, α, hE, hS, ?_⟩
  cases e : m env st with
  | ok r st1 =>
    rw [e] at h
    exact fun g H1 α1 p x s rr => ⟨r, st1, α1, ⟨p, x, hE.mono p x, s⟩, rr, OutS.mono (show OutS F W α H (f r st1) D from h) p x⟩
  | exc c fs st1 =>
    rw [e] at h
    exact fun d H' α' p x s rr => h d σ H' α' p x (hE.mono p x) s rr
  | bad =>
    rw [e] at h
    exact h
theorem tS.seq {m : Ev → Sto → SR} {f : Ev → Sto → SR} : ∀ D σ H, tS F W (fun env st => (m env st).then f) D σ H → tSeq (tS F W m) (tS F W f) D σ H := fun D σ H q => by
  obtain ⟨env, st, α, hE, hS, ho⟩ := q
  refine ⟨env, st, α, hE, hS, ?_⟩
  have ho : OutS F W α H ((m env st).then f) D := ho
  cases e : m env st with
  | nx env1 st1 =>
    rw [e] at ho
    exact fun σ' H' α' p x hE' hS' => ⟨env1, st1, α', hE', hS', OutS.mono (show OutS F W α H (f env1 st1) D from ho) p x⟩
  | rt r st1 => rw [e] at ho; exact ho
  | exc c fs env1 st1 => rw [e] at ho; exact ho
  | bad => rw [e] at ho; exact ho
end

/-- a new list that nobody else holds comes into the store -/
theorem StR.take_in {K : KW} {α : List Addr} {H : Hp} {st : Sto} (hS : StR K α H st) {a : Addr} {vs : List V} {xs : List P} (h1 : H a = some (.lst vs)) (h2 : vs.length ≤ sizeLine) (h3 : ImAll K H xs vs) (h4 : a ∉ α) : StR K (α ++ [a]) H (st ++ [.lst xs]) := by
  refine ⟨by rw [List.length_append, List.length_append, hS.len]; rfl, ?_, fun n o b q1 q2 => ?_⟩
  · rw [List.nodup_append]
    exact ⟨hS.nd, by simp, fun x hx y hy z => by
      have e : y = a := by simpa using hy
      subst e
      exact h4 (z ▸ hx)⟩
  · by_cases hn : n < st.length
    · rw [List.getElem?_append_left hn] at q1
      rw [List.getElem?_append_left (by rw [hS.len]; exact hn)] at q2
      exact hS.ob n o b q1 q2
    · have e : n = st.length := by
        have := (List.getElem?_eq_some_iff.mp q1).1
        rw [List.length_append] at this
        have : n < st.length + 1 := this
        omega
      subst e
      rw [List.getElem?_append_right (Nat.le_refl _), Nat.sub_self] at q1
      rw [← hS.len, List.getElem?_append_right (Nat.le_refl _), Nat.sub_self] at q2
      cases q1
      have e : a = b := Option.some.inj q2
      subst e
      exact ⟨vs, h1, h2, h3⟩

section
variable {c : Cfg} {sc : Scope} {F : Fx} {W : WX} {Φ : Nat → List D → Sto → R Rv} {k : Nat} {X : Cx}
abbrev tSt (F : Fx) (W : WX) (Φ : Nat → List D → Sto → R Rv) (s : S) : TS := tS F W (fun env st => evS Φ s env st)
abbrev tSts (F : Fx) (W : WX) (Φ : Nat → List D → Sto → R Rv) (ss : List S) : TS := tS F W (fun env st => evSs Φ ss env st)
/-- the context of a statement: a def's own frame -/
structure Cxs (c : Cfg) (sc : Scope) (F : Fx) (W : WX) (Φ : Nat → List D → Sto → R Rv) (k : Nat) (X : Cx) : Prop extends Cxt c sc F W Φ k X where
  fn : ∀ x, X.fn x = true
  own : PassesOwn (model X.prog X.w) X.A X.env X.xe
  fun_ : X.env.scope.kind = .function
  stk : X.stack = X.env :: X.outer
  frm : X.env.frame = some X.env.locals
theorem Cxs.nm (C : Cxs c sc F W Φ k X) {x : Str} {i : Nat} (h : slotOwn c sc x = some i) : NmOk X x i := by
  obtain ⟨h1, h2⟩ := slotOwn_ok h
  exact ⟨by rw [C.hN]; exact h1, by rw [C.sc]; exact h2, .inl (C.fn x)⟩

/-- a value comes to a name -/
theorem store_imp {α : List Addr} {H : Hp} {env : Ev} {σ : L2.St} {st : Sto} {r : Rv} {v : V} {i : Nat} {new : Bool} {D : Ends} (hE : EvR F.K α H env σ) (hS : StR F.K α H st) (hr : RvR F.K α H r v) (ho : OutS F W α H (store i new r env st) D) :
    (D.nx (σ.set i (some v)) H) ∨ ∃ a u, v = .ref a ∧ H a = some u ∧ Mut (some u) ∧ ∀ o, D.nx (σ.set i (some v)) (upd H a (.frz o u)) := by
  have fresh : ∀ {a : Addr}, EvR F.K (α ++ [a]) H (env.set i (some (.ref st.length))) (σ.set i (some (.ref a))) := fun {a} =>
    (hE.mono ⟨[a], rfl⟩ Ext.refl).set i ⟨a, last_addr hS.len, rfl⟩
  cases r with
  | im d =>
    have e : store i new (.im d) env st = .nx (env.set i (some d)) st := by cases new <;> rfl
    rw [e] at ho
    exact .inl (ho _ H α Pre.refl Ext.refl (hE.set i hr) hS)
  | nd kvs =>
    obtain ⟨a, u, ws, e, h1, h2, h3, h4, h5⟩ := hr
    subst e
    cases new with
    | true => exact .inl (ho _ H (α ++ [a]) ⟨[a], rfl⟩ Ext.refl fresh (hS.adopt ⟨u, ws, h1, h2, h3, h4⟩ h5))
    | false =>
      refine .inr ⟨a, u, rfl, h1, h2.mut, fun o => ?_⟩
      have x : Ext H (upd H a (.frz o u)) := Ext.mut h1 h2.mut
      exact ho _ _ α Pre.refl x ((hE.mono Pre.refl x).set i ⟨a, o, u, ws, rfl, upd_same, h2, h3, ImKvs.ext x _ _ h4⟩) (hS.froz h1 h2.mut h5)
  | nl xs =>
    obtain ⟨a, vs, e, h1, h2, h3, h4⟩ := hr
    subst e
    cases new with
    | true => exact .inl (ho _ H (α ++ [a]) ⟨[a], rfl⟩ Ext.refl fresh (hS.adopt ⟨vs, h1, h2, h3⟩ h4))
    | false =>
      refine .inr ⟨a, _, rfl, h1, trivial, fun o => ?_⟩
      have x : Ext H (upd H a (.frz o (.lst vs))) := Ext.lst h1
      exact ho _ _ α Pre.refl x ((hE.mono Pre.refl x).set i ⟨a, vs, rfl, .inl ⟨o, upd_same⟩, h2, ImAll.ext x _ _ h3⟩) (hS.froz h1 trivial h4)
/-- a statement behind which a list may be frozen -/
def tFrzS (t : TS) : TS := fun D σ H => t { D with nx := fun σ' H' => D.nx σ' H' ∨ ∃ a u, H' a = some u ∧ Mut (some u) ∧ ∀ o, D.nx σ' (upd H' a (.frz o u)) } σ H
theorem ps_frz {s : Stmt} {t : TS} (h : PS X s t) : PS X s (tFrzS t) := by
  refine ⟨fun pins s σ H D I q => thn (h.run pins s σ H _ I q) fun f s1 hq => ?_⟩
  cases f with
  | next =>
    obtain ⟨σ', H', I', q⟩ := hq
    rcases q with q | ⟨a, u, h1, hm, q⟩
    · exact ⟨σ', H', I', q⟩
    · obtain ⟨o, I2⟩ := I'.lock h1 hm
      exact ⟨σ', _, I2, q o⟩
  | brk => exact hq
  | cont => exact hq
  | ret u => exact hq
theorem asg_imp {i : Nat} {new : Bool} {e : Kp.X} : ∀ D σ H, tSt F W Φ (.asg i new e) D σ H → tFrzS (tAsg (tE F W Φ e) (gName i)) D σ H := fun D σ H q => by
  obtain ⟨env, st, α, hE, hS, ho⟩ := q
  simp only [evS] at ho
  refine (tM.then hE hS ho).imp fun v H1 ⟨r, st1, α1, a1, r1, ho⟩ => ?_
  rcases store_imp a1.E a1.S r1 ho with q | ⟨a, u, e1, h1, hm, q⟩
  · exact .inl q
  · exact .inr ⟨a, u, h1, hm, q⟩
theorem s_asg (C : Cxs c sc F W Φ k X) {x : Str} {i : Nat} {new : Bool} {e : Expr} {ie : Kp.X} {px pos : Pos} (hx : slotOwn c sc x = some i) (he : PE X e (tE F W Φ ie)) (hsw : swapsWith e (some (.Name x px)) pos.line X.env = pure false) :
    PS X (.Assign [.Name x px] e pos) (tSt F W Φ (.asg i new ie)) := by
  obtain ⟨n1, n2, n3⟩ := C.nm hx
  exact (ps_frz (ps_set (by rw [C.hN]; exact C.nd) n1 n2 he hsw n3)).imp asg_imp
theorem s_ret {e : Expr} {i : Kp.X} {pos : Pos} (he : PE X e (tE F W Φ i)) : PS X (.Return (some e) pos) (tSt F W Φ (.ret i)) :=
  (ps_ret he).imp fun D σ H q => by
    obtain ⟨env, st, α, hE, hS, ho⟩ := q
    simp only [evS] at ho
    exact (tM.then hE hS ho).imp fun v H1 ⟨r, st1, α1, a1, r1, ho⟩ => ho v H1 α1 Pre.refl Ext.refl a1.S r1
theorem s_retN {pos : Pos} : PS X (.Return none pos) (tSt F W Φ (.ret (.const .none))) :=
  ps_retN.imp fun D σ H q => by
    obtain ⟨env, st, α, hE, hS, ho⟩ := q
    simp only [evS, evE] at ho
    exact ho .non H α Pre.refl Ext.refl hS rfl
theorem s_pass {s : Stmt} (h : PS X s tNext) : PS X s (tSt F W Φ .pass) :=
  h.imp fun D σ H q => by
    obtain ⟨env, st, α, hE, hS, ho⟩ := q
    simp only [evS] at ho
    exact ho σ H α Pre.refl Ext.refl hE hS
theorem s_expr {e : Expr} {i : Kp.X} {pos : Pos} (he : PE X e (tE F W Φ i)) (hs : swapsWith e none pos.line X.env = pure false) : PS X (.Expr e pos) (tSt F W Φ (.expr i)) :=
  (ps_expr he hs).imp fun D σ H q => by
    obtain ⟨env, st, α, hE, hS, ho⟩ := q
    simp only [evS] at ho
    exact (tM.then hE hS ho).imp fun v H1 ⟨r, st1, α1, a1, r1, ho⟩ => ho σ H1 α1 Pre.refl Ext.refl a1.E a1.S
theorem s_if {t : Expr} {a b : List Stmt} {i : Kp.X} {ia ib : List S} {pos : Pos} (ht : PT X t (tT F W Φ i)) (ha : PSs X a (tSts F W Φ ia)) (hb : PSs X b (tSts F W Φ ib)) : PS X (.If t a b pos) (tSt F W Φ (.ife i ia ib)) :=
  (ps_if ht ha hb).imp fun D σ H q => by
    obtain ⟨env, st, α, hE, hS, ho⟩ := q
    have e : evS Φ (.ife i ia ib) env st = (evB Φ env i st).then env fun kb st1 => if kb then evSs Φ ia env st1 else evSs Φ ib env st1 := by
      simp only [evB, evS]
      cases evE Φ env i st with
      | ok r st1 =>
        simp only [ok_bind, R.then]
        unfold needB
        split <;> rfl
      | exc c fs st1 => rfl
      | bad => rfl
    have ho : OutS F W α H (evS Φ (.ife i ia ib) env st) D := ho
    rw [e] at ho
    refine (tM.then (m := fun env st => evB Φ env i st) hE hS ho).imp fun x H1 ⟨r, st1, α1, a1, r1, ho⟩ => ?_
    subst r1
    cases r with
    | true => exact ⟨env, st1, α1, a1.E, a1.S, ho⟩
    | false => exact ⟨env, st1, α1, a1.E, a1.S, ho⟩
theorem ss_nil : PSs X [] (tSts F W Φ []) :=
  pss_nil.imp fun D σ H q => by
    obtain ⟨env, st, α, hE, hS, ho⟩ := q
    simp only [evSs] at ho
    exact ho σ H α Pre.refl Ext.refl hE hS
theorem ss_cons {s : Stmt} {ss : List Stmt} {i : S} {is : List S} (h : PS X s (tSt F W Φ i)) (hs : PSs X ss (tSts F W Φ is)) : PSs X (s :: ss) (tSts F W Φ (i :: is)) :=
  (pss_cons h hs).imp fun D σ H q => by
    refine tS.seq D σ H ?_
    obtain ⟨env, st, α, hE, hS, ho⟩ := q
    simp only [evSs] at ho
    exact ⟨env, st, α, hE, hS, ho⟩
/-- loops -/
def turnF (Φ : Nat → List D → Sto → R Rv) (t : Tg) (body : List S) (y : P) (env : Ev) (st : Sto) : SR :=
  match bindT t env y with
  | some env2 => evSs Φ body env2 st
  | none => .bad
theorem evS_for {t : Tg} {ik : Ik} {is : List Kp.X} {body : List S} {env : Ev} {st : Sto} : evS Φ (.for t ik is body) env st = (evI Φ env ik is st).then env fun ys st1 => forL (turnF Φ t body) ys env st1 := by
  simp only [evS, evI]
  cases evDs Φ env is st with
  | ok ds st1 =>
    simp only [ok_bind, R.then]
    cases itemsD ik ds <;> rfl
  | exc cc fs st1 => rfl
  | bad => rfl
theorem s_for (C : Cxs c sc F W Φ k X) {tg iter : Expr} {body : List Stmt} {t : Tg} {own : List (Str × Nat)} {ik : Ik} {is : List Kp.X} {ib : List S} {pos : Pos} (ht : tgOf c sc tg = some (t, own)) (hi : PI X tg iter (tI F W Φ ik is)) (hb : PSs X body (tSts F W Φ ib)) (hset : isSet iter = false) :
    PS X (.For tg iter body [] pos) (tSt F W Φ (.for t ik is ib)) := by
  have hg : PG X tg (gT X.K t) := pg_tgt (c := c) (sc := sc) C.calm (by rw [C.hN]; exact C.nd) ht fun x i hx => C.nm hx
  refine (ps_for C.own C.calm hi hg hb (fold_id hset X.env)).imp fun D σ H q => ?_
  obtain ⟨env, st, α, hE, hS, ho⟩ := q
  simp only [evS_for] at ho
  refine (tM.then (m := fun env st => evI Φ env ik is st) hE hS ho).imp fun J H1 ⟨ys, st1, α1, a1, hJ, ho⟩ => ?_
  refine ⟨fun i m σ H => m = ys.length - i ∧ i ≤ ys.length ∧ ∃ env st α, Pre α1 α ∧ Ext H1 H ∧ EvR F.K α H env σ ∧ StR F.K α H st ∧ OutS F W α H (forL (turnF Φ t ib) (ys.drop i) env st) D,
    ⟨ys.length, by simp, Nat.zero_le _, env, st1, α1, Pre.refl, Ext.refl, a1.E, a1.S, by rw [List.drop_zero]; exact ho⟩, ?_⟩
  rintro i m σ2 H2 ⟨rfl, hi, env2, st2, α2, p2, x2, E2, S2, ho⟩
  by_cases hlt : i < ys.length
  · refine .inr ⟨hJ.go i H2 x2 hlt, _, fun σ' H' w => ⟨ys.length - (i + 1), by omega, rfl, hlt, w⟩, fun x H3 hy => ?_⟩
    obtain ⟨e3, sk, p, hp, ip⟩ := hJ.yld i H2 x H3 x2 hlt hy
    have S3 := sk _ _ S2
    have hd : ys.drop i = ys[i] :: ys.drop (i + 1) := by rw [List.drop_eq_getElem_cons hlt]
    have hpe : ys[i] = p := by
      have := List.getElem?_eq_getElem hlt
      rw [this] at hp
      exact Option.some.inj hp
    rw [hd, hpe, forL] at ho
    have em : turnF Φ t ib p env2 st2 = turnF Φ t ib p env2 st2 := rfl
    unfold turnF at em ho
    cases eb : bindT t env2 p with
    | none => rw [eb] at ho; exact (show False from ho).elim
    | some env3 =>
      rw [eb] at ho
      have eK : X.K = F.K.K := by rw [C.hF]
      rw [eK]
      refine g_bind (E2.mono Pre.refl e3) ip eb fun σ3 E3 _ => ?_
      refine ⟨env3, st2, α2, E3, S3, ?_⟩
      have ho : OutS F W α2 H2 ((evSs Φ ib env3 st2).then fun env1 st1 => forL (turnF Φ t ib) (ys.drop (i + 1)) env1 st1) D := ho
      have ho := ho.mono (α1 := α2) Pre.refl e3
      show OutS F W α2 H3 (evSs Φ ib env3 st2) _
      cases ee : evSs Φ ib env3 st2 with
      | bad => rw [ee] at ho; exact ho
      | rt r st4 => rw [ee] at ho; exact ho
      | exc cc fs env4 st4 => rw [ee] at ho; exact ho
      | nx env4 st4 =>
        rw [ee] at ho
        have ho : OutS F W α2 H3 (forL (turnF Φ t ib) (ys.drop (i + 1)) env4 st4) D := ho
        exact fun σ4 H4 α4 p4 x4 E4 S4 => ⟨env4, st4, α4, p2.trans p4, x2.trans (e3.trans x4), E4, S4, ho.mono p4 x4⟩
  · have e : i = ys.length := by omega
    subst e
    refine .inl ⟨hJ.stop _ H2 x2 (Nat.le_refl _), ?_⟩
    rw [List.drop_length, forL] at ho
    exact ho σ2 H2 α2 Pre.refl Ext.refl E2 S2
/-- while -/
theorem s_whl (C : Cxs c sc F W Φ k X) {t : Expr} {body : List Stmt} {i : Kp.X} {ib : List S} {pos : Pos} (ht : PT X t (tT F W Φ i)) (hb : PSs X body (tSts F W Φ ib)) : PS X (.While t body [] pos) (tSt F W Φ (.whl i ib)) :=
  (ps_while C.own ht hb).imp fun D σ H q => by
    obtain ⟨env, st, α, hE, hS, ho⟩ := q
    simp only [evS] at ho
    refine ⟨fun m σ H => ∃ env st α, EvR F.K α H env σ ∧ StR F.K α H st ∧ OutS F W α H (whlF (fun env st => evB Φ env i st) (fun env st => evSs Φ ib env st) m env st) D, ⟨FU, env, st, α, hE, hS, ho⟩, ?_⟩
    rintro m σ1 H1 ⟨env1, st1, α1, hE1, hS1, ho1⟩
    cases m with
    | zero => exact (show False from ho1).elim
    | succ m =>
      rw [whlF] at ho1
      refine (tM.then (m := fun env st => evB Φ env i st) hE1 hS1 ho1).imp fun b H2 ⟨r, st2, α2, a2, r2, ho2⟩ => ?_
      subst r2
      cases r with
      | false => exact ho2 σ1 H2 α2 Pre.refl Ext.refl a2.E a2.S
      | true =>
        refine ⟨_, fun σ' H' w => ⟨m, Nat.lt_succ_self m, w⟩, ?_⟩
        refine ⟨env1, st2, α2, a2.E, a2.S, ?_⟩
        have ho2 : OutS F W α2 H2 ((evSs Φ ib env1 st2).then fun env2 st2 => whlF (fun env st => evB Φ env i st) (fun env st => evSs Φ ib env st) m env2 st2) D := ho2
        show OutS F W α2 H2 (evSs Φ ib env1 st2) _
        cases ee : evSs Φ ib env1 st2 with
        | bad => rw [ee] at ho2; exact ho2
        | rt r st4 => rw [ee] at ho2; exact ho2
        | exc cc fs env4 st4 => rw [ee] at ho2; exact ho2
        | nx env4 st4 =>
          rw [ee] at ho2
          have ho2 : OutS F W α2 H2 (whlF (fun env st => evB Φ env i st) (fun env st => evSs Φ ib env st) m env4 st4) D := ho2
          exact fun σ4 H4 α4 p4 x4 E4 S4 => ⟨env4, st4, α4, E4, S4, ho2.mono p4 x4⟩
/-- raise -/
theorem s_raise (C : Cxs c sc F W Φ k X) {f m : Str} {j j1 : Nat} {p1 p2 p3 pos : Pos} (h : glob c sc f = some (.exc j)) : PS X (.Raise (some (.Call (.Name f p1) [.Constant (.str m) j1 p2] [] p3)) none pos) (tSt F W Φ (.raise j none)) := by
  obtain ⟨h1, ⟨C0, g1, g2, g3, g4, g5, g6⟩, h5, h6⟩ := C.gl h
  refine (ps_raise C.calm C.tk (pmk_own PySem.F.excBase_ValueError g3 g1 g4 (raises_own g5 g6) h1 h5)).imp fun D σ H q => ?_
  obtain ⟨env, st, α, hE, hS, ho⟩ := q
  simp only [evS] at ho
  have q := ho none σ H α Pre.refl Ext.refl hE hS rfl
  rw [g2] at q
  exact q
/-- try -/
def tSuite (v : V) : Addr → Value → Option Addr → TS := fun _ _ _ D _ H => D.rt v H
theorem hd_con {X : Cx} {v : V} {kc : Const} {p : P} {j : Nat} {p2 p3 : Pos} (hk : constOf kc = some p) : ∃ v, (∀ {K : KW} {H : Hp}, Im K H p v) ∧ ∀ (a : Addr) (oe : Obj) (cls : Value) (d : Option Addr) (pn : List (Addr × Obj)), PSs (X.suite a ((a, oe) :: pn)) [.Return (some (.Constant kc j p2)) p3] (tSuite v a cls d) := by
  cases kc <;> cases hk
  · exact ⟨.non, fun {K H} => rfl, fun a oe cls d pn => (pss_one (ps_ret pe_non)).imp fun D σ H q => q⟩
  · exact ⟨.bl _, fun {K H} => rfl, fun a oe cls d pn => (pss_one (ps_ret pe_bl)).imp fun D σ H q => q⟩
  · exact ⟨.int _, fun {K H} => rfl, fun a oe cls d pn => (pss_one (ps_ret pe_int)).imp fun D σ H q => q⟩
  · exact ⟨.str _, fun {K H} => rfl, fun a oe cls d pn => (pss_one (ps_ret pe_str)).imp fun D σ H q => q⟩
theorem clsOf_ok (C : Cxt c sc F W Φ k X) {x : Str} {j : Nat} (h : clsOf c sc x = some j) : Names X x (F.cls j) := by
  unfold clsOf at h
  split at h
  · rename_i j' hg
    cases h
    obtain ⟨h1, ⟨C0, g1, g2, _⟩, h5, h6⟩ := C.gl hg
    exact ⟨h1, h5, .inl (by rw [g1, g2])⟩
  · rename_i j' hg
    cases h
    obtain ⟨h1, ⟨C0, g1, g2⟩, h5, h6⟩ := C.gl hg
    exact ⟨h1, h5, .inl (by rw [g1, g2])⟩
  · cases h
/-- the clauses, as the library has them -/
theorem hds_of (C : Cxt c sc F W Φ k X) : ∀ {hs : List ExceptHandler} {is : List (Nat × Option Nat × Kp.X)}, compHs c sc hs = some is →
    ∃ l : List (Value × (Addr → Value → Option Addr → TS)), HdsOk X hs l ∧ ∀ (Wout : WX) (D : Ends) (cc : Nat) (fs : List (Str × P)) (env : Ev) (st : Sto) (α : List Addr) (H : Hp), cc ∈ c.cs → OutS F Wout α H (handle cc fs env st is) D →
      OutS F (wMany X.K Wout D l) α H (.exc cc fs env st) D
  | [], is, h => by
    cases (show some [] = some is from h)
    exact ⟨[], .nil, fun Wout D cc fs env st α H _ ho => ho⟩
  | hh :: hs, is, h => by
    rw [compHs] at h
    split at h
    · rename_i x xs h1 h2
      cases h
      obtain ⟨l, hl, hw⟩ := hds_of C h2
      unfold compH at h1
      split at h1
      · rename_i y yp kc j2 p2 p3 p4
        split at h1
        · rename_i j p hj hp
          split at h1
          · rename_i hc
            cases h1
            obtain ⟨v, hv, hs2⟩ := hd_con (X := X) (j := j2) (p2 := p2) (p3 := p3) (v := .non) hp
            refine ⟨(F.cls j, tSuite v) :: l, .cons (clsOf_ok C hj) (fun a oe cls d pn _ _ => hs2 a oe cls d pn) hl, fun Wout D cc fs env st α H hcc ho => ?_⟩
            intro d σ' H' α' p' x' E' S' r'
            refine ⟨subC cc j, C.ex cc j hcc (by simpa using hc), fun hb a ha => ?_, fun hb => ?_⟩
            · rw [handle, if_pos hb] at ho
              have ho : OutS F Wout α H (.rt (imp p) st) D := ho
              exact ho v H' α' p' x' S' hv
            · rw [handle, if_neg (by rw [hb]; exact Bool.false_ne_true)] at ho
              exact hw Wout D cc fs env st α H hcc ho d σ' H' α' p' x' E' S' r'
          · cases h1
        · cases h1
      · cases h1
    · cases h
theorem s_try (C : Cxs c sc F W Φ k X) {body : List Stmt} {h0 : ExceptHandler} {hs : List ExceptHandler} {ib : List S} {is : List (Nat × Option Nat × Kp.X)} {pos : Pos} (hh : compHs c sc (h0 :: hs) = some is)
    (hb : ∀ (W' : WX) (X' : Cx), Cxs c sc F W' Φ k X' → PSs X' body (tSts F W' Φ ib)) : PS X (.Try body (h0 :: hs) [] [] pos) (tSt F W Φ (.tr c.cs ib is)) := by
  obtain ⟨l, hl, hw⟩ := hds_of C.toCxt hh
  refine (ps_try_many C.stk C.frm C.tk (tb := fun W' => tSts F W' Φ ib) (fun W' pn xe tk own => ?_) hl).imp fun D σ H q => ?_
  · exact hb W' (X.tr pn xe) ⟨⟨C.hF, C.hN, C.nd, C.sc, C.calm, C.cr, C.room, tk, C.ex, C.g⟩, C.fn, own, C.fun_, C.stk, C.frm⟩
  · obtain ⟨env, st, α, hE, hS, ho⟩ := q
    simp only [evS] at ho
    refine ⟨env, st, α, hE, hS, ?_⟩
    show OutS F _ α H (evSs Φ ib env st) _
    cases ee : evSs Φ ib env st with
    | bad => rw [ee] at ho; exact ho
    | rt r st4 => rw [ee] at ho; exact ho
    | nx env4 st4 => rw [ee] at ho; exact ho
    | exc cc fs env4 st4 =>
      rw [ee] at ho
      have ho : OutS F W α H (if c.cs.contains cc then handle cc fs env4 st4 is else .bad) D := ho
      cases hc : c.cs.contains cc with
      | false => rw [hc] at ho; exact (show False from ho).elim
      | true =>
        rw [hc, if_pos rfl] at ho
        exact hw W D cc fs env4 st4 α H (by simpa using hc) ho
/-- a loop over a list of the store -/
theorem s_forR (C : Cxs c sc F W Φ k X) {tg iter : Expr} {body : List Stmt} {t : Tg} {own : List (Str × Nat)} {i : Kp.X} {ib : List S} {pos : Pos} (ht : tgOf c sc tg = some (t, own)) (hi : PE X iter (tE F W Φ i)) (hb : PSs X body (tSts F W Φ ib)) (hset : isSet iter = false) :
    PS X (.For tg iter body [] pos) (tSt F W Φ (.forR t i ib)) := by
  have hg : PG X tg (gT X.K t) := pg_tgt (c := c) (sc := sc) C.calm (by rw [C.hN]; exact C.nd) ht fun x i hx => C.nm hx
  refine (ps_for C.own C.calm (pi_list (tg := tg) hi) hg hb (fold_id hset X.env)).imp fun D σ H q => ?_
  obtain ⟨env, st, α, hE, hS, ho⟩ := q
  simp only [evS] at ho
  refine (tM.then (m := fun env st => evE Φ env i st) hE hS ho).imp fun v H1 ⟨r, st1, α1, a1, r1, ho⟩ => ?_
  cases r with
  | nl _ => exact (show False from ho).elim
  | nd _ => exact (show False from ho).elim
  | im d =>
    cases d with
    | py _ => exact (show False from ho).elim
    | ref n =>
      obtain ⟨a, ha, ev⟩ := r1
      simp only [] at ho
      cases eo : st1[n]? with
      | none => rw [eo] at ho; exact (show False from ho).elim
      | some ob =>
        rw [eo] at ho
        cases ob with
        | dct _ => exact (show False from ho).elim
        | dead => exact (show False from ho).elim
        | lst zs =>
          obtain ⟨vs, q1, q2, q3⟩ := a1.S.ob _ _ _ eo ha
          refine ⟨a, ev, ⟨vs, .inl (.inl q1)⟩, ?_⟩
          have ho : OutS F W α1 H1 (forRL n zs.length (turnF Φ t ib) zs.length env st1) D := ho
          refine ⟨fun j m σ H => m = zs.length - j ∧ j ≤ zs.length ∧ ∃ env st α, Pre α1 α ∧ EvR F.K α H env σ ∧ StR F.K α H st ∧ OutS F W α H (forRL n zs.length (turnF Φ t ib) (zs.length - j) env st) D,
            ⟨zs.length, by simp, Nat.zero_le _, env, st1, α1, Pre.refl, a1.E, a1.S, ho⟩, ?_⟩
          rintro j m σ2 H2 ⟨rfl, hj, env2, st2, α2, p2, E2, S2, ho⟩
          have ha2 : α2[n]? = some a := p2.get ha
          by_cases hlt : j < zs.length
          · obtain ⟨r, hr⟩ : ∃ r, zs.length - j = r + 1 := ⟨zs.length - j - 1, by omega⟩
            rw [hr, forRL] at ho
            cases eo2 : st2[n]? with
            | none => rw [eo2] at ho; exact (show False from ho).elim
            | some ob2 =>
              rw [eo2] at ho
              cases ob2 with
              | dct _ => exact (show False from ho).elim
              | dead => exact (show False from ho).elim
              | lst zs2 =>
                obtain ⟨ws, g1, g2, g3⟩ := S2.ob _ _ _ eo2 ha2
                simp only [] at ho
                by_cases hz : zs2.length = zs.length
                · rw [if_pos hz] at ho
                  have hidx : zs.length - (r + 1) = j := by omega
                  rw [hidx] at ho
                  have hlt2 : j < zs2.length := by omega
                  have hget := List.getElem?_eq_getElem hlt2
                  obtain ⟨w, hw1, hw2⟩ := g3.get hget
                  rw [hget] at ho
                  refine .inr ⟨⟨ws, w, .inl (.inl g1), hw1⟩, _, fun σ' H' w => ⟨zs.length - (j + 1), by omega, rfl, hlt, w⟩, fun x H3 hy => ?_⟩
                  obtain ⟨e3, hy⟩ := hy
                  subst e3
                  have hx : x = w := by
                    have := hy ws (.inl (.inl g1))
                    rw [hw1] at this
                    exact (Option.some.inj this).symm
                  subst hx
                  have ho : OutS F W α2 _ ((turnF Φ t ib zs2[j] env2 st2).then fun env1 st1 => forRL n zs.length (turnF Φ t ib) r env1 st1) D := ho
                  unfold turnF at ho
                  cases eb : bindT t env2 zs2[j] with
                  | none => rw [eb] at ho; exact (show False from ho).elim
                  | some env3 =>
                    rw [eb] at ho
                    have eK : X.K = F.K.K := by rw [C.hF]
                    rw [eK]
                    refine g_bind E2 hw2 eb fun σ3 E3 _ => ?_
                    refine ⟨env3, st2, α2, E3, S2, ?_⟩
                    have ho : OutS F W α2 _ ((evSs Φ ib env3 st2).then fun env1 st1 => forRL n zs.length (turnF Φ t ib) r env1 st1) D := ho
                    have er : zs.length - (j + 1) = r := by omega
                    show OutS F W α2 _ (evSs Φ ib env3 st2) _
                    cases ee : evSs Φ ib env3 st2 with
                    | bad => rw [ee] at ho; exact ho
                    | rt r st4 => rw [ee] at ho; exact ho
                    | exc cc fs env4 st4 => rw [ee] at ho; exact ho
                    | nx env4 st4 =>
                      rw [ee] at ho
                      have ho : OutS F W α2 _ (forRL n zs.length (turnF Φ t ib) r env4 st4) D := ho
                      exact fun σ4 H4 α4 p4 x4 E4 S4 => ⟨env4, st4, α4, p2.trans p4, E4, S4, by rw [er]; exact ho.mono p4 x4⟩
                · rw [if_neg hz] at ho
                  exact (show False from ho).elim
          · have e : zs.length - j = 0 := by omega
            rw [e, forRL] at ho
            cases eo2 : st2[n]? with
            | none => rw [eo2] at ho; exact (show False from ho).elim
            | some ob2 =>
              rw [eo2] at ho
              cases ob2 with
              | dct _ => exact (show False from ho).elim
              | dead => exact (show False from ho).elim
              | lst zs2 =>
                obtain ⟨ws, g1, g2, g3⟩ := S2.ob _ _ _ eo2 ha2
                simp only [] at ho
                by_cases hz : zs2.length = zs.length
                · rw [if_pos hz] at ho
                  refine .inl ⟨⟨ws, .inl (.inl g1), by rw [← g3.length]; omega⟩, ?_⟩
                  exact ho σ2 H2 α2 Pre.refl Ext.refl E2 S2
                · rw [if_neg hz] at ho
                  exact (show False from ho).elim
/-- o[i] = v -/
def rSetI (F : Fx) : TSet := fun o i v H Q => ∃ α st d kk p st4, StR F.K α H st ∧ DR F.K α H d o ∧ Im F.K H kk i ∧ Im F.K H p v ∧ setop d kk p st = some st4 ∧ ∀ H', Ext H H' → StR F.K α H' st4 → Q H'
theorem set_any (hF : F.K = X.kw) (hu : CR X.A) : PSet X (rSetI F) := by
  intro pins s σ H o i v ov iv u Q I ro ri rv h
  obtain ⟨α, st, d, kk, p, st4, S, hd, hi, hv, e, h⟩ := h
  cases d with
  | py q => cases (show none = some st4 from e)
  | ref n =>
    obtain ⟨a, ha, e1⟩ := hd
    unfold setop at e
    cases e2 : st[n]? with
    | none => simp only [e2] at e; cases e
    | some ob =>
      cases ob with
      | dead => simp only [e2] at e; cases e
      | dct kvs =>
        have e : (if (okKey kvs kk && decide (kvs.length < SZ)) = true then some (st.set n (.dct (dPut kvs kk p))) else none) = some st4 := by
          simp only [e2] at e
          cases kk <;> exact e
        obtain ⟨c, e4⟩ := ite_some e
        subst e4
        rw [Bool.and_eq_true] at c
        obtain ⟨uo, ws, q1, q2, q3, q4⟩ := S.ob n _ a e2 ha
        subst e1
        obtain rfl : ov = .ref a := ro
        have hu : X.A.units + 150 < cLine := hu
        have hw : F.K.w = X.w := by rw [hF]
        refine dd_set (by omega) I q1 (hw ▸ q2) (hF ▸ q4) c.1 (of_decide_eq_true c.2) (imX hF hi) ri (imX hF hv) rv fun u' ws' s' g1 g2 I' => ⟨_, I', h _ (Ext.mut q1 q2.mut) ?_⟩
        have hl := dPut_len (kvs := kvs) (k := kk) (p := p)
        have c2 : kvs.length < sizeLine := of_decide_eq_true c.2
        exact S.put ha q1 q2.mut ⟨u', ws', upd_same, hw.symm ▸ g1, by omega, hF.symm ▸ g2⟩
      | lst xs =>
        cases kk with
        | int kk =>
          simp only [e2] at e
          obtain ⟨vs, q1, q2, q3⟩ := S.ob n _ a e2 ha
          obtain ⟨j, e3, e4⟩ := opt_map e
          subst e4
          rw [q3.length] at e3
          exact set_list pins s σ H o i v ov iv u Q I ro ri rv ⟨a, vs, kk, j, e1, hi, q1, e3, h _ (Ext.lst q1) (S.write ha q1 (by rw [List.length_set]; exact q2) (q3.set j hv))⟩
        | _ => simp only [e2] at e; cases e
theorem s_setI (C : Cxs c sc F W Φ k X) {o i v : Expr} {io ii iv : Kp.X} {p pos : Pos} (ho : PE X o (tE F W Φ io)) (hi : PE X i (tE F W Φ ii)) (hv : PE X v (tE F W Φ iv))
    (hsl : isSlice i = false) (hsw : swapsWithSole [.Subscript o i p] v pos.line X.env = pure false) (hsw2 : swappedStores [.Subscript o i p] v X.env = pure none) :
    PS X (.Assign [.Subscript o i p] v pos) (tSt F W Φ (.setI io ii iv)) := by
  have ha : ∀ u, assign (.Subscript o i p) X.env u = (do
      let ov ← holding [u] (eval o X.env)
      let iv ← holding [u, ov] (eval i X.env)
      standAt p
      holding [u, ov, iv] (setItem ov iv u)
      release [u, ov, iv] []) := by
    intro u
    cases i <;> first | rfl | cases hsl
  have hg : PG X (.Subscript o i p) _ := pg_sub ho hi (set_any (F := F) (X := X) C.hF C.cr) ha
  refine (ps_asg (pe_frz C.hF hv) hg hsw hsw2 rfl).imp fun D σ H q => ?_
  obtain ⟨env, st, α, hE, hS, hq⟩ := q
  simp only [evS] at hq
  refine (tM.then hE hS hq).imp fun v H1 ⟨r, st1, α1, a1, r1, hq⟩ => ?_
  refine (tM.then a1.E a1.S hq).imp fun o' H2 ⟨r', st2, α2, a2, r2, hq⟩ => ?_
  refine (tM.then a2.E a2.S hq).imp fun i' H3 ⟨r'', st3, α3, a3, r3, hq⟩ => ?_
  have hv : DR F.K α3 H3 r.frz v := DR.mono a3.pre a3.ext (DR.mono a2.pre a2.ext r1)
  cases e1 : r.frz with
  | ref n => simp only [e1] at hq; exact (show False from hq).elim
  | py p' =>
    rw [e1] at hv
    have r2 : RvR F.K α2 H2 r' o' := r2
    have r3 : RvR F.K α3 H3 r'' i' := r3
    cases r' with
    | nl _ => simp only [e1] at hq; exact (show False from hq).elim
    | nd _ => simp only [e1] at hq; exact (show False from hq).elim
    | im d =>
      cases r'' with
      | nl _ => simp only [e1] at hq; exact (show False from hq).elim
      | nd _ => simp only [e1] at hq; exact (show False from hq).elim
      | im d2 =>
        cases d2 with
        | ref _ => simp only [e1] at hq; exact (show False from hq).elim
        | py kk =>
          simp only [e1] at hq
          cases e2 : setop d kk p' st3 with
          | none => rw [e2] at hq; exact (show False from hq).elim
          | some st4 =>
            rw [e2] at hq
            exact ⟨α3, st3, d, kk, p', st4, a3.S, DR.mono a3.pre a3.ext r2, r3, hv, e2, fun H' x S => hq σ H' α3 Pre.refl x (a3.E.mono Pre.refl x) S⟩
/-- values for names -/
theorem push_out {σ : L2.St} {α : List Addr} {H : Hp} {st : Sto} {r : Rv} {v : V} {new : Bool} {Q : V → Hp → Prop} (hS : StR F.K α H st) (hr : RvR F.K α H r v)
    (ho : Out F W (DR F.K) σ α H (pushD new r st) Q) : Q v H ∨ ∃ a u, v = .ref a ∧ H a = some u ∧ Mut (some u) ∧ ∀ o, Q v (upd H a (.frz o u)) := by
  cases r with
  | im d =>
    have e : pushD new (.im d) st = .ok d st := by cases new <;> rfl
    rw [e] at ho
    exact .inl (ho v H α Pre.refl Ext.refl hS hr)
  | nd kvs =>
    obtain ⟨a, u, ws, e, h1, h2, h3, h4, h5⟩ := hr
    subst e
    cases new with
    | true => exact .inl (ho (.ref a) H (α ++ [a]) ⟨[a], rfl⟩ Ext.refl (hS.adopt ⟨u, ws, h1, h2, h3, h4⟩ h5) ⟨a, last_addr hS.len, rfl⟩)
    | false =>
      refine .inr ⟨a, u, rfl, h1, h2.mut, fun o => ?_⟩
      have x : Ext H (upd H a (.frz o u)) := Ext.mut h1 h2.mut
      exact ho (.ref a) _ α Pre.refl x (hS.froz h1 h2.mut h5) ⟨a, o, u, ws, rfl, upd_same, h2, h3, ImKvs.ext x _ _ h4⟩
  | nl xs =>
    obtain ⟨a, vs, e, h1, h2, h3, h4⟩ := hr
    subst e
    cases new with
    | true => exact .inl (ho (.ref a) H (α ++ [a]) ⟨[a], rfl⟩ Ext.refl (hS.adopt ⟨vs, h1, h2, h3⟩ h4) ⟨a, last_addr hS.len, rfl⟩)
    | false =>
      refine .inr ⟨a, _, rfl, h1, trivial, fun o => ?_⟩
      have x : Ext H (upd H a (.frz o (.lst vs))) := Ext.lst h1
      exact ho (.ref a) _ α Pre.refl x (hS.froz h1 trivial h4) ⟨a, vs, rfl, .inl ⟨o, upd_same⟩, h2, ImAll.ext x _ _ h3⟩
theorem pe_push {e : Expr} {i : Kp.X} {new : Bool} (h : PE X e (tE F W Φ i)) : PE X e (tM F W (DR F.K) (fun env st => (evE Φ env i st).bind fun r st1 => pushD new r st1)) := by
  refine ⟨fun pins s σ H Q I q => ?_⟩
  obtain ⟨env, st, α, hE, hS, ho⟩ := q
  refine thn (h.run pins s σ H (fun v H1 => (Q v H1) ∨ ∃ a y, v = .ref a ∧ H1 a = some y ∧ Mut (some y) ∧ ∀ o, Q v (upd H1 a (.frz o y))) I ((tM.bind hE hS ho).imp fun v H1 ⟨r, st1, α1, a1, r1, ho⟩ => push_out a1.S r1 ho)) fun u s1 hq => ?_
  obtain ⟨v, H1, I1, rv, hq⟩ := hq
  rcases hq with hq | ⟨a, y, e1, h1, hm, hq⟩
  · exact ⟨v, H1, I1, rv, hq⟩
  · obtain ⟨o, I2⟩ := I1.lock h1 hm
    exact ⟨v, _, I2, rv, hq o⟩
abbrev tP (F : Fx) (W : WX) (Φ : Nat → List Kp.D → Sto → R Rv) (is : List (Bool × Kp.X)) : TA := tM F W (DRs F.K) (fun env st => evPar Φ env is st)
theorem p_nil : PA X [] (tP F W Φ []) := pa_nil.imp fun σ H Q q => by
  obtain ⟨env, st, α, hE, hS, ho⟩ := q
  simp only [evPar] at ho
  exact ho [] H α Pre.refl Ext.refl hS rfl
theorem p_cons {e : Expr} {es : List Expr} {i : Kp.X} {new : Bool} {is : List (Bool × Kp.X)} (he : PE X e (tE F W Φ i)) (hs : PA X es (tP F W Φ is)) (hn : noStar e = true) : PA X (e :: es) (tP F W Φ ((new, i) :: is)) :=
  (pa_cons (pe_push (new := new) he) hs (star_cons hn)).imp fun σ H Q q => by
    obtain ⟨env, st, α, hE, hS, ho⟩ := q
    simp only [evPar] at ho
    refine (tM.bind (m := fun env st => (evE Φ env i st).bind fun r st1 => pushD new r st1) hE hS ho).imp fun x H1 ⟨r, st1, α1, a1, r1, ho⟩ => ?_
    refine (tM.bind a1.E a1.S ho).imp fun vs H2 ⟨ds, st2, α2, a2, r2, ho⟩ => ?_
    exact ho (x :: vs) H2 α2 Pre.refl Ext.refl a2.S ⟨x, vs, rfl, DR.mono a2.pre a2.ext r1, r2⟩
theorem par_then {is : List Nat} {es : List (Bool × Kp.X)} : ∀ D σ H, tSt F W Φ (.par is es) D σ H → tP F W Φ es σ H fun vs H1 => ∃ ds st1 α1 env, DRs F.K α1 H1 ds vs ∧ EvR F.K α1 H1 env σ ∧ StR F.K α1 H1 st1 ∧ OutS F W α1 H1 (if ds.length = is.length then .nx (setDs env is ds) st1 else .bad) D := fun D σ H q => by
  obtain ⟨env, st, α, hE, hS, ho⟩ := q
  simp only [evS] at ho
  exact (tM.then hE hS ho).imp fun vs H1 ⟨r, st1, α1, a1, r1, ho⟩ => ⟨r, st1, α1, env, r1, a1.E, a1.S, ho⟩
theorem swap2 {env : Env} {x y : Str} {px py pt pt2 : Pos} {kt k2 : Nat} {a b : Expr} (hk : env.scope.kind = .function) (hx : env.scope.names.lookup x = some .local) (hy : env.scope.names.lookup y = some .local) (hl : (px.line == py.line) = true) (hne : (x != y) = true)
    (na : noStar a = true) (nb : noStar b = true) (h1 : [a, b].all (foldedForSure 8) = false) (h2 : [a, b].all (constantsAlone 8) = false) :
    swappedStores [.Tuple [.Name x px, .Name y py] kt pt] (.Tuple [a, b] k2 pt2) env = pure (some [x, y]) := by
  have hb : env.blockKind = .function := by unfold Env.blockKind; rw [hk]; rfl
  have kx : env.kindOf x = some .local := hx
  have ky : env.kindOf y = some .local := hy
  have hne' : ¬ y = x := fun e => by subst e; simp at hne
  have hl' : px.line = py.line := by simpa using hl
  unfold swappedStores
  simp only [hb, h1, h2, Expr.pos, kx, ky, List.length_cons, List.length_nil, List.head?_cons, Option.map_some, Option.getD_some, List.filterMap_cons, List.filterMap_nil, pure_bind, hl']
  simp [hne', List.eraseDups_cons, kx, ky, Expr.pos, hl']
  intro h
  exfalso
  rcases h with h | h
  · cases a <;> first | (cases na; done) | (cases h; done)
  · cases b <;> first | (cases nb; done) | (cases h; done)
theorem swap3 {env : Env} {x y z : Str} {px py pz pt pt2 : Pos} {kt k2 : Nat} {a b d : Expr} (hk : env.scope.kind = .function) (hx : env.scope.names.lookup x = some .local) (hy : env.scope.names.lookup y = some .local) (hz : env.scope.names.lookup z = some .local)
    (hl : (px.line == py.line) = true) (hl2 : (px.line == pz.line) = true) (hne : (x != y) = true) (hne2 : (x != z) = true) (hne3 : (y != z) = true)
    (na : noStar a = true) (nb : noStar b = true) (nd : noStar d = true) (h1 : [a, b, d].all (foldedForSure 8) = false) (h2 : [a, b, d].all (constantsAlone 8) = false) :
    swappedStores [.Tuple [.Name x px, .Name y py, .Name z pz] kt pt] (.Tuple [a, b, d] k2 pt2) env = pure (some [x, y, z]) := by
  have hb : env.blockKind = .function := by unfold Env.blockKind; rw [hk]; rfl
  have kx : env.kindOf x = some .local := hx
  have ky : env.kindOf y = some .local := hy
  have kz : env.kindOf z = some .local := hz
  have e1 : ¬ y = x := fun e => by subst e; simp at hne
  have e2 : ¬ z = x := fun e => by subst e; simp at hne2
  have e3 : ¬ z = y := fun e => by subst e; simp at hne3
  have hl' : px.line = py.line := by simpa using hl
  have hl2' : px.line = pz.line := by simpa using hl2
  unfold swappedStores
  simp only [hb, h1, h2, Expr.pos, kx, ky, kz, List.length_cons, List.length_nil, List.head?_cons, Option.map_some, Option.getD_some, List.filterMap_cons, List.filterMap_nil, pure_bind, hl', hl2']
  simp [e1, e2, e3, List.eraseDups_cons, kx, ky, kz, Expr.pos, ← hl', ← hl2']
  intro h
  exfalso
  rcases h with h | h | h
  · cases a <;> first | (cases na; done) | (cases h; done)
  · cases b <;> first | (cases nb; done) | (cases h; done)
  · cases d <;> first | (cases nd; done) | (cases h; done)
theorem swapF {env : Env} {ts vs : List Expr} {kt k2 : Nat} {pt pt2 : Pos} (h1 : vs.all (foldedForSure 8) = true) : swappedStores [.Tuple ts kt pt] (.Tuple vs k2 pt2) env = pure none := by
  unfold swappedStores
  simp only [h1, if_true]
  repeat' (first | rfl | split)
theorem swapN {env : Env} {ts : List Expr} {kt : Nat} {pt : Pos} {v : Expr} (h : (match v with | .Tuple .. => false | _ => true) = true) : swappedStores [.Tuple ts kt pt] v env = pure none := by
  cases v <;> first | rfl | cases h
theorem swapSub {env : Env} {o i : Expr} {p : Pos} {v : Expr} : swappedStores [.Subscript o i p] v env = pure none := by
  cases v <;> rfl
theorem noComp {v : Expr} (h : isComp v = false) (t : Option Expr) (l : Nat) (env : Env) : swapsWith v t l env = pure false := by
  cases v <;> first | rfl | cases h
end
end Kp

/-! Kp, part 12: every statement; defs. -/
namespace Kp
open PySem PySem.Spec PyProof.Rows L2
section
variable {c : Cfg} {sc : Scope} {F : Fx} {W : WX} {Φ : Nat → List D → Sto → R Rv} {k : Nat} {X : Cx}
theorem noCompS {v : Expr} (h : isComp v = false) (t : Expr) (l : Nat) (env : Env) : swapsWithSole [t] v l env = pure false := noComp h (some t) l env
theorem nameP_inv : ∀ {ts : List Expr} {xs : List (Str × Pos)}, ts.mapM nameP = some xs → ts = xs.map fun p => .Name p.1 p.2
  | [], xs, h => by have h : [] = xs := by simpa using h
                    subst h; rfl
  | t :: ts, xs, h => by
    rw [List.mapM_cons] at h
    cases t <;> try (cases h; done)
    rename_i x px
    cases q : ts.mapM nameP with
    | none => rw [q] at h; cases h
    | some ys =>
      rw [q] at h
      have h : (x, px) :: ys = xs := by simpa [nameP] using h
      subst h
      rw [nameP_inv q]
      rfl
theorem nameOf_map : ∀ {xs : List (Str × Pos)}, (xs.map fun p => Expr.Name p.1 p.2).mapM nameOf = some (xs.map (·.1))
  | [] => rfl
  | x :: xs => by
    rw [List.map_cons, List.mapM_cons, nameOf_map]
    rfl
theorem isLocal_ok {x : Str} (h : isLocal sc x = true) : sc.names.lookup x = some .local := by
  unfold isLocal at h
  split at h
  · assumption
  · cases h
theorem setDs2 {env : Ev} {i j : Nat} {d e : Kp.D} : setDs env [i, j] [d, e] = (env.set i (some d)).set j (some e) := rfl
theorem ne_of_slots {x y : Str} {i j : Nat} {N : List Str} (h1 : N[i]? = some x) (h2 : N[j]? = some y) (hne : (x != y) = true) : i ≠ j := fun e => by
  subst e
  rw [h1] at h2
  have : x = y := Option.some.inj h2
  subst this
  simp at hne
theorem s_par2 (C : Cxs c sc F W Φ k X) {x y : Str} {i j : Nat} {a b : Expr} {es : List (Bool × Kp.X)} {px py pt pt2 pos : Pos} {kt k2 : Nat} (hx : slotOwn c sc x = some i) (hy : slotOwn c sc y = some j) (lx : isLocal sc x = true) (ly : isLocal sc y = true)
    (hl : (px.line == py.line) = true) (hne : (x != y) = true) (na : noStar a = true) (nb : noStar b = true) (h1 : [a, b].all (foldedForSure 8) = false) (h2 : [a, b].all (constantsAlone 8) = false) (ha : PA X [a, b] (tP F W Φ es)) :
    PS X (.Assign [.Tuple [.Name x px, .Name y py] kt pt] (.Tuple [a, b] k2 pt2) pos) (tSt F W Φ (.par [i, j] es)) := by
  obtain ⟨n1, n2, n3⟩ := C.nm hx
  obtain ⟨m1, m2, m3⟩ := C.nm hy
  have lx' : X.env.scope.names.lookup x = some .local := by rw [C.sc]; exact isLocal_ok lx
  have ly' : X.env.scope.names.lookup y = some .local := by rw [C.sc]; exact isLocal_ok ly
  refine (ps_par C.calm (by rw [C.hN]; exact C.nd) n1 m1 (ne_of_slots n1 m1 hne) lx' ly' ha (swap2 C.fun_ lx' ly' hl hne na nb h1 h2) rfl).imp fun D σ H q => ?_
  refine (par_then D σ H q).imp fun vs H1 ⟨ds, st1, α1, env, r1, hE, hS, ho⟩ => ?_
  split at ho
  · rename_i hlen
    rcases ds with _ | ⟨d, _ | ⟨e, _ | ⟨g, ds⟩⟩⟩
    · cases hlen
    · cases hlen
    · obtain ⟨v, r, e1, q1, r2⟩ := r1
      obtain ⟨w, r', e2, q2, r3⟩ := r2
      have r3 : r' = [] := r3
      subst r3 e2
      exact ⟨v, w, e1, ho _ H1 α1 Pre.refl Ext.refl ((hE.set i q1).set j q2) hS⟩
    · cases hlen
  · exact ho.elim
theorem s_par3 (C : Cxs c sc F W Φ k X) {x y z : Str} {i j l : Nat} {a b d : Expr} {es : List (Bool × Kp.X)} {px py pz pt pt2 pos : Pos} {kt k2 : Nat} (hx : slotOwn c sc x = some i) (hy : slotOwn c sc y = some j) (hz : slotOwn c sc z = some l) (lx : isLocal sc x = true) (ly : isLocal sc y = true) (lz : isLocal sc z = true)
    (hl : (px.line == py.line) = true) (hl2 : (px.line == pz.line) = true) (hne : (x != y) = true) (hne2 : (x != z) = true) (hne3 : (y != z) = true) (na : noStar a = true) (nb : noStar b = true) (nd : noStar d = true)
    (h1 : [a, b, d].all (foldedForSure 8) = false) (h2 : [a, b, d].all (constantsAlone 8) = false) (ha : PA X [a, b, d] (tP F W Φ es)) :
    PS X (.Assign [.Tuple [.Name x px, .Name y py, .Name z pz] kt pt] (.Tuple [a, b, d] k2 pt2) pos) (tSt F W Φ (.par [i, j, l] es)) := by
  obtain ⟨n1, n2, n3⟩ := C.nm hx
  obtain ⟨m1, m2, m3⟩ := C.nm hy
  obtain ⟨o1, o2, o3⟩ := C.nm hz
  have lx' : X.env.scope.names.lookup x = some .local := by rw [C.sc]; exact isLocal_ok lx
  have ly' : X.env.scope.names.lookup y = some .local := by rw [C.sc]; exact isLocal_ok ly
  have lz' : X.env.scope.names.lookup z = some .local := by rw [C.sc]; exact isLocal_ok lz
  refine (ps_par3 C.calm (by rw [C.hN]; exact C.nd) n1 m1 o1 (ne_of_slots n1 m1 hne) (ne_of_slots n1 o1 hne2) (ne_of_slots m1 o1 hne3) lx' ly' lz' ha (swap3 C.fun_ lx' ly' lz' hl hl2 hne hne2 hne3 na nb nd h1 h2) rfl).imp fun D σ H q => ?_
  refine (par_then D σ H q).imp fun vs H1 ⟨ds, st1, α1, env, r1, hE, hS, ho⟩ => ?_
  split at ho
  · rename_i hlen
    rcases ds with _ | ⟨d, _ | ⟨e, _ | ⟨g, _ | ⟨g2, ds⟩⟩⟩⟩
    · cases hlen
    · cases hlen
    · cases hlen
    · obtain ⟨v, r, e1, q1, r2⟩ := r1
      obtain ⟨w, r', e2, q2, r3⟩ := r2
      obtain ⟨w3, r'', e3, q3, r4⟩ := r3
      have r4 : r'' = [] := r4
      subst r4 e3 e2
      exact ⟨v, w, w3, e1, ho _ H1 α1 Pre.refl Ext.refl (((hE.set i q1).set j q2).set l q3) hS⟩
    · cases hlen
  · exact ho.elim
theorem s_unp (C : Cxs c sc F W Φ k X) {ts : List Expr} {xs : List (Str × Pos)} {is : List Nat} {v : Expr} {i : Kp.X} {kt : Nat} {pt pos : Pos} (ht : ts.mapM nameP = some xs) (hi : xs.mapM (fun p => slotOwn c sc p.1) = some is) (he : PE X v (tE F W Φ i)) (hc : isComp v = false)
    (hsw : swappedStores [.Tuple ts kt pt] v X.env = pure none) : PS X (.Assign [.Tuple ts kt pt] v pos) (tSt F W Φ (.unp is i)) := by
  have hN : X.N.Nodup := by rw [C.hN]; exact C.nd
  have hl := mapM_len hi
  obtain ⟨g1, g2, g3⟩ := pgs_names (X := X) hN (es := ts) (xs := xs.map (·.1)) (is := is) (by rw [nameP_inv ht]; exact nameOf_map) (by rw [List.length_map]; exact hl) fun p hp => by
    rw [List.zip_map_left] at hp
    obtain ⟨q, hq, e⟩ := List.mem_map.mp hp
    subst e
    exact C.nm (mapM_mem hi q hq)
  refine (ps_asg he (pg_tup C.calm g1 g2 g3) (noCompS hc _ _ _) hsw rfl).imp fun D σ H q => ?_
  obtain ⟨env, st, α, hE, hS, ho⟩ := q
  simp only [evS] at ho
  refine (tM.then hE hS ho).imp fun v H1 ⟨r, st1, α1, a1, r1, ho⟩ => ?_
  split at ho
  · rename_i ys
    split at ho
    · rename_i hlen
      obtain ⟨a, vs, e, h1, z1, i1⟩ := r1
      refine ⟨a, vs, e, (by first | exact sqlX C.hF (h1) | exact sqtX C.hF (h1)), by rw [← i1.length]; exact hlen, gNs_bind a1.E i1 hlen fun σ1 E1 _ => ho σ1 H1 α1 Pre.refl Ext.refl E1 a1.S⟩
    · exact ho.elim
  · exact ho.elim
/-- name = value -/
theorem s_asgE (C : Cxs c sc F W Φ k X) {x : Str} {i : Nat} {new : Bool} {v : Expr} {e : Kp.X} {px pos : Pos} (hx : slotOwn c sc x = some i) (hv : compE c sc v = some e) (hok : (okAsg sc x px v).isSome = true) : PS X (.Assign [.Name x px] v pos) (tSt F W Φ (.asg i new e)) := by
  have he := (sndE v c sc F W Φ k X C.toCxt e hv).1
  by_cases hc : isComp v = true
  · cases v <;> try (cases hc; done)
    · rename_i elt gens scope lpos
      simp only [okAsg] at hok
      split at hok
      · rename_i hk
        split at hok
        · rename_i hcnd
          rw [Bool.and_eq_true] at hcnd
          obtain ⟨n1, n2, n3⟩ := C.nm hx
          have hxl : X.env.scope.names.lookup x = some .local := by rw [C.sc]; exact hk
          -- the comprehension's parts
          have hg : ∃ tg iter ifs, gens = [⟨tg, iter, ifs, 0⟩] := by
            rcases gens with _ | ⟨⟨tg, iter, ifs, nn⟩, _ | ⟨g2, gs⟩⟩
            · simp only [compE] at hv; cases hv
            · by_cases z : nn = 0
              · exact ⟨tg, iter, ifs, by rw [z]⟩
              · exfalso
                rw [compE] at hv
                · cases hv
                all_goals (intros; simp_all)
            · simp only [compE] at hv; cases hv
          obtain ⟨tg, iter, ifs, eg⟩ := hg
          subst eg
          simp only [compE] at hv
          split at hv
          · rename_i t own ht
            split at hv
            · rename_i hb
              rw [Bool.and_eq_true] at hb
              split at hv
              · rename_i ik is fs xx hi hf hxx
                cases hv
                have L : LcOk C.toCxt tg iter elt ifs scope t own ik is fs xx := ⟨ht, hb.1, (i_any C.toCxt hi (fun i hi => (sndE iter c sc F W Φ k X C.toCxt i hi).1) (sndA iter c sc F W Φ k X C.toCxt)).1, (i_any (tg := tg) C.toCxt hi (fun i hi => (sndE iter c sc F W Φ k X C.toCxt i hi).1) (sndA iter c sc F W Φ k X C.toCxt)).2, fun X' C' => pts_of (of_decide_eq_true hb.2) (noStars_of hf).2 (sndF ifs c (relS scope sc) F NoW Φ k X' C' fs hf), fun X' C' => (sndE elt c (relS scope sc) F NoW Φ k X' C' xx hxx).1⟩
                have hsw : swapsWith (.ListComp elt [⟨tg, iter, ifs, 0⟩] scope lpos) (some (.Name x px)) pos.line X.env = pure true := sw_true C.fun_ hxl hcnd.1 (by simpa using hcnd.2)
                exact (ps_frz (s_asgLc (pos := lpos) (spos := pos) C.toCxt L n1 hxl hsw)).imp asg_imp
              · cases hv
            · cases hv
          · cases hv
        · cases hok
      · rename_i hk
        refine s_asg C hx he ?_
        have kx : X.env.kindOf x = some .cell := by show X.env.scope.names.lookup x = _; rw [C.sc]; exact hk
        have hz : (NameKind.cell == NameKind.local) = false := rfl
        unfold swapsWith
        simp only [kx]
        show pure (X.env.blockKind == ScopeKind.function && (NameKind.cell == NameKind.local) && _ && _) = pure false
        rw [hz]
        simp
      · cases hok
    · cases hok
    · cases hok
  · exact s_asg C hx he (noComp (by simpa using hc) _ _ _)
theorem sndP (C : Cxt c sc F W Φ k X) : ∀ {vs : List Expr} {es : List Kp.X} (bs : List Bool), compEs c sc vs = some es → bs.length = es.length → PA X vs (tP F W Φ (bs.zip es))
  | [], es, bs, h, hl => by
    simp only [compEs] at h
    cases h
    rw [List.zip_nil_right]
    exact p_nil
  | v :: vs, es, bs, h, hl => by
    simp only [compEs] at h
    split at h
    · rename_i x xs h1 h2
      cases h
      cases bs with
      | nil => cases hl
      | cons b bs =>
        rw [List.zip_cons_cons]
        exact p_cons (sndE v c sc F W Φ k X C x h1).1 (sndP C bs h2 (by simpa using hl)) (noStar_of h1)
    · cases h
theorem slotsM_inv {xs : List (Str × Pos)} {is : List Nat} (h : xs.mapM (fun p => slotOwn c sc p.1) = some is) : xs.length = is.length ∧ ∀ p ∈ xs.zip is, slotOwn c sc p.1.1 = some p.2 := ⟨mapM_len h, fun p hp => mapM_mem h p hp⟩
theorem parOk_two {x y : Str} {px py : Pos} {vs : List Expr} (h : parOk sc [(x, px), (y, py)] vs = true) : ∃ a b, vs = [a, b] ∧ (px.line == py.line) = true ∧ (x != y) = true ∧ isLocal sc x = true ∧ isLocal sc y = true ∧ vs.all (foldedForSure 8) = false ∧ vs.all (constantsAlone 8) = false := by
  simp only [parOk, Bool.and_eq_true, List.all_cons, List.all_nil, Bool.not_eq_true'] at h
  obtain ⟨⟨⟨⟨h1, h2⟩, h3⟩, h4⟩, h5⟩ := h
  have h5 : vs.length = 2 := by simpa using h5
  rcases vs with _ | ⟨a, _ | ⟨b, _ | ⟨d, vs⟩⟩⟩ <;> try (cases h5; done)
  exact ⟨a, b, rfl, h1.1, h1.2, h2.1, h2.2.1, h3, h4⟩
theorem parOk_three {x y z : Str} {px py pz : Pos} {vs : List Expr} (h : parOk sc [(x, px), (y, py), (z, pz)] vs = true) : ∃ a b d, vs = [a, b, d] ∧ (px.line == py.line) = true ∧ (px.line == pz.line) = true ∧ (x != y) = true ∧ (x != z) = true ∧ (y != z) = true ∧ isLocal sc x = true ∧ isLocal sc y = true ∧ isLocal sc z = true ∧
    vs.all (foldedForSure 8) = false ∧ vs.all (constantsAlone 8) = false := by
  simp only [parOk, Bool.and_eq_true, List.all_cons, List.all_nil, Bool.not_eq_true'] at h
  obtain ⟨⟨⟨⟨h1, h2⟩, h3⟩, h4⟩, h5⟩ := h
  have h5 : vs.length = 3 := by simpa using h5
  rcases vs with _ | ⟨a, _ | ⟨b, _ | ⟨d, _ | ⟨g, vs⟩⟩⟩⟩ <;> try (cases h5; done)
  exact ⟨a, b, d, rfl, h1.1.1.1.1, h1.1.1.1.2, h1.1.1.2, h1.1.2, h1.2, h2.1, h2.2.1, h2.2.2.1, h3, h4⟩
/-- a, b = x, y -/
theorem s_par (C : Cxs c sc F W Φ k X) {xs : List (Str × Pos)} {is : List Nat} {vs : List Expr} {es : List Kp.X} {bs : List Bool} {kt k2 : Nat} {pt pt2 pos : Pos} (hi : xs.mapM (fun p => slotOwn c sc p.1) = some is) (hv : compEs c sc vs = some es) (hok : parOk sc xs vs = true) (hb : bs.length = xs.length) :
    PS X (.Assign [.Tuple (xs.map fun p => .Name p.1 p.2) kt pt] (.Tuple vs k2 pt2) pos) (tSt F W Φ (.par is (bs.zip es))) := by
  obtain ⟨hl, hm⟩ := slotsM_inv hi
  obtain ⟨ns, nl⟩ := noStars_of hv
  rcases xs with _ | ⟨⟨x, px⟩, _ | ⟨⟨y, py⟩, _ | ⟨⟨z, pz⟩, _ | ⟨q, xs⟩⟩⟩⟩
  · exact absurd hok (by simp [parOk])
  · exact absurd hok (by simp [parOk])
  · obtain ⟨a, b, e, c1, c2, c3, c4, c5, c6⟩ := parOk_two hok
    subst e
    rcases is with _ | ⟨i, _ | ⟨j, _ | ⟨l, is⟩⟩⟩ <;> try (cases hl; done)
    rw [List.all_cons, List.all_cons, Bool.and_eq_true, Bool.and_eq_true] at ns
    exact s_par2 C (hm ((x, px), i) (by simp)) (hm ((y, py), j) (by simp)) c3 c4 c1 c2 ns.1 ns.2.1 c5 c6 (sndP C.toCxt bs hv (by rw [hb, ← nl]; rfl))
  · obtain ⟨a, b, d, e, c1, c2, c3, c4, c5, c6, c7, c8, c9, c10⟩ := parOk_three hok
    subst e
    rcases is with _ | ⟨i, _ | ⟨j, _ | ⟨l, _ | ⟨m, is⟩⟩⟩⟩ <;> try (cases hl; done)
    rw [List.all_cons, List.all_cons, List.all_cons, Bool.and_eq_true, Bool.and_eq_true, Bool.and_eq_true] at ns
    exact s_par3 C (hm ((x, px), i) (by simp)) (hm ((y, py), j) (by simp)) (hm ((z, pz), l) (by simp)) c6 c7 c8 c1 c2 c3 c4 c5 ns.1 ns.2.1 ns.2.2.1 c9 c10 (sndP C.toCxt bs hv (by rw [hb, ← nl]; rfl))
  · exact absurd hok (by simp [parOk])
/-- an assignment -/
theorem s_assignAny (C : Cxs c sc F W Φ k X) {ts : List Expr} {v : Expr} {pos : Pos} {i : S} (h : compS c sc (.Assign ts v pos) = some i) : PS X (.Assign ts v pos) (tSt F W Φ i) := by
  match ts, h with
  | [.Name x px], h =>
    simp only [compS] at h
    split at h
    · rename_i j e h1 h2
      split at h
      · rename_i hok
        cases h
        exact s_asgE C h1 h2 hok
      · cases h
    · cases h
  | [.Subscript o i p], h =>
    simp only [compS] at h
    split at h
    · cases h
    · rename_i hc
      split at h
      · rename_i x y z h1 h2 h3
        cases h
        exact s_setI C (sndE o c sc F W Φ k X C.toCxt x h1).1 (sndE i c sc F W Φ k X C.toCxt y h2).1 (sndE v c sc F W Φ k X C.toCxt z h3).1 (by cases i <;> first | rfl | (simp only [compE] at h2; cases h2)) (noCompS (by simpa using hc) _ _ _) swapSub
      · cases h
  | [.Tuple ts kt pt], h =>
    simp only [compS] at h
    split at h
    · rename_i xs hx
      split at h
      · rename_i is hi
        split at h
        · rename_i vs k2 pt2
          split at h
          · rename_i hok
            obtain ⟨es, e1, e2⟩ := opt_map h
            subst e2
            rw [nameP_inv hx]
            exact s_par C hi e1 hok (by rw [List.length_map])
          · split at h
            · rename_i hf
              obtain ⟨e, e1, e2⟩ := opt_map h
              subst e2
              exact s_unp C hx hi (sndE _ c sc F W Φ k X C.toCxt e e1).1 rfl (swapF hf)
            · cases h
        · rename_i v' hnt
          split at h
          · cases h
          · rename_i hc
            obtain ⟨e, e1, e2⟩ := opt_map h
            subst e2
            refine s_unp C hx hi (sndE _ c sc F W Φ k X C.toCxt e e1).1 (by simpa using hc) (swapN ?_)
            cases v <;> first | rfl | (exfalso; exact hnt _ _ _ rfl)
      · cases h
    · cases h
  | [], h => simp only [compS] at h; cases h
  | t :: t2 :: ts, h => cases t <;> exact absurd (show none = some i from h) (by simp)
  | [.BoolOp ..], h => simp only [compS] at h; cases h
  | [.NamedExpr ..], h => simp only [compS] at h; cases h
  | [.BinOp ..], h => simp only [compS] at h; cases h
  | [.UnaryOp ..], h => simp only [compS] at h; cases h
  | [.Lambda ..], h => simp only [compS] at h; cases h
  | [.IfExp ..], h => simp only [compS] at h; cases h
  | [.Dict ..], h => simp only [compS] at h; cases h
  | [.Set ..], h => simp only [compS] at h; cases h
  | [.ListComp ..], h => simp only [compS] at h; cases h
  | [.SetComp ..], h => simp only [compS] at h; cases h
  | [.DictComp ..], h => simp only [compS] at h; cases h
  | [.GeneratorExp ..], h => simp only [compS] at h; cases h
  | [.Await ..], h => simp only [compS] at h; cases h
  | [.Yield ..], h => simp only [compS] at h; cases h
  | [.YieldFrom ..], h => simp only [compS] at h; cases h
  | [.Compare ..], h => simp only [compS] at h; cases h
  | [.Call ..], h => simp only [compS] at h; cases h
  | [.FormattedValue ..], h => simp only [compS] at h; cases h
  | [.JoinedStr ..], h => simp only [compS] at h; cases h
  | [.Constant ..], h => simp only [compS] at h; cases h
  | [.Attribute ..], h => simp only [compS] at h; cases h
  | [.Starred ..], h => simp only [compS] at h; cases h
  | [.List ..], h => simp only [compS] at h; cases h
  | [.Slice ..], h => simp only [compS] at h; cases h
theorem s_raiseAny (C : Cxs c sc F W Φ k X) {e cse : Option Expr} {pos : Pos} {i : S} (h : compS c sc (.Raise e cse pos) = some i) : PS X (.Raise e cse pos) (tSt F W Φ i) := by
  simp only [compS] at h
  unfold compRaise at h
  split at h
  · split at h
    · rename_i hj
      split at h
      · cases h
        exact s_raise C hj
      · cases h
    · cases h
  · cases h
/-- code that is never come to -/
theorem s_never {s : Stmt} : PS X s (tSt F W Φ .never) := ps_never.imp fun D σ H q => by
  obtain ⟨env, st, α, hE, hS, ho⟩ := q
  simp only [evS] at ho
  exact ho
/-- a value dropped -/
theorem s_exprAny (C : Cxs c sc F W Φ k X) {e : Expr} {pos : Pos} {i : S} (h : compS c sc (.Expr e pos) = some i) : PS X (.Expr e pos) (tSt F W Φ i) := by
  by_cases hd : ∃ x j p, e = .Constant (.str x) j p
  · obtain ⟨x, j, p, e1⟩ := hd
    subst e1
    simp only [compS] at h
    cases h
    exact s_pass ps_doc
  · rw [compS] at h
    · split at h
      · cases h
      · rename_i hc
        obtain ⟨y, e1, e2⟩ := opt_map h
        subst e2
        exact s_expr (sndE e c sc F W Φ k X C.toCxt y e1).1 (noComp (by simpa using hc) _ _ _)
    · intro x j p e1
      exact hd ⟨x, j, p, e1⟩
end

mutual
theorem sndS (s : Stmt) (c : Cfg) (sc : Scope) (F : Fx) (W : WX) (Φ : Nat → List D → Sto → R Rv) (k : Nat) (X : Cx) (C : Cxs c sc F W Φ k X) (i : S) (h : compS c sc s = some i) : PS X s (tSt F W Φ i) := by
  match s, h with
  | .Assign ts v pos, h => exact s_assignAny C h
  | .Return (some e) pos, h =>
    simp only [compS] at h
    obtain ⟨x, e1, e2⟩ := opt_map h
    subst e2
    exact s_ret (sndE e c sc F W Φ k X C.toCxt x e1).1
  | .Return none pos, h =>
    simp only [compS] at h
    cases h
    exact s_retN
  | .If t a b pos, h =>
    simp only [compS] at h
    split at h
    · rename_i x y z h1 h2 h3
      cases h
      exact s_if (sndE t c sc F W Φ k X C.toCxt x h1).2 (sndSs a c sc F W Φ k X C y h2) (sndSs b c sc F W Φ k X C z h3)
    · cases h
  | .For tg iter body [] pos, h =>
    simp only [compS] at h
    split at h
    · rename_i t own ik is ss h1 h2 h3
      split at h
      · obtain ⟨x, e1, e2⟩ := opt_map h
        subst e2
        exact s_forR C h1 (sndE iter c sc F W Φ k X C.toCxt x e1).1 (sndSs body c sc F W Φ k X C ss h3) (noSet_of e1)
      cases h
      have hI := i_any (tg := tg) C.toCxt h2 (fun i hi => (sndE iter c sc F W Φ k X C.toCxt i hi).1) (sndA iter c sc F W Φ k X C.toCxt)
      exact s_for C h1 hI.1 (sndSs body c sc F W Φ k X C ss h3) hI.2
    · cases h
  | .Pass pos, h =>
    simp only [compS] at h
    cases h
    exact s_pass ps_pass
  | .Expr e pos, h => exact s_exprAny C h
  | .FunctionDef .., h => simp only [compS] at h; cases h
  | .AsyncFunctionDef .., h => simp only [compS] at h; cases h
  | .ClassDef .., h => simp only [compS] at h; cases h
  | .Delete .., h => simp only [compS] at h; cases h
  | .TypeAlias .., h => simp only [compS] at h; cases h
  | .AugAssign .., h => simp only [compS] at h; cases h
  | .AnnAssign .., h => simp only [compS] at h; cases h
  | .AsyncFor .., h => simp only [compS] at h; cases h
  | .While t body [] pos, h =>
    simp only [compS] at h
    split at h
    · rename_i x y h1 h2
      cases h
      exact s_whl C (sndE t c sc F W Φ k X C.toCxt x h1).2 (sndSs body c sc F W Φ k X C y h2)
    · cases h
  | .While t body (o :: os) pos, h => simp only [compS] at h; cases h
  | .With .., h => simp only [compS] at h; cases h
  | .AsyncWith .., h => simp only [compS] at h; cases h
  | .Match .., h => simp only [compS] at h; cases h
  | .Raise e cse pos, h => exact s_raiseAny C h
  | .Try body (h0 :: hs) [] [] pos, h =>
    simp only [compS] at h
    split at h
    · rename_i x y h1 h2
      cases h
      exact s_try C h2 fun W' X' C' => sndSs body c sc F W' Φ k X' C' x h1
    · cases h
  | .Try body [] a b pos, h => simp only [compS] at h; cases h
  | .Try body (h0 :: hs) (a :: as) b pos, h => simp only [compS] at h; cases h
  | .Try body (h0 :: hs) [] (b :: bs) pos, h => simp only [compS] at h; cases h
  | .TryStar .., h => simp only [compS] at h; cases h
  | .Assert .., h => simp only [compS] at h; cases h
  | .Import .., h => simp only [compS] at h; cases h
  | .ImportFrom .., h => simp only [compS] at h; cases h
  | .Global .., h => simp only [compS] at h; cases h
  | .Nonlocal .., h => simp only [compS] at h; cases h
  | .Break .., h => simp only [compS] at h; cases h
  | .Continue .., h => simp only [compS] at h; cases h
  | .For tg iter body (o :: os) pos, h => simp only [compS] at h; cases h
termination_by structural s
theorem sndSs (ss : List Stmt) (c : Cfg) (sc : Scope) (F : Fx) (W : WX) (Φ : Nat → List D → Sto → R Rv) (k : Nat) (X : Cx) (C : Cxs c sc F W Φ k X) (is : List S) (h : compSs c sc ss = some is) : PSs X ss (tSts F W Φ is) := by
  match ss, h with
  | [], h =>
    simp only [compSs] at h
    cases h
    exact ss_nil
  | s :: ss, h =>
    simp only [compSs] at h
    split at h
    · rename_i x xs h1 h2
      cases h
      exact ss_cons (sndS s c sc F W Φ k X C x h1) (sndSs ss c sc F W Φ k X C xs h2)
    · rename_i xs h1 h2
      cases h
      exact ss_cons s_never (sndSs ss c sc F W Φ k X C xs h2)
    · cases h
termination_by structural ss
end
end Kp

/-! Kp, part 13: defs, the law's end. -/
namespace Kp
open PySem PySem.Spec PyProof.Rows L2

def truncR (n m : Nat) (st : Sto) : R Rv :=
  match st[m]? with
  | some (.lst xs) => .ok (.nl xs) (st.take n)
  | some (.dct kvs) => .ok (.nd kvs) (st.take n)
  | _ => .bad
theorem Pre.app {α α' : List Addr} (h : Pre α α') : ∃ β, α' = α ++ β := h
/-- what a body comes to, as the call's result -/
theorem fin_out {F : Fx} {W : WX} {α : List Addr} {H : Hp} {Q : VK} {m : SR} {σ : L2.St} (hW : ∀ c d σ σ' H, W c d σ H → W c d σ' H) (ho : Out F W (RvR F.K) σ α H (fin α.length m) Q) : OutS F W α H m { nx := fun _ H' => Q .non H', rt := Q } := by
  cases m with
  | bad => exact ho
  | nx env st =>
    intro σ' H' α' p x hE hS
    obtain ⟨β, rfl⟩ := p
    exact ho .non H' α Pre.refl x hS.take rfl
  | exc c fs env st =>
    intro d σ' H' α' p x hE hS hx
    obtain ⟨β, rfl⟩ := p
    exact hW _ _ _ _ _ (ho d H' α Pre.refl x hS.take hx)
  | rt r st =>
    intro v H' α' p x hS hr
    obtain ⟨β, rfl⟩ := p
    have ho : Out F W (RvR F.K) σ α H (trunc α.length r st) Q := ho
    cases r with
    | nd kvs =>
      obtain ⟨a, u, ws, e, h1, h2, h3, h4, h5⟩ := hr
      exact ho v H' α Pre.refl x hS.take ⟨a, u, ws, e, h1, h2, h3, h4, fun z => h5 (List.mem_append_left _ z)⟩
    | nl xs =>
      obtain ⟨a, vs, e, h1, h2, h3, h4⟩ := hr
      exact ho v H' α Pre.refl x hS.take ⟨a, vs, e, h1, h2, h3, fun z => h4 (List.mem_append_left _ z)⟩
    | im d =>
      cases d with
      | py p => exact ho v H' α Pre.refl x hS.take hr
      | ref n =>
        obtain ⟨a, h1, h2⟩ := hr
        by_cases hn : n < α.length
        · have e : trunc α.length (.im (.ref n)) st = .ok (.im (.ref n)) (st.take α.length) := by simp only [trunc]; rw [if_pos hn]
          rw [e] at ho
          exact ho v H' α Pre.refl x hS.take ⟨a, by rw [List.getElem?_append_left hn] at h1; exact h1, h2⟩
        · have e : trunc α.length (.im (.ref n)) st = truncR α.length n st := by simp only [trunc]; rw [if_neg hn]; rfl
          rw [e] at ho
          unfold truncR at ho
          cases eo : st[n]? with
          | none => rw [eo] at ho; exact ho.elim
          | some ob =>
            rw [eo] at ho
            have q := hS.ob n ob a eo h1
            cases ob with
            | dead => exact (show False from ho).elim
            | dct kvs =>
              obtain ⟨u, ws, q1, q2, q3, q4⟩ := q
              refine ho v H' α Pre.refl x hS.take ⟨a, u, ws, h2, q1, q2, q3, q4, fun z => ?_⟩
              rw [List.getElem?_append_right (by omega)] at h1
              exact (List.nodup_append.mp hS.nd).2.2 a z a (List.mem_of_getElem? h1) rfl
            | lst xs =>
              obtain ⟨vs, q1, q2, q3⟩ := q
              refine ho v H' α Pre.refl x hS.take ⟨a, vs, h2, q1, q2, q3, fun z => ?_⟩
              rw [List.getElem?_append_right (by omega)] at h1
              exact (List.nodup_append.mp hS.nd).2.2 a z a (List.mem_of_getElem? h1) rfl

/-- a def of the module: its compiled form -/
def DefOk (K : PySem.W.Frag) (mg : Str → Option Value) (G : Str → Option G) (cs : List Nat) (fs : List Fn) (x : Str) (j : Nat) : Prop :=
  ∃ (f : Addr) (fd : FuncData) (nm qual : Str) (params : Arguments) (body : List Stmt) (scope : Scope) (N ps : List Str) (new : Str → Bool) (ss : List S), mg x = some (.ref f) ∧ FunD K nm qual params body scope [] [] f fd ∧ FnScope N ps scope ∧ Binds K fd ps [] ∧
    compSs ⟨G, N, new, cs⟩ scope body = some ss ∧ fs[j]? = some ⟨ps.length, N.length, ss⟩
section
variable {P : Program} {w : World} {K : PySem.W.Frag} {mg : Str → Option Value} {base : Heap} {G : Str → Option G} {cs : List Nat} {fs : List Fn} {F : Fx}
theorem start_rel {α : List Addr} {H : Hp} {ds : List D} {vs : List V} {N : List Str} {np : Nat} (h : DRs F.K α H ds vs) (hl : vs.length = np) : EvR F.K α H (ds.map some ++ List.replicate (N.length - np) none) (L2.start N vs) := by
  have hl' : ds.length = np := by rw [h.length]; exact hl
  unfold L2.start
  rw [hl]
  refine ⟨by simp [hl, hl'], fun i d q => ?_⟩
  have get : ∀ {ds : List D} {vs : List V} {i : Nat} {d : D}, DRs F.K α H ds vs → ds[i]? = some d → ∃ v, vs[i]? = some v ∧ DR F.K α H d v := by
    intro ds
    induction ds with
    | nil => intro vs i d _ e; simp at e
    | cons d0 ds ih =>
      intro vs i d hd e
      obtain ⟨v, r, e1, h1, h2⟩ := hd
      subst e1
      cases i with
      | zero =>
        have e : d0 = d := by simpa using e
        subst e
        exact ⟨v, rfl, h1⟩
      | succ i =>
        obtain ⟨u, q1, q2⟩ := ih h2 (by simpa using e)
        exact ⟨u, by simpa using q1, q2⟩
  by_cases hi : i < ds.length
  · rw [List.getElem?_append_left (by simpa using hi), List.getElem?_map] at q
    cases e : ds[i]? with
    | none => rw [e] at q; cases q
    | some d' =>
      rw [e] at q
      have q : d' = d := by simpa using q
      subst q
      obtain ⟨v, q1, q2⟩ := get h e
      refine ⟨v, ?_, q2⟩
      rw [List.getElem?_append_left (by rw [List.length_map, hl, ← hl']; exact hi), List.getElem?_map, q1]
      rfl
  · rw [List.getElem?_append_right (by rw [List.length_map]; omega), List.getElem?_replicate] at q
    split at q <;> cases q
theorem def_fn (hF : F.K = ⟨K, w⟩) (hX : ∀ a b, a ∈ cs → b ∈ cs → PySem.W.exmOne K (F.cls a) (F.cls b) = some (subC a b)) {k : Nat} {j : Nat} (hG : ∀ x g, G x = some g → GlobOk P w K mg base F (evFn fs k) k x g) {f : Addr} {fd : FuncData} {nm qual : Str} {params : Arguments} {body : List Stmt} {scope : Scope} {N ps : List Str} {new : Str → Bool} {ss : List S}
    (hD : FunD K nm qual params body scope [] [] f fd) (hS : FnScope N ps scope) (hC : compSs ⟨G, N, new, cs⟩ scope body = some ss) (hj : fs[j]? = some ⟨ps.length, N.length, ss⟩) : FnOk P w K mg base (L2.CX P w) (k + 1) f fd ps (spFn F (evFn fs (k + 1)) j ps.length) := by
  refine hD.ok hS (fun vs H Q E h => ?_) fun cdv A outer s H vs Q E hr h => ⟨tSts F (fun c d _ H' => E c d H') (evFn fs k) ss, ?_, ?_⟩
  · obtain ⟨ds, st, α, h1, _⟩ := h
    exact h1
  · refine sndSs body ⟨G, N, new, cs⟩ scope F _ (evFn fs k) k _ ⟨⟨hF, rfl, hS.nd, rfl, rfl, ?_, hr, takes_of rfl rfl rfl rfl, hX, hG⟩, fun _ => rfl, passes_of rfl, hS.kind, rfl, rfl⟩ ss hC
    have := hr.un
    show (A.deeper (envOfC qual scope s.heap.objs.size f cdv)).units + 150 < cLine
    omega
  · obtain ⟨ds, st, α, h1, h2, h3, ho⟩ := h
    refine ⟨ds.map some ++ List.replicate (N.length - ps.length) none, st, α, start_rel h2 h1, h3, ?_⟩
    refine fin_out (σ := []) (fun _ _ _ _ _ h => h) ?_
    have hl : ds.length = ps.length := by rw [h2.length]; exact h1
    have e : evFn fs (k + 1) j ds st = fin st.length (evSs (evFn fs k) ss (ds.map some ++ List.replicate (N.length - ps.length) none) st) := by
      show (match fs[j]? with
        | some f => if ds.length = f.np then fin st.length (evSs (evFn fs k) f.body (ds.map some ++ List.replicate (f.ns - f.np) none) st) else .bad
        | none => .bad) = _
      rw [hj]
      simp only []
      rw [if_pos hl]
    rw [e, ← h3.len] at ho
    exact ho
theorem def_ok (hF : F.K = ⟨K, w⟩) (hX : ∀ a b, a ∈ cs → b ∈ cs → PySem.W.exmOne K (F.cls a) (F.cls b) = some (subC a b)) {k : Nat} {x : Str} {j : Nat} (hG : ∀ x g, G x = some g → GlobOk P w K mg base F (evFn fs k) k x g) (h : DefOk K mg G cs fs x j) : GlobOk P w K mg base F (evFn fs (k + 1)) (k + 1) x (.fn j) := by
  obtain ⟨f, fd, nm, qual, params, body, scope, N, ps, new, ss, hm, hD, hS, hB, hC, hj⟩ := h
  have hbad : ∀ ds st, ds.length ≠ ps.length → evFn fs (k + 1) j ds st = .bad := fun ds st hne => by
    unfold evFn
    simp only [hj]
    rw [if_neg hne]
  exact ⟨f, fd, ps, hm, hD.kp, hB, def_fn hF hX hG hD hS hC hj, hbad⟩
theorem def_zero {x : Str} {j : Nat} (h : DefOk K mg G cs fs x j) : GlobOk P w K mg base F (evFn fs 0) 0 x (.fn j) := by
  obtain ⟨f, fd, nm, qual, params, body, scope, N, ps, new, ss, hm, hD, hS, hB, hC, hj⟩ := h
  refine ⟨f, fd, ps, hm, hD.kp, hB, ⟨fun vs H Q E h => ?_, fun A outer s H args us vs Q E hr e0 hb r h => ?_⟩, fun ds st _ => rfl⟩
  · obtain ⟨ds, st, α, h1, _⟩ := h
    exact h1
  · obtain ⟨ds, st, α, h1, h2, h3, ho⟩ := h
    exact (show False from ho).elim
/-- a global that is no def -/
def NoFn : Kp.G → Prop
  | .fn _ => False
  | _ => True
theorem glob_mono {Φ Φ' : Nat → List D → Sto → R Rv} {k k' : Nat} {x : Str} {g : Kp.G} (hn : NoFn g) (h : GlobOk P w K mg base F Φ k x g) : GlobOk P w K mg base F Φ' k' x g := by
  cases g with
  | fn j => exact hn.elim
  | con p => exact h
  | blt b => exact h
  | ty t => exact h
  | isi => exact h
  | range => exact h
  | set => exact h
  | exc c => exact h
  | clsx c => exact h
  | enum => exact h
  | zip => exact h
theorem glob_all (hF : F.K = ⟨K, w⟩) (hX : ∀ a b, a ∈ cs → b ∈ cs → PySem.W.exmOne K (F.cls a) (F.cls b) = some (subC a b)) (hd : ∀ x j, G x = some (.fn j) → DefOk K mg G cs fs x j) (ho : ∀ x g, G x = some g → NoFn g → GlobOk P w K mg base F (evFn fs 0) 0 x g) : ∀ k x g, G x = some g → GlobOk P w K mg base F (evFn fs k) k x g
  | 0, x, g, e => by
    cases g with
    | fn j => exact def_zero (hd x j e)
    | _ => exact ho x _ e trivial
  | k + 1, x, g, e => by
    cases g with
    | fn j => exact def_ok hF hX (glob_all hF hX hd ho k) (hd x j e)
    | _ => exact glob_mono trivial (ho x _ e trivial)
/-- the law's def, asked with a list of ints -/
theorem law_sp (hF : F.K = ⟨K, w⟩) {k j : Nat} {H : Hp} {a : Addr} {ns : List Int} (hl : ns.length ≤ 63) (hS : SqL K H a (ns.map V.int))
    (hv : ∀ d st, (d = .py (.list (ns.map .int)) ∧ st = []) ∨ (d = .ref 0 ∧ st = [.lst (ns.map .int)]) → ∃ st', evFn fs k j [d] st = .ok (imp (.bool true)) st') :
    spFn F (evFn fs k) j 1 [.ref a] H (fun v _ => v = .bl true) fun _ _ _ => False := by
  have im : ∀ ns : List Int, ImAll F.K H (ns.map .int) (ns.map V.int) := by
    intro ns
    induction ns with
    | nil => exact ImAll.nil
    | cons n ns ih => exact ImAll.cons rfl ih
  have hz : (ns.map V.int).length ≤ sizeLine := by
    rw [List.length_map, sizeLine_eq]; omega
  have out : ∀ d st α, (d = .py (.list (ns.map .int)) ∧ st = []) ∨ (d = .ref 0 ∧ st = [.lst (ns.map .int)]) → Out F (fun c d _ H' => False) (RvR F.K) [] α H (evFn fs k j [d] st) (fun v _ => v = .bl true) := fun d st α hd => by
    obtain ⟨st', e⟩ := hv d st hd
    rw [e]
    intro v H' α' p x S r
    exact r
  have fz : FzL K H a (ns.map V.int) → spFn F (evFn fs k) j 1 [.ref a] H (fun v _ => v = .bl true) fun _ _ _ => False := fun h => by
    refine ⟨[.py (.list (ns.map .int))], [], [], rfl, ⟨.ref a, [], rfl, ⟨a, _, rfl, by rw [hF]; exact h, hz, im ns⟩, rfl⟩, ⟨rfl, by simp, fun n o b q => by simp at q⟩, out _ _ _ (.inl ⟨rfl, rfl⟩)⟩
  rcases hS with (h | ⟨o, h⟩) | h
  · refine ⟨[.ref 0], [.lst (ns.map .int)], [a], rfl, ⟨.ref a, [], rfl, ⟨a, rfl, rfl⟩, rfl⟩, ⟨rfl, by simp, fun n o b q1 q2 => ?_⟩, out _ _ _ (.inr ⟨rfl, rfl⟩)⟩
    cases n with
    | zero =>
      have e1 : Ob.lst (ns.map .int) = o := by simpa using q1
      have e2 : a = b := by simpa using q2
      subst e1 e2
      exact ⟨_, h, hz, im ns⟩
    | succ n => simp at q1
  · exact fz (.inl ⟨o, h⟩)
  · exact fz (.inr h)
end
end Kp

/-! Kp, part 14: the head's facts: defs, constants that are plain data. -/
namespace Kp
open PySem PySem.Spec PyProof.Rows L2

mutual
/-- the value in the module's own objects is this data -/
def imB (K : PySem.W.Frag) : P → Value → Bool
  | .none, .none => true
  | .bool b, .bool c => b == c
  | .int i, .int j _ => decide (i = j)
  | .str x, .str y _ => decide (x = y)
  | .list ps, .ref a => (match K.lookup a with
    | some ⟨.type c, none, .seq its _, _⟩ => decide (c = "list") && (decide (its.size ≤ sizeLine) && imBs K ps its.toList)
    | _ => false)
  | .tuple ps, .ref a => (match K.lookup a with
    | some ⟨.type c, _, .seq its _, _⟩ => decide (c = "tuple") && (decide (its.size ≤ sizeLine) && imBs K ps its.toList)
    | _ => false)
  | _, _ => false
def imBs (K : PySem.W.Frag) : List P → List Value → Bool
  | [], us => us.isEmpty
  | p :: ps, us => match us with
    | u :: us => imB K p u && imBs K ps us
    | [] => false
end
mutual
theorem imB_ok {K : PySem.W.Frag} : ∀ (p : P) (u : Value), imB K p u = true → ∃ v, RelV v u ∧ ∀ w H, Im ⟨K, w⟩ H p v
  | .none, u, h => by
    cases u <;> first | exact ⟨.non, rfl, fun w H => rfl⟩ | (simp only [imB] at h; cases h)
  | .bool b, u, h => by
    cases u <;> first | (simp only [imB] at h; cases h; done) | skip
    rename_i c
    simp only [imB] at h
    have e : b = c := eq_of_beq h
    subst e
    exact ⟨.bl b, rfl, fun w H => rfl⟩
  | .int i, u, h => by
    cases u <;> first | (simp only [imB] at h; cases h; done) | skip
    rename_i j t
    simp only [imB] at h
    have e : i = j := of_decide_eq_true h
    subst e
    exact ⟨.int i, ⟨t, rfl⟩, fun w H => rfl⟩
  | .str x, u, h => by
    cases u <;> first | (simp only [imB] at h; cases h; done) | skip
    rename_i y t
    simp only [imB] at h
    have e : x = y := of_decide_eq_true h
    subst e
    exact ⟨.str x, ⟨t, rfl⟩, fun w H => rfl⟩
  | .list ps, u, h => by
    cases u <;> first | (simp only [imB] at h; cases h; done) | skip
    rename_i a
    simp only [imB] at h
    split at h
    · rename_i c its n sl e
      rw [Bool.and_eq_true, Bool.and_eq_true] at h
      obtain ⟨h1, h2, h3⟩ := h
      obtain ⟨vs, r, i⟩ := imBs_ok ps its.toList h3
      have h2 := of_decide_eq_true h2
      have hl := r.length
      refine ⟨.ref a, rfl, fun w H => ⟨a, vs, rfl, .inr ⟨_, its, n, e, by rw [of_decide_eq_true h1], rfl, rfl, h2, r⟩, ?_, i w H⟩⟩
      rw [hl]; simpa using h2
    · cases h
  | .tuple ps, u, h => by
    cases u <;> first | (simp only [imB] at h; cases h; done) | skip
    rename_i a
    simp only [imB] at h
    split at h
    · rename_i c od its n sl e
      rw [Bool.and_eq_true, Bool.and_eq_true] at h
      obtain ⟨h1, h2, h3⟩ := h
      obtain ⟨vs, r, i⟩ := imBs_ok ps its.toList h3
      have h2 := of_decide_eq_true h2
      have hl := r.length
      refine ⟨.ref a, rfl, fun w H => ⟨a, vs, rfl, .inr ⟨_, its, n, e, by rw [of_decide_eq_true h1], rfl, h2, r⟩, ?_, i w H⟩⟩
      rw [hl]; simpa using h2
    · cases h
  | .dict kvs, u, h => by
    cases u <;> (simp only [imB] at h; cases h)
theorem imBs_ok {K : PySem.W.Frag} : ∀ (ps : List P) (us : List Value), imBs K ps us = true → ∃ vs, Vals vs us ∧ ∀ w H, ImAll ⟨K, w⟩ H ps vs
  | [], us, h => by
    simp only [imBs] at h
    have e : us = [] := List.isEmpty_iff.mp h
    subst e
    exact ⟨[], .nil, fun w H => ImAll.nil⟩
  | p :: ps, us, h => by
    cases us with
    | nil => simp only [imBs] at h; cases h
    | cons u us =>
      simp only [imBs] at h
      rw [Bool.and_eq_true] at h
      obtain ⟨v, r1, i1⟩ := imB_ok p u h.1
      obtain ⟨vs, r2, i2⟩ := imBs_ok ps us h.2
      exact ⟨v :: vs, .cons r1 r2, fun w H => ImAll.cons (i1 w H) (i2 w H)⟩
end
/-- the module's constants -/
def consB (cs : List (Str × P)) (K : PySem.W.Frag) : Bool := cs.all fun q => match PySem.W.nsIn K mainGlobals q.1 with
  | some (some u) => imB K q.2 u
  | _ => false
theorem consB_ok {cs : List (Str × P)} {K : PySem.W.Frag} {h : Heap} {mg : Str → Option Value} (X : K.In h) (N : h.Ns mainGlobals mg) (c : consB cs K = true) {x : Str} {p : P} (hx : (x, p) ∈ cs) : ∃ u v, mg x = some u ∧ RelV v u ∧ ∀ w H, Im ⟨K, w⟩ H p v := by
  have q := List.all_eq_true.mp c (x, p) hx
  simp only [] at q
  split at q
  · rename_i u e
    obtain ⟨v, r, i⟩ := imB_ok p u q
    exact ⟨u, v, PySem.W.mg_of X N e, r, i⟩
  · cases q

/-! ### classes of errors -/
def clsV (K : PySem.W.Frag) (j : Nat) : Value := match clsNames[j]? with
  | some x => (match PySem.W.nsIn K mainGlobals x with
    | some (some v) => v
    | _ => .none)
  | none => .none
def excMro : List Value := [.type "ValueError", .type "Exception", .type "BaseException", .type "object"]
/-- a class as it stands; the first ten make errors of one text -/
def excOne (K : PySem.W.Frag) (j : Nat) : Bool := match clsNames[j]? with
  | some x => (match PySem.W.nsIn K mainGlobals x with
    | some (some (.ref C)) => PySem.W.keepIn K (.ref C) && (PySem.W.subIn K (.ref C) (.type "BaseException") == some true && (PySem.W.typeIn K (.ref C) == some (.type "type") && (decide (10 ≤ j) || PySem.W.excIn K C excMro "ValueError.__new__")))
    | _ => false)
  | none => false
def excB (xs : List Nat) (K : PySem.W.Frag) : Bool := xs.all (excOne K) && xs.all fun a => xs.all fun b => PySem.W.exmOne K (clsV K a) (clsV K b) == some (subC a b)
def excG (j : Nat) : Kp.G := if j < 10 then .exc j else .clsx j
def excTab (xs : List Nat) : List (Str × Kp.G) := xs.filterMap fun j => clsNames[j]?.map fun x => (x, excG j)
theorem excB_one {xs : List Nat} {K : PySem.W.Frag} (h : excB xs K = true) {j : Nat} (hj : j ∈ xs) : excOne K j = true := by
  unfold excB at h
  rw [Bool.and_eq_true] at h
  exact List.all_eq_true.mp h.1 j hj
theorem excB_two {xs : List Nat} {K : PySem.W.Frag} (h : excB xs K = true) : ∀ a b, a ∈ xs → b ∈ xs → PySem.W.exmOne K (clsV K a) (clsV K b) = some (subC a b) := fun a b ha hb => by
  unfold excB at h
  rw [Bool.and_eq_true] at h
  exact eq_of_beq (List.all_eq_true.mp (List.all_eq_true.mp h.2 a ha) b hb)

/-! ### the Hook: defs, facts, constants -/
abbrev AlC : Type := He.AlD × Bool
def obsC (fa : List He.Fa) (fn : List He.DefD) (cs : List (Str × P)) (xs : List Nat) (K : PySem.W.Frag) : AlC := (He.obsD fa fn K, consB cs K && excB xs K)
def valC (fn : List He.DefD) : AlC := (He.valD fn, true)
def obsCG (n : Nat) (fa : List He.Fa) (fn : List He.DefD) (cs : List (Str × P)) (xs : List Nat) (g : Addr → Option Obj) : AlC := obsC fa fn cs xs (He.frG g (He.asD g n))
def SaysC (fa : List He.Fa) (fn : List He.DefD) (cs : List (Str × P)) (xs : List Nat) (K : PySem.W.Frag) : Prop := obsC fa fn cs xs K = valC fn
def hookC (n : Nat) (fa : List He.Fa) (fn : List He.DefD) (cs : List (Str × P)) (xs : List Nat) : PySem.W.Hook where
  α := AlC
  obs := fun s => obsCG n fa fn cs xs s.heap.get?
  val := fun _ => valC fn
  says := fun _ h => ∃ K : PySem.W.Frag, K.In h ∧ SaysC fa fn cs xs K
  of := fun _ _ e => ⟨_, He.frG_in, e⟩
  keeps := fun _ _ _ ⟨K, hK, c⟩ k => ⟨K, PySem.W.Frag.In.keeps hK k, c⟩
theorem obsCG_eq {n : Nat} {fa : List He.Fa} {fn : List He.DefD} {cs : List (Str × P)} {xs : List Nat} {g : Addr → Option Obj} {s : Shared} (h : ∀ a, g a = s.heap.get? a) : obsCG n fa fn cs xs g = (hookC n fa fn cs xs).obs s := by
  have e : g = s.heap.get? := funext h
  rw [e] <;> rfl
theorem SaysC.d {fa : List He.Fa} {fn : List He.DefD} {cs : List (Str × P)} {xs : List Nat} {K : PySem.W.Frag} (c : SaysC fa fn cs xs K) : He.SaysD fa fn K := congrArg (fun z : AlC => z.1) c
theorem SaysC.b {fa : List He.Fa} {fn : List He.DefD} {cs : List (Str × P)} {xs : List Nat} {K : PySem.W.Frag} (c : SaysC fa fn cs xs K) : (consB cs K && excB xs K) = true := congrArg (fun z : AlC => z.2) c
theorem SaysC.c {fa : List He.Fa} {fn : List He.DefD} {cs : List (Str × P)} {xs : List Nat} {K : PySem.W.Frag} (c : SaysC fa fn cs xs K) : consB cs K = true := (Bool.and_eq_true _ _ ▸ c.b).1
theorem SaysC.x {fa : List He.Fa} {fn : List He.DefD} {cs : List (Str × P)} {xs : List Nat} {K : PySem.W.Frag} (c : SaysC fa fn cs xs K) : excB xs K = true := (Bool.and_eq_true _ _ ▸ c.b).2

/-! ### the table of globals -/
/-- a compiled def: where it stands in the text, its names (parameters first), the number of its parameters, the names that change a list, its body -/
structure Dfn where
  st : Stmt
  N : List Str
  np : Nat
  new : List Str
  body : List S
def Dfn.fn (d : Dfn) : Fn := ⟨d.np, d.N.length, d.body⟩
def Dfn.params (d : Dfn) : Arguments := match d.st with
  | .FunctionDef _ a .. => a
  | _ => ⟨[], [], none, [], [], none, []⟩
def Dfn.stmts (d : Dfn) : List Stmt := match d.st with
  | .FunctionDef _ _ b .. => b
  | _ => []
def Dfn.scope (d : Dfn) : Scope := match d.st with
  | .FunctionDef _ _ _ _ _ _ sc .. => sc
  | _ => ⟨.function, [], false, false, []⟩
def Dfn.name (d : Dfn) : Str := match d.st with
  | .FunctionDef n .. => n
  | _ => Str.empty
def Dfn.dd (d : Dfn) : He.DefD := ⟨(d.name, none), d.name, d.name, d.params, d.stmts, d.scope, [], []⟩
def memNew (l : List Str) (x : Str) : Bool := l.contains x
/-- the globals: defs by place, constants, built-ins -/
def gTab (ds : List Str) (cs : List (Str × P)) (bs : List (Str × Kp.G)) (x : Str) : Option Kp.G :=
  match ds.idxOf? x with
  | some j => some (.fn j)
  | none => match cs.lookup x with
    | some p => some (.con p)
    | none => bs.lookup x
/-- the built-ins that are known -/
def bltTab : List (Str × Kp.G) := [("len", .blt .len), ("all", .blt .all), ("any", .blt .any), ("max", .blt .max), ("min", .blt .min), ("isinstance", .isi), ("range", .range), ("str", .ty .str), ("tuple", .ty .tup), ("bool", .ty .bool), ("list", .ty .list), ("int", .ty .int), ("sorted", .blt .sorted), ("dict", .blt .dict), ("enumerate", .enum), ("zip", .zip), ("set", .set)]
def bsTab (xs : List Nat) : List (Str × Kp.G) := excTab xs ++ bltTab
def scopeB (N ps : List Str) (sc : Scope) : Bool :=
  (match sc.kind with | .function => true | _ => false) && !sc.isCoroutine && !sc.isGenerator && decide N.Nodup && decide (N.take ps.length = ps) &&
    ps.all (fun x => match sc.names.lookup x with | some .local => true | some .cell => true | _ => false) && sc.names.all (fun y => match y.2 with | .free => false | _ => true)
theorem scopeB_ok {N ps : List Str} {sc : Scope} (h : scopeB N ps sc = true) : FnScope N ps sc := by
  unfold scopeB at h
  simp only [Bool.and_eq_true, Bool.not_eq_true', List.all_eq_true, decide_eq_true_eq] at h
  obtain ⟨⟨⟨⟨⟨⟨h1, h2⟩, h3⟩, h4⟩, h5⟩, h6⟩, h7⟩ := h
  refine ⟨?_, h2, h3, h4, h5, fun x hx => ?_, fun y hy e => ?_⟩
  · split at h1
    · assumption
    · cases h1
  · have q := h6 x hx
    split at q
    · exact .inl (by assumption)
    · exact .inr (by assumption)
    · cases q
  · have q := h7 y hy
    rw [e] at q
    cases q
/-- only positional parameters -/
def plainArgs (a : Arguments) : Bool := a.posonlyargs.isEmpty && a.vararg.isNone && a.kwonlyargs.isEmpty && a.kwarg.isNone && a.defaults.isEmpty
theorem idxOf_none {x : Str} : ∀ {l : List Str}, l.idxOf? x = none → x ∉ l := by
  intro l h hx
  rw [List.idxOf?_eq_none_iff] at h
  exact h hx
structure DfnOk (G : Str → Option Kp.G) (xs : List Nat) (d : Dfn) : Prop where
  comp : compSs ⟨G, d.N, memNew d.new, xs⟩ d.scope d.stmts = some d.body
  sc : FnScope d.N (d.N.take d.np) d.scope
  np : d.np ≤ d.N.length
  bnd : ∀ (kV doc pm : Value) (an : Option Addr) (cdv ct : Value) (us : List Value), us.length = (d.N.take d.np).length → bindArgs (PySem.W.fnOf d.name d.name d.params d.stmts d.scope .none kV doc pm an cdv ct) ⟨us, []⟩ = pure ((d.N.take d.np).zip us)
theorem lookup_mem {α : Type} {x : Str} {p : α} : ∀ {l : List (Str × α)}, l.lookup x = some p → (x, p) ∈ l
  | [], h => by cases h
  | (k, v) :: r, h => by
    rw [List.lookup_cons] at h
    cases hb : x == k with
    | true =>
      rw [hb] at h
      have e : x = k := eq_of_beq hb
      subst e
      cases h
      exact List.mem_cons_self
    | false =>
      rw [hb] at h
      exact List.mem_cons_of_mem _ (lookup_mem h)
theorem lookup_app {α : Type} {x : Str} : ∀ {l l2 : List (Str × α)}, (l ++ l2).lookup x = (match l.lookup x with | some v => some v | none => l2.lookup x)
  | [], l2 => rfl
  | (k, v) :: r, l2 => by
    rw [List.cons_append, List.lookup_cons, List.lookup_cons]
    cases x == k with
    | true => rfl
    | false => exact lookup_app
/-- built-ins: what they are at the boot -/
def BootOk (x : Str) : Kp.G → Prop
  | .blt b => bootBuiltins x = some (bltV b)
  | .ty t => bootBuiltins x = some (.type (tyName t))
  | .isi => bootBuiltins x = some (.builtin "isinstance")
  | .range => x = ("range" : Str)
  | .set => x = ("set" : Str)
  | .enum => x = ("enumerate" : Str)
  | .zip => x = ("zip" : Str)
  | _ => False
theorem boot_tab : ∀ q ∈ bltTab, BootOk q.1 q.2 := by
  intro q hq
  simp only [bltTab, List.mem_cons, List.not_mem_nil, or_false] at hq
  rcases hq with rfl | rfl | rfl | rfl | rfl | rfl | rfl | rfl | rfl | rfl | rfl | rfl | rfl | rfl | rfl | rfl | rfl
  · exact boot_len
  · exact boot_all
  · exact boot_any
  · exact boot_max
  · exact boot_min
  · exact boot_isinstance
  · exact rfl
  · exact boot_str
  · exact boot_tuple
  · exact boot_bool
  · exact boot_list
  · exact boot_int
  · exact boot_sorted
  · exact boot_dict
  · exact rfl
  · exact rfl
  · exact rfl
def factsOf (names : List Str) : List He.Fa := names.map He.Fa.glo ++ bltTab.map fun q => He.Fa.free q.1
section
variable {Pg : Program} {w : World} {K : PySem.W.Frag} {mg : Str → Option Value} {h : Heap} {ds : List Dfn} {names : List Str} {cs : List (Str × P)} {xs : List Nat}
theorem blt_noFn : ∀ q ∈ bltTab, NoFn q.2 := by
  intro q hq
  simp only [bltTab, List.mem_cons, List.not_mem_nil, or_false] at hq
  rcases hq with rfl | rfl | rfl | rfl | rfl | rfl | rfl | rfl | rfl | rfl | rfl | rfl | rfl | rfl | rfl | rfl | rfl <;> trivial
theorem exc_mem {q : Str × Kp.G} (h : q ∈ excTab xs) : ∃ j, j ∈ xs ∧ clsNames[j]? = some q.1 ∧ q.2 = excG j := by
  unfold excTab at h
  rw [List.mem_filterMap] at h
  obtain ⟨j, hj, e⟩ := h
  cases e1 : clsNames[j]? with
  | none => rw [e1] at e; cases e
  | some x =>
    rw [e1] at e
    have e : (x, excG j) = q := Option.some.inj e
    subst e
    exact ⟨j, hj, e1, rfl⟩
theorem bs_noFn : ∀ q ∈ bsTab xs, NoFn q.2 := by
  intro q hq
  unfold bsTab at hq
  rcases List.mem_append.mp hq with h | h
  · obtain ⟨j, _, _, e⟩ := exc_mem h
    rw [e]
    unfold excG
    split <;> trivial
  · exact blt_noFn q h
theorem gTab_fn {x : Str} {j : Nat} {bs : List (Str × Kp.G)} (hb : ∀ q ∈ bs, NoFn q.2) (e : gTab names cs bs x = some (.fn j)) : names[j]? = some x := by
  unfold gTab at e
  split at e
  · rename_i i hi
    cases e
    exact idxOf_get hi
  · split at e
    · cases e
    · have q := hb _ (lookup_mem e)
      exact q.elim
theorem tab_def (X : K.In h) (N : h.Ns mainGlobals mg) (c : SaysC (factsOf names) (ds.map Dfn.dd) cs xs K) (hn : ds.map Dfn.name = names) (hd : ∀ d ∈ ds, DfnOk (gTab names cs (bsTab xs)) xs d) :
    ∀ x j, gTab names cs (bsTab xs) x = some (.fn j) → DefOk K mg (gTab names cs (bsTab xs)) xs (ds.map Dfn.fn) x j := fun x j e => by
  have hx := gTab_fn bs_noFn e
  have hj : ∃ d, ds[j]? = some d ∧ d.name = x := by
    rw [← hn, List.getElem?_map] at hx
    exact opt_map hx
  obtain ⟨d, hj, en⟩ := hj
  obtain ⟨fd, F⟩ := c.d.def_ j (d := d.dd) (by rw [List.getElem?_map, hj]; rfl)
  have ok := hd d (List.mem_of_getElem? hj)
  have F : FunD K d.name d.name d.params d.stmts d.scope [] [] (He.ga K d.name) fd := F
  have hlen : (d.N.take d.np).length = d.np := by rw [List.length_take]; have := ok.np; omega
  refine ⟨He.ga K d.name, fd, d.name, d.name, d.params, d.stmts, d.scope, d.N, d.N.take d.np, memNew d.new, d.body, ?_, F, ok.sc, F.bindsN ok.bnd, ok.comp, ?_⟩
  · rw [en]
    refine He.glo_ok X N (c.d.fact j (f := .glo x) ?_)
    unfold factsOf
    have hl : j < names.length := (List.getElem?_eq_some_iff.mp hx).1
    rw [List.getElem?_append_left (by rw [List.length_map]; exact hl), List.getElem?_map, hx]
    rfl
  · rw [List.getElem?_map, hj, hlen]
    rfl
theorem tab_oth {base : Heap} {F : Fx} (hF : F.K = ⟨K, w⟩) (hcl : F.cls = clsV K) (X : K.In h) (N : h.Ns mainGlobals mg) (c : SaysC (factsOf names) (ds.map Dfn.dd) cs xs K) {fs : List Fn} :
    ∀ x g, gTab names cs (bsTab xs) x = some g → NoFn g → GlobOk Pg w K mg base F (evFn fs 0) 0 x g := fun x g e hn => by
  have con : ∀ p, cs.lookup x = some p → GlobOk Pg w K mg base F (evFn fs 0) 0 x (.con p) := fun p hp => by
    obtain ⟨u, v, h1, h2, h3⟩ := consB_ok X N c.c (lookup_mem hp)
    exact ⟨u, v, h1, h2, fun H => hF ▸ h3 w H⟩
  have blt : bltTab.lookup x = some g → GlobOk Pg w K mg base F (evFn fs 0) 0 x g := fun hb => by
    have hm := lookup_mem hb
    have hb2 : BootOk x g := boot_tab (x, g) hm
    have hf : mg x = none := by
      obtain ⟨i, hi⟩ := List.getElem?_of_mem hm
      refine He.free_ok X N (c.d.fact (names.length + i) (f := .free x) ?_)
      unfold factsOf
      rw [List.getElem?_append_right (by rw [List.length_map]; omega), List.length_map, Nat.add_sub_cancel_left, List.getElem?_map, hi]
      rfl
    cases g with
    | fn j => exact hn.elim
    | con p => exact hb2.elim
    | blt b => exact ⟨hf, hb2⟩
    | ty t => exact ⟨hf, hb2⟩
    | isi => exact ⟨hf, hb2⟩
    | range => exact ⟨hf, hb2⟩
    | set => exact ⟨hf, hb2⟩
    | enum => exact ⟨hf, hb2⟩
    | zip => exact ⟨hf, hb2⟩
    | exc c => exact hb2.elim
    | clsx c => exact hb2.elim
  have exc : ∀ j, j ∈ xs → clsNames[j]? = some x → GlobOk Pg w K mg base F (evFn fs 0) 0 x (excG j) := fun j hj hx => by
    have q := excB_one c.x hj
    unfold excOne at q
    rw [hx] at q
    simp only [] at q
    split at q
    · rename_i C hC
      rw [Bool.and_eq_true, Bool.and_eq_true, Bool.and_eq_true, Bool.or_eq_true] at q
      obtain ⟨q1, q2, q3, q4⟩ := q
      have hm : mg x = some (.ref C) := PySem.W.mg_of X N hC
      have hv : F.cls j = .ref C := by rw [hcl]; unfold clsV; rw [hx]; simp only []; rw [hC]
      unfold excG
      by_cases h10 : j < 10
      · rw [if_pos h10]
        have q4 : PySem.W.excIn K C excMro "ValueError.__new__" = true := by
          rcases q4 with q4 | q4
          · have := of_decide_eq_true q4
            omega
          · exact q4
        exact ⟨C, hm, hv, q4, q1, eq_of_beq q2, eq_of_beq q3⟩
      · rw [if_neg h10]
        exact ⟨C, hm, hv⟩
    · cases q
  have bth : (bsTab xs).lookup x = some g → GlobOk Pg w K mg base F (evFn fs 0) 0 x g := fun hb => by
    unfold bsTab at hb
    rw [lookup_app] at hb
    cases e1 : (excTab xs).lookup x with
    | none => rw [e1] at hb; exact blt hb
    | some g' =>
      rw [e1] at hb
      have hb : g' = g := Option.some.inj hb
      subst hb
      obtain ⟨j, hj, h1, h2⟩ := exc_mem (lookup_mem e1)
      have h2 : g' = excG j := h2
      rw [h2]
      exact exc j hj h1
  unfold gTab at e
  split at e
  · cases e
    exact hn.elim
  · split at e
    · rename_i p hp
      cases e
      exact con p hp
    · exact bth e
/-- the law: what is to be shown of the evaluator alone -/
def LawEv (ds : List Dfn) (k j : Nat) : Prop := ∀ (ns : List Int), ns.length ≤ 63 → ∀ d st, (d = D.py (.list (ns.map .int)) ∧ st = []) ∨ (d = .ref 0 ∧ st = [.lst (ns.map .int)]) → ∃ st', evFn (ds.map Dfn.fn) k j [d] st = .ok (imp (.bool true)) st'
theorem law_facts {k j : Nat} {law : Str} {dl : Dfn} (X : K.In h) (N : h.Ns mainGlobals mg) (c : SaysC (factsOf names) (ds.map Dfn.dd) cs xs K) (hn : ds.map Dfn.name = names) (hd : ∀ d ∈ ds, DfnOk (gTab names cs (bsTab xs)) xs d)
    (hl : gTab names cs (bsTab xs) law = some (.fn j)) (hj : ds[j]? = some dl) (h1 : dl.N.take dl.np = [("script" : Str)]) {f : Addr} (hf : mg law = some (.ref f)) (ev : LawEv ds (k + 1) j) :
    ∃ (fd : FuncData) (sp : Sp), (∀ (s : Shared) (u : Value), BindsTo s fd ⟨[u], []⟩ [("script", u)]) ∧
      (∀ (H : Hp) (a : Addr) (ns : List Int), ns.length ≤ 63 → Only H → SqL K H a (ns.map V.int) → sp [.ref a] H (fun v _ => v = .bl true) fun _ _ _ => False) ∧
      ∀ base : Heap, K.In base → base.Ns mainGlobals mg → FnOk Pg w K mg base (L2.CX Pg w) (k + 1) f fd ["script"] sp := by
  have hx : names[j]? = some law := gTab_fn bs_noFn hl
  have en : dl.name = law := by
    rw [← hn, List.getElem?_map, hj] at hx
    exact Option.some.inj hx
  obtain ⟨fd, F⟩ := c.d.def_ j (d := dl.dd) (by rw [List.getElem?_map, hj]; rfl)
  have F : FunD K dl.name dl.name dl.params dl.stmts dl.scope [] [] (He.ga K dl.name) fd := F
  have ok := hd dl (List.mem_of_getElem? hj)
  have ef : f = He.ga K dl.name := by
    obtain ⟨f', _, _, _, _, _, _, _, _, _, _, hm, _⟩ := tab_def X N c hn hd law j hl
    have q : mg law = some (.ref (He.ga K dl.name)) := by
      rw [en]
      refine He.glo_ok X N (c.d.fact j (f := .glo law) ?_)
      unfold factsOf
      have hlt : j < names.length := (List.getElem?_eq_some_iff.mp hx).1
      rw [List.getElem?_append_left (by rw [List.length_map]; exact hlt), List.getElem?_map, hx]
      rfl
    rw [hf] at q
    cases q
    rfl
  subst ef
  have fdj : (ds.map Dfn.fn)[j]? = some dl.fn := by rw [List.getElem?_map, hj]; rfl
  refine ⟨fd, spFn ⟨⟨K, w⟩, clsV K⟩ (evFn (ds.map Dfn.fn) (k + 1)) j 1, fun s u => ?_, fun H a ns hlen _ hS => law_sp (w := w) (F := ⟨⟨K, w⟩, clsV K⟩) rfl hlen hS fun d st hd => ?_, fun base kb nb => ?_⟩
  · have b := F.bindsA ok.bnd s [u] (by rw [h1]; rfl)
    rw [h1] at b
    exact b
  · exact ev ns hlen d st hd
  · have hlen : (dl.N.take dl.np).length = dl.np := by rw [List.length_take]; have := ok.np; omega
    have q := def_fn (P := Pg) (w := w) (mg := mg) (base := base) (F := ⟨⟨K, w⟩, clsV K⟩) (fs := ds.map Dfn.fn) (j := j) rfl (excB_two c.x) (glob_all (P := Pg) (w := w) (base := base) (F := ⟨⟨K, w⟩, clsV K⟩) (fs := ds.map Dfn.fn) rfl (excB_two c.x) (tab_def X N c hn hd) (tab_oth (F := ⟨⟨K, w⟩, clsV K⟩) rfl rfl X N c) k) F ok.sc ok.comp (by rw [fdj, hlen]; rfl)
    rw [h1] at q
    exact q
end
/-- a law's walk: as the evaluator has it -/
theorem walk_kp {l : PySem.W.OpenLaw} {n k : Nat} {q : Program} {loose : List Str} {XP : (Str → Option Value) → Heap → Prop} {YP : World → Heap → Prop} {d : DefRec} {x : Str}
    (hn : l.most = some n) (hn2 : n ≤ sizeLine) (hdf : d.params.defaults = []) (hr : Room k callerA)
    (F : ∀ (w : World) (mg : Str → Option Value) (fa : Addr) (h : Heap), YP w h → h.Ns mainGlobals mg → mg d.name = some (.ref fa) →
      ∃ (K : PySem.W.Frag) (fd : FuncData) (sp : Sp), K.In h ∧ (∀ (s : Shared) (u : Value), BindsTo s fd ⟨[u], []⟩ [(x, u)]) ∧
        (∀ (H : Hp) (a : Addr) (ns : List Int), ns.length ≤ n → Only H → SqL K H a (ns.map V.int) → sp [.ref a] H (fun v _ => v = .bl true) fun _ _ _ => False) ∧
        ∀ base : Heap, K.In base → base.Ns mainGlobals mg → FnOk l.prog w K mg base (L2.CX l.prog w) k fa fd [x] sp) :
    PySem.W.WalkO q loose XP YP l.row.toRowW d [] (fun f vs => PySem.call f vs) := by
  refine Att.attach_call hn hdf fun w s₀ s₁ mg mb fa o pm cd doc a vs ns G Y ho hd hcd hmg hobj hints hlen hg => ?_
  obtain ⟨K, fd, sp, KX, hb, hsp, hF⟩ := F w mg fa _ Y G.T.g hmg
  refine law_call KX G.T.g G.T.b G.T.builtins G.T.nolimit hg hobj hints (Nat.le_trans hlen hn2) hr hF hb (fun H hO hS => hsp H a ns hlen hO hS) fun H e s' h => ?_
  obtain ⟨_, _, _, _, _, _, _, _, _, _, _, _, h⟩ := h
  exact h
end Kp

/-! Kp, part 15: rules for the evaluator, by which a def's meaning is found. -/
namespace Kp
open PySem
theorem evFn_def {fs : List Fn} {k j : Nat} {args : List D} {st : Sto} {f : Fn} (hj : fs[j]? = some f) (hl : args.length = f.np) :
    evFn fs (k + 1) j args st = fin st.length (evSs (evFn fs k) f.body (args.map some ++ List.replicate (f.ns - f.np) none) st) := by
  show (match fs[j]? with
    | some f => if args.length = f.np then fin st.length (evSs (evFn fs k) f.body (args.map some ++ List.replicate (f.ns - f.np) none) st) else .bad
    | none => .bad) = _
  rw [hj]
  simp only []
  rw [if_pos hl]
section
variable {α β : Type} {Φ : Nat → List D → Sto → R Rv} {env : Ev} {st : Sto}
theorem x_bind (p : P) (st : Sto) (f : Rv → Sto → R β) : (ok1 p st).bind f = f (imp p) st := rfl
theorem x_then (p : P) (st : Sto) (env : Ev) (f : Rv → Sto → SR) : (ok1 p st).then env f = f (imp p) st := rfl
theorem ok_then (a : α) (st : Sto) (env : Ev) (f : α → Sto → SR) : (R.ok a st).then env f = f a st := rfl
theorem nx_then (env : Ev) (st : Sto) (f : Ev → Sto → SR) : (SR.nx env st).then f = f env st := rfl
theorem rt_then (r : Rv) (st : Sto) (f : Ev → Sto → SR) : (SR.rt r st).then f = .rt r st := rfl
theorem np_imp (p : P) (st : Sto) (f : P → R β) : needP (imp p) st f = f p := rfl
theorem np_nl (xs : List P) (st : Sto) (f : P → R β) : needP (.nl xs) st f = f (.list xs) := rfl
theorem np_py (p : P) (st : Sto) (f : P → R β) : needP (.im (.py p)) st f = f p := rfl
theorem ni_imp (p : P) (f : P → R β) : needI (imp p) f = f p := rfl
theorem ni_py (p : P) (f : P → R β) : needI (.im (.py p)) f = f p := rfl
theorem ni_nl (xs : List P) (f : P → R β) : needI (.nl xs) f = f (.list xs) := rfl
theorem nb_imp (b : Bool) (f : Bool → R β) : needB (imp (.bool b)) f = f b := rfl
theorem nb_py (b : Bool) (f : Bool → R β) : needB (.im (.py (.bool b))) f = f b := rfl
theorem no_none (f : Option Int → R β) : needO (imp .none) f = f none := rfl
theorem no_int (i : Int) (f : Option Int → R β) : needO (imp (.int i)) f = f (some i) := rfl
theorem no_intp (i : Int) (f : Option Int → R β) : needO (.im (.py (.int i))) f = f (some i) := rfl
theorem fz_imp (p : P) : (imp p).frz = .py p := rfl
theorem fz_im (d : D) : (Rv.im d).frz = d := rfl
theorem fz_nl (xs : List P) : (Rv.nl xs).frz = .py (.list xs) := rfl
theorem im_py (p : P) (st : Sto) : R.ok (Rv.im (.py p)) st = ok1 p st := rfl
theorem ok_imp (p : P) (st : Sto) : R.ok (imp p) st = ok1 p st := rfl
theorem im_imp (p : P) : Rv.im (.py p) = imp p := rfl
theorem dm_nil (st : Sto) : List.mapM (deref st) [] = some [] := rfl
theorem dm_one (p : P) (st : Sto) : List.mapM (deref st) [.py p] = some [p] := rfl
theorem dm_two (p q : P) (st : Sto) : List.mapM (deref st) [.py p, .py q] = some [p, q] := rfl
theorem dr_py (p : P) (st : Sto) : deref st (.py p) = some p := rfl
theorem tp_nil : toPs [] = some [] := rfl
theorem tp_cons (p : P) (ds : List D) : toPs (.py p :: ds) = (toPs ds).map (p :: ·) := rfl
theorem ck_true (m : R β) : chk true m = m := rfl
theorem fin_rt (n : Nat) (r : Rv) (st : Sto) : fin n (.rt r st) = trunc n r st := rfl
theorem fin_nx (n : Nat) (env : Ev) (st : Sto) : fin n (.nx env st) = trunc n (imp .none) st := rfl
theorem tr_imp (p : P) (st : Sto) : trunc st.length (imp p) st = ok1 p st := by
  show R.ok (imp p) (st.take st.length) = _
  rw [List.take_length]; rfl
theorem tr_nl (xs : List P) (st : Sto) : trunc st.length (.nl xs) st = .ok (.nl xs) st := by
  show R.ok (Rv.nl xs) (st.take st.length) = _
  rw [List.take_length]
theorem st_im (i : Nat) (new : Bool) (d : D) (env : Ev) (st : Sto) : store i new (.im d) env st = .nx (env.set i (some d)) st := by cases new <;> rfl
theorem st_imp (i : Nat) (new : Bool) (p : P) (env : Ev) (st : Sto) : store i new (imp p) env st = .nx (env.set i (some (.py p))) st := by cases new <;> rfl
theorem st_nl (i : Nat) (xs : List P) (env : Ev) (st : Sto) : store i false (.nl xs) env st = .nx (env.set i (some (.py (.list xs)))) st := rfl
theorem st_nlt (i : Nat) (xs : List P) (env : Ev) (st : Sto) : store i true (.nl xs) env st = .nx (env.set i (some (.ref st.length))) (st ++ [.lst xs]) := rfl
end
section
variable {Φ : Nat → List D → Sto → R Rv} {env : Ev} {st : Sto}
theorem e_var (i : Nat) : evE Φ env (.var i) st = match env[i]? with
    | some (some d) => .ok (.im d) st
    | _ => .bad := by simp only [evE] <;> rfl
theorem e_const (p : P) : evE Φ env (.const p) st = ok1 p st := by simp only [evE] <;> rfl
theorem e_tup (es : List X) : evE Φ env (.tup es) st = (evDs Φ env es st).bind fun ds st1 => match toPs ds with
    | some xs => chk (decide (xs.length ≤ SZ)) (ok1 (.tuple xs) st1)
    | none => .bad := by simp only [evE] <;> rfl
theorem e_lst (es : List X) : evE Φ env (.lst es) st = (evDs Φ env es st).bind fun ds st1 => match toPs ds with
    | some xs => chk (decide (xs.length ≤ SZ)) (.ok (.nl xs) st1)
    | none => .bad := by simp only [evE] <;> rfl
theorem e_bin (o : Bop) (a b : X) : evE Φ env (.bin o a b) st = (evE Φ env a st).bind fun x st1 => (evE Φ env b st1).bind fun y st2 =>
      needP x st2 fun p => needP y st2 fun q => binop o p q st2 := by simp only [evE] <;> rfl
theorem e_neg (a : X) : evE Φ env (.neg a) st = (evE Φ env a st).bind fun x st1 => match x with
    | .im (.py (.int i)) => ok1 (.int (-i)) st1
    | _ => .bad := by simp only [evE] <;> rfl
theorem e_not (a : X) : evE Φ env (.not a) st = (evE Φ env a st).bind fun x st1 => needB x fun k => ok1 (.bool (!k)) st1 := by simp only [evE] <;> rfl
theorem e_and (a b : X) : evE Φ env (.and a b) st = (evE Φ env a st).bind fun x st1 => needB x fun k => if k then evE Φ env b st1 else ok1 (.bool false) st1 := by simp only [evE] <;> rfl
theorem e_or (a b : X) : evE Φ env (.or a b) st = (evE Φ env a st).bind fun x st1 => needB x fun k => if k then ok1 (.bool true) st1 else evE Φ env b st1 := by simp only [evE] <;> rfl
theorem e_cmp (o : Cop) (a b : X) : evE Φ env (.cmp o a b) st = (evE Φ env a st).bind fun x st1 => (evE Φ env b st1).bind fun y st2 =>
      needP x st2 fun p => needP y st2 fun q => match cmpop o p q with
        | some k => ok1 (.bool k) st2
        | none => .bad := by simp only [evE] <;> rfl
theorem e_chain (o o' : Cop) (a b c : X) : evE Φ env (.chain o o' a b c) st = (evE Φ env a st).bind fun x st1 => (evE Φ env b st1).bind fun y st2 =>
      needP x st2 fun p => needP y st2 fun q => match cmpop o p q with
        | some true => (evE Φ env c st2).bind fun z st3 => needP y st3 fun q' => needP z st3 fun r => match cmpop o' q' r with
          | some k => ok1 (.bool k) st3
          | none => .bad
        | some false => ok1 (.bool false) st2
        | none => .bad := by simp only [evE] <;> rfl
theorem e_ife (c a b : X) : evE Φ env (.ife c a b) st = (evE Φ env c st).bind fun x st1 => needB x fun k => if k then evE Φ env a st1 else evE Φ env b st1 := by simp only [evE] <;> rfl
theorem e_idx (a b : X) : evE Φ env (.idx a b) st = (evE Φ env a st).bind fun x st1 => (evE Φ env b st1).bind fun y st2 =>
      needP x st2 fun p => needP y st2 fun q => match idxop p q with
        | some r => ok1 r st2
        | none => .bad := by simp only [evE] <;> rfl
theorem e_slc (a lo hi : X) : evE Φ env (.slc a lo hi) st = (evE Φ env a st).bind fun x st1 => (evE Φ env lo st1).bind fun l st2 => needO l fun lo' => (evE Φ env hi st2).bind fun h st3 => needO h fun hi' =>
      needP x st3 fun p => slcop p lo' hi' st3 := by simp only [evE] <;> rfl
theorem e_call (f : Nat) (es : List X) : evE Φ env (.call f es) st = (evDs Φ env es st).bind fun xs st1 => Φ f xs st1 := by simp only [evE] <;> rfl
theorem e_isi (t : Ty) (a : X) : evE Φ env (.isi t a) st = (evE Φ env a st).bind fun x st1 => needP x st1 fun p => ok1 (.bool (isTy t p)) st1 := by simp only [evE] <;> rfl
theorem e_blt (b : Blt) (es : List X) : evE Φ env (.blt b es) st = (evDs Φ env es st).bind fun xs st1 => match xs.mapM (deref st1) with
    | some ps => bltop b ps st1
    | none => .bad := by simp only [evE] <;> rfl
end
def unpR (is : List Nat) (env : Ev) (r : Rv) (st : Sto) : SR := match r with
  | .im (.py (.tuple ys)) => if ys.length = is.length then .nx (setName env is ys) st else .bad
  | _ => .bad
theorem un_imp (is : List Nat) (env : Ev) (ys : List P) (st : Sto) : unpR is env (imp (.tuple ys)) st = if ys.length = is.length then .nx (setName env is ys) st else .bad := rfl
theorem o_lstc (xs ys : List P) (st : Sto) : binop .add (.list xs) (.list ys) st = chk (decide (xs.length + ys.length ≤ SZ)) (.ok (.nl (xs ++ ys)) st) := rfl
theorem o_tupc (xs ys : List P) (st : Sto) : binop .add (.tuple xs) (.tuple ys) st = chk (decide (xs.length + ys.length ≤ SZ)) (ok1 (.tuple (xs ++ ys)) st) := rfl
section
variable {Φ : Nat → List D → Sto → R Rv} {env : Ev} {st : Sto}
theorem v_asg (i : Nat) (new : Bool) (e : X) : evS Φ (.asg i new e) env st = (evE Φ env e st).then env fun r st1 => store i new r env st1 := by simp only [evS] <;> rfl
theorem v_par (is : List Nat) (es : List (Bool × X)) : evS Φ (.par is es) env st = (evPar Φ env es st).then env fun ds st1 => if ds.length = is.length then .nx (setDs env is ds) st1 else .bad := by simp only [evS] <;> rfl
theorem v_unp (is : List Nat) (e : X) : evS Φ (.unp is e) env st = (evE Φ env e st).then env fun r st1 => unpR is env r st1 := by simp only [evS] <;> rfl
theorem v_setI (o i e : X) : evS Φ (.setI o i e) env st = (evE Φ env e st).then env fun v st1 => (evE Φ env o st1).then env fun x st2 => (evE Φ env i st2).then env fun y st3 =>
      match v.frz, x, y with
      | .py p, .im d, .im (.py k) => match setop d k p st3 with
        | some st4 => .nx env st4
        | none => .bad
      | _, _, _ => .bad := by simp only [evS] <;> rfl
theorem v_expr (e : X) : evS Φ (.expr e) env st = (evE Φ env e st).then env fun _ st1 => .nx env st1 := by simp only [evS] <;> rfl
theorem v_ret (e : X) : evS Φ (.ret e) env st = (evE Φ env e st).then env fun r st1 => .rt r st1 := by simp only [evS] <;> rfl
theorem v_ife (c : X) (t f : List S) : evS Φ (.ife c t f) env st = ((evE Φ env c st).bind fun r st1 => needB r fun k => R.ok k st1).then env fun k st1 => if k then evSs Φ t env st1 else evSs Φ f env st1 := by
  simp only [evS]
  cases evE Φ env c st with
  | ok r st1 =>
    simp only [ok_bind, R.then]
    unfold needB
    split <;> rfl
  | exc c fs st1 => rfl
  | bad => rfl
theorem v_pass  : evS Φ (.pass ) env st = .nx env st := by simp only [evS] <;> rfl
theorem v_for (t : Tg) (ik : Ik) (is : List X) (body : List S) : evS Φ (.for t ik is body) env st = (evI Φ env ik is st).then env fun ys st1 => forL (turnF Φ t body) ys env st1 := evS_for
theorem v_nil : evSs Φ [] env st = .nx env st := by simp only [evSs]
theorem v_cons (s : S) (ss : List S) : evSs Φ (s :: ss) env st = (evS Φ s env st).then fun env1 st1 => evSs Φ ss env1 st1 := by simp only [evSs]
end
theorem e_negc {Φ : Nat → List D → Sto → R Rv} {env : Ev} {st : Sto} (i : Int) : evE Φ env (.neg (.const (.int i))) st = ok1 (.int (-i)) st := by
  simp only [evE, x_bind]
  rfl
/-- behind a loop with one name -/
def lastE (env : Ev) (i : Nat) (ys : List P) : Ev := match ys.getLast? with
  | some y => env.set i (some (.py y))
  | none => env
theorem lastE_cons (env : Ev) (i : Nat) (y : P) (ys : List P) : lastE env i (y :: ys) = lastE (env.set i (some (.py y))) i ys := by
  unfold lastE
  cases ys with
  | nil => rfl
  | cons z zs =>
    have e : (y :: z :: zs).getLast? = (z :: zs).getLast? := by simp [List.getLast?_cons_cons]
    rw [e]
    cases h : (z :: zs).getLast? with
    | none => simp at h
    | some w => simp only [List.set_set]
/-- a loop that stops with False at the first item that is not good -/
theorem forL_all {Φ : Nat → List D → Sto → R Rv} {i : Nat} {body : List S} {st : Sto} {good : P → Bool} : ∀ (ys : List P) (env : Ev), (∀ y ∈ ys, evSs Φ body (env.set i (some (.py y))) st = if good y then .nx (env.set i (some (.py y))) st else .rt (imp (.bool false)) st) →
    forL (turnF Φ (.one i) body) ys env st = if ys.all good then .nx (lastE env i ys) st else .rt (imp (.bool false)) st
  | [], env, _ => rfl
  | y :: ys, env, h => by
    have h1 := h y List.mem_cons_self
    rw [forL]
    unfold turnF
    simp only [bindT]
    rw [h1]
    cases hg : good y with
    | false => simp only [Bool.false_eq_true, if_false, rt_then, List.all_cons, hg, Bool.false_and]
    | true =>
      simp only [if_true, nx_then, List.all_cons, hg, Bool.true_and]
      rw [lastE_cons]
      exact forL_all ys (env.set i (some (.py y))) fun z hz => by
        rw [List.set_set]
        exact h z (List.mem_cons_of_mem _ hz)
section
variable {Φ : Nat → List D → Sto → R Rv} {env : Ev}
theorem compL_gen {β : Type} {n : Nat} {f : P → Sto → R (Option P)} {st : Sto} (hn : st.length = n) (e : β → P) (g : β → Option P) : ∀ (zs : List β) (acc : List P), (∀ z ∈ zs, ∀ acc, f (e z) (st ++ [.lst acc]) = .ok (g z) (st ++ [.lst acc])) → acc.length + zs.length ≤ SZ →
    compL n f (zs.map e) (st ++ [.lst acc]) = .ok () (st ++ [.lst (acc ++ zs.filterMap g)])
  | [], acc, _, _ => by
    simp [compL, chk, hn]
  | y :: ys, acc, h, hz => by
    have hz : acc.length + (ys.length + 1) ≤ SZ := hz
    rw [List.map_cons, compL, h y List.mem_cons_self acc]
    cases e0 : g y with
    | none =>
      have q := compL_gen hn e g ys acc (fun y hy => h y (List.mem_cons_of_mem _ hy)) (by omega)
      simp only [R.noexc, ok_bind, List.filterMap_cons, e0]
      exact q
    | some z =>
      have q := compL_gen hn e g ys (acc ++ [z]) (fun y hy => h y (List.mem_cons_of_mem _ hy)) (by rw [List.length_append]; show acc.length + 1 + ys.length ≤ SZ; omega)
      have e1 : (st ++ [Ob.lst acc])[n]? = some (.lst acc) := by rw [List.getElem?_append_right (by omega), hn, Nat.sub_self]; rfl
      have e2 : List.set (st ++ [Ob.lst acc]) n (.lst (acc ++ [z])) = st ++ [.lst (acc ++ [z])] := by
        subst hn
        rw [List.set_append]
        simp
      have e3 : decide (acc.length < SZ) = true := decide_eq_true (by omega)
      simp only [R.noexc, ok_bind, e1, e2, e3, chk, if_true, List.filterMap_cons, e0]
      rw [q, List.append_assoc]
      rfl
theorem comp_gen {β : Type} {elt : X} {t : Tg} {ik : Ik} {is ifs : List X} {st : Sto} {ds : List D} (e : β → P) (g : β → Option P) (zs : List β) (h1 : evDs Φ env is st = .ok ds st) (h2 : itemsD ik ds = some (zs.map e))
    (h : ∀ z ∈ zs, ∀ st, turnL Φ env t ifs elt (e z) st = .ok (g z) st) (hz : zs.length ≤ SZ) : evE Φ env (.comp elt t ik is ifs) st = .ok (.nl (zs.filterMap g)) st := by
  rw [evE_comp]
  unfold evI
  rw [h1]
  simp only [ok_bind, h2]
  have q := compL_gen (st := st) rfl e g zs [] (fun y hy acc => h y hy _) (by simpa using hz)
  rw [q]
  simp [compEnd, R.bind]
theorem comp_pure {elt : X} {t : Tg} {ik : Ik} {is ifs : List X} {st : Sto} {ds : List D} {ys : List P} (g : P → Option P) (h1 : evDs Φ env is st = .ok ds st) (h2 : itemsD ik ds = some ys)
    (h : ∀ y ∈ ys, ∀ st, turnL Φ env t ifs elt y st = .ok (g y) st) (hz : ys.length ≤ SZ) : evE Φ env (.comp elt t ik is ifs) st = .ok (.nl (ys.filterMap g)) st :=
  comp_gen id g ys h1 (by rw [List.map_id]; exact h2) h hz
theorem comp_map {elt : X} {t : Tg} {ik : Ik} {is : List X} {st : Sto} {ds : List D} {ys : List P} (g : P → P) (h1 : evDs Φ env is st = .ok ds st) (h2 : itemsD ik ds = some ys)
    (h : ∀ y ∈ ys, ∀ st, turnL Φ env t [] elt y st = .ok (some (g y)) st) (hz : ys.length ≤ SZ) : evE Φ env (.comp elt t ik is []) st = .ok (.nl (ys.map g)) st := by
  rw [comp_pure (fun y => some (g y)) h1 h2 h hz, List.filterMap_eq_map']
theorem comp_mapB {β : Type} {elt : X} {t : Tg} {ik : Ik} {is : List X} {st : Sto} {ds : List D} (e g : β → P) (zs : List β) (h1 : evDs Φ env is st = .ok ds st) (h2 : itemsD ik ds = some (zs.map e))
    (h : ∀ z ∈ zs, ∀ st, turnL Φ env t [] elt (e z) st = .ok (some (g z)) st) (hz : zs.length ≤ SZ) : evE Φ env (.comp elt t ik is []) st = .ok (.nl (zs.map g)) st := by
  rw [comp_gen e (fun y => some (g y)) zs h1 h2 h hz, List.filterMap_eq_map']
/-- the integers below n -/
theorem comp_rng1 {elt : X} {t : Tg} {is : List X} {st : Sto} {j : Int} {n : Nat} (g : Nat → P) (h1 : evDs Φ env is st = .ok [.py (.int j)] st) (hj : j.toNat = n) (hz : n ≤ 1000000) (hj2 : -1000000 ≤ j)
    (h : ∀ i, i < n → ∀ st, turnL Φ env t [] elt (.int (i : Nat)) st = .ok (some (g i)) st) : evE Φ env (.comp elt t .rng1 is []) st = .ok (.nl ((List.range n).map g)) st := by
  refine comp_mapB (fun (i : Nat) => .int (0 + (i : Int))) g (List.range n) h1 ?_ (fun i hi st => ?_) ?_
  · show (if -(2 ^ 62) ≤ j ∧ j < 2 ^ 62 then some ((List.range j.toNat).map fun (i : Nat) => PyData.int (0 + (i : Int))) else none) = _
    rw [if_pos (by omega), hj]
  · have e : (0 : Int) + (i : Int) = (i : Nat) := by omega
    rw [e]
    exact h i (List.mem_range.mp hi) st
  · rw [List.length_range]
    exact Nat.le_trans hz (by decide)
/-- a turn without a test -/
theorem turn_elt {t : Tg} {elt : X} {y : P} {st : Sto} {env1 : Ev} {r : P} (h1 : bindT t (wipeE env (tgSlots t)) y = some env1) (h2 : evE Φ env1 elt st = ok1 r st) : turnL Φ env t [] elt y st = .ok (some r) st := by
  unfold turnL
  rw [h1]
  simp only [evAnd, ok_bind, if_true, h2, x_bind, ni_imp]
/-- .. with a test -/
theorem turn_if {t : Tg} {elt c : X} {y : P} {st : Sto} {env1 : Ev} {b : Bool} {r : P} (h1 : bindT t (wipeE env (tgSlots t)) y = some env1) (hc : evE Φ env1 c st = ok1 (.bool b) st) (h2 : b = true → evE Φ env1 elt st = ok1 r st) :
    turnL Φ env t [c] elt y st = .ok (if b then some r else none) st := by
  unfold turnL
  rw [h1]
  simp only [evAnd, hc, x_bind, nb_imp]
  cases b with
  | true => simp only [if_true, ok_bind, h2 rfl, x_bind, ni_imp]
  | false => simp only [Bool.false_eq_true, if_false, ok_bind]
theorem comp_filter {elt c : X} {t : Tg} {ik : Ik} {is : List X} {st : Sto} {ds : List D} {ys : List P} (p : P → Bool) (h1 : evDs Φ env is st = .ok ds st) (h2 : itemsD ik ds = some ys)
    (h : ∀ y ∈ ys, ∀ st, turnL Φ env t [c] elt y st = .ok (if p y then some y else none) st) (hz : ys.length ≤ SZ) : evE Φ env (.comp elt t ik is [c]) st = .ok (.nl (ys.filter p)) st := by
  rw [comp_pure (fun y => if p y then some y else none) h1 h2 h hz]
  congr 2
  clear h h2 hz h1
  induction ys with
  | nil => rfl
  | cons y ys ih =>
    rw [List.filterMap_cons, List.filter_cons]
    cases p y with
    | true => simp only [if_true]; rw [ih]
    | false => simp only [Bool.false_eq_true, if_false]; rw [ih]
theorem bools_map' {α : Type} (h : α → Bool) : ∀ ys : List α, bools (ys.map fun y => PyData.bool (h y)) = some (ys.map h)
  | [] => rfl
  | y :: ys => by
    show (bools (ys.map fun y => PyData.bool (h y))).map (h y :: ·) = _
    rw [bools_map' h ys]; rfl
theorem b_len (a : P) (st : Sto) : bltop .len [a] st = match lenP a with | some n => ok1 (.int n) st | none => .bad := rfl
theorem b_all (ys : List P) (st : Sto) : bltop .all [.list ys] st = match bools ys with | some bs => ok1 (.bool (bs.all id)) st | none => .bad := rfl
theorem b_any (ys : List P) (st : Sto) : bltop .any [.list ys] st = match bools ys with | some bs => ok1 (.bool (bs.any id)) st | none => .bad := rfl
theorem b_max (i j : Int) (st : Sto) : bltop .max [.int i, .int j] st = ok1 (.int (if j > i then j else i)) st := rfl
theorem b_min (i j : Int) (st : Sto) : bltop .min [.int i, .int j] st = ok1 (.int (if j < i then j else i)) st := rfl
theorem b_int (i : Int) (st : Sto) : bltop .int [.int i] st = ok1 (.int i) st := rfl
theorem b_intb (k : Bool) (st : Sto) : bltop .int [.bool k] st = ok1 (.int (if k then 1 else 0)) st := rfl
theorem b_ll (ys : List P) (st : Sto) : bltop .list [.list ys] st = .ok (.nl ys) st := rfl
theorem b_lt (ys : List P) (st : Sto) : bltop .list [.tuple ys] st = .ok (.nl ys) st := rfl
theorem b_tl (ys : List P) (st : Sto) : bltop .tuple [.list ys] st = ok1 (.tuple ys) st := rfl
theorem b_tt (ys : List P) (st : Sto) : bltop .tuple [.tuple ys] st = ok1 (.tuple ys) st := rfl
theorem len_l (ys : List P) : lenP (.list ys) = some ys.length := rfl
theorem len_t (ys : List P) : lenP (.tuple ys) = some ys.length := rfl
theorem it_sl (ys : List P) : itemsD .seq [.py (.list ys)] = some ys := rfl
theorem it_st (ys : List P) : itemsD .seq [.py (.tuple ys)] = some ys := rfl
theorem it_ss (s : Str) : itemsD .seq [.py (.str s)] = some (s.cps.toList.map fun c => .str ⟨#[c]⟩) := rfl
theorem it_r1 (j : Int) (h : -(2 ^ 62) ≤ j ∧ j < 2 ^ 62) : itemsD .rng1 [.py (.int j)] = some ((List.range j.toNat).map fun (i : Nat) => .int (0 + (i : Int))) := by
  show (if -(2 ^ 62) ≤ j ∧ j < 2 ^ 62 then _ else none) = _
  rw [if_pos h]
theorem it_r2 (i j : Int) (h : -(2 ^ 62) ≤ i ∧ i < 2 ^ 62 ∧ -(2 ^ 62) ≤ j ∧ j < 2 ^ 62) : itemsD .rng2 [.py (.int i), .py (.int j)] = some ((List.range (j - i).toNat).map fun (n : Nat) => .int (i + (n : Int))) := by
  show (if -(2 ^ 62) ≤ i ∧ i < 2 ^ 62 ∧ -(2 ^ 62) ≤ j ∧ j < 2 ^ 62 then _ else none) = _
  rw [if_pos h]
theorem ty_str (s : Str) : isTy .str (.str s) = true := rfl
theorem ty_tup (ys : List P) : isTy .tup (.tuple ys) = true := rfl
theorem c_le (i j : Int) : cmpop .le (.int i) (.int j) = some (decide (i ≤ j)) := by
  have e : cmpop .le (.int i) (.int j) = some (!PySem.W.dataLt (.int j) (.int i)) := rfl
  rw [e, PySem.W.dataLt_int j i]
  congr 1
  by_cases h : i ≤ j
  · have : ¬ j < i := by omega
    simp [h, this]
  · have : j < i := by omega
    simp [h, this]
theorem c_ge (i j : Int) : cmpop .ge (.int i) (.int j) = some (decide (j ≤ i)) := by
  have e : cmpop .ge (.int i) (.int j) = some (!PySem.W.dataLt (.int i) (.int j)) := rfl
  rw [e, PySem.W.dataLt_int i j]
  congr 1
  by_cases h : j ≤ i
  · have : ¬ i < j := by omega
    simp [h, this]
  · have : i < j := by omega
    simp [h, this]
theorem c_lt (i j : Int) : cmpop .lt (.int i) (.int j) = some (decide (i < j)) := by
  have e : cmpop .lt (.int i) (.int j) = some (PySem.W.dataLt (.int i) (.int j)) := rfl
  rw [e, PySem.W.dataLt_int i j]
theorem c_gt (i j : Int) : cmpop .gt (.int i) (.int j) = some (decide (j < i)) := by
  have e : cmpop .gt (.int i) (.int j) = some (PySem.W.dataLt (.int j) (.int i)) := rfl
  rw [e, PySem.W.dataLt_int j i]
theorem c_eqi (i j : Int) : cmpop .eq (.int i) (.int j) = some (i == j) := rfl
theorem c_nei (i j : Int) : cmpop .ne (.int i) (.int j) = some (!(i == j)) := rfl
theorem c_eqs (x y : Str) : cmpop .eq (.str x) (.str y) = some (x == y) := rfl
theorem c_nes (x y : Str) : cmpop .ne (.str x) (.str y) = some (!(x == y)) := rfl
theorem c_eqb (x y : Bool) : cmpop .eq (.bool x) (.bool y) = some (x == y) := rfl
theorem c_isb (x y : Bool) : cmpop .is (.bool x) (.bool y) = some (x == y) := rfl
theorem c_isnb (x y : Bool) : cmpop .isnot (.bool x) (.bool y) = some (!(x == y)) := rfl
theorem c_les (x y : Str) : cmpop .le (.str x) (.str y) = some (!decide (y.cps.toList < x.cps.toList)) := by
  have e : cmpop .le (.str x) (.str y) = some (!PySem.W.dataLt (.str y) (.str x)) := rfl
  rw [e, PySem.W.dataLt_str y x]
theorem c_eqe (ys : List P) (h : fit (.list ys) = true) : cmpop .eq (.list ys) (.list []) = some ys.isEmpty := by
  show (if (fit (.list ys) && fit (.list [])) = true then some ((PyData.list ys).eqv (.list [])) else none) = _
  have e : fit (PyData.list []) = true := rfl
  rw [h, e, Bool.and_self, if_pos rfl]
  cases ys with
  | nil => rfl
  | cons _ _ => rfl
theorem c_nee (ys : List P) (h : fit (.list ys) = true) : cmpop .ne (.list ys) (.list []) = some (!ys.isEmpty) := by
  show (if (fit (.list ys) && fit (.list [])) = true then some (!(PyData.list ys).eqv (.list [])) else none) = _
  have e : fit (PyData.list []) = true := rfl
  rw [h, e, Bool.and_self, if_pos rfl]
  cases ys with
  | nil => rfl
  | cons _ _ => rfl
theorem o_add (i j : Int) (st : Sto) : binop .add (.int i) (.int j) st = ok1 (.int (i + j)) st := rfl
theorem o_sub (i j : Int) (st : Sto) : binop .sub (.int i) (.int j) st = ok1 (.int (i - j)) st := rfl
theorem o_mul (i j : Int) (st : Sto) (h : -(2 ^ 64) < j ∧ j < 2 ^ 64) : binop .mul (.int i) (.int j) st = ok1 (.int (i * j)) st := by
  show chk (decide (-(2 ^ 64) < j) && decide (j < 2 ^ 64)) _ = _
  rw [decide_eq_true h.1, decide_eq_true h.2]; rfl
theorem o_fdiv (i j : Int) (st : Sto) (h : 0 < j ∧ j < 1073741824) : binop .fdiv (.int i) (.int j) st = ok1 (.int (i / j)) st := by
  show chk (decide (0 < j) && decide (j < 1073741824)) _ = _
  rw [decide_eq_true h.1, decide_eq_true h.2]; rfl
theorem o_mod (i j : Int) (st : Sto) (h : 0 < j) : binop .mod (.int i) (.int j) st = ok1 (.int (i % j)) st := by
  show chk (decide (0 < j)) _ = _
  rw [decide_eq_true h]; rfl
theorem o_tup (xs ys : List P) (st : Sto) (h : xs.length + ys.length ≤ SZ) : binop .add (.tuple xs) (.tuple ys) st = ok1 (.tuple (xs ++ ys)) st := by
  show chk (decide (xs.length + ys.length ≤ SZ)) _ = _
  rw [decide_eq_true h]; rfl
theorem o_lst (xs ys : List P) (st : Sto) (h : xs.length + ys.length ≤ SZ) : binop .add (.list xs) (.list ys) st = .ok (.nl (xs ++ ys)) st := by
  show chk (decide (xs.length + ys.length ≤ SZ)) _ = _
  rw [decide_eq_true h]; rfl
theorem idx_t (xs : List P) (i : Int) : idxop (.tuple xs) (.int i) = L2.atI xs i := rfl
theorem idx_l (xs : List P) (i : Int) : idxop (.list xs) (.int i) = L2.atI xs i := rfl
theorem atI_nat {xs : List P} {i : Nat} (h : i < xs.length) : L2.atI xs (i : Int) = some xs[i] := by
  have e : L2.ixN xs.length (i : Int) = some i := by
    unfold L2.ixN
    split <;> first | (simp; omega) | omega | simp_all
  unfold L2.atI
  rw [e]
  exact List.getElem?_eq_getElem h
theorem at0 (a : P) (r : List P) : L2.atI (a :: r) 0 = some a := atI_nat (xs := a :: r) (i := 0) (by simp)
theorem at1 (a b : P) (r : List P) : L2.atI (a :: b :: r) 1 = some b := atI_nat (xs := a :: b :: r) (i := 1) (by simp)
theorem at2 (a b c : P) (r : List P) : L2.atI (a :: b :: c :: r) 2 = some c := atI_nat (xs := a :: b :: c :: r) (i := 2) (by simp)
theorem at3 (a b c d : P) (r : List P) : L2.atI (a :: b :: c :: d :: r) 3 = some d := atI_nat (xs := a :: b :: c :: d :: r) (i := 3) (by simp)
end
end Kp

/-! Kp, part 16: bodies that the laws have in common (written by a program). -/
namespace Kp
open PySem
/-- is_label -/
def t_is_label : List S := [(.ret (.and (.isi .str (.var 0)) (.and (.chain .le .le (.const (.int 1)) (.blt .len [(.var 0)]) (.const (.int 8))) (.blt .all [(.comp (.chain .le .le (.const (.str ⟨#[97]⟩)) (.var 1) (.const (.str ⟨#[122]⟩))) (.one 1) .seq [(.var 0)] [])]))))]
/-- is_one_of -/
def t_is_one_of : List S := [(.ret (.and (.isi .str (.var 1)) (.cmp .in_ (.var 1) (.var 0))))]
/-- ascends -/
def t_ascends : List S := [(.ret (.blt .all [(.comp (.cmp .lt (.idx (.var 0) (.var 1)) (.idx (.var 0) (.bin .add (.var 1) (.const (.int 1))))) (.one 1) .rng1 [(.bin .sub (.blt .len [(.var 0)]) (.const (.int 1)))] [])]))]
/-- are_names -/
def t_are_names (iis_one_of : Nat) (iascends : Nat) : List S := [(.ret (.and (.isi .tup (.var 1)) (.and (.blt .all [(.comp (.call iis_one_of [(.var 0), (.var 2)]) (.one 2) .seq [(.var 1)] [])]) (.call iascends [(.var 1)]))))]
/-- is_tool -/
def t_is_tool (iis_label : Nat) (iis_one_of : Nat) : List S := [(.ife (.or (.not (.isi .tup (.var 0))) (.or (.cmp .ne (.blt .len [(.var 0)]) (.const (.int 4))) (.or (.not (.call iis_label [(.idx (.var 0) (.const (.int 0)))])) (.not (.call iis_one_of [(.const (.tuple [(.str ⟨#[97, 108, 108]⟩), (.str ⟨#[110, 101, 119]⟩), (.str ⟨#[110, 111]⟩), (.str ⟨#[121, 101, 115]⟩)])), (.idx (.var 0) (.const (.int 1)))]))))) [(.ret (.const (.bool false)))] []),
    (.ret (.and (.isi .tup (.idx (.var 0) (.const (.int 2)))) (.isi .bool (.idx (.var 0) (.const (.int 3))))))]
/-- are_tools -/
def t_are_tools (iis_tool : Nat) (iascends : Nat) (iare_names : Nat) : List S := [(.ife (.or (.not (.isi .tup (.var 0))) (.or (.not (.chain .le .le (.const (.int 2)) (.blt .len [(.var 0)]) (.const (.int 3)))) (.not (.blt .all [(.comp (.call iis_tool [(.var 2)]) (.one 2) .seq [(.var 0)] [])])))) [(.ret (.const (.bool false)))] []),
    (.asg 1 false (.comp (.idx (.var 3) (.const (.int 0))) (.one 3) .seq [(.var 0)] [])),
    (.ife (.not (.call iascends [(.var 1)])) [(.ret (.const (.bool false)))] []),
    (.ret (.blt .all [(.comp (.call iare_names [(.comp (.var 4) (.one 4) .seq [(.var 1)] [(.cmp .ne (.var 4) (.idx (.var 3) (.const (.int 0))))]), (.idx (.var 3) (.const (.int 2)))]) (.one 3) .seq [(.var 0)] [])]))]
/-- are_hooks -/
def t_are_hooks (iis_one_of : Nat) (iascends : Nat) : List S := [(.ife (.not (.isi .tup (.var 1))) [(.ret (.const (.bool false)))] []),
    (.for (.one 2) .seq [(.var 1)] [(.ife (.or (.not (.isi .tup (.var 2))) (.or (.cmp .ne (.blt .len [(.var 2)]) (.const (.int 2))) (.not (.blt .all [(.comp (.call iis_one_of [(.var 0), (.var 3)]) (.one 3) .seq [(.var 2)] [])])))) [(.ret (.const (.bool false)))] []),
    (.ife (.cmp .eq (.idx (.var 2) (.const (.int 0))) (.idx (.var 2) (.const (.int 1)))) [(.ret (.const (.bool false)))] [])]),
    (.ret (.call iascends [(.var 1)]))]
/-- is_setup -/
def t_is_setup (iare_tools : Nat) (iare_hooks : Nat) (iare_names : Nat) : List S := [(.ife (.or (.not (.isi .tup (.var 0))) (.or (.cmp .ne (.blt .len [(.var 0)]) (.const (.int 3))) (.not (.call iare_tools [(.idx (.var 0) (.const (.int 0)))])))) [(.ret (.const (.bool false)))] []),
    (.asg 1 false (.comp (.idx (.var 2) (.const (.int 0))) (.one 2) .seq [(.idx (.var 0) (.const (.int 0)))] [])),
    (.ife (.or (.not (.call iare_hooks [(.var 1), (.idx (.var 0) (.const (.int 1)))])) (.or (.not (.isi .tup (.idx (.var 0) (.const (.int 2))))) (.cmp .ne (.blt .len [(.idx (.var 0) (.const (.int 2)))]) (.const (.int 2))))) [(.ret (.const (.bool false)))] []),
    (.ret (.and (.call iare_names [(.var 1), (.idx (.idx (.var 0) (.const (.int 2))) (.const (.int 0)))]) (.call iare_names [(.var 1), (.idx (.idx (.var 0) (.const (.int 2))) (.const (.int 1)))])))]
/-- _law_jar -/
def t_law_jar : List S := [(.asg 2 false (.ife (.cmp .ge (.var 0) (.bin .pow (.const (.int 10)) (.const (.int 18)))) (.bin .sub (.var 0) (.bin .pow (.const (.int 10)) (.const (.int 18)))) (.const (.int 0)))),
    (.ret (.lst [(.blt .max [(.const (.int 0)), (.var 2)]), (.bin .add (.bin .mod (.blt .int [(.bin .add (.bin .mul (.var 0) (.const (.int 17))) (.bin .mul (.const (.int 5003)) (.var 1)))]) (.const (.int 1610612741))) (.const (.int 2)))]))]
/-- _law_less -/
def t_law_less : List S := [(.ife (.cmp .gt (.idx (.var 0) (.const (.int 0))) (.const (.int 0))) [(.asg 2 false (.bin .mod (.blt .int [(.idx (.var 0) (.const (.int 0)))]) (.var 1))),
    (.setI (.var 0) (.const (.int 0)) (.bin .fdiv (.idx (.var 0) (.const (.int 0))) (.var 1))),
    (.ret (.var 2))] []),
    (.setI (.var 0) (.const (.int 1)) (.bin .mod (.blt .int [(.bin .add (.bin .mul (.idx (.var 0) (.const (.int 1))) (.const (.int 362437))) (.const (.int 521288629)))]) (.const (.int 3221225473)))),
    (.ret (.bin .mod (.blt .int [(.bin .fdiv (.bin .mod (.blt .int [(.bin .add (.bin .mul (.idx (.var 0) (.const (.int 1))) (.idx (.var 0) (.const (.int 1)))) (.const (.int 88675123)))]) (.const (.int 2971215073))) (.const (.int 8191)))]) (.var 1)))]
/-- _law_some -/
def t_law_some (i_law_less : Nat) : List S := [(.ret (.idx (.var 1) (.call i_law_less [(.var 0), (.blt .len [(.var 1)])])))]
/-- _law_part -/
def t_law_part (i_law_less : Nat) : List S := [(.ret (.blt .tuple [(.comp (.var 3) (.one 3) .seq [(.var 1)] [(.cmp .lt (.call i_law_less [(.var 0), (.const (.int 6))]) (.var 2))])]))]
/-- _law_tool -/
def t_law_tool (i_law_some : Nat) (i_law_part : Nat) (i_law_less : Nat) : List S := [(.asg 3 false (.comp (.var 5) (.one 5) .seq [(.var 1)] [(.cmp .ne (.var 5) (.var 2))])),
    (.asg 4 false (.call i_law_some [(.var 0), (.lst [(.const (.str ⟨#[97, 108, 108]⟩)), (.const (.str ⟨#[97, 108, 108]⟩)), (.const (.str ⟨#[110, 101, 119]⟩)), (.const (.str ⟨#[110, 111]⟩)), (.const (.str ⟨#[110, 111]⟩)), (.const (.str ⟨#[121, 101, 115]⟩))])])),
    (.ret (.tup [(.var 2), (.var 4), (.call i_law_part [(.var 0), (.var 3), (.const (.int 4))]), (.cmp .eq (.call i_law_less [(.var 0), (.const (.int 3))]) (.const (.int 0)))]))]
/-- _law_setup -/
def t_law_setup (i_law_some : Nat) (i_law_less : Nat) (i_law_setup_of : Nat) : List S := [(.asg 2 false (.call i_law_some [(.var 0), (.lst [(.lst [(.const (.str ⟨#[97]⟩)), (.const (.str ⟨#[98]⟩))]), (.lst [(.const (.str ⟨#[100, 101, 115, 107]⟩)), (.const (.str ⟨#[110, 101, 119, 115]⟩))]), (.lst [(.const (.str ⟨#[115, 104, 111, 112]⟩)), (.const (.str ⟨#[122, 105, 110, 101]⟩))])])])),
    (.ife (.and (.var 1) (.cmp .eq (.call i_law_less [(.var 0), (.const (.int 3))]) (.const (.int 0)))) [(.asg 2 false (.lst [(.const (.str ⟨#[100, 101, 115, 107]⟩)), (.const (.str ⟨#[110, 101, 119, 115]⟩)), (.const (.str ⟨#[115, 104, 111, 112]⟩))]))] []),
    (.ret (.call i_law_setup_of [(.var 0), (.var 2)]))]
/-- _law_setup_of -/
def t_law_setup_of (i_law_tool : Nat) (i_law_less : Nat) (i_law_part : Nat) : List S := [(.asg 2 false (.blt .tuple [(.comp (.call i_law_tool [(.var 0), (.var 1), (.var 6)]) (.one 6) .seq [(.var 1)] [])])),
    (.asg 3 false (.tup [])),
    (.for (.one 4) .seq [(.var 1)] [(.for (.one 5) .seq [(.var 1)] [(.ife (.and (.cmp .ne (.var 4) (.var 5)) (.cmp .lt (.call i_law_less [(.var 0), (.const (.int 5))]) (.const (.int 2)))) [(.asg 3 false (.bin .add (.var 3) (.tup [(.tup [(.var 4), (.var 5)])])))] [])])]),
    (.ret (.tup [(.var 2), (.var 3), (.tup [(.call i_law_part [(.var 0), (.var 1), (.const (.int 3))]), (.call i_law_part [(.var 0), (.var 1), (.const (.int 2))])])]))]
end Kp

/-! Kp, part 17: setups: what the program's defs say of data. -/
namespace Kp
open PySem

mutual
/-- data with short texts, not too long rows, no dicts -/
def small : P → Bool
  | .str s => decide (s.length ≤ 1000)
  | .list xs => decide (xs.length ≤ 1000000) && smallAll xs
  | .tuple xs => decide (xs.length ≤ 1000000) && smallAll xs
  | .dict _ => false
  | _ => true
def smallAll : List P → Bool
  | [] => true
  | x :: xs => small x && smallAll xs
end
theorem smallAll_mem : ∀ {xs : List P}, smallAll xs = true → ∀ x ∈ xs, small x = true
  | [], _, x, hx => by simp at hx
  | y :: ys, h, x, hx => by
    rw [smallAll, Bool.and_eq_true] at h
    rcases List.mem_cons.mp hx with e | hx
    · rw [e]; exact h.1
    · exact smallAll_mem h.2 x hx
theorem small_tup {xs : List P} (h : small (.tuple xs) = true) : xs.length ≤ 1000000 ∧ ∀ x ∈ xs, small x = true := by
  rw [small, Bool.and_eq_true] at h
  exact ⟨of_decide_eq_true h.1, smallAll_mem h.2⟩
theorem sz_big : (1000000 : Nat) ≤ SZ := by decide
theorem fit_str (s : Str) : fit (.str s) = true := rfl
theorem fit_int (i : Int) : fit (.int i) = true := rfl
theorem fit_bool (b : Bool) : fit (.bool b) = true := rfl
theorem lenP_str {s : Str} (h : s.length ≤ 1000) : lenP (.str s) = some s.length := by
  show (if s.length ≤ SZ then some s.length else none) = _
  rw [if_pos (Nat.le_trans h (by decide))]
theorem one_lt (a b : Nat) : ([a] < [b]) = (a < b) := by
  simp [List.cons_lt_cons_iff]
def isLabel : P → Bool
  | .str s => decide (1 ≤ s.length) && (decide (s.length ≤ 8) && s.cps.toList.all fun c => decide (97 ≤ c) && decide (c ≤ 122))
  | _ => false
section
variable {Φ : Nat → List D → Sto → R Rv} {st : Sto}
theorem sem_isLabel {v : P} (hv : small v = true) : fin st.length (evSs Φ t_is_label [some (.py v), none] st) = ok1 (.bool (isLabel v)) st := by
  unfold t_is_label
  cases v with
  | str s =>
    have hs : s.length ≤ 1000 := by rw [small] at hv; exact of_decide_eq_true hv
    have hl : (s.cps.toList.map fun c => PyData.str ⟨#[c]⟩).length = s.length := by rw [List.length_map]; rfl
    have hc : ∀ st, evE Φ [some (.py (.str s)), none] (.comp (.chain .le .le (.const (.str ⟨#[97]⟩)) (.var 1) (.const (.str ⟨#[122]⟩))) (.one 1) .seq [(.var 0)] []) st =
        .ok (.nl ((s.cps.toList.map fun c => PyData.str ⟨#[c]⟩).map fun y => .bool (match y with | .str z => (match z.cps.toList with | [c] => decide (97 ≤ c) && decide (c ≤ 122) | _ => false) | _ => false))) st := fun st => by
      refine comp_map _ (ds := [.py (.str s)]) (by simp only [v_nil, v_cons, v_for, v_asg, v_par, v_unp, v_setI, v_expr, v_ret, v_ife, v_pass, e_var, e_const, e_tup, e_lst, e_bin, e_negc, e_not, e_and, e_or, e_cmp, e_chain, e_ife, e_idx, e_slc, e_call, e_isi, e_blt, evDs, evPar, evAnd, x_bind, x_then, ok_bind, ok_then, nx_then, rt_then, np_imp, np_nl, np_py, ni_imp, ni_py, ni_nl, nb_imp, nb_py, no_none, no_int, no_intp, fz_imp, fz_im, fz_nl, im_py, im_imp, ok_imp, dm_nil, dm_one, dm_two, dr_py, tp_nil, tp_cons, ck_true, fin_rt, fin_nx, tr_imp, tr_nl, st_im, st_imp, st_nl, st_nlt, un_imp, b_len, b_all, b_any, b_max, b_min, b_int, b_intb, b_ll, b_lt, b_tl, b_tt, len_l, len_t, it_sl, it_st, it_ss, ty_str, ty_tup, c_le, c_ge, c_lt, c_gt, c_eqi, c_nei, c_eqs, c_nes, c_eqb, c_isb, c_isnb, o_add, o_sub, idx_t, idx_l, at0, at1, at2, at3, Bool.not_true, Bool.not_false, Bool.true_and, Bool.false_and, tgSlots, wipeE, bindT, List.getElem?_cons_zero, List.getElem?_cons_succ, List.set_cons_zero, List.set_cons_succ, Option.map_some, if_true, Bool.false_eq_true, if_false]) (by simp only [v_nil, v_cons, v_for, v_asg, v_par, v_unp, v_setI, v_expr, v_ret, v_ife, v_pass, e_var, e_const, e_tup, e_lst, e_bin, e_negc, e_not, e_and, e_or, e_cmp, e_chain, e_ife, e_idx, e_slc, e_call, e_isi, e_blt, evDs, evPar, evAnd, x_bind, x_then, ok_bind, ok_then, nx_then, rt_then, np_imp, np_nl, np_py, ni_imp, ni_py, ni_nl, nb_imp, nb_py, no_none, no_int, no_intp, fz_imp, fz_im, fz_nl, im_py, im_imp, ok_imp, dm_nil, dm_one, dm_two, dr_py, tp_nil, tp_cons, ck_true, fin_rt, fin_nx, tr_imp, tr_nl, st_im, st_imp, st_nl, st_nlt, un_imp, b_len, b_all, b_any, b_max, b_min, b_int, b_intb, b_ll, b_lt, b_tl, b_tt, len_l, len_t, it_sl, it_st, it_ss, ty_str, ty_tup, c_le, c_ge, c_lt, c_gt, c_eqi, c_nei, c_eqs, c_nes, c_eqb, c_isb, c_isnb, o_add, o_sub, idx_t, idx_l, at0, at1, at2, at3, Bool.not_true, Bool.not_false, Bool.true_and, Bool.false_and, tgSlots, wipeE, bindT, List.getElem?_cons_zero, List.getElem?_cons_succ, List.set_cons_zero, List.set_cons_succ, Option.map_some, if_true, Bool.false_eq_true, if_false]) (fun y hy st => ?_) (by rw [hl]; exact Nat.le_trans hs (by decide))
      obtain ⟨c, _, rfl⟩ := List.mem_map.mp hy
      refine turn_elt (env1 := [some (.py (.str s)), some (.py (.str ⟨#[c]⟩))]) (by simp only [v_nil, v_cons, v_for, v_asg, v_par, v_unp, v_setI, v_expr, v_ret, v_ife, v_pass, e_var, e_const, e_tup, e_lst, e_bin, e_negc, e_not, e_and, e_or, e_cmp, e_chain, e_ife, e_idx, e_slc, e_call, e_isi, e_blt, evDs, evPar, evAnd, x_bind, x_then, ok_bind, ok_then, nx_then, rt_then, np_imp, np_nl, np_py, ni_imp, ni_py, ni_nl, nb_imp, nb_py, no_none, no_int, no_intp, fz_imp, fz_im, fz_nl, im_py, im_imp, ok_imp, dm_nil, dm_one, dm_two, dr_py, tp_nil, tp_cons, ck_true, fin_rt, fin_nx, tr_imp, tr_nl, st_im, st_imp, st_nl, st_nlt, un_imp, b_len, b_all, b_any, b_max, b_min, b_int, b_intb, b_ll, b_lt, b_tl, b_tt, len_l, len_t, it_sl, it_st, it_ss, ty_str, ty_tup, c_le, c_ge, c_lt, c_gt, c_eqi, c_nei, c_eqs, c_nes, c_eqb, c_isb, c_isnb, o_add, o_sub, idx_t, idx_l, at0, at1, at2, at3, Bool.not_true, Bool.not_false, Bool.true_and, Bool.false_and, tgSlots, wipeE, bindT, List.getElem?_cons_zero, List.getElem?_cons_succ, List.set_cons_zero, List.set_cons_succ, Option.map_some, if_true, Bool.false_eq_true, if_false]) ?_
      simp only [v_nil, v_cons, v_for, v_asg, v_par, v_unp, v_setI, v_expr, v_ret, v_ife, v_pass, e_var, e_const, e_tup, e_lst, e_bin, e_negc, e_not, e_and, e_or, e_cmp, e_chain, e_ife, e_idx, e_slc, e_call, e_isi, e_blt, evDs, evPar, evAnd, x_bind, x_then, ok_bind, ok_then, nx_then, rt_then, np_imp, np_nl, np_py, ni_imp, ni_py, ni_nl, nb_imp, nb_py, no_none, no_int, no_intp, fz_imp, fz_im, fz_nl, im_py, im_imp, ok_imp, dm_nil, dm_one, dm_two, dr_py, tp_nil, tp_cons, ck_true, fin_rt, fin_nx, tr_imp, tr_nl, st_im, st_imp, st_nl, st_nlt, un_imp, b_len, b_all, b_any, b_max, b_min, b_int, b_intb, b_ll, b_lt, b_tl, b_tt, len_l, len_t, it_sl, it_st, it_ss, ty_str, ty_tup, c_le, c_ge, c_lt, c_gt, c_eqi, c_nei, c_eqs, c_nes, c_eqb, c_isb, c_isnb, o_add, o_sub, idx_t, idx_l, at0, at1, at2, at3, Bool.not_true, Bool.not_false, Bool.true_and, Bool.false_and, tgSlots, wipeE, bindT, List.getElem?_cons_zero, List.getElem?_cons_succ, List.set_cons_zero, List.set_cons_succ, Option.map_some, if_true, Bool.false_eq_true, if_false, c_les, one_lt]
      by_cases h1 : c < 97
      · have h2 : ¬ 97 ≤ c := by omega
        simp [h1, h2]
      · have h2 : 97 ≤ c := by omega
        by_cases h3 : 122 < c
        · have h4 : ¬ c ≤ 122 := by omega
          simp [h1, h2, h3, h4]
        · have h4 : c ≤ 122 := by omega
          simp [h1, h2, h3, h4]
    have h1 : decide ((1 : Int) ≤ ((s.length : Nat) : Int)) = decide (1 ≤ s.length) := decide_eq_decide.mpr (by omega)
    have h2 : decide (((s.length : Nat) : Int) ≤ 8) = decide (s.length ≤ 8) := decide_eq_decide.mpr (by omega)
    simp only [List.map_map, Function.comp_def] at hc
    simp only [v_nil, v_cons, v_for, v_asg, v_par, v_unp, v_setI, v_expr, v_ret, v_ife, v_pass, e_var, e_const, e_tup, e_lst, e_bin, e_negc, e_not, e_and, e_or, e_cmp, e_chain, e_ife, e_idx, e_slc, e_call, e_isi, e_blt, evDs, evPar, evAnd, x_bind, x_then, ok_bind, ok_then, nx_then, rt_then, np_imp, np_nl, np_py, ni_imp, ni_py, ni_nl, nb_imp, nb_py, no_none, no_int, no_intp, fz_imp, fz_im, fz_nl, im_py, im_imp, ok_imp, dm_nil, dm_one, dm_two, dr_py, tp_nil, tp_cons, ck_true, fin_rt, fin_nx, tr_imp, tr_nl, st_im, st_imp, st_nl, st_nlt, un_imp, b_len, b_all, b_any, b_max, b_min, b_int, b_intb, b_ll, b_lt, b_tl, b_tt, len_l, len_t, it_sl, it_st, it_ss, ty_str, ty_tup, c_le, c_ge, c_lt, c_gt, c_eqi, c_nei, c_eqs, c_nes, c_eqb, c_isb, c_isnb, o_add, o_sub, idx_t, idx_l, at0, at1, at2, at3, Bool.not_true, Bool.not_false, Bool.true_and, Bool.false_and, tgSlots, wipeE, bindT, List.getElem?_cons_zero, List.getElem?_cons_succ, List.set_cons_zero, List.set_cons_succ, Option.map_some, if_true, Bool.false_eq_true, if_false, lenP_str hs, hc, isLabel, h1, h2, bools_map']
    generalize decide (1 ≤ s.length) = b1
    generalize decide (s.length ≤ 8) = b2
    cases b1 <;> cases b2 <;> simp only [v_nil, v_cons, v_for, v_asg, v_par, v_unp, v_setI, v_expr, v_ret, v_ife, v_pass, e_var, e_const, e_tup, e_lst, e_bin, e_negc, e_not, e_and, e_or, e_cmp, e_chain, e_ife, e_idx, e_slc, e_call, e_isi, e_blt, evDs, evPar, evAnd, x_bind, x_then, ok_bind, ok_then, nx_then, rt_then, np_imp, np_nl, np_py, ni_imp, ni_py, ni_nl, nb_imp, nb_py, no_none, no_int, no_intp, fz_imp, fz_im, fz_nl, im_py, im_imp, ok_imp, dm_nil, dm_one, dm_two, dr_py, tp_nil, tp_cons, ck_true, fin_rt, fin_nx, tr_imp, tr_nl, st_im, st_imp, st_nl, st_nlt, un_imp, b_len, b_all, b_any, b_max, b_min, b_int, b_intb, b_ll, b_lt, b_tl, b_tt, len_l, len_t, it_sl, it_st, it_ss, ty_str, ty_tup, c_le, c_ge, c_lt, c_gt, c_eqi, c_nei, c_eqs, c_nes, c_eqb, c_isb, c_isnb, o_add, o_sub, idx_t, idx_l, at0, at1, at2, at3, Bool.not_true, Bool.not_false, Bool.true_and, Bool.false_and, tgSlots, wipeE, bindT, List.getElem?_cons_zero, List.getElem?_cons_succ, List.set_cons_zero, List.set_cons_succ, Option.map_some, if_true, Bool.false_eq_true, if_false, Bool.true_and, Bool.false_and]
    simp [List.all_map, Function.comp_def, tr_imp]
  | _ => simp only [v_nil, v_cons, v_for, v_asg, v_par, v_unp, v_setI, v_expr, v_ret, v_ife, v_pass, e_var, e_const, e_tup, e_lst, e_bin, e_negc, e_not, e_and, e_or, e_cmp, e_chain, e_ife, e_idx, e_slc, e_call, e_isi, e_blt, evDs, evPar, evAnd, x_bind, x_then, ok_bind, ok_then, nx_then, rt_then, np_imp, np_nl, np_py, ni_imp, ni_py, ni_nl, nb_imp, nb_py, no_none, no_int, no_intp, fz_imp, fz_im, fz_nl, im_py, im_imp, ok_imp, dm_nil, dm_one, dm_two, dr_py, tp_nil, tp_cons, ck_true, fin_rt, fin_nx, tr_imp, tr_nl, st_im, st_imp, st_nl, st_nlt, un_imp, b_len, b_all, b_any, b_max, b_min, b_int, b_intb, b_ll, b_lt, b_tl, b_tt, len_l, len_t, it_sl, it_st, it_ss, ty_str, ty_tup, c_le, c_ge, c_lt, c_gt, c_eqi, c_nei, c_eqs, c_nes, c_eqb, c_isb, c_isnb, o_add, o_sub, idx_t, idx_l, at0, at1, at2, at3, Bool.not_true, Bool.not_false, Bool.true_and, Bool.false_and, tgSlots, wipeE, bindT, List.getElem?_cons_zero, List.getElem?_cons_succ, List.set_cons_zero, List.set_cons_succ, Option.map_some, if_true, Bool.false_eq_true, if_false, isTy, isLabel]
/-! rows -/
/-- may be compared with one another -/
def RowOk (xs : List P) : Prop := (∀ x ∈ xs, ∃ s, x = .str s) ∨ (∀ x ∈ xs, ∃ s t, x = .tuple [.str s, .str t])
theorem RowOk.lt {xs : List P} (h : RowOk xs) {x y : P} (hx : x ∈ xs) (hy : y ∈ xs) : cmpop .lt x y = some (PySem.W.dataLt x y) := by
  rcases h with h | h
  · obtain ⟨s, rfl⟩ := h x hx
    obtain ⟨t, rfl⟩ := h y hy
    rfl
  · obtain ⟨s, s', rfl⟩ := h x hx
    obtain ⟨t, t', rfl⟩ := h y hy
    rfl
theorem RowOk.ge {xs : List P} (h : RowOk xs) {x y : P} (hx : x ∈ xs) (hy : y ∈ xs) : cmpop .ge x y = some (!PySem.W.dataLt x y) := by
  rcases h with h | h
  · obtain ⟨s, rfl⟩ := h x hx
    obtain ⟨t, rfl⟩ := h y hy
    rfl
  · obtain ⟨s, s', rfl⟩ := h x hx
    obtain ⟨t, t', rfl⟩ := h y hy
    rfl
/-- each before the next -/
def asc (xs : List P) : Bool := (List.range (xs.length - 1)).all fun i => PySem.W.dataLt (xs.getD i .none) (xs.getD (i + 1) .none)
theorem getD_of {xs : List P} {i : Nat} (h : i < xs.length) : xs.getD i .none = xs[i] := by
  rw [List.getD_eq_getElem?_getD, List.getElem?_eq_getElem h]; rfl
theorem sem_ascends {v : P} {xs : List P} (hv : v = .list xs ∨ v = .tuple xs) (hr : RowOk xs) (hz : xs.length ≤ 1000000) : fin st.length (evSs Φ t_ascends [some (.py v), none] st) = ok1 (.bool (asc xs)) st := by
  unfold t_ascends
  have hlen : lenP v = some xs.length := by rcases hv with rfl | rfl <;> rfl
  have hix : ∀ i, idxop v (.int i) = L2.atI xs i := fun i => by rcases hv with rfl | rfl <;> rfl
  have hc : ∀ st, evE Φ [some (.py v), none] (.comp (.cmp .lt (.idx (.var 0) (.var 1)) (.idx (.var 0) (.bin .add (.var 1) (.const (.int 1))))) (.one 1) .rng1 [(.bin .sub (.blt .len [(.var 0)]) (.const (.int 1)))] []) st =
      .ok (.nl ((List.range (xs.length - 1)).map fun i => .bool (PySem.W.dataLt (xs.getD i .none) (xs.getD (i + 1) .none)))) st := fun st => by
    refine comp_rng1 (j := ((xs.length : Nat) : Int) - 1) _ (by simp only [v_nil, v_cons, v_for, v_asg, v_par, v_unp, v_setI, v_expr, v_ret, v_ife, v_pass, e_var, e_const, e_tup, e_lst, e_bin, e_negc, e_not, e_and, e_or, e_cmp, e_chain, e_ife, e_idx, e_slc, e_call, e_isi, e_blt, evDs, evPar, evAnd, x_bind, x_then, ok_bind, ok_then, nx_then, rt_then, np_imp, np_nl, np_py, ni_imp, ni_py, ni_nl, nb_imp, nb_py, no_none, no_int, no_intp, fz_imp, fz_im, fz_nl, im_py, im_imp, ok_imp, dm_nil, dm_one, dm_two, dr_py, tp_nil, tp_cons, ck_true, fin_rt, fin_nx, tr_imp, tr_nl, st_im, st_imp, st_nl, st_nlt, un_imp, b_len, b_all, b_any, b_max, b_min, b_int, b_intb, b_ll, b_lt, b_tl, b_tt, len_l, len_t, it_sl, it_st, it_ss, ty_str, ty_tup, c_le, c_ge, c_lt, c_gt, c_eqi, c_nei, c_eqs, c_nes, c_eqb, c_isb, c_isnb, o_add, o_sub, idx_t, idx_l, at0, at1, at2, at3, Bool.not_true, Bool.not_false, Bool.true_and, Bool.false_and, tgSlots, wipeE, bindT, List.getElem?_cons_zero, List.getElem?_cons_succ, List.set_cons_zero, List.set_cons_succ, Option.map_some, if_true, Bool.false_eq_true, if_false, hlen]) (by omega) (by omega) (by omega) fun i hi st => ?_
    have h1 : i < xs.length := by omega
    have h2 : i + 1 < xs.length := by omega
    refine turn_elt (env1 := [some (.py v), some (.py (.int i))]) (by simp only [v_nil, v_cons, v_for, v_asg, v_par, v_unp, v_setI, v_expr, v_ret, v_ife, v_pass, e_var, e_const, e_tup, e_lst, e_bin, e_negc, e_not, e_and, e_or, e_cmp, e_chain, e_ife, e_idx, e_slc, e_call, e_isi, e_blt, evDs, evPar, evAnd, x_bind, x_then, ok_bind, ok_then, nx_then, rt_then, np_imp, np_nl, np_py, ni_imp, ni_py, ni_nl, nb_imp, nb_py, no_none, no_int, no_intp, fz_imp, fz_im, fz_nl, im_py, im_imp, ok_imp, dm_nil, dm_one, dm_two, dr_py, tp_nil, tp_cons, ck_true, fin_rt, fin_nx, tr_imp, tr_nl, st_im, st_imp, st_nl, st_nlt, un_imp, b_len, b_all, b_any, b_max, b_min, b_int, b_intb, b_ll, b_lt, b_tl, b_tt, len_l, len_t, it_sl, it_st, it_ss, ty_str, ty_tup, c_le, c_ge, c_lt, c_gt, c_eqi, c_nei, c_eqs, c_nes, c_eqb, c_isb, c_isnb, o_add, o_sub, idx_t, idx_l, at0, at1, at2, at3, Bool.not_true, Bool.not_false, Bool.true_and, Bool.false_and, tgSlots, wipeE, bindT, List.getElem?_cons_zero, List.getElem?_cons_succ, List.set_cons_zero, List.set_cons_succ, Option.map_some, if_true, Bool.false_eq_true, if_false]) ?_
    simp only [v_nil, v_cons, v_for, v_asg, v_par, v_unp, v_setI, v_expr, v_ret, v_ife, v_pass, e_var, e_const, e_tup, e_lst, e_bin, e_negc, e_not, e_and, e_or, e_cmp, e_chain, e_ife, e_idx, e_slc, e_call, e_isi, e_blt, evDs, evPar, evAnd, x_bind, x_then, ok_bind, ok_then, nx_then, rt_then, np_imp, np_nl, np_py, ni_imp, ni_py, ni_nl, nb_imp, nb_py, no_none, no_int, no_intp, fz_imp, fz_im, fz_nl, im_py, im_imp, ok_imp, dm_nil, dm_one, dm_two, dr_py, tp_nil, tp_cons, ck_true, fin_rt, fin_nx, tr_imp, tr_nl, st_im, st_imp, st_nl, st_nlt, un_imp, b_len, b_all, b_any, b_max, b_min, b_int, b_intb, b_ll, b_lt, b_tl, b_tt, len_l, len_t, it_sl, it_st, it_ss, ty_str, ty_tup, c_le, c_ge, c_lt, c_gt, c_eqi, c_nei, c_eqs, c_nes, c_eqb, c_isb, c_isnb, o_add, o_sub, idx_t, idx_l, at0, at1, at2, at3, Bool.not_true, Bool.not_false, Bool.true_and, Bool.false_and, tgSlots, wipeE, bindT, List.getElem?_cons_zero, List.getElem?_cons_succ, List.set_cons_zero, List.set_cons_succ, Option.map_some, if_true, Bool.false_eq_true, if_false, hix]
    rw [show ((i : Nat) : Int) + 1 = ((i + 1 : Nat) : Int) from by omega]
    simp only [atI_nat h1, atI_nat h2, v_nil, v_cons, v_for, v_asg, v_par, v_unp, v_setI, v_expr, v_ret, v_ife, v_pass, e_var, e_const, e_tup, e_lst, e_bin, e_negc, e_not, e_and, e_or, e_cmp, e_chain, e_ife, e_idx, e_slc, e_call, e_isi, e_blt, evDs, evPar, evAnd, x_bind, x_then, ok_bind, ok_then, nx_then, rt_then, np_imp, np_nl, np_py, ni_imp, ni_py, ni_nl, nb_imp, nb_py, no_none, no_int, no_intp, fz_imp, fz_im, fz_nl, im_py, im_imp, ok_imp, dm_nil, dm_one, dm_two, dr_py, tp_nil, tp_cons, ck_true, fin_rt, fin_nx, tr_imp, tr_nl, st_im, st_imp, st_nl, st_nlt, un_imp, b_len, b_all, b_any, b_max, b_min, b_int, b_intb, b_ll, b_lt, b_tl, b_tt, len_l, len_t, it_sl, it_st, it_ss, ty_str, ty_tup, c_le, c_ge, c_lt, c_gt, c_eqi, c_nei, c_eqs, c_nes, c_eqb, c_isb, c_isnb, o_add, o_sub, idx_t, idx_l, at0, at1, at2, at3, Bool.not_true, Bool.not_false, Bool.true_and, Bool.false_and, tgSlots, wipeE, bindT, List.getElem?_cons_zero, List.getElem?_cons_succ, List.set_cons_zero, List.set_cons_succ, Option.map_some, if_true, Bool.false_eq_true, if_false, hr.lt (List.getElem_mem h1) (List.getElem_mem h2), getD_of h1, getD_of h2]
  simp only [v_nil, v_cons, v_for, v_asg, v_par, v_unp, v_setI, v_expr, v_ret, v_ife, v_pass, e_var, e_const, e_tup, e_lst, e_bin, e_negc, e_not, e_and, e_or, e_cmp, e_chain, e_ife, e_idx, e_slc, e_call, e_isi, e_blt, evDs, evPar, evAnd, x_bind, x_then, ok_bind, ok_then, nx_then, rt_then, np_imp, np_nl, np_py, ni_imp, ni_py, ni_nl, nb_imp, nb_py, no_none, no_int, no_intp, fz_imp, fz_im, fz_nl, im_py, im_imp, ok_imp, dm_nil, dm_one, dm_two, dr_py, tp_nil, tp_cons, ck_true, fin_rt, fin_nx, tr_imp, tr_nl, st_im, st_imp, st_nl, st_nlt, un_imp, b_len, b_all, b_any, b_max, b_min, b_int, b_intb, b_ll, b_lt, b_tl, b_tt, len_l, len_t, it_sl, it_st, it_ss, ty_str, ty_tup, c_le, c_ge, c_lt, c_gt, c_eqi, c_nei, c_eqs, c_nes, c_eqb, c_isb, c_isnb, o_add, o_sub, idx_t, idx_l, at0, at1, at2, at3, Bool.not_true, Bool.not_false, Bool.true_and, Bool.false_and, tgSlots, wipeE, bindT, List.getElem?_cons_zero, List.getElem?_cons_succ, List.set_cons_zero, List.set_cons_succ, Option.map_some, if_true, Bool.false_eq_true, if_false, hc, bools_map', tr_imp]
  congr 2
  unfold asc
  rw [List.all_map]
  rfl
/-! a word of a list -/
def oneOf (ws : List P) : P → Bool
  | .str s => ws.any fun y => y.eqv (.str s)
  | _ => false
def Strs (ws : List P) : Prop := ∀ w ∈ ws, ∃ s, w = .str s
theorem Strs.fit {ws : List P} (h : Strs ws) : ws.all fit = true := by
  rw [List.all_eq_true]
  intro x hx
  obtain ⟨s, rfl⟩ := h x hx
  rfl
theorem c_in_l (x : P) (ys : List P) (h : fit x = true) (h2 : ys.all fit = true) : cmpop .in_ x (.list ys) = some (ys.any fun y => y.eqv x) := by
  show (if (fit x && ys.all fit) = true then _ else none) = _
  rw [h, h2, Bool.and_self, if_pos rfl]
theorem c_in_t (x : P) (ys : List P) (h : fit x = true) (h2 : ys.all fit = true) : cmpop .in_ x (.tuple ys) = some (ys.any fun y => y.eqv x) := by
  show (if (fit x && ys.all fit) = true then _ else none) = _
  rw [h, h2, Bool.and_self, if_pos rfl]
theorem c_ni_l (x : P) (ys : List P) (h : fit x = true) (h2 : ys.all fit = true) : cmpop .notin x (.list ys) = some (!ys.any fun y => y.eqv x) := by
  show (isIn x (.list ys)).map (!·) = _
  have e : isIn x (.list ys) = some (ys.any fun y => y.eqv x) := c_in_l x ys h h2
  rw [e]; rfl
theorem c_ni_t (x : P) (ys : List P) (h : fit x = true) (h2 : ys.all fit = true) : cmpop .notin x (.tuple ys) = some (!ys.any fun y => y.eqv x) := by
  show (isIn x (.tuple ys)).map (!·) = _
  have e : isIn x (.tuple ys) = some (ys.any fun y => y.eqv x) := c_in_t x ys h h2
  rw [e]; rfl
theorem sem_oneOf {W v : P} {ws : List P} (hW : W = .list ws ∨ W = .tuple ws) (hs : Strs ws) : fin st.length (evSs Φ t_is_one_of [some (.py W), some (.py v)] st) = ok1 (.bool (oneOf ws v)) st := by
  unfold t_is_one_of
  cases v with
  | str s => rcases hW with rfl | rfl <;> simp only [v_nil, v_cons, v_for, v_asg, v_par, v_unp, v_setI, v_expr, v_ret, v_ife, v_pass, e_var, e_const, e_tup, e_lst, e_bin, e_negc, e_not, e_and, e_or, e_cmp, e_chain, e_ife, e_idx, e_slc, e_call, e_isi, e_blt, evDs, evPar, evAnd, x_bind, x_then, ok_bind, ok_then, nx_then, rt_then, np_imp, np_nl, np_py, ni_imp, ni_py, ni_nl, nb_imp, nb_py, no_none, no_int, no_intp, fz_imp, fz_im, fz_nl, im_py, im_imp, ok_imp, dm_nil, dm_one, dm_two, dr_py, tp_nil, tp_cons, ck_true, fin_rt, fin_nx, tr_imp, tr_nl, st_im, st_imp, st_nl, st_nlt, un_imp, b_len, b_all, b_any, b_max, b_min, b_int, b_intb, b_ll, b_lt, b_tl, b_tt, len_l, len_t, it_sl, it_st, it_ss, ty_str, ty_tup, c_le, c_ge, c_lt, c_gt, c_eqi, c_nei, c_eqs, c_nes, c_eqb, c_isb, c_isnb, o_add, o_sub, idx_t, idx_l, at0, at1, at2, at3, Bool.not_true, Bool.not_false, Bool.true_and, Bool.false_and, tgSlots, wipeE, bindT, List.getElem?_cons_zero, List.getElem?_cons_succ, List.set_cons_zero, List.set_cons_succ, Option.map_some, if_true, Bool.false_eq_true, if_false, c_in_l _ _ (fit_str s) hs.fit, c_in_t _ _ (fit_str s) hs.fit, oneOf]
  | _ => simp only [v_nil, v_cons, v_for, v_asg, v_par, v_unp, v_setI, v_expr, v_ret, v_ife, v_pass, e_var, e_const, e_tup, e_lst, e_bin, e_negc, e_not, e_and, e_or, e_cmp, e_chain, e_ife, e_idx, e_slc, e_call, e_isi, e_blt, evDs, evPar, evAnd, x_bind, x_then, ok_bind, ok_then, nx_then, rt_then, np_imp, np_nl, np_py, ni_imp, ni_py, ni_nl, nb_imp, nb_py, no_none, no_int, no_intp, fz_imp, fz_im, fz_nl, im_py, im_imp, ok_imp, dm_nil, dm_one, dm_two, dr_py, tp_nil, tp_cons, ck_true, fin_rt, fin_nx, tr_imp, tr_nl, st_im, st_imp, st_nl, st_nlt, un_imp, b_len, b_all, b_any, b_max, b_min, b_int, b_intb, b_ll, b_lt, b_tl, b_tt, len_l, len_t, it_sl, it_st, it_ss, ty_str, ty_tup, c_le, c_ge, c_lt, c_gt, c_eqi, c_nei, c_eqs, c_nes, c_eqb, c_isb, c_isnb, o_add, o_sub, idx_t, idx_l, at0, at1, at2, at3, Bool.not_true, Bool.not_false, Bool.true_and, Bool.false_and, tgSlots, wipeE, bindT, List.getElem?_cons_zero, List.getElem?_cons_succ, List.set_cons_zero, List.set_cons_succ, Option.map_some, if_true, Bool.false_eq_true, if_false, isTy, oneOf]

/-! callees -/
def LabelF (Φ : Nat → List D → Sto → R Rv) (i : Nat) : Prop := ∀ v st, small v = true → Φ i [.py v] st = ok1 (.bool (isLabel v)) st
def OneF (Φ : Nat → List D → Sto → R Rv) (i : Nat) : Prop := ∀ W ws v st, (W = .list ws ∨ W = .tuple ws) → Strs ws → Φ i [.py W, .py v] st = ok1 (.bool (oneOf ws v)) st
def AscF (Φ : Nat → List D → Sto → R Rv) (i : Nat) : Prop := ∀ v xs st, (v = .list xs ∨ v = .tuple xs) → RowOk xs → xs.length ≤ 1000000 → Φ i [.py v] st = ok1 (.bool (asc xs)) st
theorem oneOf_str {ws : List P} {v : P} (h : oneOf ws v = true) : ∃ s, v = .str s := by
  cases v with
  | str s => exact ⟨s, rfl⟩
  | _ => cases h
theorem all_oneOf {ws vs : List P} (h : vs.all (oneOf ws) = true) : Strs vs := fun v hv => oneOf_str (List.all_eq_true.mp h v hv)
def areNames (ns : List P) : P → Bool
  | .tuple vs => vs.all (oneOf ns) && asc vs
  | _ => false
theorem sem_areNames {i1 i2 : Nat} (h1 : OneF Φ i1) (h2 : AscF Φ i2) {W v : P} {ns : List P} (hW : W = .list ns ∨ W = .tuple ns) (hs : Strs ns) (hv : small v = true) :
    fin st.length (evSs Φ (t_are_names i1 i2) [some (.py W), some (.py v), none] st) = ok1 (.bool (areNames ns v)) st := by
  unfold t_are_names
  cases v with
  | tuple vs =>
    obtain ⟨z, _⟩ := small_tup hv
    have hc : ∀ st, evE Φ [some (.py W), some (.py (.tuple vs)), none] (.comp (.call i1 [(.var 0), (.var 2)]) (.one 2) .seq [(.var 1)] []) st = .ok (.nl (vs.map fun y => .bool (oneOf ns y))) st := fun st => by
      refine comp_map _ (ds := [.py (.tuple vs)]) (by simp only [v_nil, v_cons, v_for, v_asg, v_par, v_unp, v_setI, v_expr, v_ret, v_ife, v_pass, e_var, e_const, e_tup, e_lst, e_bin, e_negc, e_not, e_and, e_or, e_cmp, e_chain, e_ife, e_idx, e_slc, e_call, e_isi, e_blt, evDs, evPar, evAnd, x_bind, x_then, ok_bind, ok_then, nx_then, rt_then, np_imp, np_nl, np_py, ni_imp, ni_py, ni_nl, nb_imp, nb_py, no_none, no_int, no_intp, fz_imp, fz_im, fz_nl, im_py, im_imp, ok_imp, dm_nil, dm_one, dm_two, dr_py, tp_nil, tp_cons, ck_true, fin_rt, fin_nx, tr_imp, tr_nl, st_im, st_imp, st_nl, st_nlt, un_imp, b_len, b_all, b_any, b_max, b_min, b_int, b_intb, b_ll, b_lt, b_tl, b_tt, len_l, len_t, it_sl, it_st, it_ss, ty_str, ty_tup, c_le, c_ge, c_lt, c_gt, c_eqi, c_nei, c_eqs, c_nes, c_eqb, c_isb, c_isnb, o_add, o_sub, idx_t, idx_l, at0, at1, at2, at3, Bool.not_true, Bool.not_false, Bool.true_and, Bool.false_and, tgSlots, wipeE, bindT, List.getElem?_cons_zero, List.getElem?_cons_succ, List.set_cons_zero, List.set_cons_succ, Option.map_some, if_true, Bool.false_eq_true, if_false]) (by simp only [v_nil, v_cons, v_for, v_asg, v_par, v_unp, v_setI, v_expr, v_ret, v_ife, v_pass, e_var, e_const, e_tup, e_lst, e_bin, e_negc, e_not, e_and, e_or, e_cmp, e_chain, e_ife, e_idx, e_slc, e_call, e_isi, e_blt, evDs, evPar, evAnd, x_bind, x_then, ok_bind, ok_then, nx_then, rt_then, np_imp, np_nl, np_py, ni_imp, ni_py, ni_nl, nb_imp, nb_py, no_none, no_int, no_intp, fz_imp, fz_im, fz_nl, im_py, im_imp, ok_imp, dm_nil, dm_one, dm_two, dr_py, tp_nil, tp_cons, ck_true, fin_rt, fin_nx, tr_imp, tr_nl, st_im, st_imp, st_nl, st_nlt, un_imp, b_len, b_all, b_any, b_max, b_min, b_int, b_intb, b_ll, b_lt, b_tl, b_tt, len_l, len_t, it_sl, it_st, it_ss, ty_str, ty_tup, c_le, c_ge, c_lt, c_gt, c_eqi, c_nei, c_eqs, c_nes, c_eqb, c_isb, c_isnb, o_add, o_sub, idx_t, idx_l, at0, at1, at2, at3, Bool.not_true, Bool.not_false, Bool.true_and, Bool.false_and, tgSlots, wipeE, bindT, List.getElem?_cons_zero, List.getElem?_cons_succ, List.set_cons_zero, List.set_cons_succ, Option.map_some, if_true, Bool.false_eq_true, if_false]) (fun y hy st => ?_) (Nat.le_trans z sz_big)
      exact turn_elt (env1 := [some (.py W), some (.py (.tuple vs)), some (.py y)]) (by simp only [v_nil, v_cons, v_for, v_asg, v_par, v_unp, v_setI, v_expr, v_ret, v_ife, v_pass, e_var, e_const, e_tup, e_lst, e_bin, e_negc, e_not, e_and, e_or, e_cmp, e_chain, e_ife, e_idx, e_slc, e_call, e_isi, e_blt, evDs, evPar, evAnd, x_bind, x_then, ok_bind, ok_then, nx_then, rt_then, np_imp, np_nl, np_py, ni_imp, ni_py, ni_nl, nb_imp, nb_py, no_none, no_int, no_intp, fz_imp, fz_im, fz_nl, im_py, im_imp, ok_imp, dm_nil, dm_one, dm_two, dr_py, tp_nil, tp_cons, ck_true, fin_rt, fin_nx, tr_imp, tr_nl, st_im, st_imp, st_nl, st_nlt, un_imp, b_len, b_all, b_any, b_max, b_min, b_int, b_intb, b_ll, b_lt, b_tl, b_tt, len_l, len_t, it_sl, it_st, it_ss, ty_str, ty_tup, c_le, c_ge, c_lt, c_gt, c_eqi, c_nei, c_eqs, c_nes, c_eqb, c_isb, c_isnb, o_add, o_sub, idx_t, idx_l, at0, at1, at2, at3, Bool.not_true, Bool.not_false, Bool.true_and, Bool.false_and, tgSlots, wipeE, bindT, List.getElem?_cons_zero, List.getElem?_cons_succ, List.set_cons_zero, List.set_cons_succ, Option.map_some, if_true, Bool.false_eq_true, if_false]) (by simp only [v_nil, v_cons, v_for, v_asg, v_par, v_unp, v_setI, v_expr, v_ret, v_ife, v_pass, e_var, e_const, e_tup, e_lst, e_bin, e_negc, e_not, e_and, e_or, e_cmp, e_chain, e_ife, e_idx, e_slc, e_call, e_isi, e_blt, evDs, evPar, evAnd, x_bind, x_then, ok_bind, ok_then, nx_then, rt_then, np_imp, np_nl, np_py, ni_imp, ni_py, ni_nl, nb_imp, nb_py, no_none, no_int, no_intp, fz_imp, fz_im, fz_nl, im_py, im_imp, ok_imp, dm_nil, dm_one, dm_two, dr_py, tp_nil, tp_cons, ck_true, fin_rt, fin_nx, tr_imp, tr_nl, st_im, st_imp, st_nl, st_nlt, un_imp, b_len, b_all, b_any, b_max, b_min, b_int, b_intb, b_ll, b_lt, b_tl, b_tt, len_l, len_t, it_sl, it_st, it_ss, ty_str, ty_tup, c_le, c_ge, c_lt, c_gt, c_eqi, c_nei, c_eqs, c_nes, c_eqb, c_isb, c_isnb, o_add, o_sub, idx_t, idx_l, at0, at1, at2, at3, Bool.not_true, Bool.not_false, Bool.true_and, Bool.false_and, tgSlots, wipeE, bindT, List.getElem?_cons_zero, List.getElem?_cons_succ, List.set_cons_zero, List.set_cons_succ, Option.map_some, if_true, Bool.false_eq_true, if_false, h1 W ns y _ hW hs])
    simp only [v_nil, v_cons, v_for, v_asg, v_par, v_unp, v_setI, v_expr, v_ret, v_ife, v_pass, e_var, e_const, e_tup, e_lst, e_bin, e_negc, e_not, e_and, e_or, e_cmp, e_chain, e_ife, e_idx, e_slc, e_call, e_isi, e_blt, evDs, evPar, evAnd, x_bind, x_then, ok_bind, ok_then, nx_then, rt_then, np_imp, np_nl, np_py, ni_imp, ni_py, ni_nl, nb_imp, nb_py, no_none, no_int, no_intp, fz_imp, fz_im, fz_nl, im_py, im_imp, ok_imp, dm_nil, dm_one, dm_two, dr_py, tp_nil, tp_cons, ck_true, fin_rt, fin_nx, tr_imp, tr_nl, st_im, st_imp, st_nl, st_nlt, un_imp, b_len, b_all, b_any, b_max, b_min, b_int, b_intb, b_ll, b_lt, b_tl, b_tt, len_l, len_t, it_sl, it_st, it_ss, ty_str, ty_tup, c_le, c_ge, c_lt, c_gt, c_eqi, c_nei, c_eqs, c_nes, c_eqb, c_isb, c_isnb, o_add, o_sub, idx_t, idx_l, at0, at1, at2, at3, Bool.not_true, Bool.not_false, Bool.true_and, Bool.false_and, tgSlots, wipeE, bindT, List.getElem?_cons_zero, List.getElem?_cons_succ, List.set_cons_zero, List.set_cons_succ, Option.map_some, if_true, Bool.false_eq_true, if_false, hc, bools_map', areNames]
    have e : (vs.map fun y => oneOf ns y).all id = vs.all (oneOf ns) := by rw [List.all_map]; rfl
    rw [e]
    cases hb : vs.all (oneOf ns) with
    | false => simp only [v_nil, v_cons, v_for, v_asg, v_par, v_unp, v_setI, v_expr, v_ret, v_ife, v_pass, e_var, e_const, e_tup, e_lst, e_bin, e_negc, e_not, e_and, e_or, e_cmp, e_chain, e_ife, e_idx, e_slc, e_call, e_isi, e_blt, evDs, evPar, evAnd, x_bind, x_then, ok_bind, ok_then, nx_then, rt_then, np_imp, np_nl, np_py, ni_imp, ni_py, ni_nl, nb_imp, nb_py, no_none, no_int, no_intp, fz_imp, fz_im, fz_nl, im_py, im_imp, ok_imp, dm_nil, dm_one, dm_two, dr_py, tp_nil, tp_cons, ck_true, fin_rt, fin_nx, tr_imp, tr_nl, st_im, st_imp, st_nl, st_nlt, un_imp, b_len, b_all, b_any, b_max, b_min, b_int, b_intb, b_ll, b_lt, b_tl, b_tt, len_l, len_t, it_sl, it_st, it_ss, ty_str, ty_tup, c_le, c_ge, c_lt, c_gt, c_eqi, c_nei, c_eqs, c_nes, c_eqb, c_isb, c_isnb, o_add, o_sub, idx_t, idx_l, at0, at1, at2, at3, Bool.not_true, Bool.not_false, Bool.true_and, Bool.false_and, tgSlots, wipeE, bindT, List.getElem?_cons_zero, List.getElem?_cons_succ, List.set_cons_zero, List.set_cons_succ, Option.map_some, if_true, Bool.false_eq_true, if_false, Bool.false_and]
    | true => simp only [v_nil, v_cons, v_for, v_asg, v_par, v_unp, v_setI, v_expr, v_ret, v_ife, v_pass, e_var, e_const, e_tup, e_lst, e_bin, e_negc, e_not, e_and, e_or, e_cmp, e_chain, e_ife, e_idx, e_slc, e_call, e_isi, e_blt, evDs, evPar, evAnd, x_bind, x_then, ok_bind, ok_then, nx_then, rt_then, np_imp, np_nl, np_py, ni_imp, ni_py, ni_nl, nb_imp, nb_py, no_none, no_int, no_intp, fz_imp, fz_im, fz_nl, im_py, im_imp, ok_imp, dm_nil, dm_one, dm_two, dr_py, tp_nil, tp_cons, ck_true, fin_rt, fin_nx, tr_imp, tr_nl, st_im, st_imp, st_nl, st_nlt, un_imp, b_len, b_all, b_any, b_max, b_min, b_int, b_intb, b_ll, b_lt, b_tl, b_tt, len_l, len_t, it_sl, it_st, it_ss, ty_str, ty_tup, c_le, c_ge, c_lt, c_gt, c_eqi, c_nei, c_eqs, c_nes, c_eqb, c_isb, c_isnb, o_add, o_sub, idx_t, idx_l, at0, at1, at2, at3, Bool.not_true, Bool.not_false, Bool.true_and, Bool.false_and, tgSlots, wipeE, bindT, List.getElem?_cons_zero, List.getElem?_cons_succ, List.set_cons_zero, List.set_cons_succ, Option.map_some, if_true, Bool.false_eq_true, if_false, h2 (.tuple vs) vs _ (.inr rfl) (.inl (all_oneOf hb)) z, Bool.true_and]
  | _ => simp only [v_nil, v_cons, v_for, v_asg, v_par, v_unp, v_setI, v_expr, v_ret, v_ife, v_pass, e_var, e_const, e_tup, e_lst, e_bin, e_negc, e_not, e_and, e_or, e_cmp, e_chain, e_ife, e_idx, e_slc, e_call, e_isi, e_blt, evDs, evPar, evAnd, x_bind, x_then, ok_bind, ok_then, nx_then, rt_then, np_imp, np_nl, np_py, ni_imp, ni_py, ni_nl, nb_imp, nb_py, no_none, no_int, no_intp, fz_imp, fz_im, fz_nl, im_py, im_imp, ok_imp, dm_nil, dm_one, dm_two, dr_py, tp_nil, tp_cons, ck_true, fin_rt, fin_nx, tr_imp, tr_nl, st_im, st_imp, st_nl, st_nlt, un_imp, b_len, b_all, b_any, b_max, b_min, b_int, b_intb, b_ll, b_lt, b_tl, b_tt, len_l, len_t, it_sl, it_st, it_ss, ty_str, ty_tup, c_le, c_ge, c_lt, c_gt, c_eqi, c_nei, c_eqs, c_nes, c_eqb, c_isb, c_isnb, o_add, o_sub, idx_t, idx_l, at0, at1, at2, at3, Bool.not_true, Bool.not_false, Bool.true_and, Bool.false_and, tgSlots, wipeE, bindT, List.getElem?_cons_zero, List.getElem?_cons_succ, List.set_cons_zero, List.set_cons_succ, Option.map_some, if_true, Bool.false_eq_true, if_false, isTy, areNames]
def NamesF (Φ : Nat → List D → Sto → R Rv) (i : Nat) : Prop := ∀ W ns v st, (W = .list ns ∨ W = .tuple ns) → Strs ns → small v = true → Φ i [.py W, .py v] st = ok1 (.bool (areNames ns v)) st
def RULES : List P := [(.str ⟨#[97, 108, 108]⟩), (.str ⟨#[110, 101, 119]⟩), (.str ⟨#[110, 111]⟩), (.str ⟨#[121, 101, 115]⟩)]
theorem rules_strs : Strs RULES := by
  intro w hw
  simp only [RULES, List.mem_cons, List.not_mem_nil, or_false] at hw
  rcases hw with rfl | rfl | rfl | rfl <;> exact ⟨_, rfl⟩
def isTool : P → Bool
  | .tuple [a, b, c, d] => isLabel a && (oneOf RULES b && (isTy .tup c && isTy .bool d))
  | _ => false
theorem sem_isTool {i0 i1 : Nat} (h0 : LabelF Φ i0) (h1 : OneF Φ i1) {v : P} (hv : small v = true) : fin st.length (evSs Φ (t_is_tool i0 i1) [some (.py v)] st) = ok1 (.bool (isTool v)) st := by
  unfold t_is_tool
  cases v with
  | tuple vs =>
    obtain ⟨z, hs⟩ := small_tup hv
    by_cases hl : vs.length = 4
    · rcases vs with _ | ⟨a, _ | ⟨b, _ | ⟨c, _ | ⟨d, _ | ⟨e, vs⟩⟩⟩⟩⟩ <;> try (simp at hl; done)
      have ha : small a = true := hs a (by simp)
      have e1 := h1 (.tuple RULES) RULES b
      unfold RULES at e1
      have e2 := fun st => e1 st (.inr rfl) rules_strs
      have e3 : (((0 + 1 + 1 + 1 + 1 : Nat) : Int) == 4) = true := rfl
      simp only [v_nil, v_cons, v_for, v_asg, v_par, v_unp, v_setI, v_expr, v_ret, v_ife, v_pass, e_var, e_const, e_tup, e_lst, e_bin, e_negc, e_not, e_and, e_or, e_cmp, e_chain, e_ife, e_idx, e_slc, e_call, e_isi, e_blt, evDs, evPar, evAnd, x_bind, x_then, ok_bind, ok_then, nx_then, rt_then, np_imp, np_nl, np_py, ni_imp, ni_py, ni_nl, nb_imp, nb_py, no_none, no_int, no_intp, fz_imp, fz_im, fz_nl, im_py, im_imp, ok_imp, dm_nil, dm_one, dm_two, dr_py, tp_nil, tp_cons, ck_true, fin_rt, fin_nx, tr_imp, tr_nl, st_im, st_imp, st_nl, st_nlt, un_imp, b_len, b_all, b_any, b_max, b_min, b_int, b_intb, b_ll, b_lt, b_tl, b_tt, len_l, len_t, it_sl, it_st, it_ss, ty_str, ty_tup, c_le, c_ge, c_lt, c_gt, c_eqi, c_nei, c_eqs, c_nes, c_eqb, c_isb, c_isnb, o_add, o_sub, idx_t, idx_l, at0, at1, at2, at3, Bool.not_true, Bool.not_false, Bool.true_and, Bool.false_and, tgSlots, wipeE, bindT, List.getElem?_cons_zero, List.getElem?_cons_succ, List.set_cons_zero, List.set_cons_succ, Option.map_some, if_true, Bool.false_eq_true, if_false, List.length_cons, List.length_nil, h0 a _ ha, e2, e3, isTool]
      unfold RULES
      cases isLabel a <;> simp only [v_nil, v_cons, v_for, v_asg, v_par, v_unp, v_setI, v_expr, v_ret, v_ife, v_pass, e_var, e_const, e_tup, e_lst, e_bin, e_negc, e_not, e_and, e_or, e_cmp, e_chain, e_ife, e_idx, e_slc, e_call, e_isi, e_blt, evDs, evPar, evAnd, x_bind, x_then, ok_bind, ok_then, nx_then, rt_then, np_imp, np_nl, np_py, ni_imp, ni_py, ni_nl, nb_imp, nb_py, no_none, no_int, no_intp, fz_imp, fz_im, fz_nl, im_py, im_imp, ok_imp, dm_nil, dm_one, dm_two, dr_py, tp_nil, tp_cons, ck_true, fin_rt, fin_nx, tr_imp, tr_nl, st_im, st_imp, st_nl, st_nlt, un_imp, b_len, b_all, b_any, b_max, b_min, b_int, b_intb, b_ll, b_lt, b_tl, b_tt, len_l, len_t, it_sl, it_st, it_ss, ty_str, ty_tup, c_le, c_ge, c_lt, c_gt, c_eqi, c_nei, c_eqs, c_nes, c_eqb, c_isb, c_isnb, o_add, o_sub, idx_t, idx_l, at0, at1, at2, at3, Bool.not_true, Bool.not_false, Bool.true_and, Bool.false_and, tgSlots, wipeE, bindT, List.getElem?_cons_zero, List.getElem?_cons_succ, List.set_cons_zero, List.set_cons_succ, Option.map_some, if_true, Bool.false_eq_true, if_false]
      cases (oneOf _ b) <;> simp only [v_nil, v_cons, v_for, v_asg, v_par, v_unp, v_setI, v_expr, v_ret, v_ife, v_pass, e_var, e_const, e_tup, e_lst, e_bin, e_negc, e_not, e_and, e_or, e_cmp, e_chain, e_ife, e_idx, e_slc, e_call, e_isi, e_blt, evDs, evPar, evAnd, x_bind, x_then, ok_bind, ok_then, nx_then, rt_then, np_imp, np_nl, np_py, ni_imp, ni_py, ni_nl, nb_imp, nb_py, no_none, no_int, no_intp, fz_imp, fz_im, fz_nl, im_py, im_imp, ok_imp, dm_nil, dm_one, dm_two, dr_py, tp_nil, tp_cons, ck_true, fin_rt, fin_nx, tr_imp, tr_nl, st_im, st_imp, st_nl, st_nlt, un_imp, b_len, b_all, b_any, b_max, b_min, b_int, b_intb, b_ll, b_lt, b_tl, b_tt, len_l, len_t, it_sl, it_st, it_ss, ty_str, ty_tup, c_le, c_ge, c_lt, c_gt, c_eqi, c_nei, c_eqs, c_nes, c_eqb, c_isb, c_isnb, o_add, o_sub, idx_t, idx_l, at0, at1, at2, at3, Bool.not_true, Bool.not_false, Bool.true_and, Bool.false_and, tgSlots, wipeE, bindT, List.getElem?_cons_zero, List.getElem?_cons_succ, List.set_cons_zero, List.set_cons_succ, Option.map_some, if_true, Bool.false_eq_true, if_false]
      cases (isTy .tup c) <;> simp only [v_nil, v_cons, v_for, v_asg, v_par, v_unp, v_setI, v_expr, v_ret, v_ife, v_pass, e_var, e_const, e_tup, e_lst, e_bin, e_negc, e_not, e_and, e_or, e_cmp, e_chain, e_ife, e_idx, e_slc, e_call, e_isi, e_blt, evDs, evPar, evAnd, x_bind, x_then, ok_bind, ok_then, nx_then, rt_then, np_imp, np_nl, np_py, ni_imp, ni_py, ni_nl, nb_imp, nb_py, no_none, no_int, no_intp, fz_imp, fz_im, fz_nl, im_py, im_imp, ok_imp, dm_nil, dm_one, dm_two, dr_py, tp_nil, tp_cons, ck_true, fin_rt, fin_nx, tr_imp, tr_nl, st_im, st_imp, st_nl, st_nlt, un_imp, b_len, b_all, b_any, b_max, b_min, b_int, b_intb, b_ll, b_lt, b_tl, b_tt, len_l, len_t, it_sl, it_st, it_ss, ty_str, ty_tup, c_le, c_ge, c_lt, c_gt, c_eqi, c_nei, c_eqs, c_nes, c_eqb, c_isb, c_isnb, o_add, o_sub, idx_t, idx_l, at0, at1, at2, at3, Bool.not_true, Bool.not_false, Bool.true_and, Bool.false_and, tgSlots, wipeE, bindT, List.getElem?_cons_zero, List.getElem?_cons_succ, List.set_cons_zero, List.set_cons_succ, Option.map_some, if_true, Bool.false_eq_true, if_false]
    · have e3 : (((vs.length : Nat) : Int) == 4) = false := by
        rw [beq_eq_false_iff_ne]
        omega
      have e4 : isTool (.tuple vs) = false := by
        rcases vs with _ | ⟨a, _ | ⟨b, _ | ⟨c, _ | ⟨d, _ | ⟨e, vs⟩⟩⟩⟩⟩ <;> first | rfl | (simp at hl)
      simp only [v_nil, v_cons, v_for, v_asg, v_par, v_unp, v_setI, v_expr, v_ret, v_ife, v_pass, e_var, e_const, e_tup, e_lst, e_bin, e_negc, e_not, e_and, e_or, e_cmp, e_chain, e_ife, e_idx, e_slc, e_call, e_isi, e_blt, evDs, evPar, evAnd, x_bind, x_then, ok_bind, ok_then, nx_then, rt_then, np_imp, np_nl, np_py, ni_imp, ni_py, ni_nl, nb_imp, nb_py, no_none, no_int, no_intp, fz_imp, fz_im, fz_nl, im_py, im_imp, ok_imp, dm_nil, dm_one, dm_two, dr_py, tp_nil, tp_cons, ck_true, fin_rt, fin_nx, tr_imp, tr_nl, st_im, st_imp, st_nl, st_nlt, un_imp, b_len, b_all, b_any, b_max, b_min, b_int, b_intb, b_ll, b_lt, b_tl, b_tt, len_l, len_t, it_sl, it_st, it_ss, ty_str, ty_tup, c_le, c_ge, c_lt, c_gt, c_eqi, c_nei, c_eqs, c_nes, c_eqb, c_isb, c_isnb, o_add, o_sub, idx_t, idx_l, at0, at1, at2, at3, Bool.not_true, Bool.not_false, Bool.true_and, Bool.false_and, tgSlots, wipeE, bindT, List.getElem?_cons_zero, List.getElem?_cons_succ, List.set_cons_zero, List.set_cons_succ, Option.map_some, if_true, Bool.false_eq_true, if_false, e3, e4, Bool.not_true, Bool.not_false]
  | _ => simp only [v_nil, v_cons, v_for, v_asg, v_par, v_unp, v_setI, v_expr, v_ret, v_ife, v_pass, e_var, e_const, e_tup, e_lst, e_bin, e_negc, e_not, e_and, e_or, e_cmp, e_chain, e_ife, e_idx, e_slc, e_call, e_isi, e_blt, evDs, evPar, evAnd, x_bind, x_then, ok_bind, ok_then, nx_then, rt_then, np_imp, np_nl, np_py, ni_imp, ni_py, ni_nl, nb_imp, nb_py, no_none, no_int, no_intp, fz_imp, fz_im, fz_nl, im_py, im_imp, ok_imp, dm_nil, dm_one, dm_two, dr_py, tp_nil, tp_cons, ck_true, fin_rt, fin_nx, tr_imp, tr_nl, st_im, st_imp, st_nl, st_nlt, un_imp, b_len, b_all, b_any, b_max, b_min, b_int, b_intb, b_ll, b_lt, b_tl, b_tt, len_l, len_t, it_sl, it_st, it_ss, ty_str, ty_tup, c_le, c_ge, c_lt, c_gt, c_eqi, c_nei, c_eqs, c_nes, c_eqb, c_isb, c_isnb, o_add, o_sub, idx_t, idx_l, at0, at1, at2, at3, Bool.not_true, Bool.not_false, Bool.true_and, Bool.false_and, tgSlots, wipeE, bindT, List.getElem?_cons_zero, List.getElem?_cons_succ, List.set_cons_zero, List.set_cons_succ, Option.map_some, if_true, Bool.false_eq_true, if_false, isTy, isTool, Bool.not_true, Bool.not_false]
def ToolF (Φ : Nat → List D → Sto → R Rv) (i : Nat) : Prop := ∀ v st, small v = true → Φ i [.py v] st = ok1 (.bool (isTool v)) st
/-- the first item, the third -/
def nm : P → P
  | .tuple (a :: _) => a
  | _ => .none
def may : P → P
  | .tuple (_ :: _ :: c :: _) => c
  | _ => .none
def names (ts : List P) : List P := ts.map nm
/-- all but one name -/
def others (ns : List P) (n : P) : List P := ns.filter fun x => !x.eqv n
def areTools : P → Bool
  | .tuple ts => (decide (2 ≤ ts.length) && decide (ts.length ≤ 3)) && (ts.all isTool && (asc (names ts) && ts.all fun t => areNames (others (names ts) (nm t)) (may t)))
  | _ => false
theorem isTool_shape {v : P} (h : isTool v = true) : ∃ s b c d, v = .tuple [.str s, b, c, d] := by
  unfold isTool at h
  split at h
  · rename_i a b c d
    rw [Bool.and_eq_true] at h
    cases a with
    | str s => exact ⟨s, b, c, d, rfl⟩
    | _ => cases h.1
  · cases h
theorem names_strs {ts : List P} (h : ts.all isTool = true) : Strs (names ts) := by
  intro w hw
  obtain ⟨t, ht, rfl⟩ := List.mem_map.mp hw
  obtain ⟨s, b, c, d, rfl⟩ := isTool_shape (List.all_eq_true.mp h t ht)
  exact ⟨s, rfl⟩
theorem others_strs {ns : List P} (h : Strs ns) (n : P) : Strs (others ns n) := fun w hw => h w (List.mem_filter.mp hw).1
theorem len_c (z : Nat) (h : z ≤ 1000000) : decide (z < SZ) = true := decide_eq_true (Nat.lt_of_le_of_lt h (by decide))
theorem sem_areTools {i1 i2 i3 : Nat} (h1 : ToolF Φ i1) (h2 : AscF Φ i2) (h3 : NamesF Φ i3) {v : P} (hv : small v = true) :
    fin st.length (evSs Φ (t_are_tools i1 i2 i3) [some (.py v), none, none, none, none] st) = ok1 (.bool (areTools v)) st := by
  unfold t_are_tools
  cases v with
  | tuple ts =>
    obtain ⟨z, hs⟩ := small_tup hv
    have zb := Nat.le_trans z sz_big
    have hc1 : ∀ e1 e2 e3 e4 st, evE Φ [some (.py (.tuple ts)), e1, e2, e3, e4] (.comp (.call i1 [(.var 2)]) (.one 2) .seq [(.var 0)] []) st = .ok (.nl (ts.map fun y => .bool (isTool y))) st := fun e1 e2 e3 e4 st => by
      refine comp_map _ (ds := [.py (.tuple ts)]) (by simp only [v_nil, v_cons, v_for, v_asg, v_par, v_unp, v_setI, v_expr, v_ret, v_ife, v_pass, e_var, e_const, e_tup, e_lst, e_bin, e_negc, e_not, e_and, e_or, e_cmp, e_chain, e_ife, e_idx, e_slc, e_call, e_isi, e_blt, evDs, evPar, evAnd, x_bind, x_then, ok_bind, ok_then, nx_then, rt_then, np_imp, np_nl, np_py, ni_imp, ni_py, ni_nl, nb_imp, nb_py, no_none, no_int, no_intp, fz_imp, fz_im, fz_nl, im_py, im_imp, ok_imp, dm_nil, dm_one, dm_two, dr_py, tp_nil, tp_cons, ck_true, fin_rt, fin_nx, tr_imp, tr_nl, st_im, st_imp, st_nl, st_nlt, un_imp, b_len, b_all, b_any, b_max, b_min, b_int, b_intb, b_ll, b_lt, b_tl, b_tt, len_l, len_t, it_sl, it_st, it_ss, ty_str, ty_tup, c_le, c_ge, c_lt, c_gt, c_eqi, c_nei, c_eqs, c_nes, c_eqb, c_isb, c_isnb, o_add, o_sub, idx_t, idx_l, at0, at1, at2, at3, Bool.not_true, Bool.not_false, Bool.true_and, Bool.false_and, tgSlots, wipeE, bindT, List.getElem?_cons_zero, List.getElem?_cons_succ, List.set_cons_zero, List.set_cons_succ, Option.map_some, if_true, Bool.false_eq_true, if_false]) (by simp only [v_nil, v_cons, v_for, v_asg, v_par, v_unp, v_setI, v_expr, v_ret, v_ife, v_pass, e_var, e_const, e_tup, e_lst, e_bin, e_negc, e_not, e_and, e_or, e_cmp, e_chain, e_ife, e_idx, e_slc, e_call, e_isi, e_blt, evDs, evPar, evAnd, x_bind, x_then, ok_bind, ok_then, nx_then, rt_then, np_imp, np_nl, np_py, ni_imp, ni_py, ni_nl, nb_imp, nb_py, no_none, no_int, no_intp, fz_imp, fz_im, fz_nl, im_py, im_imp, ok_imp, dm_nil, dm_one, dm_two, dr_py, tp_nil, tp_cons, ck_true, fin_rt, fin_nx, tr_imp, tr_nl, st_im, st_imp, st_nl, st_nlt, un_imp, b_len, b_all, b_any, b_max, b_min, b_int, b_intb, b_ll, b_lt, b_tl, b_tt, len_l, len_t, it_sl, it_st, it_ss, ty_str, ty_tup, c_le, c_ge, c_lt, c_gt, c_eqi, c_nei, c_eqs, c_nes, c_eqb, c_isb, c_isnb, o_add, o_sub, idx_t, idx_l, at0, at1, at2, at3, Bool.not_true, Bool.not_false, Bool.true_and, Bool.false_and, tgSlots, wipeE, bindT, List.getElem?_cons_zero, List.getElem?_cons_succ, List.set_cons_zero, List.set_cons_succ, Option.map_some, if_true, Bool.false_eq_true, if_false]) (fun y hy st => ?_) zb
      exact turn_elt (env1 := [some (.py (.tuple ts)), e1, some (.py y), e3, e4]) (by simp only [v_nil, v_cons, v_for, v_asg, v_par, v_unp, v_setI, v_expr, v_ret, v_ife, v_pass, e_var, e_const, e_tup, e_lst, e_bin, e_negc, e_not, e_and, e_or, e_cmp, e_chain, e_ife, e_idx, e_slc, e_call, e_isi, e_blt, evDs, evPar, evAnd, x_bind, x_then, ok_bind, ok_then, nx_then, rt_then, np_imp, np_nl, np_py, ni_imp, ni_py, ni_nl, nb_imp, nb_py, no_none, no_int, no_intp, fz_imp, fz_im, fz_nl, im_py, im_imp, ok_imp, dm_nil, dm_one, dm_two, dr_py, tp_nil, tp_cons, ck_true, fin_rt, fin_nx, tr_imp, tr_nl, st_im, st_imp, st_nl, st_nlt, un_imp, b_len, b_all, b_any, b_max, b_min, b_int, b_intb, b_ll, b_lt, b_tl, b_tt, len_l, len_t, it_sl, it_st, it_ss, ty_str, ty_tup, c_le, c_ge, c_lt, c_gt, c_eqi, c_nei, c_eqs, c_nes, c_eqb, c_isb, c_isnb, o_add, o_sub, idx_t, idx_l, at0, at1, at2, at3, Bool.not_true, Bool.not_false, Bool.true_and, Bool.false_and, tgSlots, wipeE, bindT, List.getElem?_cons_zero, List.getElem?_cons_succ, List.set_cons_zero, List.set_cons_succ, Option.map_some, if_true, Bool.false_eq_true, if_false]) (by simp only [v_nil, v_cons, v_for, v_asg, v_par, v_unp, v_setI, v_expr, v_ret, v_ife, v_pass, e_var, e_const, e_tup, e_lst, e_bin, e_negc, e_not, e_and, e_or, e_cmp, e_chain, e_ife, e_idx, e_slc, e_call, e_isi, e_blt, evDs, evPar, evAnd, x_bind, x_then, ok_bind, ok_then, nx_then, rt_then, np_imp, np_nl, np_py, ni_imp, ni_py, ni_nl, nb_imp, nb_py, no_none, no_int, no_intp, fz_imp, fz_im, fz_nl, im_py, im_imp, ok_imp, dm_nil, dm_one, dm_two, dr_py, tp_nil, tp_cons, ck_true, fin_rt, fin_nx, tr_imp, tr_nl, st_im, st_imp, st_nl, st_nlt, un_imp, b_len, b_all, b_any, b_max, b_min, b_int, b_intb, b_ll, b_lt, b_tl, b_tt, len_l, len_t, it_sl, it_st, it_ss, ty_str, ty_tup, c_le, c_ge, c_lt, c_gt, c_eqi, c_nei, c_eqs, c_nes, c_eqb, c_isb, c_isnb, o_add, o_sub, idx_t, idx_l, at0, at1, at2, at3, Bool.not_true, Bool.not_false, Bool.true_and, Bool.false_and, tgSlots, wipeE, bindT, List.getElem?_cons_zero, List.getElem?_cons_succ, List.set_cons_zero, List.set_cons_succ, Option.map_some, if_true, Bool.false_eq_true, if_false, h1 y _ (hs y hy)])
    have k1 : decide ((2 : Int) ≤ ((ts.length : Nat) : Int)) = decide (2 ≤ ts.length) := decide_eq_decide.mpr (by omega)
    have k2 : decide (((ts.length : Nat) : Int) ≤ 3) = decide (ts.length ≤ 3) := decide_eq_decide.mpr (by omega)
    have ea : (ts.map fun y => isTool y).all id = ts.all isTool := by rw [List.all_map]; rfl
    simp only [v_nil, v_cons, v_for, v_asg, v_par, v_unp, v_setI, v_expr, v_ret, v_ife, v_pass, e_var, e_const, e_tup, e_lst, e_bin, e_negc, e_not, e_and, e_or, e_cmp, e_chain, e_ife, e_idx, e_slc, e_call, e_isi, e_blt, evDs, evPar, evAnd, x_bind, x_then, ok_bind, ok_then, nx_then, rt_then, np_imp, np_nl, np_py, ni_imp, ni_py, ni_nl, nb_imp, nb_py, no_none, no_int, no_intp, fz_imp, fz_im, fz_nl, im_py, im_imp, ok_imp, dm_nil, dm_one, dm_two, dr_py, tp_nil, tp_cons, ck_true, fin_rt, fin_nx, tr_imp, tr_nl, st_im, st_imp, st_nl, st_nlt, un_imp, b_len, b_all, b_any, b_max, b_min, b_int, b_intb, b_ll, b_lt, b_tl, b_tt, len_l, len_t, it_sl, it_st, it_ss, ty_str, ty_tup, c_le, c_ge, c_lt, c_gt, c_eqi, c_nei, c_eqs, c_nes, c_eqb, c_isb, c_isnb, o_add, o_sub, idx_t, idx_l, at0, at1, at2, at3, Bool.not_true, Bool.not_false, Bool.true_and, Bool.false_and, tgSlots, wipeE, bindT, List.getElem?_cons_zero, List.getElem?_cons_succ, List.set_cons_zero, List.set_cons_succ, Option.map_some, if_true, Bool.false_eq_true, if_false, hc1, k1, k2, bools_map', areTools, ea]
    generalize decide (2 ≤ ts.length) = b1
    generalize decide (ts.length ≤ 3) = b2
    cases b1 <;> cases b2 <;> simp only [v_nil, v_cons, v_for, v_asg, v_par, v_unp, v_setI, v_expr, v_ret, v_ife, v_pass, e_var, e_const, e_tup, e_lst, e_bin, e_negc, e_not, e_and, e_or, e_cmp, e_chain, e_ife, e_idx, e_slc, e_call, e_isi, e_blt, evDs, evPar, evAnd, x_bind, x_then, ok_bind, ok_then, nx_then, rt_then, np_imp, np_nl, np_py, ni_imp, ni_py, ni_nl, nb_imp, nb_py, no_none, no_int, no_intp, fz_imp, fz_im, fz_nl, im_py, im_imp, ok_imp, dm_nil, dm_one, dm_two, dr_py, tp_nil, tp_cons, ck_true, fin_rt, fin_nx, tr_imp, tr_nl, st_im, st_imp, st_nl, st_nlt, un_imp, b_len, b_all, b_any, b_max, b_min, b_int, b_intb, b_ll, b_lt, b_tl, b_tt, len_l, len_t, it_sl, it_st, it_ss, ty_str, ty_tup, c_le, c_ge, c_lt, c_gt, c_eqi, c_nei, c_eqs, c_nes, c_eqb, c_isb, c_isnb, o_add, o_sub, idx_t, idx_l, at0, at1, at2, at3, Bool.not_true, Bool.not_false, Bool.true_and, Bool.false_and, tgSlots, wipeE, bindT, List.getElem?_cons_zero, List.getElem?_cons_succ, List.set_cons_zero, List.set_cons_succ, Option.map_some, if_true, Bool.false_eq_true, if_false]
    cases hb : ts.all isTool with
    | false => simp only [v_nil, v_cons, v_for, v_asg, v_par, v_unp, v_setI, v_expr, v_ret, v_ife, v_pass, e_var, e_const, e_tup, e_lst, e_bin, e_negc, e_not, e_and, e_or, e_cmp, e_chain, e_ife, e_idx, e_slc, e_call, e_isi, e_blt, evDs, evPar, evAnd, x_bind, x_then, ok_bind, ok_then, nx_then, rt_then, np_imp, np_nl, np_py, ni_imp, ni_py, ni_nl, nb_imp, nb_py, no_none, no_int, no_intp, fz_imp, fz_im, fz_nl, im_py, im_imp, ok_imp, dm_nil, dm_one, dm_two, dr_py, tp_nil, tp_cons, ck_true, fin_rt, fin_nx, tr_imp, tr_nl, st_im, st_imp, st_nl, st_nlt, un_imp, b_len, b_all, b_any, b_max, b_min, b_int, b_intb, b_ll, b_lt, b_tl, b_tt, len_l, len_t, it_sl, it_st, it_ss, ty_str, ty_tup, c_le, c_ge, c_lt, c_gt, c_eqi, c_nei, c_eqs, c_nes, c_eqb, c_isb, c_isnb, o_add, o_sub, idx_t, idx_l, at0, at1, at2, at3, Bool.not_true, Bool.not_false, Bool.true_and, Bool.false_and, tgSlots, wipeE, bindT, List.getElem?_cons_zero, List.getElem?_cons_succ, List.set_cons_zero, List.set_cons_succ, Option.map_some, if_true, Bool.false_eq_true, if_false]
    | true =>
      have hn := names_strs hb
      have hc2 : ∀ e1 e2 e3 e4 st, evE Φ [some (.py (.tuple ts)), e1, e2, e3, e4] (.comp (.idx (.var 3) (.const (.int 0))) (.one 3) .seq [(.var 0)] []) st = .ok (.nl (names ts)) st := fun e1 e2 e3 e4 st => by
        refine comp_map _ (ds := [.py (.tuple ts)]) (by simp only [v_nil, v_cons, v_for, v_asg, v_par, v_unp, v_setI, v_expr, v_ret, v_ife, v_pass, e_var, e_const, e_tup, e_lst, e_bin, e_negc, e_not, e_and, e_or, e_cmp, e_chain, e_ife, e_idx, e_slc, e_call, e_isi, e_blt, evDs, evPar, evAnd, x_bind, x_then, ok_bind, ok_then, nx_then, rt_then, np_imp, np_nl, np_py, ni_imp, ni_py, ni_nl, nb_imp, nb_py, no_none, no_int, no_intp, fz_imp, fz_im, fz_nl, im_py, im_imp, ok_imp, dm_nil, dm_one, dm_two, dr_py, tp_nil, tp_cons, ck_true, fin_rt, fin_nx, tr_imp, tr_nl, st_im, st_imp, st_nl, st_nlt, un_imp, b_len, b_all, b_any, b_max, b_min, b_int, b_intb, b_ll, b_lt, b_tl, b_tt, len_l, len_t, it_sl, it_st, it_ss, ty_str, ty_tup, c_le, c_ge, c_lt, c_gt, c_eqi, c_nei, c_eqs, c_nes, c_eqb, c_isb, c_isnb, o_add, o_sub, idx_t, idx_l, at0, at1, at2, at3, Bool.not_true, Bool.not_false, Bool.true_and, Bool.false_and, tgSlots, wipeE, bindT, List.getElem?_cons_zero, List.getElem?_cons_succ, List.set_cons_zero, List.set_cons_succ, Option.map_some, if_true, Bool.false_eq_true, if_false]) (by simp only [v_nil, v_cons, v_for, v_asg, v_par, v_unp, v_setI, v_expr, v_ret, v_ife, v_pass, e_var, e_const, e_tup, e_lst, e_bin, e_negc, e_not, e_and, e_or, e_cmp, e_chain, e_ife, e_idx, e_slc, e_call, e_isi, e_blt, evDs, evPar, evAnd, x_bind, x_then, ok_bind, ok_then, nx_then, rt_then, np_imp, np_nl, np_py, ni_imp, ni_py, ni_nl, nb_imp, nb_py, no_none, no_int, no_intp, fz_imp, fz_im, fz_nl, im_py, im_imp, ok_imp, dm_nil, dm_one, dm_two, dr_py, tp_nil, tp_cons, ck_true, fin_rt, fin_nx, tr_imp, tr_nl, st_im, st_imp, st_nl, st_nlt, un_imp, b_len, b_all, b_any, b_max, b_min, b_int, b_intb, b_ll, b_lt, b_tl, b_tt, len_l, len_t, it_sl, it_st, it_ss, ty_str, ty_tup, c_le, c_ge, c_lt, c_gt, c_eqi, c_nei, c_eqs, c_nes, c_eqb, c_isb, c_isnb, o_add, o_sub, idx_t, idx_l, at0, at1, at2, at3, Bool.not_true, Bool.not_false, Bool.true_and, Bool.false_and, tgSlots, wipeE, bindT, List.getElem?_cons_zero, List.getElem?_cons_succ, List.set_cons_zero, List.set_cons_succ, Option.map_some, if_true, Bool.false_eq_true, if_false]) (fun y hy st => ?_) zb
        obtain ⟨s, b, c, d, rfl⟩ := isTool_shape (List.all_eq_true.mp hb y hy)
        exact turn_elt (env1 := [some (.py (.tuple ts)), e1, e2, some (.py (.tuple [.str s, b, c, d])), e4]) (by simp only [v_nil, v_cons, v_for, v_asg, v_par, v_unp, v_setI, v_expr, v_ret, v_ife, v_pass, e_var, e_const, e_tup, e_lst, e_bin, e_negc, e_not, e_and, e_or, e_cmp, e_chain, e_ife, e_idx, e_slc, e_call, e_isi, e_blt, evDs, evPar, evAnd, x_bind, x_then, ok_bind, ok_then, nx_then, rt_then, np_imp, np_nl, np_py, ni_imp, ni_py, ni_nl, nb_imp, nb_py, no_none, no_int, no_intp, fz_imp, fz_im, fz_nl, im_py, im_imp, ok_imp, dm_nil, dm_one, dm_two, dr_py, tp_nil, tp_cons, ck_true, fin_rt, fin_nx, tr_imp, tr_nl, st_im, st_imp, st_nl, st_nlt, un_imp, b_len, b_all, b_any, b_max, b_min, b_int, b_intb, b_ll, b_lt, b_tl, b_tt, len_l, len_t, it_sl, it_st, it_ss, ty_str, ty_tup, c_le, c_ge, c_lt, c_gt, c_eqi, c_nei, c_eqs, c_nes, c_eqb, c_isb, c_isnb, o_add, o_sub, idx_t, idx_l, at0, at1, at2, at3, Bool.not_true, Bool.not_false, Bool.true_and, Bool.false_and, tgSlots, wipeE, bindT, List.getElem?_cons_zero, List.getElem?_cons_succ, List.set_cons_zero, List.set_cons_succ, Option.map_some, if_true, Bool.false_eq_true, if_false]) (by simp only [v_nil, v_cons, v_for, v_asg, v_par, v_unp, v_setI, v_expr, v_ret, v_ife, v_pass, e_var, e_const, e_tup, e_lst, e_bin, e_negc, e_not, e_and, e_or, e_cmp, e_chain, e_ife, e_idx, e_slc, e_call, e_isi, e_blt, evDs, evPar, evAnd, x_bind, x_then, ok_bind, ok_then, nx_then, rt_then, np_imp, np_nl, np_py, ni_imp, ni_py, ni_nl, nb_imp, nb_py, no_none, no_int, no_intp, fz_imp, fz_im, fz_nl, im_py, im_imp, ok_imp, dm_nil, dm_one, dm_two, dr_py, tp_nil, tp_cons, ck_true, fin_rt, fin_nx, tr_imp, tr_nl, st_im, st_imp, st_nl, st_nlt, un_imp, b_len, b_all, b_any, b_max, b_min, b_int, b_intb, b_ll, b_lt, b_tl, b_tt, len_l, len_t, it_sl, it_st, it_ss, ty_str, ty_tup, c_le, c_ge, c_lt, c_gt, c_eqi, c_nei, c_eqs, c_nes, c_eqb, c_isb, c_isnb, o_add, o_sub, idx_t, idx_l, at0, at1, at2, at3, Bool.not_true, Bool.not_false, Bool.true_and, Bool.false_and, tgSlots, wipeE, bindT, List.getElem?_cons_zero, List.getElem?_cons_succ, List.set_cons_zero, List.set_cons_succ, Option.map_some, if_true, Bool.false_eq_true, if_false, nm])
      have hc3 : ∀ (t : P), t ∈ ts → ∀ e2 e4 st, evE Φ [some (.py (.tuple ts)), some (.py (.list (names ts))), e2, some (.py t), e4] (.comp (.var 4) (.one 4) .seq [(.var 1)] [(.cmp .ne (.var 4) (.idx (.var 3) (.const (.int 0))))]) st =
          .ok (.nl (others (names ts) (nm t))) st := fun t ht e2 e4 st => by
        obtain ⟨s, b, c, d, rfl⟩ := isTool_shape (List.all_eq_true.mp hb t ht)
        refine comp_filter _ (ds := [.py (.list (names ts))]) (by simp only [v_nil, v_cons, v_for, v_asg, v_par, v_unp, v_setI, v_expr, v_ret, v_ife, v_pass, e_var, e_const, e_tup, e_lst, e_bin, e_negc, e_not, e_and, e_or, e_cmp, e_chain, e_ife, e_idx, e_slc, e_call, e_isi, e_blt, evDs, evPar, evAnd, x_bind, x_then, ok_bind, ok_then, nx_then, rt_then, np_imp, np_nl, np_py, ni_imp, ni_py, ni_nl, nb_imp, nb_py, no_none, no_int, no_intp, fz_imp, fz_im, fz_nl, im_py, im_imp, ok_imp, dm_nil, dm_one, dm_two, dr_py, tp_nil, tp_cons, ck_true, fin_rt, fin_nx, tr_imp, tr_nl, st_im, st_imp, st_nl, st_nlt, un_imp, b_len, b_all, b_any, b_max, b_min, b_int, b_intb, b_ll, b_lt, b_tl, b_tt, len_l, len_t, it_sl, it_st, it_ss, ty_str, ty_tup, c_le, c_ge, c_lt, c_gt, c_eqi, c_nei, c_eqs, c_nes, c_eqb, c_isb, c_isnb, o_add, o_sub, idx_t, idx_l, at0, at1, at2, at3, Bool.not_true, Bool.not_false, Bool.true_and, Bool.false_and, tgSlots, wipeE, bindT, List.getElem?_cons_zero, List.getElem?_cons_succ, List.set_cons_zero, List.set_cons_succ, Option.map_some, if_true, Bool.false_eq_true, if_false]) (by simp only [v_nil, v_cons, v_for, v_asg, v_par, v_unp, v_setI, v_expr, v_ret, v_ife, v_pass, e_var, e_const, e_tup, e_lst, e_bin, e_negc, e_not, e_and, e_or, e_cmp, e_chain, e_ife, e_idx, e_slc, e_call, e_isi, e_blt, evDs, evPar, evAnd, x_bind, x_then, ok_bind, ok_then, nx_then, rt_then, np_imp, np_nl, np_py, ni_imp, ni_py, ni_nl, nb_imp, nb_py, no_none, no_int, no_intp, fz_imp, fz_im, fz_nl, im_py, im_imp, ok_imp, dm_nil, dm_one, dm_two, dr_py, tp_nil, tp_cons, ck_true, fin_rt, fin_nx, tr_imp, tr_nl, st_im, st_imp, st_nl, st_nlt, un_imp, b_len, b_all, b_any, b_max, b_min, b_int, b_intb, b_ll, b_lt, b_tl, b_tt, len_l, len_t, it_sl, it_st, it_ss, ty_str, ty_tup, c_le, c_ge, c_lt, c_gt, c_eqi, c_nei, c_eqs, c_nes, c_eqb, c_isb, c_isnb, o_add, o_sub, idx_t, idx_l, at0, at1, at2, at3, Bool.not_true, Bool.not_false, Bool.true_and, Bool.false_and, tgSlots, wipeE, bindT, List.getElem?_cons_zero, List.getElem?_cons_succ, List.set_cons_zero, List.set_cons_succ, Option.map_some, if_true, Bool.false_eq_true, if_false]) (fun y hy st => ?_) (by rw [names, List.length_map]; exact zb)
        obtain ⟨s', rfl⟩ := hn y hy
        exact turn_if (env1 := [some (.py (.tuple ts)), some (.py (.list (names ts))), e2, some (.py (.tuple [.str s, b, c, d])), some (.py (.str s'))]) (by simp only [v_nil, v_cons, v_for, v_asg, v_par, v_unp, v_setI, v_expr, v_ret, v_ife, v_pass, e_var, e_const, e_tup, e_lst, e_bin, e_negc, e_not, e_and, e_or, e_cmp, e_chain, e_ife, e_idx, e_slc, e_call, e_isi, e_blt, evDs, evPar, evAnd, x_bind, x_then, ok_bind, ok_then, nx_then, rt_then, np_imp, np_nl, np_py, ni_imp, ni_py, ni_nl, nb_imp, nb_py, no_none, no_int, no_intp, fz_imp, fz_im, fz_nl, im_py, im_imp, ok_imp, dm_nil, dm_one, dm_two, dr_py, tp_nil, tp_cons, ck_true, fin_rt, fin_nx, tr_imp, tr_nl, st_im, st_imp, st_nl, st_nlt, un_imp, b_len, b_all, b_any, b_max, b_min, b_int, b_intb, b_ll, b_lt, b_tl, b_tt, len_l, len_t, it_sl, it_st, it_ss, ty_str, ty_tup, c_le, c_ge, c_lt, c_gt, c_eqi, c_nei, c_eqs, c_nes, c_eqb, c_isb, c_isnb, o_add, o_sub, idx_t, idx_l, at0, at1, at2, at3, Bool.not_true, Bool.not_false, Bool.true_and, Bool.false_and, tgSlots, wipeE, bindT, List.getElem?_cons_zero, List.getElem?_cons_succ, List.set_cons_zero, List.set_cons_succ, Option.map_some, if_true, Bool.false_eq_true, if_false]) (by simp only [v_nil, v_cons, v_for, v_asg, v_par, v_unp, v_setI, v_expr, v_ret, v_ife, v_pass, e_var, e_const, e_tup, e_lst, e_bin, e_negc, e_not, e_and, e_or, e_cmp, e_chain, e_ife, e_idx, e_slc, e_call, e_isi, e_blt, evDs, evPar, evAnd, x_bind, x_then, ok_bind, ok_then, nx_then, rt_then, np_imp, np_nl, np_py, ni_imp, ni_py, ni_nl, nb_imp, nb_py, no_none, no_int, no_intp, fz_imp, fz_im, fz_nl, im_py, im_imp, ok_imp, dm_nil, dm_one, dm_two, dr_py, tp_nil, tp_cons, ck_true, fin_rt, fin_nx, tr_imp, tr_nl, st_im, st_imp, st_nl, st_nlt, un_imp, b_len, b_all, b_any, b_max, b_min, b_int, b_intb, b_ll, b_lt, b_tl, b_tt, len_l, len_t, it_sl, it_st, it_ss, ty_str, ty_tup, c_le, c_ge, c_lt, c_gt, c_eqi, c_nei, c_eqs, c_nes, c_eqb, c_isb, c_isnb, o_add, o_sub, idx_t, idx_l, at0, at1, at2, at3, Bool.not_true, Bool.not_false, Bool.true_and, Bool.false_and, tgSlots, wipeE, bindT, List.getElem?_cons_zero, List.getElem?_cons_succ, List.set_cons_zero, List.set_cons_succ, Option.map_some, if_true, Bool.false_eq_true, if_false]; rfl) (fun _ => by simp only [v_nil, v_cons, v_for, v_asg, v_par, v_unp, v_setI, v_expr, v_ret, v_ife, v_pass, e_var, e_const, e_tup, e_lst, e_bin, e_negc, e_not, e_and, e_or, e_cmp, e_chain, e_ife, e_idx, e_slc, e_call, e_isi, e_blt, evDs, evPar, evAnd, x_bind, x_then, ok_bind, ok_then, nx_then, rt_then, np_imp, np_nl, np_py, ni_imp, ni_py, ni_nl, nb_imp, nb_py, no_none, no_int, no_intp, fz_imp, fz_im, fz_nl, im_py, im_imp, ok_imp, dm_nil, dm_one, dm_two, dr_py, tp_nil, tp_cons, ck_true, fin_rt, fin_nx, tr_imp, tr_nl, st_im, st_imp, st_nl, st_nlt, un_imp, b_len, b_all, b_any, b_max, b_min, b_int, b_intb, b_ll, b_lt, b_tl, b_tt, len_l, len_t, it_sl, it_st, it_ss, ty_str, ty_tup, c_le, c_ge, c_lt, c_gt, c_eqi, c_nei, c_eqs, c_nes, c_eqb, c_isb, c_isnb, o_add, o_sub, idx_t, idx_l, at0, at1, at2, at3, Bool.not_true, Bool.not_false, Bool.true_and, Bool.false_and, tgSlots, wipeE, bindT, List.getElem?_cons_zero, List.getElem?_cons_succ, List.set_cons_zero, List.set_cons_succ, Option.map_some, if_true, Bool.false_eq_true, if_false])
      have hc4 : ∀ e2 e3 e4 st, evE Φ [some (.py (.tuple ts)), some (.py (.list (names ts))), e2, e3, e4] (.comp (.call i3 [(.comp (.var 4) (.one 4) .seq [(.var 1)] [(.cmp .ne (.var 4) (.idx (.var 3) (.const (.int 0))))]), (.idx (.var 3) (.const (.int 2)))]) (.one 3) .seq [(.var 0)] []) st =
          .ok (.nl (ts.map fun t => .bool (areNames (others (names ts) (nm t)) (may t)))) st := fun e2 e3 e4 st => by
        refine comp_map _ (ds := [.py (.tuple ts)]) (by simp only [v_nil, v_cons, v_for, v_asg, v_par, v_unp, v_setI, v_expr, v_ret, v_ife, v_pass, e_var, e_const, e_tup, e_lst, e_bin, e_negc, e_not, e_and, e_or, e_cmp, e_chain, e_ife, e_idx, e_slc, e_call, e_isi, e_blt, evDs, evPar, evAnd, x_bind, x_then, ok_bind, ok_then, nx_then, rt_then, np_imp, np_nl, np_py, ni_imp, ni_py, ni_nl, nb_imp, nb_py, no_none, no_int, no_intp, fz_imp, fz_im, fz_nl, im_py, im_imp, ok_imp, dm_nil, dm_one, dm_two, dr_py, tp_nil, tp_cons, ck_true, fin_rt, fin_nx, tr_imp, tr_nl, st_im, st_imp, st_nl, st_nlt, un_imp, b_len, b_all, b_any, b_max, b_min, b_int, b_intb, b_ll, b_lt, b_tl, b_tt, len_l, len_t, it_sl, it_st, it_ss, ty_str, ty_tup, c_le, c_ge, c_lt, c_gt, c_eqi, c_nei, c_eqs, c_nes, c_eqb, c_isb, c_isnb, o_add, o_sub, idx_t, idx_l, at0, at1, at2, at3, Bool.not_true, Bool.not_false, Bool.true_and, Bool.false_and, tgSlots, wipeE, bindT, List.getElem?_cons_zero, List.getElem?_cons_succ, List.set_cons_zero, List.set_cons_succ, Option.map_some, if_true, Bool.false_eq_true, if_false]) (by simp only [v_nil, v_cons, v_for, v_asg, v_par, v_unp, v_setI, v_expr, v_ret, v_ife, v_pass, e_var, e_const, e_tup, e_lst, e_bin, e_negc, e_not, e_and, e_or, e_cmp, e_chain, e_ife, e_idx, e_slc, e_call, e_isi, e_blt, evDs, evPar, evAnd, x_bind, x_then, ok_bind, ok_then, nx_then, rt_then, np_imp, np_nl, np_py, ni_imp, ni_py, ni_nl, nb_imp, nb_py, no_none, no_int, no_intp, fz_imp, fz_im, fz_nl, im_py, im_imp, ok_imp, dm_nil, dm_one, dm_two, dr_py, tp_nil, tp_cons, ck_true, fin_rt, fin_nx, tr_imp, tr_nl, st_im, st_imp, st_nl, st_nlt, un_imp, b_len, b_all, b_any, b_max, b_min, b_int, b_intb, b_ll, b_lt, b_tl, b_tt, len_l, len_t, it_sl, it_st, it_ss, ty_str, ty_tup, c_le, c_ge, c_lt, c_gt, c_eqi, c_nei, c_eqs, c_nes, c_eqb, c_isb, c_isnb, o_add, o_sub, idx_t, idx_l, at0, at1, at2, at3, Bool.not_true, Bool.not_false, Bool.true_and, Bool.false_and, tgSlots, wipeE, bindT, List.getElem?_cons_zero, List.getElem?_cons_succ, List.set_cons_zero, List.set_cons_succ, Option.map_some, if_true, Bool.false_eq_true, if_false]) (fun y hy st => ?_) zb
        have hc := hc3 y hy e2 e4
        have hsy := hs y hy
        obtain ⟨s, b, c, d, rfl⟩ := isTool_shape (List.all_eq_true.mp hb y hy)
        have hsc : small c = true := (small_tup hsy).2 c (by simp)
        exact turn_elt (env1 := [some (.py (.tuple ts)), some (.py (.list (names ts))), e2, some (.py (.tuple [.str s, b, c, d])), e4]) (by simp only [v_nil, v_cons, v_for, v_asg, v_par, v_unp, v_setI, v_expr, v_ret, v_ife, v_pass, e_var, e_const, e_tup, e_lst, e_bin, e_negc, e_not, e_and, e_or, e_cmp, e_chain, e_ife, e_idx, e_slc, e_call, e_isi, e_blt, evDs, evPar, evAnd, x_bind, x_then, ok_bind, ok_then, nx_then, rt_then, np_imp, np_nl, np_py, ni_imp, ni_py, ni_nl, nb_imp, nb_py, no_none, no_int, no_intp, fz_imp, fz_im, fz_nl, im_py, im_imp, ok_imp, dm_nil, dm_one, dm_two, dr_py, tp_nil, tp_cons, ck_true, fin_rt, fin_nx, tr_imp, tr_nl, st_im, st_imp, st_nl, st_nlt, un_imp, b_len, b_all, b_any, b_max, b_min, b_int, b_intb, b_ll, b_lt, b_tl, b_tt, len_l, len_t, it_sl, it_st, it_ss, ty_str, ty_tup, c_le, c_ge, c_lt, c_gt, c_eqi, c_nei, c_eqs, c_nes, c_eqb, c_isb, c_isnb, o_add, o_sub, idx_t, idx_l, at0, at1, at2, at3, Bool.not_true, Bool.not_false, Bool.true_and, Bool.false_and, tgSlots, wipeE, bindT, List.getElem?_cons_zero, List.getElem?_cons_succ, List.set_cons_zero, List.set_cons_succ, Option.map_some, if_true, Bool.false_eq_true, if_false]) (by simp only [v_nil, v_cons, v_for, v_asg, v_par, v_unp, v_setI, v_expr, v_ret, v_ife, v_pass, e_var, e_const, e_tup, e_lst, e_bin, e_negc, e_not, e_and, e_or, e_cmp, e_chain, e_ife, e_idx, e_slc, e_call, e_isi, e_blt, evDs, evPar, evAnd, x_bind, x_then, ok_bind, ok_then, nx_then, rt_then, np_imp, np_nl, np_py, ni_imp, ni_py, ni_nl, nb_imp, nb_py, no_none, no_int, no_intp, fz_imp, fz_im, fz_nl, im_py, im_imp, ok_imp, dm_nil, dm_one, dm_two, dr_py, tp_nil, tp_cons, ck_true, fin_rt, fin_nx, tr_imp, tr_nl, st_im, st_imp, st_nl, st_nlt, un_imp, b_len, b_all, b_any, b_max, b_min, b_int, b_intb, b_ll, b_lt, b_tl, b_tt, len_l, len_t, it_sl, it_st, it_ss, ty_str, ty_tup, c_le, c_ge, c_lt, c_gt, c_eqi, c_nei, c_eqs, c_nes, c_eqb, c_isb, c_isnb, o_add, o_sub, idx_t, idx_l, at0, at1, at2, at3, Bool.not_true, Bool.not_false, Bool.true_and, Bool.false_and, tgSlots, wipeE, bindT, List.getElem?_cons_zero, List.getElem?_cons_succ, List.set_cons_zero, List.set_cons_succ, Option.map_some, if_true, Bool.false_eq_true, if_false, hc, h3 _ _ c _ (.inl rfl) (others_strs hn _) hsc, may])
      simp only [v_nil, v_cons, v_for, v_asg, v_par, v_unp, v_setI, v_expr, v_ret, v_ife, v_pass, e_var, e_const, e_tup, e_lst, e_bin, e_negc, e_not, e_and, e_or, e_cmp, e_chain, e_ife, e_idx, e_slc, e_call, e_isi, e_blt, evDs, evPar, evAnd, x_bind, x_then, ok_bind, ok_then, nx_then, rt_then, np_imp, np_nl, np_py, ni_imp, ni_py, ni_nl, nb_imp, nb_py, no_none, no_int, no_intp, fz_imp, fz_im, fz_nl, im_py, im_imp, ok_imp, dm_nil, dm_one, dm_two, dr_py, tp_nil, tp_cons, ck_true, fin_rt, fin_nx, tr_imp, tr_nl, st_im, st_imp, st_nl, st_nlt, un_imp, b_len, b_all, b_any, b_max, b_min, b_int, b_intb, b_ll, b_lt, b_tl, b_tt, len_l, len_t, it_sl, it_st, it_ss, ty_str, ty_tup, c_le, c_ge, c_lt, c_gt, c_eqi, c_nei, c_eqs, c_nes, c_eqb, c_isb, c_isnb, o_add, o_sub, idx_t, idx_l, at0, at1, at2, at3, Bool.not_true, Bool.not_false, Bool.true_and, Bool.false_and, tgSlots, wipeE, bindT, List.getElem?_cons_zero, List.getElem?_cons_succ, List.set_cons_zero, List.set_cons_succ, Option.map_some, if_true, Bool.false_eq_true, if_false, hc2, h2 _ _ _ (.inl rfl) (.inl hn) (by rw [names, List.length_map]; exact z)]
      cases asc (names ts) with
      | false => simp only [v_nil, v_cons, v_for, v_asg, v_par, v_unp, v_setI, v_expr, v_ret, v_ife, v_pass, e_var, e_const, e_tup, e_lst, e_bin, e_negc, e_not, e_and, e_or, e_cmp, e_chain, e_ife, e_idx, e_slc, e_call, e_isi, e_blt, evDs, evPar, evAnd, x_bind, x_then, ok_bind, ok_then, nx_then, rt_then, np_imp, np_nl, np_py, ni_imp, ni_py, ni_nl, nb_imp, nb_py, no_none, no_int, no_intp, fz_imp, fz_im, fz_nl, im_py, im_imp, ok_imp, dm_nil, dm_one, dm_two, dr_py, tp_nil, tp_cons, ck_true, fin_rt, fin_nx, tr_imp, tr_nl, st_im, st_imp, st_nl, st_nlt, un_imp, b_len, b_all, b_any, b_max, b_min, b_int, b_intb, b_ll, b_lt, b_tl, b_tt, len_l, len_t, it_sl, it_st, it_ss, ty_str, ty_tup, c_le, c_ge, c_lt, c_gt, c_eqi, c_nei, c_eqs, c_nes, c_eqb, c_isb, c_isnb, o_add, o_sub, idx_t, idx_l, at0, at1, at2, at3, Bool.not_true, Bool.not_false, Bool.true_and, Bool.false_and, tgSlots, wipeE, bindT, List.getElem?_cons_zero, List.getElem?_cons_succ, List.set_cons_zero, List.set_cons_succ, Option.map_some, if_true, Bool.false_eq_true, if_false]
      | true =>
        simp only [v_nil, v_cons, v_for, v_asg, v_par, v_unp, v_setI, v_expr, v_ret, v_ife, v_pass, e_var, e_const, e_tup, e_lst, e_bin, e_negc, e_not, e_and, e_or, e_cmp, e_chain, e_ife, e_idx, e_slc, e_call, e_isi, e_blt, evDs, evPar, evAnd, x_bind, x_then, ok_bind, ok_then, nx_then, rt_then, np_imp, np_nl, np_py, ni_imp, ni_py, ni_nl, nb_imp, nb_py, no_none, no_int, no_intp, fz_imp, fz_im, fz_nl, im_py, im_imp, ok_imp, dm_nil, dm_one, dm_two, dr_py, tp_nil, tp_cons, ck_true, fin_rt, fin_nx, tr_imp, tr_nl, st_im, st_imp, st_nl, st_nlt, un_imp, b_len, b_all, b_any, b_max, b_min, b_int, b_intb, b_ll, b_lt, b_tl, b_tt, len_l, len_t, it_sl, it_st, it_ss, ty_str, ty_tup, c_le, c_ge, c_lt, c_gt, c_eqi, c_nei, c_eqs, c_nes, c_eqb, c_isb, c_isnb, o_add, o_sub, idx_t, idx_l, at0, at1, at2, at3, Bool.not_true, Bool.not_false, Bool.true_and, Bool.false_and, tgSlots, wipeE, bindT, List.getElem?_cons_zero, List.getElem?_cons_succ, List.set_cons_zero, List.set_cons_succ, Option.map_some, if_true, Bool.false_eq_true, if_false, hc4, bools_map']
        congr 2
        rw [List.all_map]; rfl
  | _ => simp only [v_nil, v_cons, v_for, v_asg, v_par, v_unp, v_setI, v_expr, v_ret, v_ife, v_pass, e_var, e_const, e_tup, e_lst, e_bin, e_negc, e_not, e_and, e_or, e_cmp, e_chain, e_ife, e_idx, e_slc, e_call, e_isi, e_blt, evDs, evPar, evAnd, x_bind, x_then, ok_bind, ok_then, nx_then, rt_then, np_imp, np_nl, np_py, ni_imp, ni_py, ni_nl, nb_imp, nb_py, no_none, no_int, no_intp, fz_imp, fz_im, fz_nl, im_py, im_imp, ok_imp, dm_nil, dm_one, dm_two, dr_py, tp_nil, tp_cons, ck_true, fin_rt, fin_nx, tr_imp, tr_nl, st_im, st_imp, st_nl, st_nlt, un_imp, b_len, b_all, b_any, b_max, b_min, b_int, b_intb, b_ll, b_lt, b_tl, b_tt, len_l, len_t, it_sl, it_st, it_ss, ty_str, ty_tup, c_le, c_ge, c_lt, c_gt, c_eqi, c_nei, c_eqs, c_nes, c_eqb, c_isb, c_isnb, o_add, o_sub, idx_t, idx_l, at0, at1, at2, at3, Bool.not_true, Bool.not_false, Bool.true_and, Bool.false_and, tgSlots, wipeE, bindT, List.getElem?_cons_zero, List.getElem?_cons_succ, List.set_cons_zero, List.set_cons_succ, Option.map_some, if_true, Bool.false_eq_true, if_false, isTy, areTools]
def ToolsF (Φ : Nat → List D → Sto → R Rv) (i : Nat) : Prop := ∀ v st, small v = true → Φ i [.py v] st = ok1 (.bool (areTools v)) st
def hookOk (ns : List P) : P → Bool
  | .tuple [a, b] => (oneOf ns a && oneOf ns b) && !a.eqv b
  | _ => false
def areHooks (ns : List P) : P → Bool
  | .tuple hs => hs.all (hookOk ns) && asc hs
  | _ => false
theorem hookOk_shape {ns : List P} {v : P} (h : hookOk ns v = true) : ∃ s t, v = .tuple [.str s, .str t] := by
  unfold hookOk at h
  split at h
  · rename_i a b
    rw [Bool.and_eq_true, Bool.and_eq_true] at h
    obtain ⟨s, rfl⟩ := oneOf_str h.1.1
    obtain ⟨t, rfl⟩ := oneOf_str h.1.2
    exact ⟨s, t, rfl⟩
  · cases h
theorem sem_areHooks {i1 i2 : Nat} (h1 : OneF Φ i1) (h2 : AscF Φ i2) {W v : P} {ns : List P} (hW : W = .list ns ∨ W = .tuple ns) (hs : Strs ns) (hv : small v = true) :
    fin st.length (evSs Φ (t_are_hooks i1 i2) [some (.py W), some (.py v), none, none] st) = ok1 (.bool (areHooks ns v)) st := by
  unfold t_are_hooks
  cases v with
  | tuple hs' =>
    obtain ⟨z, hsm⟩ := small_tup hv
    have hb : ∀ y ∈ hs', ∀ e3, evSs Φ [(.ife (.or (.not (.isi .tup (.var 2))) (.or (.cmp .ne (.blt .len [(.var 2)]) (.const (.int 2))) (.not (.blt .all [(.comp (.call i1 [(.var 0), (.var 3)]) (.one 3) .seq [(.var 2)] [])])))) [(.ret (.const (.bool false)))] []),
        (.ife (.cmp .eq (.idx (.var 2) (.const (.int 0))) (.idx (.var 2) (.const (.int 1)))) [(.ret (.const (.bool false)))] [])] [some (.py W), some (.py (.tuple hs')), some (.py y), e3] st =
        if hookOk ns y then .nx [some (.py W), some (.py (.tuple hs')), some (.py y), e3] st else .rt (imp (.bool false)) st := fun y hy e3 => by
      have hsy := hsm y hy
      cases y with
      | tuple vs =>
        obtain ⟨z2, hs2⟩ := small_tup hsy
        have hc : ∀ st, evE Φ [some (.py W), some (.py (.tuple hs')), some (.py (.tuple vs)), e3] (.comp (.call i1 [(.var 0), (.var 3)]) (.one 3) .seq [(.var 2)] []) st = .ok (.nl (vs.map fun y => .bool (oneOf ns y))) st := fun st => by
          refine comp_map _ (ds := [.py (.tuple vs)]) (by simp only [v_nil, v_cons, v_for, v_asg, v_par, v_unp, v_setI, v_expr, v_ret, v_ife, v_pass, e_var, e_const, e_tup, e_lst, e_bin, e_negc, e_not, e_and, e_or, e_cmp, e_chain, e_ife, e_idx, e_slc, e_call, e_isi, e_blt, evDs, evPar, evAnd, x_bind, x_then, ok_bind, ok_then, nx_then, rt_then, np_imp, np_nl, np_py, ni_imp, ni_py, ni_nl, nb_imp, nb_py, no_none, no_int, no_intp, fz_imp, fz_im, fz_nl, im_py, im_imp, ok_imp, dm_nil, dm_one, dm_two, dr_py, tp_nil, tp_cons, ck_true, fin_rt, fin_nx, tr_imp, tr_nl, st_im, st_imp, st_nl, st_nlt, un_imp, b_len, b_all, b_any, b_max, b_min, b_int, b_intb, b_ll, b_lt, b_tl, b_tt, len_l, len_t, it_sl, it_st, it_ss, ty_str, ty_tup, c_le, c_ge, c_lt, c_gt, c_eqi, c_nei, c_eqs, c_nes, c_eqb, c_isb, c_isnb, o_add, o_sub, idx_t, idx_l, at0, at1, at2, at3, Bool.not_true, Bool.not_false, Bool.true_and, Bool.false_and, tgSlots, wipeE, bindT, List.getElem?_cons_zero, List.getElem?_cons_succ, List.set_cons_zero, List.set_cons_succ, Option.map_some, if_true, Bool.false_eq_true, if_false]) (by simp only [v_nil, v_cons, v_for, v_asg, v_par, v_unp, v_setI, v_expr, v_ret, v_ife, v_pass, e_var, e_const, e_tup, e_lst, e_bin, e_negc, e_not, e_and, e_or, e_cmp, e_chain, e_ife, e_idx, e_slc, e_call, e_isi, e_blt, evDs, evPar, evAnd, x_bind, x_then, ok_bind, ok_then, nx_then, rt_then, np_imp, np_nl, np_py, ni_imp, ni_py, ni_nl, nb_imp, nb_py, no_none, no_int, no_intp, fz_imp, fz_im, fz_nl, im_py, im_imp, ok_imp, dm_nil, dm_one, dm_two, dr_py, tp_nil, tp_cons, ck_true, fin_rt, fin_nx, tr_imp, tr_nl, st_im, st_imp, st_nl, st_nlt, un_imp, b_len, b_all, b_any, b_max, b_min, b_int, b_intb, b_ll, b_lt, b_tl, b_tt, len_l, len_t, it_sl, it_st, it_ss, ty_str, ty_tup, c_le, c_ge, c_lt, c_gt, c_eqi, c_nei, c_eqs, c_nes, c_eqb, c_isb, c_isnb, o_add, o_sub, idx_t, idx_l, at0, at1, at2, at3, Bool.not_true, Bool.not_false, Bool.true_and, Bool.false_and, tgSlots, wipeE, bindT, List.getElem?_cons_zero, List.getElem?_cons_succ, List.set_cons_zero, List.set_cons_succ, Option.map_some, if_true, Bool.false_eq_true, if_false]) (fun y hy st => ?_) (Nat.le_trans z2 sz_big)
          exact turn_elt (env1 := [some (.py W), some (.py (.tuple hs')), some (.py (.tuple vs)), some (.py y)]) (by simp only [v_nil, v_cons, v_for, v_asg, v_par, v_unp, v_setI, v_expr, v_ret, v_ife, v_pass, e_var, e_const, e_tup, e_lst, e_bin, e_negc, e_not, e_and, e_or, e_cmp, e_chain, e_ife, e_idx, e_slc, e_call, e_isi, e_blt, evDs, evPar, evAnd, x_bind, x_then, ok_bind, ok_then, nx_then, rt_then, np_imp, np_nl, np_py, ni_imp, ni_py, ni_nl, nb_imp, nb_py, no_none, no_int, no_intp, fz_imp, fz_im, fz_nl, im_py, im_imp, ok_imp, dm_nil, dm_one, dm_two, dr_py, tp_nil, tp_cons, ck_true, fin_rt, fin_nx, tr_imp, tr_nl, st_im, st_imp, st_nl, st_nlt, un_imp, b_len, b_all, b_any, b_max, b_min, b_int, b_intb, b_ll, b_lt, b_tl, b_tt, len_l, len_t, it_sl, it_st, it_ss, ty_str, ty_tup, c_le, c_ge, c_lt, c_gt, c_eqi, c_nei, c_eqs, c_nes, c_eqb, c_isb, c_isnb, o_add, o_sub, idx_t, idx_l, at0, at1, at2, at3, Bool.not_true, Bool.not_false, Bool.true_and, Bool.false_and, tgSlots, wipeE, bindT, List.getElem?_cons_zero, List.getElem?_cons_succ, List.set_cons_zero, List.set_cons_succ, Option.map_some, if_true, Bool.false_eq_true, if_false]) (by simp only [v_nil, v_cons, v_for, v_asg, v_par, v_unp, v_setI, v_expr, v_ret, v_ife, v_pass, e_var, e_const, e_tup, e_lst, e_bin, e_negc, e_not, e_and, e_or, e_cmp, e_chain, e_ife, e_idx, e_slc, e_call, e_isi, e_blt, evDs, evPar, evAnd, x_bind, x_then, ok_bind, ok_then, nx_then, rt_then, np_imp, np_nl, np_py, ni_imp, ni_py, ni_nl, nb_imp, nb_py, no_none, no_int, no_intp, fz_imp, fz_im, fz_nl, im_py, im_imp, ok_imp, dm_nil, dm_one, dm_two, dr_py, tp_nil, tp_cons, ck_true, fin_rt, fin_nx, tr_imp, tr_nl, st_im, st_imp, st_nl, st_nlt, un_imp, b_len, b_all, b_any, b_max, b_min, b_int, b_intb, b_ll, b_lt, b_tl, b_tt, len_l, len_t, it_sl, it_st, it_ss, ty_str, ty_tup, c_le, c_ge, c_lt, c_gt, c_eqi, c_nei, c_eqs, c_nes, c_eqb, c_isb, c_isnb, o_add, o_sub, idx_t, idx_l, at0, at1, at2, at3, Bool.not_true, Bool.not_false, Bool.true_and, Bool.false_and, tgSlots, wipeE, bindT, List.getElem?_cons_zero, List.getElem?_cons_succ, List.set_cons_zero, List.set_cons_succ, Option.map_some, if_true, Bool.false_eq_true, if_false, h1 W ns y _ hW hs])
        have ea : (vs.map fun y => oneOf ns y).all id = vs.all (oneOf ns) := by rw [List.all_map]; rfl
        by_cases hl : vs.length = 2
        · rcases vs with _ | ⟨a, _ | ⟨b, _ | ⟨c, vs⟩⟩⟩ <;> try (simp at hl; done)
          have e3 : (((0 + 1 + 1 : Nat) : Int) == 2) = true := rfl
          simp only [v_nil, v_cons, v_for, v_asg, v_par, v_unp, v_setI, v_expr, v_ret, v_ife, v_pass, e_var, e_const, e_tup, e_lst, e_bin, e_negc, e_not, e_and, e_or, e_cmp, e_chain, e_ife, e_idx, e_slc, e_call, e_isi, e_blt, evDs, evPar, evAnd, x_bind, x_then, ok_bind, ok_then, nx_then, rt_then, np_imp, np_nl, np_py, ni_imp, ni_py, ni_nl, nb_imp, nb_py, no_none, no_int, no_intp, fz_imp, fz_im, fz_nl, im_py, im_imp, ok_imp, dm_nil, dm_one, dm_two, dr_py, tp_nil, tp_cons, ck_true, fin_rt, fin_nx, tr_imp, tr_nl, st_im, st_imp, st_nl, st_nlt, un_imp, b_len, b_all, b_any, b_max, b_min, b_int, b_intb, b_ll, b_lt, b_tl, b_tt, len_l, len_t, it_sl, it_st, it_ss, ty_str, ty_tup, c_le, c_ge, c_lt, c_gt, c_eqi, c_nei, c_eqs, c_nes, c_eqb, c_isb, c_isnb, o_add, o_sub, idx_t, idx_l, at0, at1, at2, at3, Bool.not_true, Bool.not_false, Bool.true_and, Bool.false_and, tgSlots, wipeE, bindT, List.getElem?_cons_zero, List.getElem?_cons_succ, List.set_cons_zero, List.set_cons_succ, Option.map_some, if_true, Bool.false_eq_true, if_false, hc, bools_map', ea, List.length_cons, List.length_nil, e3]
          have eb : [a, b].all (oneOf ns) = (oneOf ns a && oneOf ns b) := by simp
          rw [eb]
          have eh : hookOk ns (.tuple [a, b]) = ((oneOf ns a && oneOf ns b) && !a.eqv b) := rfl
          rw [eh]
          cases hab : (oneOf ns a && oneOf ns b) with
          | false => simp only [v_nil, v_cons, v_for, v_asg, v_par, v_unp, v_setI, v_expr, v_ret, v_ife, v_pass, e_var, e_const, e_tup, e_lst, e_bin, e_negc, e_not, e_and, e_or, e_cmp, e_chain, e_ife, e_idx, e_slc, e_call, e_isi, e_blt, evDs, evPar, evAnd, x_bind, x_then, ok_bind, ok_then, nx_then, rt_then, np_imp, np_nl, np_py, ni_imp, ni_py, ni_nl, nb_imp, nb_py, no_none, no_int, no_intp, fz_imp, fz_im, fz_nl, im_py, im_imp, ok_imp, dm_nil, dm_one, dm_two, dr_py, tp_nil, tp_cons, ck_true, fin_rt, fin_nx, tr_imp, tr_nl, st_im, st_imp, st_nl, st_nlt, un_imp, b_len, b_all, b_any, b_max, b_min, b_int, b_intb, b_ll, b_lt, b_tl, b_tt, len_l, len_t, it_sl, it_st, it_ss, ty_str, ty_tup, c_le, c_ge, c_lt, c_gt, c_eqi, c_nei, c_eqs, c_nes, c_eqb, c_isb, c_isnb, o_add, o_sub, idx_t, idx_l, at0, at1, at2, at3, Bool.not_true, Bool.not_false, Bool.true_and, Bool.false_and, tgSlots, wipeE, bindT, List.getElem?_cons_zero, List.getElem?_cons_succ, List.set_cons_zero, List.set_cons_succ, Option.map_some, if_true, Bool.false_eq_true, if_false]
          | true =>
            rw [Bool.and_eq_true] at hab
            obtain ⟨s, rfl⟩ := oneOf_str hab.1
            obtain ⟨t, rfl⟩ := oneOf_str hab.2
            simp only [v_nil, v_cons, v_for, v_asg, v_par, v_unp, v_setI, v_expr, v_ret, v_ife, v_pass, e_var, e_const, e_tup, e_lst, e_bin, e_negc, e_not, e_and, e_or, e_cmp, e_chain, e_ife, e_idx, e_slc, e_call, e_isi, e_blt, evDs, evPar, evAnd, x_bind, x_then, ok_bind, ok_then, nx_then, rt_then, np_imp, np_nl, np_py, ni_imp, ni_py, ni_nl, nb_imp, nb_py, no_none, no_int, no_intp, fz_imp, fz_im, fz_nl, im_py, im_imp, ok_imp, dm_nil, dm_one, dm_two, dr_py, tp_nil, tp_cons, ck_true, fin_rt, fin_nx, tr_imp, tr_nl, st_im, st_imp, st_nl, st_nlt, un_imp, b_len, b_all, b_any, b_max, b_min, b_int, b_intb, b_ll, b_lt, b_tl, b_tt, len_l, len_t, it_sl, it_st, it_ss, ty_str, ty_tup, c_le, c_ge, c_lt, c_gt, c_eqi, c_nei, c_eqs, c_nes, c_eqb, c_isb, c_isnb, o_add, o_sub, idx_t, idx_l, at0, at1, at2, at3, Bool.not_true, Bool.not_false, Bool.true_and, Bool.false_and, tgSlots, wipeE, bindT, List.getElem?_cons_zero, List.getElem?_cons_succ, List.set_cons_zero, List.set_cons_succ, Option.map_some, if_true, Bool.false_eq_true, if_false]
            have ee : (PyData.str s).eqv (.str t) = (s == t) := rfl
            rw [ee]
            cases (s == t) <;> simp only [v_nil, v_cons, v_for, v_asg, v_par, v_unp, v_setI, v_expr, v_ret, v_ife, v_pass, e_var, e_const, e_tup, e_lst, e_bin, e_negc, e_not, e_and, e_or, e_cmp, e_chain, e_ife, e_idx, e_slc, e_call, e_isi, e_blt, evDs, evPar, evAnd, x_bind, x_then, ok_bind, ok_then, nx_then, rt_then, np_imp, np_nl, np_py, ni_imp, ni_py, ni_nl, nb_imp, nb_py, no_none, no_int, no_intp, fz_imp, fz_im, fz_nl, im_py, im_imp, ok_imp, dm_nil, dm_one, dm_two, dr_py, tp_nil, tp_cons, ck_true, fin_rt, fin_nx, tr_imp, tr_nl, st_im, st_imp, st_nl, st_nlt, un_imp, b_len, b_all, b_any, b_max, b_min, b_int, b_intb, b_ll, b_lt, b_tl, b_tt, len_l, len_t, it_sl, it_st, it_ss, ty_str, ty_tup, c_le, c_ge, c_lt, c_gt, c_eqi, c_nei, c_eqs, c_nes, c_eqb, c_isb, c_isnb, o_add, o_sub, idx_t, idx_l, at0, at1, at2, at3, Bool.not_true, Bool.not_false, Bool.true_and, Bool.false_and, tgSlots, wipeE, bindT, List.getElem?_cons_zero, List.getElem?_cons_succ, List.set_cons_zero, List.set_cons_succ, Option.map_some, if_true, Bool.false_eq_true, if_false]
        · have e3 : (((vs.length : Nat) : Int) == 2) = false := by
            rw [beq_eq_false_iff_ne]
            omega
          have e4 : hookOk ns (.tuple vs) = false := by
            rcases vs with _ | ⟨a, _ | ⟨b, _ | ⟨c, vs⟩⟩⟩ <;> first | rfl | (simp at hl)
          simp only [v_nil, v_cons, v_for, v_asg, v_par, v_unp, v_setI, v_expr, v_ret, v_ife, v_pass, e_var, e_const, e_tup, e_lst, e_bin, e_negc, e_not, e_and, e_or, e_cmp, e_chain, e_ife, e_idx, e_slc, e_call, e_isi, e_blt, evDs, evPar, evAnd, x_bind, x_then, ok_bind, ok_then, nx_then, rt_then, np_imp, np_nl, np_py, ni_imp, ni_py, ni_nl, nb_imp, nb_py, no_none, no_int, no_intp, fz_imp, fz_im, fz_nl, im_py, im_imp, ok_imp, dm_nil, dm_one, dm_two, dr_py, tp_nil, tp_cons, ck_true, fin_rt, fin_nx, tr_imp, tr_nl, st_im, st_imp, st_nl, st_nlt, un_imp, b_len, b_all, b_any, b_max, b_min, b_int, b_intb, b_ll, b_lt, b_tl, b_tt, len_l, len_t, it_sl, it_st, it_ss, ty_str, ty_tup, c_le, c_ge, c_lt, c_gt, c_eqi, c_nei, c_eqs, c_nes, c_eqb, c_isb, c_isnb, o_add, o_sub, idx_t, idx_l, at0, at1, at2, at3, Bool.not_true, Bool.not_false, Bool.true_and, Bool.false_and, tgSlots, wipeE, bindT, List.getElem?_cons_zero, List.getElem?_cons_succ, List.set_cons_zero, List.set_cons_succ, Option.map_some, if_true, Bool.false_eq_true, if_false, e3, e4]
      | _ => simp only [v_nil, v_cons, v_for, v_asg, v_par, v_unp, v_setI, v_expr, v_ret, v_ife, v_pass, e_var, e_const, e_tup, e_lst, e_bin, e_negc, e_not, e_and, e_or, e_cmp, e_chain, e_ife, e_idx, e_slc, e_call, e_isi, e_blt, evDs, evPar, evAnd, x_bind, x_then, ok_bind, ok_then, nx_then, rt_then, np_imp, np_nl, np_py, ni_imp, ni_py, ni_nl, nb_imp, nb_py, no_none, no_int, no_intp, fz_imp, fz_im, fz_nl, im_py, im_imp, ok_imp, dm_nil, dm_one, dm_two, dr_py, tp_nil, tp_cons, ck_true, fin_rt, fin_nx, tr_imp, tr_nl, st_im, st_imp, st_nl, st_nlt, un_imp, b_len, b_all, b_any, b_max, b_min, b_int, b_intb, b_ll, b_lt, b_tl, b_tt, len_l, len_t, it_sl, it_st, it_ss, ty_str, ty_tup, c_le, c_ge, c_lt, c_gt, c_eqi, c_nei, c_eqs, c_nes, c_eqb, c_isb, c_isnb, o_add, o_sub, idx_t, idx_l, at0, at1, at2, at3, Bool.not_true, Bool.not_false, Bool.true_and, Bool.false_and, tgSlots, wipeE, bindT, List.getElem?_cons_zero, List.getElem?_cons_succ, List.set_cons_zero, List.set_cons_succ, Option.map_some, if_true, Bool.false_eq_true, if_false, isTy, hookOk]
    have hi : ∀ env st, env[1]? = some (some (D.py (.tuple hs'))) → evI Φ env .seq [(.var 1)] st = .ok hs' st := fun env st he => by
      unfold evI
      simp only [evDs, e_var, he, ok_bind, fz_im, it_st]
    simp only [v_nil, v_cons, v_for, v_asg, v_par, v_unp, v_setI, v_expr, v_ret, v_ife, v_pass, e_var, e_const, e_tup, e_lst, e_bin, e_negc, e_not, e_and, e_or, e_cmp, e_chain, e_ife, e_idx, e_slc, e_call, e_isi, e_blt, evDs, evPar, evAnd, x_bind, x_then, ok_bind, ok_then, nx_then, rt_then, np_imp, np_nl, np_py, ni_imp, ni_py, ni_nl, nb_imp, nb_py, no_none, no_int, no_intp, fz_imp, fz_im, fz_nl, im_py, im_imp, ok_imp, dm_nil, dm_one, dm_two, dr_py, tp_nil, tp_cons, ck_true, fin_rt, fin_nx, tr_imp, tr_nl, st_im, st_imp, st_nl, st_nlt, un_imp, b_len, b_all, b_any, b_max, b_min, b_int, b_intb, b_ll, b_lt, b_tl, b_tt, len_l, len_t, it_sl, it_st, it_ss, ty_str, ty_tup, c_le, c_ge, c_lt, c_gt, c_eqi, c_nei, c_eqs, c_nes, c_eqb, c_isb, c_isnb, o_add, o_sub, idx_t, idx_l, at0, at1, at2, at3, Bool.not_true, Bool.not_false, Bool.true_and, Bool.false_and, tgSlots, wipeE, bindT, List.getElem?_cons_zero, List.getElem?_cons_succ, List.set_cons_zero, List.set_cons_succ, Option.map_some, if_true, Bool.false_eq_true, if_false]
    rw [hi _ _ rfl]
    simp only [v_nil, v_cons, v_for, v_asg, v_par, v_unp, v_setI, v_expr, v_ret, v_ife, v_pass, e_var, e_const, e_tup, e_lst, e_bin, e_negc, e_not, e_and, e_or, e_cmp, e_chain, e_ife, e_idx, e_slc, e_call, e_isi, e_blt, evDs, evPar, evAnd, x_bind, x_then, ok_bind, ok_then, nx_then, rt_then, np_imp, np_nl, np_py, ni_imp, ni_py, ni_nl, nb_imp, nb_py, no_none, no_int, no_intp, fz_imp, fz_im, fz_nl, im_py, im_imp, ok_imp, dm_nil, dm_one, dm_two, dr_py, tp_nil, tp_cons, ck_true, fin_rt, fin_nx, tr_imp, tr_nl, st_im, st_imp, st_nl, st_nlt, un_imp, b_len, b_all, b_any, b_max, b_min, b_int, b_intb, b_ll, b_lt, b_tl, b_tt, len_l, len_t, it_sl, it_st, it_ss, ty_str, ty_tup, c_le, c_ge, c_lt, c_gt, c_eqi, c_nei, c_eqs, c_nes, c_eqb, c_isb, c_isnb, o_add, o_sub, idx_t, idx_l, at0, at1, at2, at3, Bool.not_true, Bool.not_false, Bool.true_and, Bool.false_and, tgSlots, wipeE, bindT, List.getElem?_cons_zero, List.getElem?_cons_succ, List.set_cons_zero, List.set_cons_succ, Option.map_some, if_true, Bool.false_eq_true, if_false]
    rw [forL_all (good := hookOk ns) hs' _ (fun y hy => by simp only [List.set_cons_succ, List.set_cons_zero]; exact hb y hy none)]
    cases hg : hs'.all (hookOk ns) with
    | false => simp only [v_nil, v_cons, v_for, v_asg, v_par, v_unp, v_setI, v_expr, v_ret, v_ife, v_pass, e_var, e_const, e_tup, e_lst, e_bin, e_negc, e_not, e_and, e_or, e_cmp, e_chain, e_ife, e_idx, e_slc, e_call, e_isi, e_blt, evDs, evPar, evAnd, x_bind, x_then, ok_bind, ok_then, nx_then, rt_then, np_imp, np_nl, np_py, ni_imp, ni_py, ni_nl, nb_imp, nb_py, no_none, no_int, no_intp, fz_imp, fz_im, fz_nl, im_py, im_imp, ok_imp, dm_nil, dm_one, dm_two, dr_py, tp_nil, tp_cons, ck_true, fin_rt, fin_nx, tr_imp, tr_nl, st_im, st_imp, st_nl, st_nlt, un_imp, b_len, b_all, b_any, b_max, b_min, b_int, b_intb, b_ll, b_lt, b_tl, b_tt, len_l, len_t, it_sl, it_st, it_ss, ty_str, ty_tup, c_le, c_ge, c_lt, c_gt, c_eqi, c_nei, c_eqs, c_nes, c_eqb, c_isb, c_isnb, o_add, o_sub, idx_t, idx_l, at0, at1, at2, at3, Bool.not_true, Bool.not_false, Bool.true_and, Bool.false_and, tgSlots, wipeE, bindT, List.getElem?_cons_zero, List.getElem?_cons_succ, List.set_cons_zero, List.set_cons_succ, Option.map_some, if_true, Bool.false_eq_true, if_false, areHooks, hg]
    | true =>
      have hr : RowOk hs' := .inr fun x hx => hookOk_shape (List.all_eq_true.mp hg x hx)
      unfold lastE
      cases hs'.getLast? <;> simp only [v_nil, v_cons, v_for, v_asg, v_par, v_unp, v_setI, v_expr, v_ret, v_ife, v_pass, e_var, e_const, e_tup, e_lst, e_bin, e_negc, e_not, e_and, e_or, e_cmp, e_chain, e_ife, e_idx, e_slc, e_call, e_isi, e_blt, evDs, evPar, evAnd, x_bind, x_then, ok_bind, ok_then, nx_then, rt_then, np_imp, np_nl, np_py, ni_imp, ni_py, ni_nl, nb_imp, nb_py, no_none, no_int, no_intp, fz_imp, fz_im, fz_nl, im_py, im_imp, ok_imp, dm_nil, dm_one, dm_two, dr_py, tp_nil, tp_cons, ck_true, fin_rt, fin_nx, tr_imp, tr_nl, st_im, st_imp, st_nl, st_nlt, un_imp, b_len, b_all, b_any, b_max, b_min, b_int, b_intb, b_ll, b_lt, b_tl, b_tt, len_l, len_t, it_sl, it_st, it_ss, ty_str, ty_tup, c_le, c_ge, c_lt, c_gt, c_eqi, c_nei, c_eqs, c_nes, c_eqb, c_isb, c_isnb, o_add, o_sub, idx_t, idx_l, at0, at1, at2, at3, Bool.not_true, Bool.not_false, Bool.true_and, Bool.false_and, tgSlots, wipeE, bindT, List.getElem?_cons_zero, List.getElem?_cons_succ, List.set_cons_zero, List.set_cons_succ, Option.map_some, if_true, Bool.false_eq_true, if_false, areHooks, hg, h2 _ _ _ (.inr rfl) hr z]
  | _ => simp only [v_nil, v_cons, v_for, v_asg, v_par, v_unp, v_setI, v_expr, v_ret, v_ife, v_pass, e_var, e_const, e_tup, e_lst, e_bin, e_negc, e_not, e_and, e_or, e_cmp, e_chain, e_ife, e_idx, e_slc, e_call, e_isi, e_blt, evDs, evPar, evAnd, x_bind, x_then, ok_bind, ok_then, nx_then, rt_then, np_imp, np_nl, np_py, ni_imp, ni_py, ni_nl, nb_imp, nb_py, no_none, no_int, no_intp, fz_imp, fz_im, fz_nl, im_py, im_imp, ok_imp, dm_nil, dm_one, dm_two, dr_py, tp_nil, tp_cons, ck_true, fin_rt, fin_nx, tr_imp, tr_nl, st_im, st_imp, st_nl, st_nlt, un_imp, b_len, b_all, b_any, b_max, b_min, b_int, b_intb, b_ll, b_lt, b_tl, b_tt, len_l, len_t, it_sl, it_st, it_ss, ty_str, ty_tup, c_le, c_ge, c_lt, c_gt, c_eqi, c_nei, c_eqs, c_nes, c_eqb, c_isb, c_isnb, o_add, o_sub, idx_t, idx_l, at0, at1, at2, at3, Bool.not_true, Bool.not_false, Bool.true_and, Bool.false_and, tgSlots, wipeE, bindT, List.getElem?_cons_zero, List.getElem?_cons_succ, List.set_cons_zero, List.set_cons_succ, Option.map_some, if_true, Bool.false_eq_true, if_false, isTy, areHooks]
def HooksF (Φ : Nat → List D → Sto → R Rv) (i : Nat) : Prop := ∀ W ns v st, (W = .list ns ∨ W = .tuple ns) → Strs ns → small v = true → Φ i [.py W, .py v] st = ok1 (.bool (areHooks ns v)) st
def isSetup : P → Bool
  | .tuple [ts, hs, .tuple [x, y]] => areTools ts && (areHooks (match ts with | .tuple l => names l | _ => []) hs && (areNames (match ts with | .tuple l => names l | _ => []) x && areNames (match ts with | .tuple l => names l | _ => []) y))
  | _ => false
theorem areTools_shape {v : P} (h : areTools v = true) : ∃ ts, v = .tuple ts ∧ ts.all isTool = true := by
  unfold areTools at h
  split at h
  · rw [Bool.and_eq_true] at h
    obtain ⟨_, h⟩ := h
    rw [Bool.and_eq_true] at h
    exact ⟨_, rfl, h.1⟩
  · cases h
theorem sem_isSetup {i1 i2 i3 : Nat} (h1 : ToolsF Φ i1) (h2 : HooksF Φ i2) (h3 : NamesF Φ i3) {v : P} (hv : small v = true) :
    fin st.length (evSs Φ (t_is_setup i1 i2 i3) [some (.py v), none, none] st) = ok1 (.bool (isSetup v)) st := by
  unfold t_is_setup
  cases v with
  | tuple vs =>
    obtain ⟨z, hs⟩ := small_tup hv
    by_cases hl : vs.length = 3
    · rcases vs with _ | ⟨a, _ | ⟨b, _ | ⟨c, _ | ⟨d, vs⟩⟩⟩⟩ <;> try (simp at hl; done)
      have ha : small a = true := hs a (by simp)
      have hbb : small b = true := hs b (by simp)
      have hcc : small c = true := hs c (by simp)
      have e3 : (((0 + 1 + 1 + 1 : Nat) : Int) == 3) = true := rfl
      simp only [v_nil, v_cons, v_for, v_asg, v_par, v_unp, v_setI, v_expr, v_ret, v_ife, v_pass, e_var, e_const, e_tup, e_lst, e_bin, e_negc, e_not, e_and, e_or, e_cmp, e_chain, e_ife, e_idx, e_slc, e_call, e_isi, e_blt, evDs, evPar, evAnd, x_bind, x_then, ok_bind, ok_then, nx_then, rt_then, np_imp, np_nl, np_py, ni_imp, ni_py, ni_nl, nb_imp, nb_py, no_none, no_int, no_intp, fz_imp, fz_im, fz_nl, im_py, im_imp, ok_imp, dm_nil, dm_one, dm_two, dr_py, tp_nil, tp_cons, ck_true, fin_rt, fin_nx, tr_imp, tr_nl, st_im, st_imp, st_nl, st_nlt, un_imp, b_len, b_all, b_any, b_max, b_min, b_int, b_intb, b_ll, b_lt, b_tl, b_tt, len_l, len_t, it_sl, it_st, it_ss, ty_str, ty_tup, c_le, c_ge, c_lt, c_gt, c_eqi, c_nei, c_eqs, c_nes, c_eqb, c_isb, c_isnb, o_add, o_sub, idx_t, idx_l, at0, at1, at2, at3, Bool.not_true, Bool.not_false, Bool.true_and, Bool.false_and, tgSlots, wipeE, bindT, List.getElem?_cons_zero, List.getElem?_cons_succ, List.set_cons_zero, List.set_cons_succ, Option.map_some, if_true, Bool.false_eq_true, if_false, List.length_cons, List.length_nil, h1 a _ ha, e3]
      cases hg : areTools a with
      | false =>
        have e5 : isSetup (.tuple [a, b, c]) = false := by
          unfold isSetup
          split
          · rename_i e
            simp only [PyData.tuple.injEq, List.cons.injEq] at e
            obtain ⟨rfl, _⟩ := e
            rw [hg]; rfl
          · rfl
        simp only [v_nil, v_cons, v_for, v_asg, v_par, v_unp, v_setI, v_expr, v_ret, v_ife, v_pass, e_var, e_const, e_tup, e_lst, e_bin, e_negc, e_not, e_and, e_or, e_cmp, e_chain, e_ife, e_idx, e_slc, e_call, e_isi, e_blt, evDs, evPar, evAnd, x_bind, x_then, ok_bind, ok_then, nx_then, rt_then, np_imp, np_nl, np_py, ni_imp, ni_py, ni_nl, nb_imp, nb_py, no_none, no_int, no_intp, fz_imp, fz_im, fz_nl, im_py, im_imp, ok_imp, dm_nil, dm_one, dm_two, dr_py, tp_nil, tp_cons, ck_true, fin_rt, fin_nx, tr_imp, tr_nl, st_im, st_imp, st_nl, st_nlt, un_imp, b_len, b_all, b_any, b_max, b_min, b_int, b_intb, b_ll, b_lt, b_tl, b_tt, len_l, len_t, it_sl, it_st, it_ss, ty_str, ty_tup, c_le, c_ge, c_lt, c_gt, c_eqi, c_nei, c_eqs, c_nes, c_eqb, c_isb, c_isnb, o_add, o_sub, idx_t, idx_l, at0, at1, at2, at3, Bool.not_true, Bool.not_false, Bool.true_and, Bool.false_and, tgSlots, wipeE, bindT, List.getElem?_cons_zero, List.getElem?_cons_succ, List.set_cons_zero, List.set_cons_succ, Option.map_some, if_true, Bool.false_eq_true, if_false, e5]
      | true =>
        obtain ⟨ts, rfl, hall⟩ := areTools_shape hg
        have zt := (small_tup ha).1
        have hn := names_strs hall
        have hc : ∀ e1 e2 st, evE Φ [some (.py (.tuple [.tuple ts, b, c])), e1, e2] (.comp (.idx (.var 2) (.const (.int 0))) (.one 2) .seq [(.idx (.var 0) (.const (.int 0)))] []) st = .ok (.nl (names ts)) st := fun e1 e2 st => by
          refine comp_map _ (ds := [.py (.tuple ts)]) (by simp only [v_nil, v_cons, v_for, v_asg, v_par, v_unp, v_setI, v_expr, v_ret, v_ife, v_pass, e_var, e_const, e_tup, e_lst, e_bin, e_negc, e_not, e_and, e_or, e_cmp, e_chain, e_ife, e_idx, e_slc, e_call, e_isi, e_blt, evDs, evPar, evAnd, x_bind, x_then, ok_bind, ok_then, nx_then, rt_then, np_imp, np_nl, np_py, ni_imp, ni_py, ni_nl, nb_imp, nb_py, no_none, no_int, no_intp, fz_imp, fz_im, fz_nl, im_py, im_imp, ok_imp, dm_nil, dm_one, dm_two, dr_py, tp_nil, tp_cons, ck_true, fin_rt, fin_nx, tr_imp, tr_nl, st_im, st_imp, st_nl, st_nlt, un_imp, b_len, b_all, b_any, b_max, b_min, b_int, b_intb, b_ll, b_lt, b_tl, b_tt, len_l, len_t, it_sl, it_st, it_ss, ty_str, ty_tup, c_le, c_ge, c_lt, c_gt, c_eqi, c_nei, c_eqs, c_nes, c_eqb, c_isb, c_isnb, o_add, o_sub, idx_t, idx_l, at0, at1, at2, at3, Bool.not_true, Bool.not_false, Bool.true_and, Bool.false_and, tgSlots, wipeE, bindT, List.getElem?_cons_zero, List.getElem?_cons_succ, List.set_cons_zero, List.set_cons_succ, Option.map_some, if_true, Bool.false_eq_true, if_false]) (by simp only [v_nil, v_cons, v_for, v_asg, v_par, v_unp, v_setI, v_expr, v_ret, v_ife, v_pass, e_var, e_const, e_tup, e_lst, e_bin, e_negc, e_not, e_and, e_or, e_cmp, e_chain, e_ife, e_idx, e_slc, e_call, e_isi, e_blt, evDs, evPar, evAnd, x_bind, x_then, ok_bind, ok_then, nx_then, rt_then, np_imp, np_nl, np_py, ni_imp, ni_py, ni_nl, nb_imp, nb_py, no_none, no_int, no_intp, fz_imp, fz_im, fz_nl, im_py, im_imp, ok_imp, dm_nil, dm_one, dm_two, dr_py, tp_nil, tp_cons, ck_true, fin_rt, fin_nx, tr_imp, tr_nl, st_im, st_imp, st_nl, st_nlt, un_imp, b_len, b_all, b_any, b_max, b_min, b_int, b_intb, b_ll, b_lt, b_tl, b_tt, len_l, len_t, it_sl, it_st, it_ss, ty_str, ty_tup, c_le, c_ge, c_lt, c_gt, c_eqi, c_nei, c_eqs, c_nes, c_eqb, c_isb, c_isnb, o_add, o_sub, idx_t, idx_l, at0, at1, at2, at3, Bool.not_true, Bool.not_false, Bool.true_and, Bool.false_and, tgSlots, wipeE, bindT, List.getElem?_cons_zero, List.getElem?_cons_succ, List.set_cons_zero, List.set_cons_succ, Option.map_some, if_true, Bool.false_eq_true, if_false]) (fun y hy st => ?_) (Nat.le_trans zt sz_big)
          obtain ⟨s, b', c', d, rfl⟩ := isTool_shape (List.all_eq_true.mp hall y hy)
          exact turn_elt (env1 := [some (.py (.tuple [.tuple ts, b, c])), e1, some (.py (.tuple [.str s, b', c', d]))]) (by simp only [v_nil, v_cons, v_for, v_asg, v_par, v_unp, v_setI, v_expr, v_ret, v_ife, v_pass, e_var, e_const, e_tup, e_lst, e_bin, e_negc, e_not, e_and, e_or, e_cmp, e_chain, e_ife, e_idx, e_slc, e_call, e_isi, e_blt, evDs, evPar, evAnd, x_bind, x_then, ok_bind, ok_then, nx_then, rt_then, np_imp, np_nl, np_py, ni_imp, ni_py, ni_nl, nb_imp, nb_py, no_none, no_int, no_intp, fz_imp, fz_im, fz_nl, im_py, im_imp, ok_imp, dm_nil, dm_one, dm_two, dr_py, tp_nil, tp_cons, ck_true, fin_rt, fin_nx, tr_imp, tr_nl, st_im, st_imp, st_nl, st_nlt, un_imp, b_len, b_all, b_any, b_max, b_min, b_int, b_intb, b_ll, b_lt, b_tl, b_tt, len_l, len_t, it_sl, it_st, it_ss, ty_str, ty_tup, c_le, c_ge, c_lt, c_gt, c_eqi, c_nei, c_eqs, c_nes, c_eqb, c_isb, c_isnb, o_add, o_sub, idx_t, idx_l, at0, at1, at2, at3, Bool.not_true, Bool.not_false, Bool.true_and, Bool.false_and, tgSlots, wipeE, bindT, List.getElem?_cons_zero, List.getElem?_cons_succ, List.set_cons_zero, List.set_cons_succ, Option.map_some, if_true, Bool.false_eq_true, if_false]) (by simp only [v_nil, v_cons, v_for, v_asg, v_par, v_unp, v_setI, v_expr, v_ret, v_ife, v_pass, e_var, e_const, e_tup, e_lst, e_bin, e_negc, e_not, e_and, e_or, e_cmp, e_chain, e_ife, e_idx, e_slc, e_call, e_isi, e_blt, evDs, evPar, evAnd, x_bind, x_then, ok_bind, ok_then, nx_then, rt_then, np_imp, np_nl, np_py, ni_imp, ni_py, ni_nl, nb_imp, nb_py, no_none, no_int, no_intp, fz_imp, fz_im, fz_nl, im_py, im_imp, ok_imp, dm_nil, dm_one, dm_two, dr_py, tp_nil, tp_cons, ck_true, fin_rt, fin_nx, tr_imp, tr_nl, st_im, st_imp, st_nl, st_nlt, un_imp, b_len, b_all, b_any, b_max, b_min, b_int, b_intb, b_ll, b_lt, b_tl, b_tt, len_l, len_t, it_sl, it_st, it_ss, ty_str, ty_tup, c_le, c_ge, c_lt, c_gt, c_eqi, c_nei, c_eqs, c_nes, c_eqb, c_isb, c_isnb, o_add, o_sub, idx_t, idx_l, at0, at1, at2, at3, Bool.not_true, Bool.not_false, Bool.true_and, Bool.false_and, tgSlots, wipeE, bindT, List.getElem?_cons_zero, List.getElem?_cons_succ, List.set_cons_zero, List.set_cons_succ, Option.map_some, if_true, Bool.false_eq_true, if_false, nm])
        simp only [v_nil, v_cons, v_for, v_asg, v_par, v_unp, v_setI, v_expr, v_ret, v_ife, v_pass, e_var, e_const, e_tup, e_lst, e_bin, e_negc, e_not, e_and, e_or, e_cmp, e_chain, e_ife, e_idx, e_slc, e_call, e_isi, e_blt, evDs, evPar, evAnd, x_bind, x_then, ok_bind, ok_then, nx_then, rt_then, np_imp, np_nl, np_py, ni_imp, ni_py, ni_nl, nb_imp, nb_py, no_none, no_int, no_intp, fz_imp, fz_im, fz_nl, im_py, im_imp, ok_imp, dm_nil, dm_one, dm_two, dr_py, tp_nil, tp_cons, ck_true, fin_rt, fin_nx, tr_imp, tr_nl, st_im, st_imp, st_nl, st_nlt, un_imp, b_len, b_all, b_any, b_max, b_min, b_int, b_intb, b_ll, b_lt, b_tl, b_tt, len_l, len_t, it_sl, it_st, it_ss, ty_str, ty_tup, c_le, c_ge, c_lt, c_gt, c_eqi, c_nei, c_eqs, c_nes, c_eqb, c_isb, c_isnb, o_add, o_sub, idx_t, idx_l, at0, at1, at2, at3, Bool.not_true, Bool.not_false, Bool.true_and, Bool.false_and, tgSlots, wipeE, bindT, List.getElem?_cons_zero, List.getElem?_cons_succ, List.set_cons_zero, List.set_cons_succ, Option.map_some, if_true, Bool.false_eq_true, if_false, hc, h2 _ _ b _ (.inl rfl) hn hbb]
        cases hh : areHooks (names ts) b with
        | false =>
          have e5 : isSetup (.tuple [.tuple ts, b, c]) = false := by
            unfold isSetup
            split
            · rename_i e
              simp only [PyData.tuple.injEq, List.cons.injEq] at e
              obtain ⟨rfl, rfl, _⟩ := e
              simp only [hg, hh, Bool.false_and, Bool.and_false]
            · rfl
          simp only [v_nil, v_cons, v_for, v_asg, v_par, v_unp, v_setI, v_expr, v_ret, v_ife, v_pass, e_var, e_const, e_tup, e_lst, e_bin, e_negc, e_not, e_and, e_or, e_cmp, e_chain, e_ife, e_idx, e_slc, e_call, e_isi, e_blt, evDs, evPar, evAnd, x_bind, x_then, ok_bind, ok_then, nx_then, rt_then, np_imp, np_nl, np_py, ni_imp, ni_py, ni_nl, nb_imp, nb_py, no_none, no_int, no_intp, fz_imp, fz_im, fz_nl, im_py, im_imp, ok_imp, dm_nil, dm_one, dm_two, dr_py, tp_nil, tp_cons, ck_true, fin_rt, fin_nx, tr_imp, tr_nl, st_im, st_imp, st_nl, st_nlt, un_imp, b_len, b_all, b_any, b_max, b_min, b_int, b_intb, b_ll, b_lt, b_tl, b_tt, len_l, len_t, it_sl, it_st, it_ss, ty_str, ty_tup, c_le, c_ge, c_lt, c_gt, c_eqi, c_nei, c_eqs, c_nes, c_eqb, c_isb, c_isnb, o_add, o_sub, idx_t, idx_l, at0, at1, at2, at3, Bool.not_true, Bool.not_false, Bool.true_and, Bool.false_and, tgSlots, wipeE, bindT, List.getElem?_cons_zero, List.getElem?_cons_succ, List.set_cons_zero, List.set_cons_succ, Option.map_some, if_true, Bool.false_eq_true, if_false, e5]
        | true =>
          simp only [v_nil, v_cons, v_for, v_asg, v_par, v_unp, v_setI, v_expr, v_ret, v_ife, v_pass, e_var, e_const, e_tup, e_lst, e_bin, e_negc, e_not, e_and, e_or, e_cmp, e_chain, e_ife, e_idx, e_slc, e_call, e_isi, e_blt, evDs, evPar, evAnd, x_bind, x_then, ok_bind, ok_then, nx_then, rt_then, np_imp, np_nl, np_py, ni_imp, ni_py, ni_nl, nb_imp, nb_py, no_none, no_int, no_intp, fz_imp, fz_im, fz_nl, im_py, im_imp, ok_imp, dm_nil, dm_one, dm_two, dr_py, tp_nil, tp_cons, ck_true, fin_rt, fin_nx, tr_imp, tr_nl, st_im, st_imp, st_nl, st_nlt, un_imp, b_len, b_all, b_any, b_max, b_min, b_int, b_intb, b_ll, b_lt, b_tl, b_tt, len_l, len_t, it_sl, it_st, it_ss, ty_str, ty_tup, c_le, c_ge, c_lt, c_gt, c_eqi, c_nei, c_eqs, c_nes, c_eqb, c_isb, c_isnb, o_add, o_sub, idx_t, idx_l, at0, at1, at2, at3, Bool.not_true, Bool.not_false, Bool.true_and, Bool.false_and, tgSlots, wipeE, bindT, List.getElem?_cons_zero, List.getElem?_cons_succ, List.set_cons_zero, List.set_cons_succ, Option.map_some, if_true, Bool.false_eq_true, if_false]
          cases c with
          | tuple cs =>
            obtain ⟨z3, hs3⟩ := small_tup hcc
            by_cases hl2 : cs.length = 2
            · rcases cs with _ | ⟨x, _ | ⟨y, _ | ⟨d, cs⟩⟩⟩ <;> try (simp at hl2; done)
              have hx : small x = true := hs3 x (by simp)
              have hy : small y = true := hs3 y (by simp)
              have e4 : (((0 + 1 + 1 : Nat) : Int) == 2) = true := rfl
              have e5 : isSetup (.tuple [.tuple ts, b, .tuple [x, y]]) = (areTools (.tuple ts) && (areHooks (names ts) b && (areNames (names ts) x && areNames (names ts) y))) := rfl
              simp only [v_nil, v_cons, v_for, v_asg, v_par, v_unp, v_setI, v_expr, v_ret, v_ife, v_pass, e_var, e_const, e_tup, e_lst, e_bin, e_negc, e_not, e_and, e_or, e_cmp, e_chain, e_ife, e_idx, e_slc, e_call, e_isi, e_blt, evDs, evPar, evAnd, x_bind, x_then, ok_bind, ok_then, nx_then, rt_then, np_imp, np_nl, np_py, ni_imp, ni_py, ni_nl, nb_imp, nb_py, no_none, no_int, no_intp, fz_imp, fz_im, fz_nl, im_py, im_imp, ok_imp, dm_nil, dm_one, dm_two, dr_py, tp_nil, tp_cons, ck_true, fin_rt, fin_nx, tr_imp, tr_nl, st_im, st_imp, st_nl, st_nlt, un_imp, b_len, b_all, b_any, b_max, b_min, b_int, b_intb, b_ll, b_lt, b_tl, b_tt, len_l, len_t, it_sl, it_st, it_ss, ty_str, ty_tup, c_le, c_ge, c_lt, c_gt, c_eqi, c_nei, c_eqs, c_nes, c_eqb, c_isb, c_isnb, o_add, o_sub, idx_t, idx_l, at0, at1, at2, at3, Bool.not_true, Bool.not_false, Bool.true_and, Bool.false_and, tgSlots, wipeE, bindT, List.getElem?_cons_zero, List.getElem?_cons_succ, List.set_cons_zero, List.set_cons_succ, Option.map_some, if_true, Bool.false_eq_true, if_false, List.length_cons, List.length_nil, e4, e5, hg, hh, h3 _ _ x _ (.inl rfl) hn hx, h3 _ _ y _ (.inl rfl) hn hy]
              cases areNames (names ts) x <;> simp only [v_nil, v_cons, v_for, v_asg, v_par, v_unp, v_setI, v_expr, v_ret, v_ife, v_pass, e_var, e_const, e_tup, e_lst, e_bin, e_negc, e_not, e_and, e_or, e_cmp, e_chain, e_ife, e_idx, e_slc, e_call, e_isi, e_blt, evDs, evPar, evAnd, x_bind, x_then, ok_bind, ok_then, nx_then, rt_then, np_imp, np_nl, np_py, ni_imp, ni_py, ni_nl, nb_imp, nb_py, no_none, no_int, no_intp, fz_imp, fz_im, fz_nl, im_py, im_imp, ok_imp, dm_nil, dm_one, dm_two, dr_py, tp_nil, tp_cons, ck_true, fin_rt, fin_nx, tr_imp, tr_nl, st_im, st_imp, st_nl, st_nlt, un_imp, b_len, b_all, b_any, b_max, b_min, b_int, b_intb, b_ll, b_lt, b_tl, b_tt, len_l, len_t, it_sl, it_st, it_ss, ty_str, ty_tup, c_le, c_ge, c_lt, c_gt, c_eqi, c_nei, c_eqs, c_nes, c_eqb, c_isb, c_isnb, o_add, o_sub, idx_t, idx_l, at0, at1, at2, at3, Bool.not_true, Bool.not_false, Bool.true_and, Bool.false_and, tgSlots, wipeE, bindT, List.getElem?_cons_zero, List.getElem?_cons_succ, List.set_cons_zero, List.set_cons_succ, Option.map_some, if_true, Bool.false_eq_true, if_false]
            · have e4 : (((cs.length : Nat) : Int) == 2) = false := by
                rw [beq_eq_false_iff_ne]
                omega
              have e5 : isSetup (.tuple [.tuple ts, b, .tuple cs]) = false := by
                rcases cs with _ | ⟨x, _ | ⟨y, _ | ⟨d, cs⟩⟩⟩ <;> first | rfl | (simp at hl2)
              simp only [v_nil, v_cons, v_for, v_asg, v_par, v_unp, v_setI, v_expr, v_ret, v_ife, v_pass, e_var, e_const, e_tup, e_lst, e_bin, e_negc, e_not, e_and, e_or, e_cmp, e_chain, e_ife, e_idx, e_slc, e_call, e_isi, e_blt, evDs, evPar, evAnd, x_bind, x_then, ok_bind, ok_then, nx_then, rt_then, np_imp, np_nl, np_py, ni_imp, ni_py, ni_nl, nb_imp, nb_py, no_none, no_int, no_intp, fz_imp, fz_im, fz_nl, im_py, im_imp, ok_imp, dm_nil, dm_one, dm_two, dr_py, tp_nil, tp_cons, ck_true, fin_rt, fin_nx, tr_imp, tr_nl, st_im, st_imp, st_nl, st_nlt, un_imp, b_len, b_all, b_any, b_max, b_min, b_int, b_intb, b_ll, b_lt, b_tl, b_tt, len_l, len_t, it_sl, it_st, it_ss, ty_str, ty_tup, c_le, c_ge, c_lt, c_gt, c_eqi, c_nei, c_eqs, c_nes, c_eqb, c_isb, c_isnb, o_add, o_sub, idx_t, idx_l, at0, at1, at2, at3, Bool.not_true, Bool.not_false, Bool.true_and, Bool.false_and, tgSlots, wipeE, bindT, List.getElem?_cons_zero, List.getElem?_cons_succ, List.set_cons_zero, List.set_cons_succ, Option.map_some, if_true, Bool.false_eq_true, if_false, e4, e5]
          | _ => simp only [v_nil, v_cons, v_for, v_asg, v_par, v_unp, v_setI, v_expr, v_ret, v_ife, v_pass, e_var, e_const, e_tup, e_lst, e_bin, e_negc, e_not, e_and, e_or, e_cmp, e_chain, e_ife, e_idx, e_slc, e_call, e_isi, e_blt, evDs, evPar, evAnd, x_bind, x_then, ok_bind, ok_then, nx_then, rt_then, np_imp, np_nl, np_py, ni_imp, ni_py, ni_nl, nb_imp, nb_py, no_none, no_int, no_intp, fz_imp, fz_im, fz_nl, im_py, im_imp, ok_imp, dm_nil, dm_one, dm_two, dr_py, tp_nil, tp_cons, ck_true, fin_rt, fin_nx, tr_imp, tr_nl, st_im, st_imp, st_nl, st_nlt, un_imp, b_len, b_all, b_any, b_max, b_min, b_int, b_intb, b_ll, b_lt, b_tl, b_tt, len_l, len_t, it_sl, it_st, it_ss, ty_str, ty_tup, c_le, c_ge, c_lt, c_gt, c_eqi, c_nei, c_eqs, c_nes, c_eqb, c_isb, c_isnb, o_add, o_sub, idx_t, idx_l, at0, at1, at2, at3, Bool.not_true, Bool.not_false, Bool.true_and, Bool.false_and, tgSlots, wipeE, bindT, List.getElem?_cons_zero, List.getElem?_cons_succ, List.set_cons_zero, List.set_cons_succ, Option.map_some, if_true, Bool.false_eq_true, if_false, isTy, isSetup]
    · have e3 : (((vs.length : Nat) : Int) == 3) = false := by
        rw [beq_eq_false_iff_ne]
        omega
      have e4 : isSetup (.tuple vs) = false := by
        unfold isSetup
        split
        · rename_i e
          simp only [PyData.tuple.injEq] at e
          subst e
          exact absurd rfl hl
        · rfl
      simp only [v_nil, v_cons, v_for, v_asg, v_par, v_unp, v_setI, v_expr, v_ret, v_ife, v_pass, e_var, e_const, e_tup, e_lst, e_bin, e_negc, e_not, e_and, e_or, e_cmp, e_chain, e_ife, e_idx, e_slc, e_call, e_isi, e_blt, evDs, evPar, evAnd, x_bind, x_then, ok_bind, ok_then, nx_then, rt_then, np_imp, np_nl, np_py, ni_imp, ni_py, ni_nl, nb_imp, nb_py, no_none, no_int, no_intp, fz_imp, fz_im, fz_nl, im_py, im_imp, ok_imp, dm_nil, dm_one, dm_two, dr_py, tp_nil, tp_cons, ck_true, fin_rt, fin_nx, tr_imp, tr_nl, st_im, st_imp, st_nl, st_nlt, un_imp, b_len, b_all, b_any, b_max, b_min, b_int, b_intb, b_ll, b_lt, b_tl, b_tt, len_l, len_t, it_sl, it_st, it_ss, ty_str, ty_tup, c_le, c_ge, c_lt, c_gt, c_eqi, c_nei, c_eqs, c_nes, c_eqb, c_isb, c_isnb, o_add, o_sub, idx_t, idx_l, at0, at1, at2, at3, Bool.not_true, Bool.not_false, Bool.true_and, Bool.false_and, tgSlots, wipeE, bindT, List.getElem?_cons_zero, List.getElem?_cons_succ, List.set_cons_zero, List.set_cons_succ, Option.map_some, if_true, Bool.false_eq_true, if_false, e3, e4]
  | _ => simp only [v_nil, v_cons, v_for, v_asg, v_par, v_unp, v_setI, v_expr, v_ret, v_ife, v_pass, e_var, e_const, e_tup, e_lst, e_bin, e_negc, e_not, e_and, e_or, e_cmp, e_chain, e_ife, e_idx, e_slc, e_call, e_isi, e_blt, evDs, evPar, evAnd, x_bind, x_then, ok_bind, ok_then, nx_then, rt_then, np_imp, np_nl, np_py, ni_imp, ni_py, ni_nl, nb_imp, nb_py, no_none, no_int, no_intp, fz_imp, fz_im, fz_nl, im_py, im_imp, ok_imp, dm_nil, dm_one, dm_two, dr_py, tp_nil, tp_cons, ck_true, fin_rt, fin_nx, tr_imp, tr_nl, st_im, st_imp, st_nl, st_nlt, un_imp, b_len, b_all, b_any, b_max, b_min, b_int, b_intb, b_ll, b_lt, b_tl, b_tt, len_l, len_t, it_sl, it_st, it_ss, ty_str, ty_tup, c_le, c_ge, c_lt, c_gt, c_eqi, c_nei, c_eqs, c_nes, c_eqb, c_isb, c_isnb, o_add, o_sub, idx_t, idx_l, at0, at1, at2, at3, Bool.not_true, Bool.not_false, Bool.true_and, Bool.false_and, tgSlots, wipeE, bindT, List.getElem?_cons_zero, List.getElem?_cons_succ, List.set_cons_zero, List.set_cons_succ, Option.map_some, if_true, Bool.false_eq_true, if_false, isTy, isSetup]
def SetupF (Φ : Nat → List D → Sto → R Rv) (i : Nat) : Prop := ∀ v st, small v = true → Φ i [.py v] st = ok1 (.bool (isSetup v)) st
end
end Kp

/-! Kp, part 18: draws. -/
namespace Kp
open PySem
/-- a jar: two numbers -/
def JarAt (n : Nat) (st : Sto) : Prop := ∃ a b : Int, st[n]? = some (.lst [.int a, .int b]) ∧ 0 ≤ a ∧ 0 ≤ b ∧ b < 4294967296
/-- only the object n is changed -/
structure Same (n : Nat) (st st' : Sto) : Prop where
  len : st'.length = st.length
  at_ : ∀ m, m ≠ n → st'[m]? = st[m]?
theorem Same.refl {n : Nat} {st : Sto} : Same n st st := ⟨rfl, fun _ _ => rfl⟩
theorem Same.trans {n : Nat} {a b c : Sto} (x : Same n a b) (y : Same n b c) : Same n a c := ⟨y.len.trans x.len, fun m h => (y.at_ m h).trans (x.at_ m h)⟩
theorem Same.set {n : Nat} {st : Sto} {o : Ob} : Same n st (st.set n o) := ⟨List.length_set, fun m h => List.getElem?_set_ne (Ne.symm h)⟩
theorem JarAt.lt {n : Nat} {st : Sto} (h : JarAt n st) : n < st.length := by
  obtain ⟨a, b, e, _⟩ := h
  exact (List.getElem?_eq_some_iff.mp e).1
section
variable {Φ : Nat → List D → Sto → R Rv} {env : Ev}
theorem np_ref {β : Type} {n : Nat} {xs : List P} {st : Sto} (h : st[n]? = some (.lst xs)) (f : P → R β) : needP (.im (.ref n)) st f = f (.list xs) := by
  unfold needP asP deref
  simp only [Rv.frz, h]
theorem setI_ev {o i e : X} {p : P} {d : D} {k : P} {st st1 st2 st3 st4 : Sto} (h1 : evE Φ env e st = ok1 p st1) (h2 : evE Φ env o st1 = .ok (.im d) st2) (h3 : evE Φ env i st2 = ok1 k st3) (h4 : setop d k p st3 = some st4) : evS Φ (.setI o i e) env st = .nx env st4 := by
  simp only [evS, h1, h2, h3, x_then, ok_then]
  show (match D.py p, Rv.im d, Rv.im (.py k) with
    | .py p, .im d, .im (.py k) => (match setop d k p st3 with
      | some st4 => SR.nx env st4
      | none => .bad)
    | _, _, _ => .bad) = _
  simp only [h4]
theorem tr_len {n : Nat} {p : P} {st : Sto} (h : st.length = n) : trunc n (imp p) st = ok1 p st := by
  subst h
  exact tr_imp p st
theorem tr_nll {n : Nat} {xs : List P} {st : Sto} (h : st.length = n) : trunc n (.nl xs) st = .ok (.nl xs) st := by
  subst h
  exact tr_nl xs st
def LessF (Φ : Nat → List D → Sto → R Rv) (i : Nat) : Prop := ∀ n st (many : Int), JarAt n st → 0 < many → many < 1073741824 → ∃ r st', Φ i [.ref n, .py (.int many)] st = ok1 (.int r) st' ∧ 0 ≤ r ∧ r < many ∧ JarAt n st' ∧ Same n st st'
theorem sem_less {n : Nat} {st : Sto} {many : Int} (hj : JarAt n st) (h0 : 0 < many) (h1 : many < 1073741824) :
    ∃ r st', fin st.length (evSs Φ t_law_less [some (.ref n), some (.py (.int many)), none] st) = ok1 (.int r) st' ∧ 0 ≤ r ∧ r < many ∧ JarAt n st' ∧ Same n st st' := by
  obtain ⟨a, b, e, ha, hb, hb2⟩ := hj
  have hn : n < st.length := (List.getElem?_eq_some_iff.mp e).1
  unfold t_law_less
  by_cases hp : 0 < a
  · refine ⟨a % many, st.set n (.lst [.int (a / many), .int b]), ?_, Int.emod_nonneg _ (by omega), Int.emod_lt_of_pos _ h0, ⟨a / many, b, List.getElem?_set_self hn, Int.ediv_nonneg ha (by omega), hb, hb2⟩, Same.set⟩
    have hs : ∀ e2, evS Φ (.setI (.var 0) (.const (.int 0)) (.bin .fdiv (.idx (.var 0) (.const (.int 0))) (.var 1))) [some (D.ref n), some (D.py (.int many)), e2] st = .nx [some (D.ref n), some (D.py (.int many)), e2] (st.set n (.lst [.int (a / many), .int b])) := fun e2 => by
      refine setI_ev (p := .int (a / many)) (d := .ref n) (k := .int 0) (st1 := st) (st2 := st) (st3 := st) ?_ ?_ ?_ ?_
      · simp only [v_nil, v_cons, v_for, v_asg, v_par, v_unp, v_setI, v_expr, v_ret, v_ife, v_pass, e_var, e_const, e_tup, e_lst, e_bin, e_negc, e_not, e_and, e_or, e_cmp, e_chain, e_ife, e_idx, e_slc, e_call, e_isi, e_blt, evDs, evPar, evAnd, x_bind, x_then, ok_bind, ok_then, nx_then, rt_then, np_imp, np_nl, np_py, ni_imp, ni_py, ni_nl, nb_imp, nb_py, no_none, no_int, no_intp, fz_imp, fz_im, fz_nl, im_py, im_imp, ok_imp, dm_nil, dm_one, dm_two, dr_py, tp_nil, tp_cons, ck_true, fin_rt, fin_nx, tr_imp, tr_nl, st_im, st_imp, st_nl, st_nlt, un_imp, b_len, b_all, b_any, b_max, b_min, b_int, b_intb, b_ll, b_lt, b_tl, b_tt, len_l, len_t, it_sl, it_st, it_ss, ty_str, ty_tup, c_le, c_ge, c_lt, c_gt, c_eqi, c_nei, c_eqs, c_nes, c_eqb, c_isb, c_isnb, o_add, o_sub, idx_t, idx_l, at0, at1, at2, at3, Bool.not_true, Bool.not_false, Bool.true_and, Bool.false_and, tgSlots, wipeE, bindT, List.getElem?_cons_zero, List.getElem?_cons_succ, List.set_cons_zero, List.set_cons_succ, Option.map_some, if_true, Bool.false_eq_true, if_false, np_ref e, o_fdiv _ _ _ ⟨h0, h1⟩]
      · simp only [v_nil, v_cons, v_for, v_asg, v_par, v_unp, v_setI, v_expr, v_ret, v_ife, v_pass, e_var, e_const, e_tup, e_lst, e_bin, e_negc, e_not, e_and, e_or, e_cmp, e_chain, e_ife, e_idx, e_slc, e_call, e_isi, e_blt, evDs, evPar, evAnd, x_bind, x_then, ok_bind, ok_then, nx_then, rt_then, np_imp, np_nl, np_py, ni_imp, ni_py, ni_nl, nb_imp, nb_py, no_none, no_int, no_intp, fz_imp, fz_im, fz_nl, im_py, im_imp, ok_imp, dm_nil, dm_one, dm_two, dr_py, tp_nil, tp_cons, ck_true, fin_rt, fin_nx, tr_imp, tr_nl, st_im, st_imp, st_nl, st_nlt, un_imp, b_len, b_all, b_any, b_max, b_min, b_int, b_intb, b_ll, b_lt, b_tl, b_tt, len_l, len_t, it_sl, it_st, it_ss, ty_str, ty_tup, c_le, c_ge, c_lt, c_gt, c_eqi, c_nei, c_eqs, c_nes, c_eqb, c_isb, c_isnb, o_add, o_sub, idx_t, idx_l, at0, at1, at2, at3, Bool.not_true, Bool.not_false, Bool.true_and, Bool.false_and, tgSlots, wipeE, bindT, List.getElem?_cons_zero, List.getElem?_cons_succ, List.set_cons_zero, List.set_cons_succ, Option.map_some, if_true, Bool.false_eq_true, if_false]
      · simp only [v_nil, v_cons, v_for, v_asg, v_par, v_unp, v_setI, v_expr, v_ret, v_ife, v_pass, e_var, e_const, e_tup, e_lst, e_bin, e_negc, e_not, e_and, e_or, e_cmp, e_chain, e_ife, e_idx, e_slc, e_call, e_isi, e_blt, evDs, evPar, evAnd, x_bind, x_then, ok_bind, ok_then, nx_then, rt_then, np_imp, np_nl, np_py, ni_imp, ni_py, ni_nl, nb_imp, nb_py, no_none, no_int, no_intp, fz_imp, fz_im, fz_nl, im_py, im_imp, ok_imp, dm_nil, dm_one, dm_two, dr_py, tp_nil, tp_cons, ck_true, fin_rt, fin_nx, tr_imp, tr_nl, st_im, st_imp, st_nl, st_nlt, un_imp, b_len, b_all, b_any, b_max, b_min, b_int, b_intb, b_ll, b_lt, b_tl, b_tt, len_l, len_t, it_sl, it_st, it_ss, ty_str, ty_tup, c_le, c_ge, c_lt, c_gt, c_eqi, c_nei, c_eqs, c_nes, c_eqb, c_isb, c_isnb, o_add, o_sub, idx_t, idx_l, at0, at1, at2, at3, Bool.not_true, Bool.not_false, Bool.true_and, Bool.false_and, tgSlots, wipeE, bindT, List.getElem?_cons_zero, List.getElem?_cons_succ, List.set_cons_zero, List.set_cons_succ, Option.map_some, if_true, Bool.false_eq_true, if_false]
      · unfold setop
        simp only [e]
        rfl
    simp only [v_nil, v_cons, v_ife, v_asg, v_ret, e_cmp, e_idx, e_var, e_const, e_bin, e_blt, evDs, x_bind, ok_bind, ok_then, x_then, nx_then, rt_then, List.getElem?_cons_zero, List.getElem?_cons_succ, np_ref e, np_imp, np_py, idx_l, at0, at1, c_gt, decide_eq_true hp, nb_imp, if_true, dm_one, fz_imp, b_int, o_mod _ _ _ h0, st_imp, List.set_cons_zero, List.set_cons_succ, im_py, hs, fin_rt]
    exact tr_len (by rw [List.length_set])
  · have ha0 : a = 0 := by omega
    subst ha0
    have hc : 0 ≤ (b * 362437 + 521288629) % 3221225473 := Int.emod_nonneg _ (by omega)
    have hc2 : (b * 362437 + 521288629) % 3221225473 < 3221225473 := Int.emod_lt_of_pos _ (by omega)
    generalize hce : (b * 362437 + 521288629) % 3221225473 = c at hc hc2
    have e2 : (st.set n (.lst [.int 0, .int c]))[n]? = some (.lst [.int 0, .int c]) := List.getElem?_set_self hn
    refine ⟨((c * c + 88675123) % 2971215073 / 8191) % many, st.set n (.lst [.int 0, .int c]), ?_, Int.emod_nonneg _ (by omega), Int.emod_lt_of_pos _ h0, ⟨0, c, e2, by omega, hc, by omega⟩, Same.set⟩
    have hs : ∀ e1 e2, evS Φ (.setI (.var 0) (.const (.int 1)) (.bin .mod (.blt .int [(.bin .add (.bin .mul (.idx (.var 0) (.const (.int 1))) (.const (.int 362437))) (.const (.int 521288629)))]) (.const (.int 3221225473)))) [some (D.ref n), e1, e2] st = .nx [some (D.ref n), e1, e2] (st.set n (.lst [.int 0, .int c])) := fun e1 e2 => by
      refine setI_ev (p := .int c) (d := .ref n) (k := .int 1) (st1 := st) (st2 := st) (st3 := st) ?_ ?_ ?_ ?_
      · simp only [v_nil, v_cons, v_for, v_asg, v_par, v_unp, v_setI, v_expr, v_ret, v_ife, v_pass, e_var, e_const, e_tup, e_lst, e_bin, e_negc, e_not, e_and, e_or, e_cmp, e_chain, e_ife, e_idx, e_slc, e_call, e_isi, e_blt, evDs, evPar, evAnd, x_bind, x_then, ok_bind, ok_then, nx_then, rt_then, np_imp, np_nl, np_py, ni_imp, ni_py, ni_nl, nb_imp, nb_py, no_none, no_int, no_intp, fz_imp, fz_im, fz_nl, im_py, im_imp, ok_imp, dm_nil, dm_one, dm_two, dr_py, tp_nil, tp_cons, ck_true, fin_rt, fin_nx, tr_imp, tr_nl, st_im, st_imp, st_nl, st_nlt, un_imp, b_len, b_all, b_any, b_max, b_min, b_int, b_intb, b_ll, b_lt, b_tl, b_tt, len_l, len_t, it_sl, it_st, it_ss, ty_str, ty_tup, c_le, c_ge, c_lt, c_gt, c_eqi, c_nei, c_eqs, c_nes, c_eqb, c_isb, c_isnb, o_add, o_sub, idx_t, idx_l, at0, at1, at2, at3, Bool.not_true, Bool.not_false, Bool.true_and, Bool.false_and, tgSlots, wipeE, bindT, List.getElem?_cons_zero, List.getElem?_cons_succ, List.set_cons_zero, List.set_cons_succ, Option.map_some, if_true, Bool.false_eq_true, if_false, np_ref e, o_mul _ 362437 _ (by decide), o_mod _ 3221225473 _ (by decide), hce]
      · simp only [v_nil, v_cons, v_for, v_asg, v_par, v_unp, v_setI, v_expr, v_ret, v_ife, v_pass, e_var, e_const, e_tup, e_lst, e_bin, e_negc, e_not, e_and, e_or, e_cmp, e_chain, e_ife, e_idx, e_slc, e_call, e_isi, e_blt, evDs, evPar, evAnd, x_bind, x_then, ok_bind, ok_then, nx_then, rt_then, np_imp, np_nl, np_py, ni_imp, ni_py, ni_nl, nb_imp, nb_py, no_none, no_int, no_intp, fz_imp, fz_im, fz_nl, im_py, im_imp, ok_imp, dm_nil, dm_one, dm_two, dr_py, tp_nil, tp_cons, ck_true, fin_rt, fin_nx, tr_imp, tr_nl, st_im, st_imp, st_nl, st_nlt, un_imp, b_len, b_all, b_any, b_max, b_min, b_int, b_intb, b_ll, b_lt, b_tl, b_tt, len_l, len_t, it_sl, it_st, it_ss, ty_str, ty_tup, c_le, c_ge, c_lt, c_gt, c_eqi, c_nei, c_eqs, c_nes, c_eqb, c_isb, c_isnb, o_add, o_sub, idx_t, idx_l, at0, at1, at2, at3, Bool.not_true, Bool.not_false, Bool.true_and, Bool.false_and, tgSlots, wipeE, bindT, List.getElem?_cons_zero, List.getElem?_cons_succ, List.set_cons_zero, List.set_cons_succ, Option.map_some, if_true, Bool.false_eq_true, if_false]
      · simp only [v_nil, v_cons, v_for, v_asg, v_par, v_unp, v_setI, v_expr, v_ret, v_ife, v_pass, e_var, e_const, e_tup, e_lst, e_bin, e_negc, e_not, e_and, e_or, e_cmp, e_chain, e_ife, e_idx, e_slc, e_call, e_isi, e_blt, evDs, evPar, evAnd, x_bind, x_then, ok_bind, ok_then, nx_then, rt_then, np_imp, np_nl, np_py, ni_imp, ni_py, ni_nl, nb_imp, nb_py, no_none, no_int, no_intp, fz_imp, fz_im, fz_nl, im_py, im_imp, ok_imp, dm_nil, dm_one, dm_two, dr_py, tp_nil, tp_cons, ck_true, fin_rt, fin_nx, tr_imp, tr_nl, st_im, st_imp, st_nl, st_nlt, un_imp, b_len, b_all, b_any, b_max, b_min, b_int, b_intb, b_ll, b_lt, b_tl, b_tt, len_l, len_t, it_sl, it_st, it_ss, ty_str, ty_tup, c_le, c_ge, c_lt, c_gt, c_eqi, c_nei, c_eqs, c_nes, c_eqb, c_isb, c_isnb, o_add, o_sub, idx_t, idx_l, at0, at1, at2, at3, Bool.not_true, Bool.not_false, Bool.true_and, Bool.false_and, tgSlots, wipeE, bindT, List.getElem?_cons_zero, List.getElem?_cons_succ, List.set_cons_zero, List.set_cons_succ, Option.map_some, if_true, Bool.false_eq_true, if_false]
      · unfold setop
        simp only [e]
        rfl
    simp only [v_nil, v_cons, v_ife, v_asg, v_ret, e_cmp, e_idx, e_var, e_const, e_bin, e_blt, evDs, x_bind, ok_bind, ok_then, x_then, nx_then, rt_then, List.getElem?_cons_zero, List.getElem?_cons_succ, np_ref e, np_ref e2, np_imp, np_py, idx_l, at0, at1, c_gt, decide_eq_false hp, nb_imp, Bool.false_eq_true, if_false, dm_one, fz_imp, b_int, o_add, o_mul _ c _ (by omega), o_fdiv _ 8191 _ (by decide), o_mod _ 2971215073 _ (by decide), o_mod _ _ _ h0, st_imp, im_py, hs, fin_rt]
    exact tr_len (by rw [List.length_set])
/-- a new jar, of the number that is drawn -/
theorem c_ge18 (c : Int) : binop .pow (.int 10) (.int 18) = fun st => ok1 (.int 1000000000000000000) st := rfl
theorem sem_jar {st : Sto} (c salt : Int) (hs : 0 ≤ salt ∧ salt < 1000000) : ∃ a b : Int, fin st.length (evSs Φ t_law_jar [some (.py (.int c)), some (.py (.int salt)), none] st) = .ok (.nl [.int a, .int b]) st ∧ 0 ≤ a ∧ 0 ≤ b ∧ b < 4294967296 := by
  unfold t_law_jar
  have hp : ∀ st, binop .pow (.int 10) (.int 18) st = ok1 (.int 1000000000000000000) st := fun st => rfl
  refine ⟨if (if 1000000000000000000 ≤ c then c - 1000000000000000000 else 0) > 0 then (if 1000000000000000000 ≤ c then c - 1000000000000000000 else 0) else 0, (c * 17 + 5003 * salt) % 1610612741 + 2, ?_, ?_, ?_, ?_⟩
  · simp only [v_nil, v_cons, v_for, v_asg, v_par, v_unp, v_setI, v_expr, v_ret, v_ife, v_pass, e_var, e_const, e_tup, e_lst, e_bin, e_negc, e_not, e_and, e_or, e_cmp, e_chain, e_ife, e_idx, e_slc, e_call, e_isi, e_blt, evDs, evPar, evAnd, x_bind, x_then, ok_bind, ok_then, nx_then, rt_then, np_imp, np_nl, np_py, ni_imp, ni_py, ni_nl, nb_imp, nb_py, no_none, no_int, no_intp, fz_imp, fz_im, fz_nl, im_py, im_imp, ok_imp, dm_nil, dm_one, dm_two, dr_py, tp_nil, tp_cons, ck_true, fin_rt, fin_nx, tr_imp, tr_nl, st_im, st_imp, st_nl, st_nlt, un_imp, b_len, b_all, b_any, b_max, b_min, b_int, b_intb, b_ll, b_lt, b_tl, b_tt, len_l, len_t, it_sl, it_st, it_ss, ty_str, ty_tup, c_le, c_ge, c_lt, c_gt, c_eqi, c_nei, c_eqs, c_nes, c_eqb, c_isb, c_isnb, o_add, o_sub, idx_t, idx_l, at0, at1, at2, at3, Bool.not_true, Bool.not_false, Bool.true_and, Bool.false_and, tgSlots, wipeE, bindT, List.getElem?_cons_zero, List.getElem?_cons_succ, List.set_cons_zero, List.set_cons_succ, Option.map_some, if_true, Bool.false_eq_true, if_false, hp]
    by_cases h : 1000000000000000000 ≤ c
    · simp only [h, decide_true, v_nil, v_cons, v_for, v_asg, v_par, v_unp, v_setI, v_expr, v_ret, v_ife, v_pass, e_var, e_const, e_tup, e_lst, e_bin, e_negc, e_not, e_and, e_or, e_cmp, e_chain, e_ife, e_idx, e_slc, e_call, e_isi, e_blt, evDs, evPar, evAnd, x_bind, x_then, ok_bind, ok_then, nx_then, rt_then, np_imp, np_nl, np_py, ni_imp, ni_py, ni_nl, nb_imp, nb_py, no_none, no_int, no_intp, fz_imp, fz_im, fz_nl, im_py, im_imp, ok_imp, dm_nil, dm_one, dm_two, dr_py, tp_nil, tp_cons, ck_true, fin_rt, fin_nx, tr_imp, tr_nl, st_im, st_imp, st_nl, st_nlt, un_imp, b_len, b_all, b_any, b_max, b_min, b_int, b_intb, b_ll, b_lt, b_tl, b_tt, len_l, len_t, it_sl, it_st, it_ss, ty_str, ty_tup, c_le, c_ge, c_lt, c_gt, c_eqi, c_nei, c_eqs, c_nes, c_eqb, c_isb, c_isnb, o_add, o_sub, idx_t, idx_l, at0, at1, at2, at3, Bool.not_true, Bool.not_false, Bool.true_and, Bool.false_and, tgSlots, wipeE, bindT, List.getElem?_cons_zero, List.getElem?_cons_succ, List.set_cons_zero, List.set_cons_succ, Option.map_some, if_true, Bool.false_eq_true, if_false, o_mul c 17 _ (by decide), o_mul 5003 salt _ (by omega), o_mod _ 1610612741 _ (by decide), List.length_cons, List.length_nil, show decide (0 + 1 + 1 ≤ SZ) = true from by decide]
    · simp only [h, decide_false, v_nil, v_cons, v_for, v_asg, v_par, v_unp, v_setI, v_expr, v_ret, v_ife, v_pass, e_var, e_const, e_tup, e_lst, e_bin, e_negc, e_not, e_and, e_or, e_cmp, e_chain, e_ife, e_idx, e_slc, e_call, e_isi, e_blt, evDs, evPar, evAnd, x_bind, x_then, ok_bind, ok_then, nx_then, rt_then, np_imp, np_nl, np_py, ni_imp, ni_py, ni_nl, nb_imp, nb_py, no_none, no_int, no_intp, fz_imp, fz_im, fz_nl, im_py, im_imp, ok_imp, dm_nil, dm_one, dm_two, dr_py, tp_nil, tp_cons, ck_true, fin_rt, fin_nx, tr_imp, tr_nl, st_im, st_imp, st_nl, st_nlt, un_imp, b_len, b_all, b_any, b_max, b_min, b_int, b_intb, b_ll, b_lt, b_tl, b_tt, len_l, len_t, it_sl, it_st, it_ss, ty_str, ty_tup, c_le, c_ge, c_lt, c_gt, c_eqi, c_nei, c_eqs, c_nes, c_eqb, c_isb, c_isnb, o_add, o_sub, idx_t, idx_l, at0, at1, at2, at3, Bool.not_true, Bool.not_false, Bool.true_and, Bool.false_and, tgSlots, wipeE, bindT, List.getElem?_cons_zero, List.getElem?_cons_succ, List.set_cons_zero, List.set_cons_succ, Option.map_some, if_true, Bool.false_eq_true, if_false, o_mul c 17 _ (by decide), o_mul 5003 salt _ (by omega), o_mod _ 1610612741 _ (by decide), List.length_cons, List.length_nil, show decide (0 + 1 + 1 ≤ SZ) = true from by decide]
  · split <;> omega
  · have := Int.emod_nonneg (c * 17 + 5003 * salt) (b := 1610612741) (by omega)
    omega
  · have := Int.emod_lt_of_pos (c * 17 + 5003 * salt) (b := 1610612741) (by omega)
    omega
/-- one of several -/
def SomeF (Φ : Nat → List D → Sto → R Rv) (i : Nat) : Prop := ∀ n st (v : P) (xs : List P), (v = .list xs ∨ v = .tuple xs) → xs ≠ [] → xs.length ≤ 1000000 → JarAt n st → ∃ x st', Φ i [.ref n, .py v] st = ok1 x st' ∧ x ∈ xs ∧ JarAt n st' ∧ Same n st st'
theorem sem_some {i : Nat} (hl : LessF Φ i) {n : Nat} {st : Sto} {v : P} {xs : List P} (hv : v = .list xs ∨ v = .tuple xs) (hne : xs ≠ []) (hz : xs.length ≤ 1000000) (hj : JarAt n st) :
    ∃ x st', fin st.length (evSs Φ (t_law_some i) [some (.ref n), some (.py v)] st) = ok1 x st' ∧ x ∈ xs ∧ JarAt n st' ∧ Same n st st' := by
  unfold t_law_some
  have hlen : lenP v = some xs.length := by rcases hv with rfl | rfl <;> rfl
  have hix : ∀ i, idxop v (.int i) = L2.atI xs i := fun i => by rcases hv with rfl | rfl <;> rfl
  have hpos : 0 < xs.length := List.length_pos_iff.mpr hne
  obtain ⟨r, st', e, h1, h2, h3, h4⟩ := hl n st (xs.length : Nat) hj (by omega) (by omega)
  have hr : r.toNat < xs.length := by omega
  refine ⟨xs[r.toNat], st', ?_, List.getElem_mem hr, h3, h4⟩
  have hat : L2.atI xs r = some xs[r.toNat] := by
    have q := atI_nat hr
    rwa [show ((r.toNat : Nat) : Int) = r from by omega] at q
  simp only [v_nil, v_cons, v_for, v_asg, v_par, v_unp, v_setI, v_expr, v_ret, v_ife, v_pass, e_var, e_const, e_tup, e_lst, e_bin, e_negc, e_not, e_and, e_or, e_cmp, e_chain, e_ife, e_idx, e_slc, e_call, e_isi, e_blt, evDs, evPar, evAnd, x_bind, x_then, ok_bind, ok_then, nx_then, rt_then, np_imp, np_nl, np_py, ni_imp, ni_py, ni_nl, nb_imp, nb_py, no_none, no_int, no_intp, fz_imp, fz_im, fz_nl, im_py, im_imp, ok_imp, dm_nil, dm_one, dm_two, dr_py, tp_nil, tp_cons, ck_true, fin_rt, fin_nx, tr_imp, tr_nl, st_im, st_imp, st_nl, st_nlt, un_imp, b_len, b_all, b_any, b_max, b_min, b_int, b_intb, b_ll, b_lt, b_tl, b_tt, len_l, len_t, it_sl, it_st, it_ss, ty_str, ty_tup, c_le, c_ge, c_lt, c_gt, c_eqi, c_nei, c_eqs, c_nes, c_eqb, c_isb, c_isnb, o_add, o_sub, idx_t, idx_l, at0, at1, at2, at3, Bool.not_true, Bool.not_false, Bool.true_and, Bool.false_and, tgSlots, wipeE, bindT, List.getElem?_cons_zero, List.getElem?_cons_succ, List.set_cons_zero, List.set_cons_succ, Option.map_some, if_true, Bool.false_eq_true, if_false, hlen, e, hix, hat]
  exact tr_len h4.len

/-! comprehensions with draws -/
/-- item by item -/
def Al {α β : Type} (Rel : α → β → Prop) : List α → List β → Prop
  | [], os => os = []
  | y :: ys, os => ∃ o r, os = o :: r ∧ Rel y o ∧ Al Rel ys r
theorem compL_rel {n m : Nat} {f : P → Sto → R (Option P)} {Rel : P → Option P → Prop} (hnm : n < m) : ∀ (ys acc : List P) (st : Sto), (∀ y ∈ ys, ∀ st, JarAt n st → ∃ o st', f y st = .ok o st' ∧ Rel y o ∧ JarAt n st' ∧ Same n st st') →
    st.length = m + 1 → st[m]? = some (.lst acc) → JarAt n st → acc.length + ys.length ≤ SZ →
    ∃ os st', compL m f ys st = .ok () st' ∧ Al Rel ys os ∧ st'.length = m + 1 ∧ st'[m]? = some (.lst (acc ++ os.filterMap id)) ∧ JarAt n st' ∧ ∀ k, k ≠ n → k < m → st'[k]? = st[k]?
  | [], acc, st, hf, hl, ha, hj, hz => by
    refine ⟨[], st, ?_, rfl, hl, by simpa using ha, hj, fun _ _ _ => rfl⟩
    simp [compL, chk, hl]
  | y :: ys, acc, st, hf, hl, ha, hj, hz => by
    have hz : acc.length + (ys.length + 1) ≤ SZ := hz
    obtain ⟨o, st1, e, hr, hj1, hs1⟩ := hf y List.mem_cons_self st hj
    have ha1 : st1[m]? = some (.lst acc) := by rw [hs1.at_ m (by omega)]; exact ha
    have hl1 : st1.length = m + 1 := by rw [hs1.len]; exact hl
    rw [compL, e]
    cases o with
    | none =>
      obtain ⟨os, st', q1, q2, q3, q4, q5, q6⟩ := compL_rel hnm ys acc st1 (fun y hy => hf y (List.mem_cons_of_mem _ hy)) hl1 ha1 hj1 (by omega)
      exact ⟨none :: os, st', by simp only [R.noexc, ok_bind]; exact q1, ⟨none, os, rfl, hr, q2⟩, q3, by simpa using q4, q5, fun k h1 h2 => (q6 k h1 h2).trans (hs1.at_ k h1)⟩
    | some z =>
      have hj2 : JarAt n (st1.set m (.lst (acc ++ [z]))) := by
        obtain ⟨a, b, q1, q2⟩ := hj1
        exact ⟨a, b, by rw [List.getElem?_set_ne (by omega)]; exact q1, q2⟩
      obtain ⟨os, st', q1, q2, q3, q4, q5, q6⟩ := compL_rel hnm ys (acc ++ [z]) (st1.set m (.lst (acc ++ [z]))) (fun y hy => hf y (List.mem_cons_of_mem _ hy)) (by rw [List.length_set]; exact hl1) (List.getElem?_set_self (by omega)) hj2 (by rw [List.length_append]; show acc.length + 1 + ys.length ≤ SZ; omega)
      refine ⟨some z :: os, st', ?_, ⟨some z, os, rfl, hr, q2⟩, q3, by simpa using q4, q5, fun k h1 h2 => ?_⟩
      · have e3 : decide (acc.length < SZ) = true := decide_eq_true (by omega)
        simp only [R.noexc, ok_bind, ha1, e3, ck_true]
        exact q1
      · rw [q6 k h1 h2, List.getElem?_set_ne (by omega)]
        exact hs1.at_ k h1
theorem comp_rel {n : Nat} {elt : X} {t : Tg} {ik : Ik} {is ifs : List X} {st : Sto} {ds : List D} {ys : List P} {Rel : P → Option P → Prop} (h1 : evDs Φ env is st = .ok ds st) (h2 : itemsD ik ds = some ys) (hj : JarAt n st)
    (hf : ∀ y ∈ ys, ∀ st, JarAt n st → ∃ o st', turnL Φ env t ifs elt y st = .ok o st' ∧ Rel y o ∧ JarAt n st' ∧ Same n st st') (hz : ys.length ≤ SZ) :
    ∃ os st', evE Φ env (.comp elt t ik is ifs) st = .ok (.nl (os.filterMap id)) st' ∧ Al Rel ys os ∧ JarAt n st' ∧ Same n st st' := by
  have hn := hj.lt
  have hj0 : JarAt n (st ++ [.lst []]) := by
    obtain ⟨a, b, q1, q2⟩ := hj
    exact ⟨a, b, by rw [List.getElem?_append_left hn]; exact q1, q2⟩
  obtain ⟨os, st', q1, q2, q3, q4, q5, q6⟩ := compL_rel hn ys [] (st ++ [.lst []]) hf (by rw [List.length_append]; rfl) (by rw [List.getElem?_append_right (Nat.le_refl _), Nat.sub_self]; rfl) hj0 (by simpa using hz)
  have ht : ∀ k, k < st.length → (st'.take st.length)[k]? = st'[k]? := fun k hk => List.getElem?_take_of_lt hk
  refine ⟨os, st'.take st.length, ?_, q2, ?_, ⟨by rw [List.length_take, q3]; omega, fun k hk => ?_⟩⟩
  · rw [evE_comp]
    unfold evI
    rw [h1]
    simp only [ok_bind, h2]
    rw [q1]
    simp only [ok_bind]
    unfold compEnd
    rw [q4]
    rfl
  · obtain ⟨a, b, p1, p2⟩ := q5
    exact ⟨a, b, by rw [ht n hn]; exact p1, p2⟩
  · by_cases hk2 : k < st.length
    · rw [ht k hk2, q6 k hk hk2, List.getElem?_append_left hk2]
    · rw [List.getElem?_eq_none (by rw [List.length_take, q3]; omega), List.getElem?_eq_none (by omega)]
/-- some of the names, in their order -/
def PartF (Φ : Nat → List D → Sto → R Rv) (i : Nat) : Prop := ∀ n st (v : P) (xs : List P) (odds : Int), (v = .list xs ∨ v = .tuple xs) → xs.length ≤ 1000000 → JarAt n st → ∃ zs st', Φ i [.ref n, .py v, .py (.int odds)] st = ok1 (.tuple zs) st' ∧ zs.Sublist xs ∧ JarAt n st' ∧ Same n st st'
theorem al_sub : ∀ {ys : List P} {os : List (Option P)}, Al (fun y o => o = some y ∨ o = none) ys os → (os.filterMap id).Sublist ys
  | [], os, h => by have h : os = [] := h; subst h; exact List.Sublist.refl _
  | y :: ys, os, h => by
    obtain ⟨o, r, rfl, h1, h2⟩ := h
    rcases h1 with rfl | rfl
    · simp only [List.filterMap_cons, id]
      exact (al_sub h2).cons_cons y
    · simp only [List.filterMap_cons, id]
      exact (al_sub h2).cons y
theorem sem_part {i : Nat} (hl : LessF Φ i) {n : Nat} {st : Sto} {v : P} {xs : List P} {odds : Int} (hv : v = .list xs ∨ v = .tuple xs) (hz : xs.length ≤ 1000000) (hj : JarAt n st) :
    ∃ zs st', fin st.length (evSs Φ (t_law_part i) [some (.ref n), some (.py v), some (.py (.int odds)), none] st) = ok1 (.tuple zs) st' ∧ zs.Sublist xs ∧ JarAt n st' ∧ Same n st st' := by
  unfold t_law_part
  have hf : ∀ y ∈ xs, ∀ st, JarAt n st → ∃ o st', turnL Φ [some (.ref n), some (.py v), some (.py (.int odds)), none] (.one 3) [(.cmp .lt (.call i [(.var 0), (.const (.int 6))]) (.var 2))] (.var 3) y st = .ok o st' ∧ (o = some y ∨ o = none) ∧ JarAt n st' ∧ Same n st st' := fun y hy st hj => by
    obtain ⟨r, st', e, _, _, h3, h4⟩ := hl n st 6 hj (by omega) (by omega)
    refine ⟨if decide (r < odds) then some y else none, st', ?_, by split <;> simp, h3, h4⟩
    unfold turnL
    simp only [v_nil, v_cons, v_for, v_asg, v_par, v_unp, v_setI, v_expr, v_ret, v_ife, v_pass, e_var, e_const, e_tup, e_lst, e_bin, e_negc, e_not, e_and, e_or, e_cmp, e_chain, e_ife, e_idx, e_slc, e_call, e_isi, e_blt, evDs, evPar, evAnd, x_bind, x_then, ok_bind, ok_then, nx_then, rt_then, np_imp, np_nl, np_py, ni_imp, ni_py, ni_nl, nb_imp, nb_py, no_none, no_int, no_intp, fz_imp, fz_im, fz_nl, im_py, im_imp, ok_imp, dm_nil, dm_one, dm_two, dr_py, tp_nil, tp_cons, ck_true, fin_rt, fin_nx, tr_imp, tr_nl, st_im, st_imp, st_nl, st_nlt, un_imp, b_len, b_all, b_any, b_max, b_min, b_int, b_intb, b_ll, b_lt, b_tl, b_tt, len_l, len_t, it_sl, it_st, it_ss, ty_str, ty_tup, c_le, c_ge, c_lt, c_gt, c_eqi, c_nei, c_eqs, c_nes, c_eqb, c_isb, c_isnb, o_add, o_sub, idx_t, idx_l, at0, at1, at2, at3, Bool.not_true, Bool.not_false, Bool.true_and, Bool.false_and, tgSlots, wipeE, bindT, List.getElem?_cons_zero, List.getElem?_cons_succ, List.set_cons_zero, List.set_cons_succ, Option.map_some, if_true, Bool.false_eq_true, if_false, e]
    cases decide (r < odds) <;> simp only [v_nil, v_cons, v_for, v_asg, v_par, v_unp, v_setI, v_expr, v_ret, v_ife, v_pass, e_var, e_const, e_tup, e_lst, e_bin, e_negc, e_not, e_and, e_or, e_cmp, e_chain, e_ife, e_idx, e_slc, e_call, e_isi, e_blt, evDs, evPar, evAnd, x_bind, x_then, ok_bind, ok_then, nx_then, rt_then, np_imp, np_nl, np_py, ni_imp, ni_py, ni_nl, nb_imp, nb_py, no_none, no_int, no_intp, fz_imp, fz_im, fz_nl, im_py, im_imp, ok_imp, dm_nil, dm_one, dm_two, dr_py, tp_nil, tp_cons, ck_true, fin_rt, fin_nx, tr_imp, tr_nl, st_im, st_imp, st_nl, st_nlt, un_imp, b_len, b_all, b_any, b_max, b_min, b_int, b_intb, b_ll, b_lt, b_tl, b_tt, len_l, len_t, it_sl, it_st, it_ss, ty_str, ty_tup, c_le, c_ge, c_lt, c_gt, c_eqi, c_nei, c_eqs, c_nes, c_eqb, c_isb, c_isnb, o_add, o_sub, idx_t, idx_l, at0, at1, at2, at3, Bool.not_true, Bool.not_false, Bool.true_and, Bool.false_and, tgSlots, wipeE, bindT, List.getElem?_cons_zero, List.getElem?_cons_succ, List.set_cons_zero, List.set_cons_succ, Option.map_some, if_true, Bool.false_eq_true, if_false]
  obtain ⟨os, st', e, h1, h2, h3⟩ := comp_rel (Φ := Φ) (env := [some (.ref n), some (.py v), some (.py (.int odds)), none]) (ik := .seq) (is := [(.var 1)]) (ds := [.py v])
    (by simp only [v_nil, v_cons, v_for, v_asg, v_par, v_unp, v_setI, v_expr, v_ret, v_ife, v_pass, e_var, e_const, e_tup, e_lst, e_bin, e_negc, e_not, e_and, e_or, e_cmp, e_chain, e_ife, e_idx, e_slc, e_call, e_isi, e_blt, evDs, evPar, evAnd, x_bind, x_then, ok_bind, ok_then, nx_then, rt_then, np_imp, np_nl, np_py, ni_imp, ni_py, ni_nl, nb_imp, nb_py, no_none, no_int, no_intp, fz_imp, fz_im, fz_nl, im_py, im_imp, ok_imp, dm_nil, dm_one, dm_two, dr_py, tp_nil, tp_cons, ck_true, fin_rt, fin_nx, tr_imp, tr_nl, st_im, st_imp, st_nl, st_nlt, un_imp, b_len, b_all, b_any, b_max, b_min, b_int, b_intb, b_ll, b_lt, b_tl, b_tt, len_l, len_t, it_sl, it_st, it_ss, ty_str, ty_tup, c_le, c_ge, c_lt, c_gt, c_eqi, c_nei, c_eqs, c_nes, c_eqb, c_isb, c_isnb, o_add, o_sub, idx_t, idx_l, at0, at1, at2, at3, Bool.not_true, Bool.not_false, Bool.true_and, Bool.false_and, tgSlots, wipeE, bindT, List.getElem?_cons_zero, List.getElem?_cons_succ, List.set_cons_zero, List.set_cons_succ, Option.map_some, if_true, Bool.false_eq_true, if_false]) (by rcases hv with rfl | rfl <;> rfl) hj hf (Nat.le_trans hz sz_big)
  refine ⟨os.filterMap id, st', ?_, al_sub h1, h2, h3⟩
  simp only [v_nil, v_cons, v_for, v_asg, v_par, v_unp, v_setI, v_expr, v_ret, v_ife, v_pass, e_var, e_const, e_tup, e_lst, e_bin, e_negc, e_not, e_and, e_or, e_cmp, e_chain, e_ife, e_idx, e_slc, e_call, e_isi, e_blt, evDs, evPar, evAnd, x_bind, x_then, ok_bind, ok_then, nx_then, rt_then, np_imp, np_nl, np_py, ni_imp, ni_py, ni_nl, nb_imp, nb_py, no_none, no_int, no_intp, fz_imp, fz_im, fz_nl, im_py, im_imp, ok_imp, dm_nil, dm_one, dm_two, dr_py, tp_nil, tp_cons, ck_true, fin_rt, fin_nx, tr_imp, tr_nl, st_im, st_imp, st_nl, st_nlt, un_imp, b_len, b_all, b_any, b_max, b_min, b_int, b_intb, b_ll, b_lt, b_tl, b_tt, len_l, len_t, it_sl, it_st, it_ss, ty_str, ty_tup, c_le, c_ge, c_lt, c_gt, c_eqi, c_nei, c_eqs, c_nes, c_eqb, c_isb, c_isnb, o_add, o_sub, idx_t, idx_l, at0, at1, at2, at3, Bool.not_true, Bool.not_false, Bool.true_and, Bool.false_and, tgSlots, wipeE, bindT, List.getElem?_cons_zero, List.getElem?_cons_succ, List.set_cons_zero, List.set_cons_succ, Option.map_some, if_true, Bool.false_eq_true, if_false, e]
  exact tr_len h3.len
theorem l0 : decide (0 ≤ SZ) = true := by decide
theorem l1 : decide (0 + 1 ≤ SZ) = true := by decide
theorem l2 : decide (0 + 1 + 1 ≤ SZ) = true := by decide
theorem l3 : decide (0 + 1 + 1 + 1 ≤ SZ) = true := by decide
theorem l4 : decide (0 + 1 + 1 + 1 + 1 ≤ SZ) = true := by decide
theorem l6 : decide (0 + 1 + 1 + 1 + 1 + 1 + 1 ≤ SZ) = true := by decide
def RULES6 : List P := [.str ⟨#[97, 108, 108]⟩, .str ⟨#[97, 108, 108]⟩, .str ⟨#[110, 101, 119]⟩, .str ⟨#[110, 111]⟩, .str ⟨#[110, 111]⟩, .str ⟨#[121, 101, 115]⟩]
theorem rules6 {x : P} (h : x ∈ RULES6) : x ∈ RULES := by
  simp only [RULES6, RULES, List.mem_cons, List.not_mem_nil, or_false] at h ⊢
  rcases h with h | h | h | h | h | h <;> subst h <;> simp
/-- a tool -/
def DrawTool (ns : List P) (name : P) (t : P) : Prop := ∃ rule zs b, t = .tuple [name, rule, .tuple zs, .bool b] ∧ rule ∈ RULES ∧ zs.Sublist (others ns name)
def MkToolF (Φ : Nat → List D → Sto → R Rv) (i : Nat) : Prop := ∀ n st ns s, Strs ns → ns.length ≤ 1000000 → JarAt n st → ∃ t st', Φ i [.ref n, .py (.list ns), .py (.str s)] st = ok1 t st' ∧ DrawTool ns (.str s) t ∧ JarAt n st' ∧ Same n st st'
theorem sem_mkTool {i1 i2 i3 : Nat} (h1 : SomeF Φ i1) (h2 : PartF Φ i2) (h3 : LessF Φ i3) {n : Nat} {st : Sto} {ns : List P} {s : Str} (hs : Strs ns) (hz : ns.length ≤ 1000000) (hj : JarAt n st) :
    ∃ t st', fin st.length (evSs Φ (t_law_tool i1 i2 i3) [some (.ref n), some (.py (.list ns)), some (.py (.str s)), none, none, none] st) = ok1 t st' ∧ DrawTool ns (.str s) t ∧ JarAt n st' ∧ Same n st st' := by
  unfold t_law_tool
  have hc : ∀ st, evE Φ [some (D.ref n), some (.py (.list ns)), some (.py (.str s)), none, none, none] (.comp (.var 5) (.one 5) .seq [(.var 1)] [(.cmp .ne (.var 5) (.var 2))]) st = .ok (.nl (others ns (.str s))) st := fun st => by
    refine comp_filter _ (ds := [.py (.list ns)]) (by simp only [v_nil, v_cons, v_for, v_asg, v_par, v_unp, v_setI, v_expr, v_ret, v_ife, v_pass, e_var, e_const, e_tup, e_lst, e_bin, e_negc, e_not, e_and, e_or, e_cmp, e_chain, e_ife, e_idx, e_slc, e_call, e_isi, e_blt, evDs, evPar, evAnd, x_bind, x_then, ok_bind, ok_then, nx_then, rt_then, np_imp, np_nl, np_py, ni_imp, ni_py, ni_nl, nb_imp, nb_py, no_none, no_int, no_intp, fz_imp, fz_im, fz_nl, im_py, im_imp, ok_imp, dm_nil, dm_one, dm_two, dr_py, tp_nil, tp_cons, ck_true, fin_rt, fin_nx, tr_imp, tr_nl, st_im, st_imp, st_nl, st_nlt, un_imp, b_len, b_all, b_any, b_max, b_min, b_int, b_intb, b_ll, b_lt, b_tl, b_tt, len_l, len_t, it_sl, it_st, it_ss, ty_str, ty_tup, c_le, c_ge, c_lt, c_gt, c_eqi, c_nei, c_eqs, c_nes, c_eqb, c_isb, c_isnb, o_add, o_sub, idx_t, idx_l, at0, at1, at2, at3, Bool.not_true, Bool.not_false, Bool.true_and, Bool.false_and, tgSlots, wipeE, bindT, List.getElem?_cons_zero, List.getElem?_cons_succ, List.set_cons_zero, List.set_cons_succ, Option.map_some, if_true, Bool.false_eq_true, if_false]) (by simp only [v_nil, v_cons, v_for, v_asg, v_par, v_unp, v_setI, v_expr, v_ret, v_ife, v_pass, e_var, e_const, e_tup, e_lst, e_bin, e_negc, e_not, e_and, e_or, e_cmp, e_chain, e_ife, e_idx, e_slc, e_call, e_isi, e_blt, evDs, evPar, evAnd, x_bind, x_then, ok_bind, ok_then, nx_then, rt_then, np_imp, np_nl, np_py, ni_imp, ni_py, ni_nl, nb_imp, nb_py, no_none, no_int, no_intp, fz_imp, fz_im, fz_nl, im_py, im_imp, ok_imp, dm_nil, dm_one, dm_two, dr_py, tp_nil, tp_cons, ck_true, fin_rt, fin_nx, tr_imp, tr_nl, st_im, st_imp, st_nl, st_nlt, un_imp, b_len, b_all, b_any, b_max, b_min, b_int, b_intb, b_ll, b_lt, b_tl, b_tt, len_l, len_t, it_sl, it_st, it_ss, ty_str, ty_tup, c_le, c_ge, c_lt, c_gt, c_eqi, c_nei, c_eqs, c_nes, c_eqb, c_isb, c_isnb, o_add, o_sub, idx_t, idx_l, at0, at1, at2, at3, Bool.not_true, Bool.not_false, Bool.true_and, Bool.false_and, tgSlots, wipeE, bindT, List.getElem?_cons_zero, List.getElem?_cons_succ, List.set_cons_zero, List.set_cons_succ, Option.map_some, if_true, Bool.false_eq_true, if_false]) (fun y hy st => ?_) (Nat.le_trans hz sz_big)
    obtain ⟨s', rfl⟩ := hs y hy
    exact turn_if (env1 := [some (D.ref n), some (.py (.list ns)), some (.py (.str s)), none, none, some (.py (.str s'))]) (by simp only [v_nil, v_cons, v_for, v_asg, v_par, v_unp, v_setI, v_expr, v_ret, v_ife, v_pass, e_var, e_const, e_tup, e_lst, e_bin, e_negc, e_not, e_and, e_or, e_cmp, e_chain, e_ife, e_idx, e_slc, e_call, e_isi, e_blt, evDs, evPar, evAnd, x_bind, x_then, ok_bind, ok_then, nx_then, rt_then, np_imp, np_nl, np_py, ni_imp, ni_py, ni_nl, nb_imp, nb_py, no_none, no_int, no_intp, fz_imp, fz_im, fz_nl, im_py, im_imp, ok_imp, dm_nil, dm_one, dm_two, dr_py, tp_nil, tp_cons, ck_true, fin_rt, fin_nx, tr_imp, tr_nl, st_im, st_imp, st_nl, st_nlt, un_imp, b_len, b_all, b_any, b_max, b_min, b_int, b_intb, b_ll, b_lt, b_tl, b_tt, len_l, len_t, it_sl, it_st, it_ss, ty_str, ty_tup, c_le, c_ge, c_lt, c_gt, c_eqi, c_nei, c_eqs, c_nes, c_eqb, c_isb, c_isnb, o_add, o_sub, idx_t, idx_l, at0, at1, at2, at3, Bool.not_true, Bool.not_false, Bool.true_and, Bool.false_and, tgSlots, wipeE, bindT, List.getElem?_cons_zero, List.getElem?_cons_succ, List.set_cons_zero, List.set_cons_succ, Option.map_some, if_true, Bool.false_eq_true, if_false]) (by simp only [v_nil, v_cons, v_for, v_asg, v_par, v_unp, v_setI, v_expr, v_ret, v_ife, v_pass, e_var, e_const, e_tup, e_lst, e_bin, e_negc, e_not, e_and, e_or, e_cmp, e_chain, e_ife, e_idx, e_slc, e_call, e_isi, e_blt, evDs, evPar, evAnd, x_bind, x_then, ok_bind, ok_then, nx_then, rt_then, np_imp, np_nl, np_py, ni_imp, ni_py, ni_nl, nb_imp, nb_py, no_none, no_int, no_intp, fz_imp, fz_im, fz_nl, im_py, im_imp, ok_imp, dm_nil, dm_one, dm_two, dr_py, tp_nil, tp_cons, ck_true, fin_rt, fin_nx, tr_imp, tr_nl, st_im, st_imp, st_nl, st_nlt, un_imp, b_len, b_all, b_any, b_max, b_min, b_int, b_intb, b_ll, b_lt, b_tl, b_tt, len_l, len_t, it_sl, it_st, it_ss, ty_str, ty_tup, c_le, c_ge, c_lt, c_gt, c_eqi, c_nei, c_eqs, c_nes, c_eqb, c_isb, c_isnb, o_add, o_sub, idx_t, idx_l, at0, at1, at2, at3, Bool.not_true, Bool.not_false, Bool.true_and, Bool.false_and, tgSlots, wipeE, bindT, List.getElem?_cons_zero, List.getElem?_cons_succ, List.set_cons_zero, List.set_cons_succ, Option.map_some, if_true, Bool.false_eq_true, if_false]; rfl) (fun _ => by simp only [v_nil, v_cons, v_for, v_asg, v_par, v_unp, v_setI, v_expr, v_ret, v_ife, v_pass, e_var, e_const, e_tup, e_lst, e_bin, e_negc, e_not, e_and, e_or, e_cmp, e_chain, e_ife, e_idx, e_slc, e_call, e_isi, e_blt, evDs, evPar, evAnd, x_bind, x_then, ok_bind, ok_then, nx_then, rt_then, np_imp, np_nl, np_py, ni_imp, ni_py, ni_nl, nb_imp, nb_py, no_none, no_int, no_intp, fz_imp, fz_im, fz_nl, im_py, im_imp, ok_imp, dm_nil, dm_one, dm_two, dr_py, tp_nil, tp_cons, ck_true, fin_rt, fin_nx, tr_imp, tr_nl, st_im, st_imp, st_nl, st_nlt, un_imp, b_len, b_all, b_any, b_max, b_min, b_int, b_intb, b_ll, b_lt, b_tl, b_tt, len_l, len_t, it_sl, it_st, it_ss, ty_str, ty_tup, c_le, c_ge, c_lt, c_gt, c_eqi, c_nei, c_eqs, c_nes, c_eqb, c_isb, c_isnb, o_add, o_sub, idx_t, idx_l, at0, at1, at2, at3, Bool.not_true, Bool.not_false, Bool.true_and, Bool.false_and, tgSlots, wipeE, bindT, List.getElem?_cons_zero, List.getElem?_cons_succ, List.set_cons_zero, List.set_cons_succ, Option.map_some, if_true, Bool.false_eq_true, if_false])
  have hoz : (others ns (.str s)).length ≤ 1000000 := Nat.le_trans (List.length_filter_le _ _) hz
  obtain ⟨rule, st1, e1, r1, j1, s1⟩ := h1 n st (.list RULES6) RULES6 (.inl rfl) (by decide) (by decide) hj
  obtain ⟨zs, st2, e2, r2, j2, s2⟩ := h2 n st1 (.list (others ns (.str s))) (others ns (.str s)) 4 (.inl rfl) hoz j1
  obtain ⟨r, st3, e3, _, _, j3, s3⟩ := h3 n st2 3 j2 (by omega) (by omega)
  refine ⟨.tuple [.str s, rule, .tuple zs, .bool (r == 0)], st3, ?_, ⟨rule, zs, r == 0, rfl, rules6 r1, r2⟩, j3, s1.trans (s2.trans s3)⟩
  unfold RULES6 at e1
  simp only [v_nil, v_cons, v_for, v_asg, v_par, v_unp, v_setI, v_expr, v_ret, v_ife, v_pass, e_var, e_const, e_tup, e_lst, e_bin, e_negc, e_not, e_and, e_or, e_cmp, e_chain, e_ife, e_idx, e_slc, e_call, e_isi, e_blt, evDs, evPar, evAnd, x_bind, x_then, ok_bind, ok_then, nx_then, rt_then, np_imp, np_nl, np_py, ni_imp, ni_py, ni_nl, nb_imp, nb_py, no_none, no_int, no_intp, fz_imp, fz_im, fz_nl, im_py, im_imp, ok_imp, dm_nil, dm_one, dm_two, dr_py, tp_nil, tp_cons, ck_true, fin_rt, fin_nx, tr_imp, tr_nl, st_im, st_imp, st_nl, st_nlt, un_imp, b_len, b_all, b_any, b_max, b_min, b_int, b_intb, b_ll, b_lt, b_tl, b_tt, len_l, len_t, it_sl, it_st, it_ss, ty_str, ty_tup, c_le, c_ge, c_lt, c_gt, c_eqi, c_nei, c_eqs, c_nes, c_eqb, c_isb, c_isnb, o_add, o_sub, idx_t, idx_l, at0, at1, at2, at3, Bool.not_true, Bool.not_false, Bool.true_and, Bool.false_and, tgSlots, wipeE, bindT, List.getElem?_cons_zero, List.getElem?_cons_succ, List.set_cons_zero, List.set_cons_succ, Option.map_some, if_true, Bool.false_eq_true, if_false, hc, List.length_cons, List.length_nil, l6, l4, e1, e2, e3]
  exact tr_len (s1.trans (s2.trans s3)).len

/-! a setup -/
def Pairs (ns : List P) : List P := ns.flatMap fun a => (ns.filter fun b => !a.eqv b).map fun b => .tuple [a, b]
theorem forL_inv {f : P → Ev → Sto → SR} {Inv : List P → Ev → Sto → Prop} {ys0 : List P} (hf : ∀ done y rest env st, ys0 = done ++ y :: rest → Inv done env st → ∃ env' st', f y env st = .nx env' st' ∧ Inv (done ++ [y]) env' st') : ∀ (ys done : List P) (env : Ev) (st : Sto), ys0 = done ++ ys → Inv done env st →
    ∃ env' st', forL f ys env st = .nx env' st' ∧ Inv ys0 env' st'
  | [], done, env, st, e, h => ⟨env, st, rfl, by rw [e, List.append_nil]; exact h⟩
  | y :: ys, done, env, st, e, h => by
    obtain ⟨env1, st1, e1, h1⟩ := hf done y ys env st e h
    obtain ⟨env2, st2, e2, h2⟩ := forL_inv hf ys (done ++ [y]) env1 st1 (by rw [List.append_assoc]; exact e) h1
    exact ⟨env2, st2, by rw [forL, e1]; exact e2, h2⟩
def DrawSetup (ns : List P) (v : P) : Prop := ∃ ts ws p q, v = .tuple [.tuple ts, .tuple ws, .tuple [.tuple p, .tuple q]] ∧ Al (DrawTool ns) ns ts ∧ ws.Sublist (Pairs ns) ∧ p.Sublist ns ∧ q.Sublist ns
def SetupOfF (Φ : Nat → List D → Sto → R Rv) (i : Nat) : Prop := ∀ n st ns, Strs ns → ns.length ≤ 1000 → JarAt n st → ∃ v st', Φ i [.ref n, .py (.list ns)] st = ok1 v st' ∧ DrawSetup ns v ∧ JarAt n st' ∧ Same n st st'
theorem al_some {α : Type} {Rel : α → P → Prop} : ∀ {ys : List α} {os : List (Option P)}, Al (fun y o => ∃ t, o = some t ∧ Rel y t) ys os → Al Rel ys (os.filterMap id)
  | [], os, h => by have h : os = [] := h; subst h; rfl
  | y :: ys, os, h => by
    obtain ⟨o, r, rfl, ⟨t, rfl, h1⟩, h2⟩ := h
    exact ⟨t, r.filterMap id, by simp, h1, al_some h2⟩
theorem pairs_len (ns : List P) (h : ns.length ≤ 1000) : (Pairs ns).length ≤ 1000000 := by
  have : ∀ (xs : List P), (xs.flatMap fun a => (ns.filter fun b => !a.eqv b).map fun b => PyData.tuple [a, b]).length ≤ xs.length * 1000 := by
    intro xs
    induction xs with
    | nil => simp
    | cons x xs ih =>
      rw [List.flatMap_cons, List.length_append, List.length_map, List.length_cons]
      exact Nat.le_trans (Nat.add_le_add (List.length_filter_le _ ns) ih) (by rw [Nat.add_mul]; omega)
  have h2 := this ns
  unfold Pairs
  omega
theorem sem_setupOf {i1 i2 i3 : Nat} (h1 : MkToolF Φ i1) (h2 : LessF Φ i2) (h3 : PartF Φ i3) {n : Nat} {st : Sto} {ns : List P} (hs : Strs ns) (hz : ns.length ≤ 1000) (hj : JarAt n st) :
    ∃ v st', fin st.length (evSs Φ (t_law_setup_of i1 i2 i3) [some (.ref n), some (.py (.list ns)), none, none, none, none, none] st) = ok1 v st' ∧ DrawSetup ns v ∧ JarAt n st' ∧ Same n st st' := by
  unfold t_law_setup_of
  have hz6 : ns.length ≤ 1000000 := by omega
  have hf : ∀ y ∈ ns, ∀ st, JarAt n st → ∃ o st', turnL Φ [some (D.ref n), some (.py (.list ns)), none, none, none, none, none] (.one 6) [] (.call i1 [(.var 0), (.var 1), (.var 6)]) y st = .ok o st' ∧ (∃ t, o = some t ∧ DrawTool ns y t) ∧ JarAt n st' ∧ Same n st st' := fun y hy st hj => by
    obtain ⟨s, rfl⟩ := hs y hy
    obtain ⟨t, st', e, h, j, s'⟩ := h1 n st ns s hs hz6 hj
    refine ⟨some t, st', ?_, ⟨t, rfl, h⟩, j, s'⟩
    unfold turnL
    simp only [v_nil, v_cons, v_for, v_asg, v_par, v_unp, v_setI, v_expr, v_ret, v_ife, v_pass, e_var, e_const, e_tup, e_lst, e_bin, e_negc, e_not, e_and, e_or, e_cmp, e_chain, e_ife, e_idx, e_slc, e_call, e_isi, e_blt, evDs, evPar, evAnd, x_bind, x_then, ok_bind, ok_then, nx_then, rt_then, np_imp, np_nl, np_py, ni_imp, ni_py, ni_nl, nb_imp, nb_py, no_none, no_int, no_intp, fz_imp, fz_im, fz_nl, im_py, im_imp, ok_imp, dm_nil, dm_one, dm_two, dr_py, tp_nil, tp_cons, ck_true, fin_rt, fin_nx, tr_imp, tr_nl, st_im, st_imp, st_nl, st_nlt, un_imp, b_len, b_all, b_any, b_max, b_min, b_int, b_intb, b_ll, b_lt, b_tl, b_tt, len_l, len_t, it_sl, it_st, it_ss, ty_str, ty_tup, c_le, c_ge, c_lt, c_gt, c_eqi, c_nei, c_eqs, c_nes, c_eqb, c_isb, c_isnb, o_add, o_sub, idx_t, idx_l, at0, at1, at2, at3, Bool.not_true, Bool.not_false, Bool.true_and, Bool.false_and, tgSlots, wipeE, bindT, List.getElem?_cons_zero, List.getElem?_cons_succ, List.set_cons_zero, List.set_cons_succ, Option.map_some, if_true, Bool.false_eq_true, if_false, e]
  obtain ⟨os, st1, e1, a1, j1, s1⟩ := comp_rel (Φ := Φ) (env := [some (D.ref n), some (.py (.list ns)), none, none, none, none, none]) (ik := .seq) (is := [(.var 1)]) (ds := [.py (.list ns)]) (by simp only [v_nil, v_cons, v_for, v_asg, v_par, v_unp, v_setI, v_expr, v_ret, v_ife, v_pass, e_var, e_const, e_tup, e_lst, e_bin, e_negc, e_not, e_and, e_or, e_cmp, e_chain, e_ife, e_idx, e_slc, e_call, e_isi, e_blt, evDs, evPar, evAnd, x_bind, x_then, ok_bind, ok_then, nx_then, rt_then, np_imp, np_nl, np_py, ni_imp, ni_py, ni_nl, nb_imp, nb_py, no_none, no_int, no_intp, fz_imp, fz_im, fz_nl, im_py, im_imp, ok_imp, dm_nil, dm_one, dm_two, dr_py, tp_nil, tp_cons, ck_true, fin_rt, fin_nx, tr_imp, tr_nl, st_im, st_imp, st_nl, st_nlt, un_imp, b_len, b_all, b_any, b_max, b_min, b_int, b_intb, b_ll, b_lt, b_tl, b_tt, len_l, len_t, it_sl, it_st, it_ss, ty_str, ty_tup, c_le, c_ge, c_lt, c_gt, c_eqi, c_nei, c_eqs, c_nes, c_eqb, c_isb, c_isnb, o_add, o_sub, idx_t, idx_l, at0, at1, at2, at3, Bool.not_true, Bool.not_false, Bool.true_and, Bool.false_and, tgSlots, wipeE, bindT, List.getElem?_cons_zero, List.getElem?_cons_succ, List.set_cons_zero, List.set_cons_succ, Option.map_some, if_true, Bool.false_eq_true, if_false]) rfl hj hf (Nat.le_trans hz6 sz_big)
  have a1 := al_some a1
  generalize os.filterMap id = ts at e1 a1
  -- the wires
  have hI : ∀ e2 e3 e4 e5 e6 st, evI Φ [some (D.ref n), some (.py (.list ns)), e2, e3, e4, e5, e6] .seq [(.var 1)] st = .ok ns st := fun e2 e3 e4 e5 e6 st => by
    unfold evI
    simp only [v_nil, v_cons, v_for, v_asg, v_par, v_unp, v_setI, v_expr, v_ret, v_ife, v_pass, e_var, e_const, e_tup, e_lst, e_bin, e_negc, e_not, e_and, e_or, e_cmp, e_chain, e_ife, e_idx, e_slc, e_call, e_isi, e_blt, evDs, evPar, evAnd, x_bind, x_then, ok_bind, ok_then, nx_then, rt_then, np_imp, np_nl, np_py, ni_imp, ni_py, ni_nl, nb_imp, nb_py, no_none, no_int, no_intp, fz_imp, fz_im, fz_nl, im_py, im_imp, ok_imp, dm_nil, dm_one, dm_two, dr_py, tp_nil, tp_cons, ck_true, fin_rt, fin_nx, tr_imp, tr_nl, st_im, st_imp, st_nl, st_nlt, un_imp, b_len, b_all, b_any, b_max, b_min, b_int, b_intb, b_ll, b_lt, b_tl, b_tt, len_l, len_t, it_sl, it_st, it_ss, ty_str, ty_tup, c_le, c_ge, c_lt, c_gt, c_eqi, c_nei, c_eqs, c_nes, c_eqb, c_isb, c_isnb, o_add, o_sub, idx_t, idx_l, at0, at1, at2, at3, Bool.not_true, Bool.not_false, Bool.true_and, Bool.false_and, tgSlots, wipeE, bindT, List.getElem?_cons_zero, List.getElem?_cons_succ, List.set_cons_zero, List.set_cons_succ, Option.map_some, if_true, Bool.false_eq_true, if_false]
  have inner : ∀ (ws : List P) (D0 : List P) (a : P) (e5 e6 : Option D) (st0 : Sto), a ∈ ns → ws.Sublist D0 → D0.length ≤ 1000000 → JarAt n st0 → ∃ ws' e5' st', forL (turnF Φ (.one 5) [(.ife (.and (.cmp .ne (.var 4) (.var 5)) (.cmp .lt (.call i2 [(.var 0), (.const (.int 5))]) (.const (.int 2)))) [(.asg 3 false (.bin .add (.var 3) (.tup [(.tup [(.var 4), (.var 5)])])))] [])]) ns
      [some (D.ref n), some (.py (.list ns)), some (.py (.tuple ts)), some (.py (.tuple ws)), some (.py a), e5, e6] st0 = .nx [some (D.ref n), some (.py (.list ns)), some (.py (.tuple ts)), some (.py (.tuple ws')), some (.py a), e5', e6] st' ∧
      ws'.Sublist (D0 ++ (ns.filter fun b => !a.eqv b).map fun b => .tuple [a, b]) ∧ JarAt n st' ∧ Same n st0 st' := fun ws D0 a e5 e6 st0 ha hsub hD hj0 => by
    obtain ⟨s, rfl⟩ := hs a ha
    have step : ∀ done y rest env st, ns = done ++ y :: rest → (∃ ws' e5', env = [some (D.ref n), some (.py (.list ns)), some (.py (.tuple ts)), some (.py (.tuple ws')), some (.py (.str s)), e5', e6] ∧ ws'.Sublist (D0 ++ (done.filter fun b => !(PyData.str s).eqv b).map fun b => .tuple [.str s, b]) ∧ JarAt n st ∧ Same n st0 st) →
        ∃ env' st', turnF Φ (.one 5) [(.ife (.and (.cmp .ne (.var 4) (.var 5)) (.cmp .lt (.call i2 [(.var 0), (.const (.int 5))]) (.const (.int 2)))) [(.asg 3 false (.bin .add (.var 3) (.tup [(.tup [(.var 4), (.var 5)])])))] [])] y env st = .nx env' st' ∧
          (∃ ws' e5', env' = [some (D.ref n), some (.py (.list ns)), some (.py (.tuple ts)), some (.py (.tuple ws')), some (.py (.str s)), e5', e6] ∧ ws'.Sublist (D0 ++ ((done ++ [y]).filter fun b => !(PyData.str s).eqv b).map fun b => .tuple [.str s, b]) ∧ JarAt n st' ∧ Same n st0 st') := by
      rintro done y rest env st hd ⟨ws', e5', rfl, q1, q4, q5⟩
      have hy : y ∈ ns := by rw [hd]; simp
      have hdl : done.length ≤ 1000 := by
        have := congrArg List.length hd
        rw [List.length_append] at this
        omega
      have hwl : ws'.length ≤ 1001000 := by
        have a1 := q1.length_le
        rw [List.length_append, List.length_map] at a1
        have a2 : (done.filter fun b => !(PyData.str s).eqv b).length ≤ done.length := List.length_filter_le _ _
        omega
      obtain ⟨s2, rfl⟩ := hs y hy
      have ee : (PyData.str s).eqv (.str s2) = (s == s2) := rfl
      unfold turnF
      simp only [v_nil, v_cons, v_for, v_asg, v_par, v_unp, v_setI, v_expr, v_ret, v_ife, v_pass, e_var, e_const, e_tup, e_lst, e_bin, e_negc, e_not, e_and, e_or, e_cmp, e_chain, e_ife, e_idx, e_slc, e_call, e_isi, e_blt, evDs, evPar, evAnd, x_bind, x_then, ok_bind, ok_then, nx_then, rt_then, np_imp, np_nl, np_py, ni_imp, ni_py, ni_nl, nb_imp, nb_py, no_none, no_int, no_intp, fz_imp, fz_im, fz_nl, im_py, im_imp, ok_imp, dm_nil, dm_one, dm_two, dr_py, tp_nil, tp_cons, ck_true, fin_rt, fin_nx, tr_imp, tr_nl, st_im, st_imp, st_nl, st_nlt, un_imp, b_len, b_all, b_any, b_max, b_min, b_int, b_intb, b_ll, b_lt, b_tl, b_tt, len_l, len_t, it_sl, it_st, it_ss, ty_str, ty_tup, c_le, c_ge, c_lt, c_gt, c_eqi, c_nei, c_eqs, c_nes, c_eqb, c_isb, c_isnb, o_add, o_sub, idx_t, idx_l, at0, at1, at2, at3, Bool.not_true, Bool.not_false, Bool.true_and, Bool.false_and, tgSlots, wipeE, bindT, List.getElem?_cons_zero, List.getElem?_cons_succ, List.set_cons_zero, List.set_cons_succ, Option.map_some, if_true, Bool.false_eq_true, if_false]
      rw [List.filter_append, List.map_append, ← List.append_assoc, List.filter_cons, ee, List.filter_nil]
      rcases Bool.eq_false_or_eq_true (s == s2) with hq | hq
      · simp only [hq, v_nil, v_cons, v_for, v_asg, v_par, v_unp, v_setI, v_expr, v_ret, v_ife, v_pass, e_var, e_const, e_tup, e_lst, e_bin, e_negc, e_not, e_and, e_or, e_cmp, e_chain, e_ife, e_idx, e_slc, e_call, e_isi, e_blt, evDs, evPar, evAnd, x_bind, x_then, ok_bind, ok_then, nx_then, rt_then, np_imp, np_nl, np_py, ni_imp, ni_py, ni_nl, nb_imp, nb_py, no_none, no_int, no_intp, fz_imp, fz_im, fz_nl, im_py, im_imp, ok_imp, dm_nil, dm_one, dm_two, dr_py, tp_nil, tp_cons, ck_true, fin_rt, fin_nx, tr_imp, tr_nl, st_im, st_imp, st_nl, st_nlt, un_imp, b_len, b_all, b_any, b_max, b_min, b_int, b_intb, b_ll, b_lt, b_tl, b_tt, len_l, len_t, it_sl, it_st, it_ss, ty_str, ty_tup, c_le, c_ge, c_lt, c_gt, c_eqi, c_nei, c_eqs, c_nes, c_eqb, c_isb, c_isnb, o_add, o_sub, idx_t, idx_l, at0, at1, at2, at3, Bool.not_true, Bool.not_false, Bool.true_and, Bool.false_and, tgSlots, wipeE, bindT, List.getElem?_cons_zero, List.getElem?_cons_succ, List.set_cons_zero, List.set_cons_succ, Option.map_some, if_true, Bool.false_eq_true, if_false]
        exact ⟨_, _, rfl, ws', _, rfl, by simpa using q1, q4, q5⟩
      · obtain ⟨r, st', e, _, _, j', s'⟩ := h2 n st 5 q4 (by omega) (by omega)
        simp only [hq, v_nil, v_cons, v_for, v_asg, v_par, v_unp, v_setI, v_expr, v_ret, v_ife, v_pass, e_var, e_const, e_tup, e_lst, e_bin, e_negc, e_not, e_and, e_or, e_cmp, e_chain, e_ife, e_idx, e_slc, e_call, e_isi, e_blt, evDs, evPar, evAnd, x_bind, x_then, ok_bind, ok_then, nx_then, rt_then, np_imp, np_nl, np_py, ni_imp, ni_py, ni_nl, nb_imp, nb_py, no_none, no_int, no_intp, fz_imp, fz_im, fz_nl, im_py, im_imp, ok_imp, dm_nil, dm_one, dm_two, dr_py, tp_nil, tp_cons, ck_true, fin_rt, fin_nx, tr_imp, tr_nl, st_im, st_imp, st_nl, st_nlt, un_imp, b_len, b_all, b_any, b_max, b_min, b_int, b_intb, b_ll, b_lt, b_tl, b_tt, len_l, len_t, it_sl, it_st, it_ss, ty_str, ty_tup, c_le, c_ge, c_lt, c_gt, c_eqi, c_nei, c_eqs, c_nes, c_eqb, c_isb, c_isnb, o_add, o_sub, idx_t, idx_l, at0, at1, at2, at3, Bool.not_true, Bool.not_false, Bool.true_and, Bool.false_and, tgSlots, wipeE, bindT, List.getElem?_cons_zero, List.getElem?_cons_succ, List.set_cons_zero, List.set_cons_succ, Option.map_some, if_true, Bool.false_eq_true, if_false, e]
        rcases Bool.eq_false_or_eq_true (decide (r < 2)) with hr | hr
        · simp only [hr, v_nil, v_cons, v_for, v_asg, v_par, v_unp, v_setI, v_expr, v_ret, v_ife, v_pass, e_var, e_const, e_tup, e_lst, e_bin, e_negc, e_not, e_and, e_or, e_cmp, e_chain, e_ife, e_idx, e_slc, e_call, e_isi, e_blt, evDs, evPar, evAnd, x_bind, x_then, ok_bind, ok_then, nx_then, rt_then, np_imp, np_nl, np_py, ni_imp, ni_py, ni_nl, nb_imp, nb_py, no_none, no_int, no_intp, fz_imp, fz_im, fz_nl, im_py, im_imp, ok_imp, dm_nil, dm_one, dm_two, dr_py, tp_nil, tp_cons, ck_true, fin_rt, fin_nx, tr_imp, tr_nl, st_im, st_imp, st_nl, st_nlt, un_imp, b_len, b_all, b_any, b_max, b_min, b_int, b_intb, b_ll, b_lt, b_tl, b_tt, len_l, len_t, it_sl, it_st, it_ss, ty_str, ty_tup, c_le, c_ge, c_lt, c_gt, c_eqi, c_nei, c_eqs, c_nes, c_eqb, c_isb, c_isnb, o_add, o_sub, idx_t, idx_l, at0, at1, at2, at3, Bool.not_true, Bool.not_false, Bool.true_and, Bool.false_and, tgSlots, wipeE, bindT, List.getElem?_cons_zero, List.getElem?_cons_succ, List.set_cons_zero, List.set_cons_succ, Option.map_some, if_true, Bool.false_eq_true, if_false, List.length_cons, List.length_nil, l1, l2]
          rw [o_tup _ _ _ (by show ws'.length + 1 ≤ SZ; exact Nat.le_trans (by omega) (show 2000000 ≤ SZ by decide))]
          simp only [v_nil, v_cons, v_for, v_asg, v_par, v_unp, v_setI, v_expr, v_ret, v_ife, v_pass, e_var, e_const, e_tup, e_lst, e_bin, e_negc, e_not, e_and, e_or, e_cmp, e_chain, e_ife, e_idx, e_slc, e_call, e_isi, e_blt, evDs, evPar, evAnd, x_bind, x_then, ok_bind, ok_then, nx_then, rt_then, np_imp, np_nl, np_py, ni_imp, ni_py, ni_nl, nb_imp, nb_py, no_none, no_int, no_intp, fz_imp, fz_im, fz_nl, im_py, im_imp, ok_imp, dm_nil, dm_one, dm_two, dr_py, tp_nil, tp_cons, ck_true, fin_rt, fin_nx, tr_imp, tr_nl, st_im, st_imp, st_nl, st_nlt, un_imp, b_len, b_all, b_any, b_max, b_min, b_int, b_intb, b_ll, b_lt, b_tl, b_tt, len_l, len_t, it_sl, it_st, it_ss, ty_str, ty_tup, c_le, c_ge, c_lt, c_gt, c_eqi, c_nei, c_eqs, c_nes, c_eqb, c_isb, c_isnb, o_add, o_sub, idx_t, idx_l, at0, at1, at2, at3, Bool.not_true, Bool.not_false, Bool.true_and, Bool.false_and, tgSlots, wipeE, bindT, List.getElem?_cons_zero, List.getElem?_cons_succ, List.set_cons_zero, List.set_cons_succ, Option.map_some, if_true, Bool.false_eq_true, if_false]
          exact ⟨_, _, rfl, ws' ++ [.tuple [.str s, .str s2]], _, rfl, q1.append (List.Sublist.refl _), j', q5.trans s'⟩
        · simp only [hr, v_nil, v_cons, v_for, v_asg, v_par, v_unp, v_setI, v_expr, v_ret, v_ife, v_pass, e_var, e_const, e_tup, e_lst, e_bin, e_negc, e_not, e_and, e_or, e_cmp, e_chain, e_ife, e_idx, e_slc, e_call, e_isi, e_blt, evDs, evPar, evAnd, x_bind, x_then, ok_bind, ok_then, nx_then, rt_then, np_imp, np_nl, np_py, ni_imp, ni_py, ni_nl, nb_imp, nb_py, no_none, no_int, no_intp, fz_imp, fz_im, fz_nl, im_py, im_imp, ok_imp, dm_nil, dm_one, dm_two, dr_py, tp_nil, tp_cons, ck_true, fin_rt, fin_nx, tr_imp, tr_nl, st_im, st_imp, st_nl, st_nlt, un_imp, b_len, b_all, b_any, b_max, b_min, b_int, b_intb, b_ll, b_lt, b_tl, b_tt, len_l, len_t, it_sl, it_st, it_ss, ty_str, ty_tup, c_le, c_ge, c_lt, c_gt, c_eqi, c_nei, c_eqs, c_nes, c_eqb, c_isb, c_isnb, o_add, o_sub, idx_t, idx_l, at0, at1, at2, at3, Bool.not_true, Bool.not_false, Bool.true_and, Bool.false_and, tgSlots, wipeE, bindT, List.getElem?_cons_zero, List.getElem?_cons_succ, List.set_cons_zero, List.set_cons_succ, Option.map_some, if_true, Bool.false_eq_true, if_false]
          refine ⟨_, _, rfl, ws', _, rfl, ?_, j', q5.trans s'⟩
          exact q1.trans (List.sublist_append_left _ _)
    obtain ⟨env', st', e, ws', e5', rfl, q1, q3, q4⟩ := forL_inv step ns [] [some (D.ref n), some (.py (.list ns)), some (.py (.tuple ts)), some (.py (.tuple ws)), some (.py (.str s)), e5, e6] st0 rfl ⟨ws, e5, rfl, by simpa using hsub, hj0, Same.refl⟩
    exact ⟨ws', e5', st', e, q1, q3, q4⟩
  have outer : ∃ ws e4 e5 st', forL (turnF Φ (.one 4) [(.for (.one 5) .seq [(.var 1)] [(.ife (.and (.cmp .ne (.var 4) (.var 5)) (.cmp .lt (.call i2 [(.var 0), (.const (.int 5))]) (.const (.int 2)))) [(.asg 3 false (.bin .add (.var 3) (.tup [(.tup [(.var 4), (.var 5)])])))] [])])]) ns
      [some (D.ref n), some (.py (.list ns)), some (.py (.tuple ts)), some (.py (.tuple [])), none, none, none] st1 = .nx [some (D.ref n), some (.py (.list ns)), some (.py (.tuple ts)), some (.py (.tuple ws)), e4, e5, none] st' ∧ ws.Sublist (Pairs ns) ∧ JarAt n st' ∧ Same n st1 st' := by
    have step : ∀ done y rest env st, ns = done ++ y :: rest → (∃ ws e4 e5, env = [some (D.ref n), some (.py (.list ns)), some (.py (.tuple ts)), some (.py (.tuple ws)), e4, e5, none] ∧ ws.Sublist (done.flatMap fun a => (ns.filter fun b => !a.eqv b).map fun b => .tuple [a, b]) ∧ JarAt n st ∧ Same n st1 st) →
        ∃ env' st', turnF Φ (.one 4) [(.for (.one 5) .seq [(.var 1)] [(.ife (.and (.cmp .ne (.var 4) (.var 5)) (.cmp .lt (.call i2 [(.var 0), (.const (.int 5))]) (.const (.int 2)))) [(.asg 3 false (.bin .add (.var 3) (.tup [(.tup [(.var 4), (.var 5)])])))] [])])] y env st = .nx env' st' ∧
          (∃ ws e4 e5, env' = [some (D.ref n), some (.py (.list ns)), some (.py (.tuple ts)), some (.py (.tuple ws)), e4, e5, none] ∧ ws.Sublist ((done ++ [y]).flatMap fun a => (ns.filter fun b => !a.eqv b).map fun b => .tuple [a, b]) ∧ JarAt n st' ∧ Same n st1 st') := by
      rintro done y rest env st hd ⟨ws, e4, e5, rfl, q1, q4, q5⟩
      have hy : y ∈ ns := by rw [hd]; simp
      have hdl : (done.flatMap fun a => (ns.filter fun b => !a.eqv b).map fun b => PyData.tuple [a, b]).length ≤ 1000000 := by
        have a1 := pairs_len ns hz
        have a2 : (done.flatMap fun a => (ns.filter fun b => !a.eqv b).map fun b => PyData.tuple [a, b]).Sublist (Pairs ns) := by
          have e : Pairs ns = (done.flatMap fun a => (ns.filter fun b => !a.eqv b).map fun b => PyData.tuple [a, b]) ++ ((y :: rest).flatMap fun a => (ns.filter fun b => !a.eqv b).map fun b => PyData.tuple [a, b]) := by
            rw [← List.flatMap_append, ← hd]; rfl
          rw [e]
          exact List.sublist_append_left _ _
        have := a2.length_le
        omega
      obtain ⟨ws', e5', st', e, p1, p2, p3⟩ := inner ws _ y e5 none st hy q1 hdl q4
      refine ⟨_, st', ?_, ws', some (.py y), e5', rfl, ?_, p2, q5.trans p3⟩
      · unfold turnF
        simp only [v_nil, v_cons, v_for, v_asg, v_par, v_unp, v_setI, v_expr, v_ret, v_ife, v_pass, e_var, e_const, e_tup, e_lst, e_bin, e_negc, e_not, e_and, e_or, e_cmp, e_chain, e_ife, e_idx, e_slc, e_call, e_isi, e_blt, evDs, evPar, evAnd, x_bind, x_then, ok_bind, ok_then, nx_then, rt_then, np_imp, np_nl, np_py, ni_imp, ni_py, ni_nl, nb_imp, nb_py, no_none, no_int, no_intp, fz_imp, fz_im, fz_nl, im_py, im_imp, ok_imp, dm_nil, dm_one, dm_two, dr_py, tp_nil, tp_cons, ck_true, fin_rt, fin_nx, tr_imp, tr_nl, st_im, st_imp, st_nl, st_nlt, un_imp, b_len, b_all, b_any, b_max, b_min, b_int, b_intb, b_ll, b_lt, b_tl, b_tt, len_l, len_t, it_sl, it_st, it_ss, ty_str, ty_tup, c_le, c_ge, c_lt, c_gt, c_eqi, c_nei, c_eqs, c_nes, c_eqb, c_isb, c_isnb, o_add, o_sub, idx_t, idx_l, at0, at1, at2, at3, Bool.not_true, Bool.not_false, Bool.true_and, Bool.false_and, tgSlots, wipeE, bindT, List.getElem?_cons_zero, List.getElem?_cons_succ, List.set_cons_zero, List.set_cons_succ, Option.map_some, if_true, Bool.false_eq_true, if_false, hI]
        rw [e]
        simp only [v_nil, v_cons, v_for, v_asg, v_par, v_unp, v_setI, v_expr, v_ret, v_ife, v_pass, e_var, e_const, e_tup, e_lst, e_bin, e_negc, e_not, e_and, e_or, e_cmp, e_chain, e_ife, e_idx, e_slc, e_call, e_isi, e_blt, evDs, evPar, evAnd, x_bind, x_then, ok_bind, ok_then, nx_then, rt_then, np_imp, np_nl, np_py, ni_imp, ni_py, ni_nl, nb_imp, nb_py, no_none, no_int, no_intp, fz_imp, fz_im, fz_nl, im_py, im_imp, ok_imp, dm_nil, dm_one, dm_two, dr_py, tp_nil, tp_cons, ck_true, fin_rt, fin_nx, tr_imp, tr_nl, st_im, st_imp, st_nl, st_nlt, un_imp, b_len, b_all, b_any, b_max, b_min, b_int, b_intb, b_ll, b_lt, b_tl, b_tt, len_l, len_t, it_sl, it_st, it_ss, ty_str, ty_tup, c_le, c_ge, c_lt, c_gt, c_eqi, c_nei, c_eqs, c_nes, c_eqb, c_isb, c_isnb, o_add, o_sub, idx_t, idx_l, at0, at1, at2, at3, Bool.not_true, Bool.not_false, Bool.true_and, Bool.false_and, tgSlots, wipeE, bindT, List.getElem?_cons_zero, List.getElem?_cons_succ, List.set_cons_zero, List.set_cons_succ, Option.map_some, if_true, Bool.false_eq_true, if_false]
      · rw [List.flatMap_append]
        simpa using p1
    obtain ⟨env', st', e, ws, e4, e5, rfl, q1, q3, q4⟩ := forL_inv step ns [] _ st1 rfl ⟨[], none, none, rfl, by simp, j1, Same.refl⟩
    exact ⟨ws, e4, e5, st', e, q1, q3, q4⟩
  obtain ⟨ws, e4, e5, st2, ew, w1, j2, s2⟩ := outer
  obtain ⟨p, st3, e3, p1, j3, s3⟩ := h3 n st2 (.list ns) ns 3 (.inl rfl) hz6 j2
  obtain ⟨q, st4, e4', q1, j4, s4⟩ := h3 n st3 (.list ns) ns 2 (.inl rfl) hz6 j3
  refine ⟨.tuple [.tuple ts, .tuple ws, .tuple [.tuple p, .tuple q]], st4, ?_, ⟨ts, ws, p, q, rfl, a1, w1, p1, q1⟩, j4, s1.trans (s2.trans (s3.trans s4))⟩
  simp only [v_nil, v_cons, v_for, v_asg, v_par, v_unp, v_setI, v_expr, v_ret, v_ife, v_pass, e_var, e_const, e_tup, e_lst, e_bin, e_negc, e_not, e_and, e_or, e_cmp, e_chain, e_ife, e_idx, e_slc, e_call, e_isi, e_blt, evDs, evPar, evAnd, x_bind, x_then, ok_bind, ok_then, nx_then, rt_then, np_imp, np_nl, np_py, ni_imp, ni_py, ni_nl, nb_imp, nb_py, no_none, no_int, no_intp, fz_imp, fz_im, fz_nl, im_py, im_imp, ok_imp, dm_nil, dm_one, dm_two, dr_py, tp_nil, tp_cons, ck_true, fin_rt, fin_nx, tr_imp, tr_nl, st_im, st_imp, st_nl, st_nlt, un_imp, b_len, b_all, b_any, b_max, b_min, b_int, b_intb, b_ll, b_lt, b_tl, b_tt, len_l, len_t, it_sl, it_st, it_ss, ty_str, ty_tup, c_le, c_ge, c_lt, c_gt, c_eqi, c_nei, c_eqs, c_nes, c_eqb, c_isb, c_isnb, o_add, o_sub, idx_t, idx_l, at0, at1, at2, at3, Bool.not_true, Bool.not_false, Bool.true_and, Bool.false_and, tgSlots, wipeE, bindT, List.getElem?_cons_zero, List.getElem?_cons_succ, List.set_cons_zero, List.set_cons_succ, Option.map_some, if_true, Bool.false_eq_true, if_false, e1, List.length_nil, l0, hI, ew, e3, e4', List.length_cons, l2, l3]
  exact tr_len (s1.trans (s2.trans (s3.trans s4))).len
def N2 : List (List P) := [[.str ⟨#[97]⟩, .str ⟨#[98]⟩], [.str ⟨#[100, 101, 115, 107]⟩, .str ⟨#[110, 101, 119, 115]⟩], [.str ⟨#[115, 104, 111, 112]⟩, .str ⟨#[122, 105, 110, 101]⟩]]
def N3 : List P := [.str ⟨#[100, 101, 115, 107]⟩, .str ⟨#[110, 101, 119, 115]⟩, .str ⟨#[115, 104, 111, 112]⟩]
def DrawNs (ns : List P) : Prop := ns ∈ N2 ∨ ns = N3
theorem strs_of_all {ns : List P} (h : ns.all (fun x => match x with | .str _ => true | _ => false) = true) : Strs ns := by
  intro x hx
  have q := List.all_eq_true.mp h x hx
  cases x with
  | str s => exact ⟨s, rfl⟩
  | _ => cases q
theorem DrawNs.cases {ns : List P} (h : DrawNs ns) {p : List P → Prop} (h2 : ∀ l ∈ N2, p l) (h3 : p N3) : p ns := by
  rcases h with h | h
  · exact h2 ns h
  · rw [h]; exact h3
theorem drawNs_strs {ns : List P} (h : DrawNs ns) : Strs ns := strs_of_all (h.cases (p := fun ns => ns.all (fun x => match x with | .str _ => true | _ => false) = true) (by decide) (by decide))
theorem drawNs_len {ns : List P} (h : DrawNs ns) : 2 ≤ ns.length ∧ ns.length ≤ 3 := h.cases (p := fun ns => 2 ≤ ns.length ∧ ns.length ≤ 3) (by decide) (by decide)
def MkSetupF (Φ : Nat → List D → Sto → R Rv) (i : Nat) : Prop := ∀ n st (large : Bool), JarAt n st → ∃ ns v st', Φ i [.ref n, .py (.bool large)] st = ok1 v st' ∧ DrawNs ns ∧ DrawSetup ns v ∧ JarAt n st' ∧ Same n st st'
theorem sem_mkSetup {i1 i2 i3 : Nat} (h1 : SomeF Φ i1) (h2 : LessF Φ i2) (h3 : SetupOfF Φ i3) {n : Nat} {st : Sto} {large : Bool} (hj : JarAt n st) :
    ∃ ns v st', fin st.length (evSs Φ (t_law_setup i1 i2 i3) [some (.ref n), some (.py (.bool large)), none] st) = ok1 v st' ∧ DrawNs ns ∧ DrawSetup ns v ∧ JarAt n st' ∧ Same n st st' := by
  unfold t_law_setup
  obtain ⟨x, st1, e1, r1, j1, s1⟩ := h1 n st (.list (N2.map .list)) (N2.map .list) (.inl rfl) (by decide) (by decide) hj
  obtain ⟨l, hl, rfl⟩ := List.mem_map.mp r1
  have e1' : Φ i1 [.ref n, .py (.list [.list [.str ⟨#[97]⟩, .str ⟨#[98]⟩], .list [.str ⟨#[100, 101, 115, 107]⟩, .str ⟨#[110, 101, 119, 115]⟩], .list [.str ⟨#[115, 104, 111, 112]⟩, .str ⟨#[122, 105, 110, 101]⟩]])] st = ok1 (.list l) st1 := e1
  cases large with
  | false =>
    have hd : DrawNs l := .inl hl
    obtain ⟨v, st2, e2, d2, j2, s2⟩ := h3 n st1 l (drawNs_strs hd) (by have := drawNs_len hd; omega) j1
    refine ⟨l, v, st2, ?_, hd, d2, j2, s1.trans s2⟩
    simp only [v_nil, v_cons, v_for, v_asg, v_par, v_unp, v_setI, v_expr, v_ret, v_ife, v_pass, e_var, e_const, e_tup, e_lst, e_bin, e_negc, e_not, e_and, e_or, e_cmp, e_chain, e_ife, e_idx, e_slc, e_call, e_isi, e_blt, evDs, evPar, evAnd, x_bind, x_then, ok_bind, ok_then, nx_then, rt_then, np_imp, np_nl, np_py, ni_imp, ni_py, ni_nl, nb_imp, nb_py, no_none, no_int, no_intp, fz_imp, fz_im, fz_nl, im_py, im_imp, ok_imp, dm_nil, dm_one, dm_two, dr_py, tp_nil, tp_cons, ck_true, fin_rt, fin_nx, tr_imp, tr_nl, st_im, st_imp, st_nl, st_nlt, un_imp, b_len, b_all, b_any, b_max, b_min, b_int, b_intb, b_ll, b_lt, b_tl, b_tt, len_l, len_t, it_sl, it_st, it_ss, ty_str, ty_tup, c_le, c_ge, c_lt, c_gt, c_eqi, c_nei, c_eqs, c_nes, c_eqb, c_isb, c_isnb, o_add, o_sub, idx_t, idx_l, at0, at1, at2, at3, Bool.not_true, Bool.not_false, Bool.true_and, Bool.false_and, tgSlots, wipeE, bindT, List.getElem?_cons_zero, List.getElem?_cons_succ, List.set_cons_zero, List.set_cons_succ, Option.map_some, if_true, Bool.false_eq_true, if_false, List.length_cons, List.length_nil, l2, l3, e1', e2]
    exact tr_len (s1.trans s2).len
  | true =>
    obtain ⟨r, st2, e2, _, _, j2, s2⟩ := h2 n st1 3 j1 (by omega) (by omega)
    rcases Bool.eq_false_or_eq_true (r == 0) with hr | hr
    · have hd : DrawNs N3 := .inr rfl
      obtain ⟨v, st3, e3, d3, j3, s3⟩ := h3 n st2 N3 (drawNs_strs hd) (by decide) j2
      have e3' : Φ i3 [.ref n, .py (.list [.str ⟨#[100, 101, 115, 107]⟩, .str ⟨#[110, 101, 119, 115]⟩, .str ⟨#[115, 104, 111, 112]⟩])] st2 = ok1 v st3 := e3
      refine ⟨N3, v, st3, ?_, hd, d3, j3, s1.trans (s2.trans s3)⟩
      simp only [v_nil, v_cons, v_for, v_asg, v_par, v_unp, v_setI, v_expr, v_ret, v_ife, v_pass, e_var, e_const, e_tup, e_lst, e_bin, e_negc, e_not, e_and, e_or, e_cmp, e_chain, e_ife, e_idx, e_slc, e_call, e_isi, e_blt, evDs, evPar, evAnd, x_bind, x_then, ok_bind, ok_then, nx_then, rt_then, np_imp, np_nl, np_py, ni_imp, ni_py, ni_nl, nb_imp, nb_py, no_none, no_int, no_intp, fz_imp, fz_im, fz_nl, im_py, im_imp, ok_imp, dm_nil, dm_one, dm_two, dr_py, tp_nil, tp_cons, ck_true, fin_rt, fin_nx, tr_imp, tr_nl, st_im, st_imp, st_nl, st_nlt, un_imp, b_len, b_all, b_any, b_max, b_min, b_int, b_intb, b_ll, b_lt, b_tl, b_tt, len_l, len_t, it_sl, it_st, it_ss, ty_str, ty_tup, c_le, c_ge, c_lt, c_gt, c_eqi, c_nei, c_eqs, c_nes, c_eqb, c_isb, c_isnb, o_add, o_sub, idx_t, idx_l, at0, at1, at2, at3, Bool.not_true, Bool.not_false, Bool.true_and, Bool.false_and, tgSlots, wipeE, bindT, List.getElem?_cons_zero, List.getElem?_cons_succ, List.set_cons_zero, List.set_cons_succ, Option.map_some, if_true, Bool.false_eq_true, if_false, List.length_cons, List.length_nil, l2, l3, e1', e2, hr, e3']
      exact tr_len (s1.trans (s2.trans s3)).len
    · have hd : DrawNs l := .inl hl
      obtain ⟨v, st3, e3, d3, j3, s3⟩ := h3 n st2 l (drawNs_strs hd) (by have := drawNs_len hd; omega) j2
      refine ⟨l, v, st3, ?_, hd, d3, j3, s1.trans (s2.trans s3)⟩
      simp only [v_nil, v_cons, v_for, v_asg, v_par, v_unp, v_setI, v_expr, v_ret, v_ife, v_pass, e_var, e_const, e_tup, e_lst, e_bin, e_negc, e_not, e_and, e_or, e_cmp, e_chain, e_ife, e_idx, e_slc, e_call, e_isi, e_blt, evDs, evPar, evAnd, x_bind, x_then, ok_bind, ok_then, nx_then, rt_then, np_imp, np_nl, np_py, ni_imp, ni_py, ni_nl, nb_imp, nb_py, no_none, no_int, no_intp, fz_imp, fz_im, fz_nl, im_py, im_imp, ok_imp, dm_nil, dm_one, dm_two, dr_py, tp_nil, tp_cons, ck_true, fin_rt, fin_nx, tr_imp, tr_nl, st_im, st_imp, st_nl, st_nlt, un_imp, b_len, b_all, b_any, b_max, b_min, b_int, b_intb, b_ll, b_lt, b_tl, b_tt, len_l, len_t, it_sl, it_st, it_ss, ty_str, ty_tup, c_le, c_ge, c_lt, c_gt, c_eqi, c_nei, c_eqs, c_nes, c_eqb, c_isb, c_isnb, o_add, o_sub, idx_t, idx_l, at0, at1, at2, at3, Bool.not_true, Bool.not_false, Bool.true_and, Bool.false_and, tgSlots, wipeE, bindT, List.getElem?_cons_zero, List.getElem?_cons_succ, List.set_cons_zero, List.set_cons_succ, Option.map_some, if_true, Bool.false_eq_true, if_false, List.length_cons, List.length_nil, l2, l3, e1', e2, hr, e3]
      exact tr_len (s1.trans (s2.trans s3)).len
end

/-! what is drawn is a setup -/
def Lt (a b : P) : Prop := PySem.W.dataLt a b = true
theorem asc_of {xs : List P} (h : xs.Pairwise Lt) : asc xs = true := by
  unfold asc
  rw [List.all_eq_true]
  intro i hi
  rw [List.mem_range] at hi
  have h1 : i < xs.length := by omega
  have h2 : i + 1 < xs.length := by omega
  rw [getD_of h1, getD_of h2]
  exact List.pairwise_iff_getElem.mp h i (i + 1) h1 h2 (by omega)
theorem oneOf_mem {ns : List P} {s : Str} (h : PyData.str s ∈ ns) : oneOf ns (.str s) = true := by
  show (ns.any fun y => y.eqv (.str s)) = true
  rw [List.any_eq_true]
  refine ⟨_, h, ?_⟩
  show (s == s) = true
  exact beq_self_eq_true s
theorem areNames_sub {ns zs : List P} (hs : Strs ns) (hp : ns.Pairwise Lt) (h : zs.Sublist ns) : areNames ns (.tuple zs) = true := by
  show (zs.all (oneOf ns) && asc zs) = true
  rw [asc_of (hp.sublist h), Bool.and_true, List.all_eq_true]
  intro x hx
  obtain ⟨s, rfl⟩ := hs x (h.subset hx)
  exact oneOf_mem (h.subset hx)
theorem areHooks_sub {ns ws : List P} (hs : Strs ns) (hp : (Pairs ns).Pairwise Lt) (h : ws.Sublist (Pairs ns)) : areHooks ns (.tuple ws) = true := by
  show (ws.all (hookOk ns) && asc ws) = true
  rw [asc_of (hp.sublist h), Bool.and_true, List.all_eq_true]
  intro x hx
  have hx := h.subset hx
  unfold Pairs at hx
  obtain ⟨a, ha, hx⟩ := List.mem_flatMap.mp hx
  obtain ⟨b, hb, rfl⟩ := List.mem_map.mp hx
  obtain ⟨hb1, hb2⟩ := List.mem_filter.mp hb
  obtain ⟨s, rfl⟩ := hs a ha
  obtain ⟨t, rfl⟩ := hs b hb1
  show ((oneOf ns (.str s) && oneOf ns (.str t)) && !(PyData.str s).eqv (.str t)) = true
  rw [oneOf_mem ha, oneOf_mem hb1, hb2]; rfl
theorem al_names {ns0 : List P} : ∀ {ns ts : List P}, Al (DrawTool ns0) ns ts → names ts = ns ∧ ts.length = ns.length
  | [], ts, h => by have h : ts = [] := h; subst h; exact ⟨rfl, rfl⟩
  | y :: ys, ts, h => by
    obtain ⟨t, r, rfl, ⟨rule, zs, b, rfl, _, _⟩, h2⟩ := h
    obtain ⟨q1, q2⟩ := al_names h2
    exact ⟨by show nm _ :: names r = _; rw [q1]; rfl, by rw [List.length_cons, List.length_cons, q2]⟩
theorem al_mem {α β : Type} {Rel : α → β → Prop} : ∀ {ys : List α} {os : List β}, Al Rel ys os → ∀ o ∈ os, ∃ y ∈ ys, Rel y o
  | [], os, h, o, ho => by have h : os = [] := h; subst h; simp at ho
  | y :: ys, os, h, o, ho => by
    obtain ⟨o', r, rfl, h1, h2⟩ := h
    rcases List.mem_cons.mp ho with e | ho
    · subst e; exact ⟨y, List.mem_cons_self, h1⟩
    · obtain ⟨z, hz, q⟩ := al_mem h2 o ho
      exact ⟨z, List.mem_cons_of_mem _ hz, q⟩
/-- names good for a setup -/
structure GoodNs (ns : List P) : Prop where
  str_ : Strs ns
  lt : ns.Pairwise Lt
  lt2 : (Pairs ns).Pairwise Lt
  lab : ns.all isLabel = true
  len : 2 ≤ ns.length ∧ ns.length ≤ 3
instance (a b : P) : Decidable (Lt a b) := inferInstanceAs (Decidable (_ = true))
theorem drawNs_good {ns : List P} (h : DrawNs ns) : GoodNs ns :=
  ⟨drawNs_strs h, h.cases (p := fun ns => ns.Pairwise Lt) (by decide +kernel) (by decide +kernel), h.cases (p := fun ns => (Pairs ns).Pairwise Lt) (by decide +kernel) (by decide +kernel), h.cases (p := fun ns => ns.all isLabel = true) (by decide +kernel) (by decide +kernel), drawNs_len h⟩
theorem drawSetup_is {ns : List P} {v : P} (g : GoodNs ns) (h : DrawSetup ns v) : isSetup v = true := by
  obtain ⟨ts, ws, p, q, rfl, a1, w1, p1, q1⟩ := h
  obtain ⟨en, el⟩ := al_names a1
  have e5 : isSetup (.tuple [.tuple ts, .tuple ws, .tuple [.tuple p, .tuple q]]) = (areTools (.tuple ts) && (areHooks (names ts) (.tuple ws) && (areNames (names ts) (.tuple p) && areNames (names ts) (.tuple q)))) := rfl
  have eT : areTools (.tuple ts) = ((decide (2 ≤ ts.length) && decide (ts.length ≤ 3)) && (ts.all isTool && (asc (names ts) && ts.all fun t => areNames (others (names ts) (nm t)) (may t)))) := rfl
  rw [e5, en, areHooks_sub g.str_ g.lt2 w1, areNames_sub g.str_ g.lt p1, areNames_sub g.str_ g.lt q1, eT, en, asc_of g.lt, el, decide_eq_true g.len.1, decide_eq_true g.len.2]
  simp only [Bool.true_and, Bool.and_true, Bool.and_eq_true, List.all_eq_true]
  refine ⟨fun t ht => ?_, fun t ht => ?_⟩
  · obtain ⟨y, hy, rule, zs, b, rfl, hr, hz⟩ := al_mem a1 t ht
    obtain ⟨s, rfl⟩ := rules_strs rule hr
    show (isLabel y && (oneOf RULES (.str s) && (isTy .tup (.tuple zs) && isTy .bool (.bool b)))) = true
    rw [List.all_eq_true.mp g.lab y hy, oneOf_mem hr]; rfl
  · obtain ⟨y, hy, rule, zs, b, rfl, hr, hz⟩ := al_mem a1 t ht
    exact areNames_sub (others_strs g.str_ y) (g.lt.sublist List.filter_sublist) hz
end Kp

/-! Kp, part 19: setups as texts. -/
namespace Kp
open PySem
section
variable {Φ : Nat → List D → Sto → R Rv} {env : Ev} {st : Sto}
theorem e_meth (m : Mth) (o : X) (es : List X) : evE Φ env (.meth m o es) st = (evE Φ env o st).bind fun x st1 => chk (methTy m x.frz st1) ((evDs Φ env es st1).bind fun ds st2 => methop m x.frz ds st2) := by simp only [evE] <;> rfl
theorem e_rep (a b : X) : evE Φ env (.rep a b) st = (evE Φ env a st).bind fun x st1 => match x with
    | .nl xs => (evE Φ env b (st1 ++ [.lst xs])).bind fun y st2 => match y, st2[st1.length]? with
      | .im (.py (.int k)), some (.lst zs) => chk (decide (-(2 ^ 63) ≤ k) && decide (k < 2 ^ 63) && decide (zs.length * k.toNat ≤ SZ) && decide (st2.length = st1.length + 1)) (.ok (.nl (List.replicate k.toNat zs).flatten) (st2.take st1.length))
      | _, _ => .bad
    | _ => .bad := by simp only [evE] <;> rfl
theorem e_dic (es : List X) : evE Φ env (.dic es) st = (evDs Φ env es (st ++ [.dct []])).bind fun ds st1 => dicEnd st.length ds st1 := by simp only [evE] <;> rfl
theorem e_get2 (o k d : X) : evE Φ env (.get2 o k d) st = (evE Φ env o st).bind fun x st1 => chk (isDS st1 x.frz) ((evE Φ env k st1).bind fun y st2 => (evE Φ env d st2).bind fun z st3 => needI y fun p => needI z fun q => match deref st3 x.frz with
    | some (.dict kvs) => chk (keyS p && kvs.all fun q => keyS q.1) (ok1 ((dGet kvs p).getD q) st3)
    | _ => .bad) := by simp only [evE] <;> rfl
/-- [..] * k -/
theorem rep_ev {a b : X} {xs : List P} {k : Nat} (ha : evE Φ env a st = .ok (.nl xs) st) (hb : ∀ st, evE Φ env b st = ok1 (.int k) st) (hk : k ≤ 1000) (hz : xs.length ≤ 1000) : evE Φ env (.rep a b) st = .ok (.nl (List.replicate k xs).flatten) st := by
  rw [e_rep, ha]
  simp only [ok_bind]
  rw [hb]
  simp only [x_bind]
  have e1 : (st ++ [Ob.lst xs])[st.length]? = some (.lst xs) := by simp
  simp only [imp, e1]
  have hm : xs.length * k ≤ SZ := Nat.le_trans (Nat.mul_le_mul hz hk) (by decide)
  have e2 : (k : Int).toNat = k := Int.toNat_natCast k
  rw [e2, decide_eq_true (show -(2 ^ 63) ≤ (k : Int) by omega), decide_eq_true (show (k : Int) < 2 ^ 63 by omega), decide_eq_true hm, decide_eq_true (show (st ++ [Ob.lst xs]).length = st.length + 1 by simp)]
  simp [chk]
end
theorem so_nil : strsOf [] = some [] := rfl
theorem so_cons (s : Str) (ps : List P) : strsOf (.str s :: ps) = (strsOf ps).map (s :: ·) := rfl
theorem so_map : ∀ ys : List Str, strsOf (ys.map .str) = some ys
  | [] => rfl
  | y :: ys => by rw [List.map_cons, so_cons, so_map ys]; rfl
theorem mty_join (a : Str) (st : Sto) : methTy .join (.py (.str a)) st = true := rfl
theorem mty_split (a : Str) (st : Sto) : methTy .split (.py (.str a)) st = true := rfl
theorem m_join (a : Str) (ps : List P) (st : Sto) : methop .join (.py (.str a)) [.py (.list ps)] st = match strsOf ps with
    | some ys => chk (joinOk a ys) (ok1 (.str (Txt.join a ys)) st)
    | none => .bad := rfl
theorem m_split (a b : Str) (st : Sto) : methop .split (.py (.str a)) [.py (.str b)] st = chk (!(b.length == 0) && decide (a.length + 2 ≤ SZ)) (.ok (.nl ((Txt.split a b).map .str)) st) := rfl
theorem joinOk_of {a : Str} {ys : List Str} (B : Nat) (h : ∀ y ∈ ys, y.length ≤ B) (hn : ys.length * (B + a.length) ≤ 16777216) : joinOk a ys = true := by
  have q : (ys.map (·.length)).sum ≤ ys.length * B := by
    clear hn
    induction ys with
    | nil => simp
    | cons y ys ih =>
      rw [List.map_cons, List.sum_cons, List.length_cons, Nat.add_mul, Nat.one_mul]
      have := h y List.mem_cons_self
      have := ih fun z hz => h z (List.mem_cons_of_mem _ hz)
      omega
  refine decide_eq_true ?_
  rw [Nat.mul_add] at hn
  omega
theorem o_str (x y : Str) (st : Sto) : binop .add (.str x) (.str y) st = chk (decide (x.length + y.length ≤ SZ)) (ok1 (.str (x ++ y)) st) := rfl
theorem slen (x y : Str) : (x ++ y).length = x.length + y.length := by
  rw [TL.len_tl, TL.len_tl x, TL.len_tl y, TL.tl_append, List.length_append]
theorem o_strc {x y : Str} {st : Sto} (h : x.length + y.length ≤ 1000000) : binop .add (.str x) (.str y) st = ok1 (.str (x ++ y)) st := by
  rw [o_str, decide_eq_true (Nat.le_trans h (by decide))]; rfl
/-- a loop over items of one kind -/
theorem forL_st {f : P → Ev → Sto → SR} {β : Type} (e : β → P) {Inv : List β → Ev → Sto → Prop} {all : List β} (hf : ∀ done b rest env st, all = done ++ b :: rest → Inv done env st → ∃ env' st', f (e b) env st = .nx env' st' ∧ Inv (done ++ [b]) env' st') :
    ∀ (bs done : List β) (env : Ev) (st : Sto), all = done ++ bs → Inv done env st → ∃ env' st', forL f (bs.map e) env st = .nx env' st' ∧ Inv all env' st'
  | [], done, env, st, ha, h => ⟨env, st, rfl, by rw [ha, List.append_nil]; exact h⟩
  | b :: bs, done, env, st, ha, h => by
    obtain ⟨env1, st1, e1, h1⟩ := hf done b bs env st ha h
    obtain ⟨env2, st2, e2, h2⟩ := forL_st e hf bs (done ++ [b]) env1 st1 (by rw [ha, List.append_assoc]; rfl) h1
    refine ⟨env2, st2, ?_, h2⟩
    rw [List.map_cons, forL, e1]
    exact e2

/-! ### setups, opened -/
abbrev To : Type := Str × Str × List Str × Bool
structure SeT where
  ts : List To
  hs : List (Str × Str)
  fe : List Str
  fr : List Str
def encT (t : To) : P := .tuple [.str t.1, .str t.2.1, .tuple (t.2.2.1.map .str), .bool t.2.2.2]
def encH (h : Str × Str) : P := .tuple [.str h.1, .str h.2]
def SeT.enc (s : SeT) : P := .tuple [.tuple (s.ts.map encT), .tuple (s.hs.map encH), .tuple [.tuple (s.fe.map .str), .tuple (s.fr.map .str)]]
def lab (x : Str) : Prop := isLabel (.str x) = true
structure ToOk (t : To) : Prop where
  nm : lab t.1
  rule : PyData.str t.2.1 ∈ RULES
  takes : ∀ o ∈ t.2.2.1, lab o
  len : t.2.2.1.length ≤ 10
structure SeT.Good (s : SeT) : Prop where
  tool : ∀ t ∈ s.ts, ToOk t
  hook : ∀ h ∈ s.hs, lab h.1 ∧ lab h.2
  fe : ∀ n ∈ s.fe, lab n
  fr : ∀ n ∈ s.fr, lab n
  lt : s.ts.length ≤ 10
  lh : s.hs.length ≤ 100
  le : s.fe.length ≤ 10
  lr : s.fr.length ≤ 10
  ne : s.ts ≠ []
  nd : (s.ts.map (·.1)).Nodup
theorem lab_len {x : Str} (h : lab x) : 1 ≤ x.length ∧ x.length ≤ 8 := by
  unfold lab isLabel at h
  simp only [Bool.and_eq_true, decide_eq_true_eq] at h
  exact ⟨h.1, h.2.1⟩
theorem lab_cps {x : Str} (h : lab x) : ∀ c ∈ TL.tl x, 97 ≤ c ∧ c ≤ 122 := by
  unfold lab isLabel at h
  simp only [Bool.and_eq_true, decide_eq_true_eq, List.all_eq_true] at h
  exact h.2.2
theorem rule_len {x : Str} (h : PyData.str x ∈ RULES) : x.length ≤ 3 ∧ ∀ c ∈ TL.tl x, 97 ≤ c ∧ c ≤ 122 := by
  unfold RULES at h
  simp only [List.mem_cons, List.not_mem_nil, or_false, PyData.str.injEq] at h
  rcases h with rfl | rfl | rfl | rfl <;> decide

/-! ### the words of a setup -/
abbrev w_tool : Str := ⟨#[116, 111, 111, 108]⟩
abbrev w_asks : Str := ⟨#[97, 115, 107, 115]⟩
abbrev w_takes : Str := ⟨#[116, 97, 107, 101, 115]⟩
abbrev w_hook : Str := ⟨#[104, 111, 111, 107]⟩
abbrev w_feeds : Str := ⟨#[102, 101, 101, 100, 115]⟩
abbrev w_frees : Str := ⟨#[102, 114, 101, 101, 115]⟩
abbrev SPC : Str := ⟨#[32]⟩
abbrev NLN : Str := ⟨#[10]⟩
def wTool (t : To) : List Str := [w_tool, t.1, t.2.1] ++ (if t.2.2.2 then [w_asks] else [])
def wT (t : To) : List (List Str) := wTool t :: t.2.2.1.map fun o => [w_takes, t.1, o]
def wH (h : Str × Str) : List Str := [w_hook, h.1, h.2]
def wE (n : Str) : List Str := [w_feeds, n]
def wR (n : Str) : List Str := [w_frees, n]
def SeT.rows (s : SeT) : List (List Str) := ((s.ts.flatMap wT ++ s.hs.map wH) ++ s.fe.map wE) ++ s.fr.map wR
def lineOf (r : List Str) : Str := Txt.join SPC r
def lineP (r : List Str) : P := .str (lineOf r)
def SeT.text (s : SeT) : Str := Txt.join NLN (s.rows.map lineOf)
theorem sj2 (a b : Str) : lineOf [a, b] = a ++ SPC ++ b := by
  unfold lineOf
  rw [TL.join_eq]; rfl
theorem sj3 (a b c : Str) : lineOf [a, b, c] = a ++ SPC ++ b ++ SPC ++ c := by
  refine TL.ext_tl ?_
  unfold lineOf
  rw [TL.join_eq]
  show TL.tl (a ++ SPC ++ (b ++ SPC ++ c)) = _
  simp only [TL.tl_append, List.append_assoc]
theorem sj4 (a b c d : Str) : lineOf [a, b, c, d] = a ++ SPC ++ b ++ SPC ++ c ++ SPC ++ d := by
  refine TL.ext_tl ?_
  unfold lineOf
  rw [TL.join_eq]
  show TL.tl (a ++ SPC ++ (b ++ SPC ++ (c ++ SPC ++ d))) = _
  simp only [TL.tl_append, List.append_assoc]
theorem j3_ok {a b c : Str} (ha : a.length ≤ 100) (hb : b.length ≤ 100) (hc : c.length ≤ 100) : joinOk SPC [a, b, c] = true := by
  refine joinOk_of 100 (fun y hy => ?_) (show 3 * (100 + 1) ≤ 16777216 by omega)
  simp only [List.mem_cons, List.not_mem_nil, or_false] at hy
  rcases hy with rfl | rfl | rfl <;> assumption
theorem j2_ok {a b : Str} (ha : a.length ≤ 100) (hb : b.length ≤ 100) : joinOk SPC [a, b] = true := by
  refine joinOk_of 100 (fun y hy => ?_) (show 2 * (100 + 1) ≤ 16777216 by omega)
  simp only [List.mem_cons, List.not_mem_nil, or_false] at hy
  rcases hy with rfl | rfl <;> assumption
theorem j4_ok {a b c d : Str} (ha : a.length ≤ 100) (hb : b.length ≤ 100) (hc : c.length ≤ 100) (hd : d.length ≤ 100) : joinOk SPC [a, b, c, d] = true := by
  refine joinOk_of 100 (fun y hy => ?_) (show 4 * (100 + 1) ≤ 16777216 by omega)
  simp only [List.mem_cons, List.not_mem_nil, or_false] at hy
  rcases hy with rfl | rfl | rfl | rfl <;> assumption
theorem lab100 {x : Str} (h : lab x) : x.length ≤ 100 := by have := lab_len h; omega
theorem rule100 {x : Str} (h : PyData.str x ∈ RULES) : x.length ≤ 100 := by have := (rule_len h).1; omega
/-- a word of a good setup: no space, no end of a line -/
def wordOk (x : Str) : Prop := x.length ≤ 100 ∧ ∀ c ∈ TL.tl x, 97 ≤ c ∧ c ≤ 122
theorem lab_word {x : Str} (h : lab x) : wordOk x := ⟨lab100 h, lab_cps h⟩
theorem rule_word {x : Str} (h : PyData.str x ∈ RULES) : wordOk x := ⟨rule100 h, (rule_len h).2⟩
theorem row_ok {s : SeT} (g : s.Good) : ∀ r ∈ s.rows, r ≠ [] ∧ r.length ≤ 4 ∧ ∀ x ∈ r, wordOk x := by
  have wt : wordOk w_tool ∧ wordOk w_asks ∧ wordOk w_takes ∧ wordOk w_hook ∧ wordOk w_feeds ∧ wordOk w_frees := by unfold wordOk; decide
  obtain ⟨k1, k2, k3, k4, k5, k6⟩ := wt
  intro r hr
  unfold SeT.rows at hr
  rw [List.mem_append, List.mem_append, List.mem_append, List.mem_flatMap, List.mem_map, List.mem_map, List.mem_map] at hr
  rcases hr with ((⟨t, ht, hr⟩ | ⟨h, hh, rfl⟩) | ⟨n, hn, rfl⟩) | ⟨n, hn, rfl⟩
  · have ok := g.tool t ht
    unfold wT at hr
    rcases List.mem_cons.mp hr with rfl | hr
    · unfold wTool
      cases t.2.2.2 with
      | true =>
        refine ⟨by simp, by simp, fun x hx => ?_⟩
        simp only [if_true, List.cons_append, List.nil_append, List.mem_cons, List.not_mem_nil, or_false] at hx
        rcases hx with rfl | rfl | rfl | rfl
        · exact k1
        · exact lab_word ok.nm
        · exact rule_word ok.rule
        · exact k2
      | false =>
        refine ⟨by simp, by simp, fun x hx => ?_⟩
        simp only [Bool.false_eq_true, if_false, List.cons_append, List.nil_append, List.mem_cons, List.not_mem_nil, or_false] at hx
        rcases hx with rfl | rfl | rfl
        · exact k1
        · exact lab_word ok.nm
        · exact rule_word ok.rule
    · obtain ⟨o, ho, rfl⟩ := List.mem_map.mp hr
      refine ⟨by simp, by simp, fun x hx => ?_⟩
      simp only [List.mem_cons, List.not_mem_nil, or_false] at hx
      rcases hx with rfl | rfl | rfl
      · exact k3
      · exact lab_word ok.nm
      · exact lab_word (ok.takes _ ho)
  · unfold wH
    refine ⟨by simp, by simp, fun x hx => ?_⟩
    simp only [List.mem_cons, List.not_mem_nil, or_false] at hx
    rcases hx with rfl | rfl | rfl
    · exact k4
    · exact lab_word (g.hook _ hh).1
    · exact lab_word (g.hook _ hh).2
  · unfold wE
    refine ⟨by simp, by simp, fun x hx => ?_⟩
    simp only [List.mem_cons, List.not_mem_nil, or_false] at hx
    rcases hx with rfl | rfl
    · exact k5
    · exact lab_word (g.fe _ hn)
  · unfold wR
    refine ⟨by simp, by simp, fun x hx => ?_⟩
    simp only [List.mem_cons, List.not_mem_nil, or_false] at hx
    rcases hx with rfl | rfl
    · exact k6
    · exact lab_word (g.fr _ hn)
theorem flat_len : ∀ (ts : List To), (∀ t ∈ ts, ToOk t) → (ts.flatMap wT).length ≤ ts.length * 11
  | [], _ => by simp
  | t :: ts, h => by
    rw [List.flatMap_cons, List.length_append, List.length_cons]
    have h1 := flat_len ts fun z hz => h z (List.mem_cons_of_mem _ hz)
    have h2 := (h t List.mem_cons_self).len
    have h3 : (wT t).length ≤ 11 := by
      unfold wT
      rw [List.length_cons, List.length_map]
      omega
    omega
theorem rows_len {s : SeT} (g : s.Good) : s.rows.length ≤ 230 := by
  have h1 := flat_len s.ts g.tool
  have h2 := g.lt
  have h3 := g.lh
  have h4 := g.le
  have h5 := g.lr
  have h6 : s.ts.length * 11 ≤ 10 * 11 := Nat.mul_le_mul_right 11 h2
  unfold SeT.rows
  simp only [List.length_append, List.length_map]
  omega
/-- the text, cut again -/
theorem split_row {r : List Str} (h : r ≠ []) (ho : ∀ x ∈ r, wordOk x) : Txt.split (lineOf r) SPC = r :=
  TL.split_join (y := SPC) (s := 32) (S := []) rfl (by decide +kernel) h fun p hp hc => by
    have := (ho p hp).2 32 hc
    omega
theorem joinL_mem {s c : Nat} {parts : List (List Nat)} (h : c ∈ TL.joinL [s] parts) : c = s ∨ ∃ p ∈ parts, c ∈ p := by
  induction parts with
  | nil => cases h
  | cons p r ih =>
    cases r with
    | nil => exact .inr ⟨p, List.mem_cons_self, h⟩
    | cons q r =>
      have h : c ∈ p ++ ([s] ++ TL.joinL [s] (q :: r)) := h
      rw [List.mem_append, List.mem_append, List.mem_singleton] at h
      rcases h with h | h | h
      · exact .inr ⟨p, List.mem_cons_self, h⟩
      · exact .inl h
      · rcases ih h with h | ⟨z, hz, h⟩
        · exact .inl h
        · exact .inr ⟨z, List.mem_cons_of_mem _ hz, h⟩
theorem line_cps {r : List Str} (ho : ∀ x ∈ r, wordOk x) : ∀ c ∈ TL.tl (lineOf r), c = 32 ∨ (97 ≤ c ∧ c ≤ 122) := by
  intro c hc
  unfold lineOf at hc
  rw [TL.join_eq, TL.tl_join] at hc
  rcases joinL_mem hc with h | ⟨p, hp, h⟩
  · exact .inl h
  · obtain ⟨x, hx, rfl⟩ := List.mem_map.mp hp
    exact .inr ((ho x hx).2 c h)
theorem rows_ne {s : SeT} (g : s.Good) : s.rows ≠ [] := by
  unfold SeT.rows
  cases h : s.ts with
  | nil => exact absurd h g.ne
  | cons t ts => simp [wT]
theorem split_text {s : SeT} (g : s.Good) : Txt.split s.text NLN = s.rows.map lineOf :=
  TL.split_join (y := NLN) (s := 10) (S := []) rfl (by decide +kernel) (by simpa using rows_ne g) fun p hp hc => by
    obtain ⟨r, hr, rfl⟩ := List.mem_map.mp hp
    have := line_cps (row_ok g r hr).2.2 10 hc
    omega
theorem line_len {r : List Str} (hn : r.length ≤ 4) (ho : ∀ x ∈ r, wordOk x) : (lineOf r).length ≤ 404 := by
  unfold lineOf
  rw [TL.join_eq]
  refine Nat.le_trans (StrLaws.join_length_le SPC r) ?_
  have q : ∀ r : List Str, (∀ x ∈ r, x.length ≤ 100) → (r.map (·.length)).sum ≤ r.length * 100 := by
    intro r
    induction r with
    | nil => intro _; simp
    | cons y ys ih =>
      intro h
      rw [List.map_cons, List.sum_cons, List.length_cons]
      have := h y List.mem_cons_self
      have := ih fun z hz => h z (List.mem_cons_of_mem _ hz)
      omega
  have h1 := q r fun x hx => (ho x hx).1
  have e : (SPC : Str).length = 1 := rfl
  rw [e]
  omega
theorem text_len {s : SeT} (g : s.Good) : s.text.length ≤ 100000 := by
  unfold SeT.text
  rw [TL.join_eq]
  refine Nat.le_trans (StrLaws.join_length_le NLN _) ?_
  have q : ∀ r : List Str, (∀ x ∈ r, x.length ≤ 404) → (r.map (·.length)).sum ≤ r.length * 404 := by
    intro r
    induction r with
    | nil => intro _; simp
    | cons y ys ih =>
      intro h
      rw [List.map_cons, List.sum_cons, List.length_cons]
      have := h y List.mem_cons_self
      have := ih fun z hz => h z (List.mem_cons_of_mem _ hz)
      omega
  have h1 := q (s.rows.map lineOf) fun x hx => by
    obtain ⟨r, hr, rfl⟩ := List.mem_map.mp hx
    exact line_len (row_ok g r hr).2.1 (row_ok g r hr).2.2
  have h2 := rows_len g
  have e : (NLN : Str).length = 1 := rfl
  rw [e]
  rw [List.length_map] at h1 ⊢
  have h3 : s.rows.length * 404 ≤ 230 * 404 := Nat.mul_le_mul_right 404 h2
  omega
theorem text_join {s : SeT} (g : s.Good) : joinOk NLN (s.rows.map lineOf) = true := by
  refine joinOk_of 404 (fun y hy => ?_) ?_
  · obtain ⟨r, hr, rfl⟩ := List.mem_map.mp hy
    exact line_len (row_ok g r hr).2.1 (row_ok g r hr).2.2
  · rw [List.length_map]
    have h2 := rows_len g
    have e : (NLN : Str).length = 1 := rfl
    rw [e]
    omega
/-! bodies of texts (written by a program) -/
/-- lines_of -/
def t_lines_of : List S := [(.asg 1 false (.lst [])),
    (.for (.tup [2, 3, 4, 5]) .seq [(.idx (.var 0) (.const (.int 0)))] [(.asg 1 false (.bin .add (.var 1) (.lst [(.meth .join (.const (.str ⟨#[32]⟩)) [(.bin .add (.lst [(.const (.str ⟨#[116, 111, 111, 108]⟩)), (.var 2), (.var 3)]) (.rep (.lst [(.const (.str ⟨#[97, 115, 107, 115]⟩))]) (.blt .int [(.var 5)])))])]))),
    (.asg 1 false (.bin .add (.var 1) (.comp (.meth .join (.const (.str ⟨#[32]⟩)) [(.lst [(.const (.str ⟨#[116, 97, 107, 101, 115]⟩)), (.var 2), (.var 6)])]) (.one 6) .seq [(.var 4)] [])))]),
    (.asg 1 false (.bin .add (.var 1) (.comp (.meth .join (.const (.str ⟨#[32]⟩)) [(.lst [(.const (.str ⟨#[104, 111, 111, 107]⟩)), (.var 7), (.var 6)])]) (.tup [7, 6]) .seq [(.idx (.var 0) (.const (.int 1)))] []))),
    (.asg 1 false (.bin .add (.var 1) (.comp (.meth .join (.const (.str ⟨#[32]⟩)) [(.lst [(.const (.str ⟨#[102, 101, 101, 100, 115]⟩)), (.var 2)])]) (.one 2) .seq [(.idx (.idx (.var 0) (.const (.int 2))) (.const (.int 0)))] []))),
    (.ret (.bin .add (.var 1) (.comp (.meth .join (.const (.str ⟨#[32]⟩)) [(.lst [(.const (.str ⟨#[102, 114, 101, 101, 115]⟩)), (.var 2)])]) (.one 2) .seq [(.idx (.idx (.var 0) (.const (.int 2))) (.const (.int 1)))] [])))]
/-- setup_text -/
def t_setup_text (ineed_setup : Nat) (ilines_of : Nat) : List S := [(.expr (.call ineed_setup [(.var 0)])),
    (.ret (.meth .join (.const (.str ⟨#[10]⟩)) [(.call ilines_of [(.var 0)])]))]
/-- is_line -/
def t_is_line (iis_label : Nat) : List S := [(.ife (.cmp .eq (.idx (.var 0) (.const (.int 0))) (.const (.str ⟨#[116, 111, 111, 108]⟩))) [(.ret (.and (.cmp .in_ (.blt .len [(.var 0)]) (.tup [(.const (.int 3)), (.const (.int 4))])) (.and (.call iis_label [(.idx (.var 0) (.const (.int 1)))]) (.and (.cmp .in_ (.idx (.var 0) (.const (.int 2))) (.const (.tuple [(.str ⟨#[97, 108, 108]⟩), (.str ⟨#[110, 101, 119]⟩), (.str ⟨#[110, 111]⟩), (.str ⟨#[121, 101, 115]⟩)]))) (.cmp .in_ (.slc (.var 0) (.const (.int 3)) (.const .none)) (.tup [(.lst []), (.lst [(.const (.str ⟨#[97, 115, 107, 115]⟩))])]))))))] []),
    (.asg 1 false (.get2 (.dic [(.const (.str ⟨#[116, 97, 107, 101, 115]⟩)), (.const (.int 3)), (.const (.str ⟨#[104, 111, 111, 107]⟩)), (.const (.int 3)), (.const (.str ⟨#[102, 101, 101, 100, 115]⟩)), (.const (.int 2)), (.const (.str ⟨#[102, 114, 101, 101, 115]⟩)), (.const (.int 2))]) (.idx (.var 0) (.const (.int 0))) (.const (.int 0)))),
    (.ret (.and (.cmp .eq (.blt .len [(.var 0)]) (.var 1)) (.blt .all [(.comp (.call iis_label [(.var 2)]) (.one 2) .seq [(.slc (.var 0) (.const (.int 1)) (.const .none))] [])])))]
/-- setup_in -/
def t_setup_in : List S := [(.par [2, 3] [(false, (.tup [])), (false, (.blt .tuple [(.comp (.tup [(.idx (.var 1) (.const (.int 1))), (.idx (.var 1) (.const (.int 2)))]) (.one 1) .seq [(.var 0)] [(.cmp .eq (.idx (.var 1) (.const (.int 0))) (.const (.str ⟨#[104, 111, 111, 107]⟩)))])]))]),
    (.for (.one 1) .seq [(.var 0)] [(.ife (.cmp .eq (.idx (.var 1) (.const (.int 0))) (.const (.str ⟨#[116, 111, 111, 108]⟩))) [(.asg 4 false (.blt .tuple [(.comp (.idx (.var 6) (.const (.int 2))) (.one 6) .seq [(.var 0)] [(.and (.cmp .eq (.idx (.var 6) (.const (.int 0))) (.const (.str ⟨#[116, 97, 107, 101, 115]⟩))) (.cmp .eq (.idx (.var 6) (.const (.int 1))) (.idx (.var 1) (.const (.int 1)))))])])),
    (.asg 2 false (.bin .add (.var 2) (.tup [(.tup [(.idx (.var 1) (.const (.int 1))), (.idx (.var 1) (.const (.int 2))), (.var 4), (.cmp .eq (.blt .len [(.var 1)]) (.const (.int 4)))])])))] [])]),
    (.asg 5 false (.blt .tuple [(.comp (.idx (.var 1) (.const (.int 1))) (.one 1) .seq [(.var 0)] [(.cmp .eq (.idx (.var 1) (.const (.int 0))) (.const (.str ⟨#[102, 101, 101, 100, 115]⟩)))])])),
    (.ret (.tup [(.var 2), (.var 3), (.tup [(.var 5), (.blt .tuple [(.comp (.idx (.var 1) (.const (.int 1))) (.one 1) .seq [(.var 0)] [(.cmp .eq (.idx (.var 1) (.const (.int 0))) (.const (.str ⟨#[102, 114, 101, 101, 115]⟩)))])])])]))]
/-- _law_rows_of -/
def t_law_rows_of : List S := [(.ret (.comp (.bin .add (.bin .add (.var 0) (.const (.str ⟨#[32]⟩))) (.var 2)) (.one 2) .seq [(.var 1)] []))]
/-- _law_text -/
def t_law_text (i_law_rows_of : Nat) : List S := [(.asg 1 true (.lst [])),
    (.for (.tup [2, 3, 4, 5]) .seq [(.idx (.var 0) (.const (.int 0)))] [(.expr (.meth .append (.var 1) [(.bin .add (.bin .add (.bin .add (.bin .add (.const (.str ⟨#[116, 111, 111, 108, 32]⟩)) (.var 2)) (.const (.str ⟨#[32]⟩))) (.var 3)) (.ife (.var 5) (.const (.str ⟨#[32, 97, 115, 107, 115]⟩)) (.const (.str ⟨#[]⟩))))])),
    (.asg 1 true (.bin .add (.var 1) (.call i_law_rows_of [(.bin .add (.const (.str ⟨#[116, 97, 107, 101, 115, 32]⟩)) (.var 2)), (.var 4)])))]),
    (.for (.tup [6, 7]) .seq [(.idx (.var 0) (.const (.int 1)))] [(.asg 1 true (.bin .add (.var 1) (.call i_law_rows_of [(.bin .add (.const (.str ⟨#[104, 111, 111, 107, 32]⟩)) (.var 6)), (.tup [(.var 7)])])))]),
    (.ret (.meth .join (.const (.str ⟨#[10]⟩)) [(.bin .add (.bin .add (.var 1) (.call i_law_rows_of [(.const (.str ⟨#[102, 101, 101, 100, 115]⟩)), (.idx (.idx (.var 0) (.const (.int 2))) (.const (.int 0)))])) (.call i_law_rows_of [(.const (.str ⟨#[102, 114, 101, 101, 115]⟩)), (.idx (.idx (.var 0) (.const (.int 2))) (.const (.int 1)))]))]))]
section
variable {Φ : Nat → List D → Sto → R Rv} {st : Sto}
theorem tk_ev {env : Ev} {es : List X} {a b c : Str} (h : ∀ st, evDs Φ env es st = .ok [.py (.str a), .py (.str b), .py (.str c)] st) (ha : a.length ≤ 100) (hb : b.length ≤ 100) (hc : c.length ≤ 100) : evE Φ env (.meth .join (.const (.str ⟨#[32]⟩)) [.lst es]) st = ok1 (lineP [a, b, c]) st := by
  simp only [e_meth, e_const, x_bind, fz_imp, mty_join, ck_true, evDs, e_lst, h, ok_bind, tp_nil, tp_cons, Option.map_some, List.length_cons, List.length_nil, Nat.reduceAdd, Nat.zero_add, SZ, sizeLine_eq, Nat.reduceLeDiff, decide_true, eq_self, fz_nl, m_join, so_nil, so_cons, j3_ok ha hb hc]
  rfl
theorem tk_ev2 {env : Ev} {es : List X} {a b : Str} (h : ∀ st, evDs Φ env es st = .ok [.py (.str a), .py (.str b)] st) (ha : a.length ≤ 100) (hb : b.length ≤ 100) : evE Φ env (.meth .join (.const (.str ⟨#[32]⟩)) [.lst es]) st = ok1 (lineP [a, b]) st := by
  simp only [e_meth, e_const, x_bind, fz_imp, mty_join, ck_true, evDs, e_lst, h, ok_bind, tp_nil, tp_cons, Option.map_some, List.length_cons, List.length_nil, Nat.reduceAdd, Nat.zero_add, SZ, sizeLine_eq, Nat.reduceLeDiff, decide_true, eq_self, fz_nl, m_join, so_nil, so_cons, j2_ok ha hb]
  rfl
theorem szl {n : Nat} (h : n ≤ 1000000) : decide (n ≤ SZ) = true := decide_eq_true (Nat.le_trans h (by decide))
/-- one tool's lines -/
def lnLoop : List S := [(.asg 1 false (.bin .add (.var 1) (.lst [(.meth .join (.const (.str ⟨#[32]⟩)) [(.bin .add (.lst [(.const (.str ⟨#[116, 111, 111, 108]⟩)), (.var 2), (.var 3)]) (.rep (.lst [(.const (.str ⟨#[97, 115, 107, 115]⟩))]) (.blt .int [(.var 5)])))])]))),
    (.asg 1 false (.bin .add (.var 1) (.comp (.meth .join (.const (.str ⟨#[32]⟩)) [(.lst [(.const (.str ⟨#[116, 97, 107, 101, 115]⟩)), (.var 2), (.var 6)])]) (.one 6) .seq [(.var 4)] [])))]
theorem turn_lines {t : To} (ok : ToOk t) {xs : List P} {v e2 e3 e4 e5 e6 e7 : Option D} (hl : xs.length ≤ 1000) :
    turnF Φ (.tup [2, 3, 4, 5]) lnLoop (encT t) [v, some (.py (.list xs)), e2, e3, e4, e5, e6, e7] st =
      .nx [v, some (.py (.list (xs ++ (wT t).map lineP))), some (.py (.str t.1)), some (.py (.str t.2.1)), some (.py (.tuple (t.2.2.1.map .str))), some (.py (.bool t.2.2.2)), e6, e7] st := by
  obtain ⟨n, r, tk, a⟩ := t
  have k1 : w_tool.length ≤ 100 ∧ w_asks.length ≤ 100 ∧ w_takes.length ≤ 100 := by decide
  obtain ⟨k1, k2, k3⟩ := k1
  have a1 := lab100 ok.nm
  have a2 := rule100 ok.rule
  have hrep : ∀ st, evE Φ [v, some (.py (.list xs)), some (.py (.str n)), some (.py (.str r)), some (.py (.tuple (tk.map .str))), some (.py (.bool a)), e6, e7] (.rep (.lst [(.const (.str ⟨#[97, 115, 107, 115]⟩))]) (.blt .int [(.var 5)])) st = .ok (.nl (if a then [.str w_asks] else [])) st := fun st => by
    have q := rep_ev (Φ := Φ) (env := [v, some (.py (.list xs)), some (.py (.str n)), some (.py (.str r)), some (.py (.tuple (tk.map .str))), some (.py (.bool a)), e6, e7]) (st := st) (a := .lst [(.const (.str ⟨#[97, 115, 107, 115]⟩))]) (b := .blt .int [(.var 5)]) (xs := [.str w_asks]) (k := if a then 1 else 0) (by simp only [v_nil, v_cons, v_for, v_asg, v_par, v_unp, v_setI, v_expr, v_ret, v_ife, v_pass, e_var, e_const, e_tup, e_lst, e_bin, e_negc, e_not, e_and, e_or, e_cmp, e_chain, e_ife, e_idx, e_slc, e_call, e_isi, e_blt, evDs, evPar, evAnd, x_bind, x_then, ok_bind, ok_then, nx_then, rt_then, np_imp, np_nl, np_py, ni_imp, ni_py, ni_nl, nb_imp, nb_py, no_none, no_int, no_intp, fz_imp, fz_im, fz_nl, im_py, im_imp, ok_imp, dm_nil, dm_one, dm_two, dr_py, tp_nil, tp_cons, ck_true, fin_rt, fin_nx, tr_imp, tr_nl, st_im, st_imp, st_nl, st_nlt, un_imp, b_len, b_all, b_any, b_max, b_min, b_int, b_intb, b_ll, b_lt, b_tl, b_tt, len_l, len_t, it_sl, it_st, it_ss, ty_str, ty_tup, c_le, c_ge, c_lt, c_gt, c_eqi, c_nei, c_eqs, c_nes, c_eqb, c_isb, c_isnb, o_add, o_sub, idx_t, idx_l, at0, at1, at2, at3, Bool.not_true, Bool.not_false, Bool.true_and, Bool.false_and, tgSlots, wipeE, bindT, List.getElem?_cons_zero, List.getElem?_cons_succ, List.set_cons_zero, List.set_cons_succ, Option.map_some, if_true, Bool.false_eq_true, if_false, List.length_cons, List.length_nil, Nat.reduceAdd, Nat.zero_add, SZ, sizeLine_eq, Nat.reduceLeDiff, decide_true, eq_self]) (fun st => by simp only [v_nil, v_cons, v_for, v_asg, v_par, v_unp, v_setI, v_expr, v_ret, v_ife, v_pass, e_var, e_const, e_tup, e_lst, e_bin, e_negc, e_not, e_and, e_or, e_cmp, e_chain, e_ife, e_idx, e_slc, e_call, e_isi, e_blt, evDs, evPar, evAnd, x_bind, x_then, ok_bind, ok_then, nx_then, rt_then, np_imp, np_nl, np_py, ni_imp, ni_py, ni_nl, nb_imp, nb_py, no_none, no_int, no_intp, fz_imp, fz_im, fz_nl, im_py, im_imp, ok_imp, dm_nil, dm_one, dm_two, dr_py, tp_nil, tp_cons, ck_true, fin_rt, fin_nx, tr_imp, tr_nl, st_im, st_imp, st_nl, st_nlt, un_imp, b_len, b_all, b_any, b_max, b_min, b_int, b_intb, b_ll, b_lt, b_tl, b_tt, len_l, len_t, it_sl, it_st, it_ss, ty_str, ty_tup, c_le, c_ge, c_lt, c_gt, c_eqi, c_nei, c_eqs, c_nes, c_eqb, c_isb, c_isnb, o_add, o_sub, idx_t, idx_l, at0, at1, at2, at3, Bool.not_true, Bool.not_false, Bool.true_and, Bool.false_and, tgSlots, wipeE, bindT, List.getElem?_cons_zero, List.getElem?_cons_succ, List.set_cons_zero, List.set_cons_succ, Option.map_some, if_true, Bool.false_eq_true, if_false]; cases a <;> rfl) (by split <;> omega) (by simp)
    rw [q]
    cases a <;> rfl
  have hj : joinOk SPC (wTool (n, r, tk, a)) = true := by
    unfold wTool
    cases a with
    | true => exact j4_ok k1 a1 a2 k2
    | false => exact j3_ok k1 a1 a2
  have hso : strsOf ([PyData.str w_tool, .str n, .str r] ++ (if a then [PyData.str w_asks] else [])) = some (wTool (n, r, tk, a)) := by cases a <;> rfl
  have hlb : [PyData.str w_tool, .str n, .str r].length + (if a then [PyData.str w_asks] else []).length ≤ SZ := by
    refine Nat.le_trans (m := 4) ?_ (by decide)
    cases a <;> simp
  have hc : ∀ st e1, evE Φ [v, e1, some (.py (.str n)), some (.py (.str r)), some (.py (.tuple (tk.map .str))), some (.py (.bool a)), e6, e7]
      (.comp (.meth .join (.const (.str ⟨#[32]⟩)) [(.lst [(.const (.str ⟨#[116, 97, 107, 101, 115]⟩)), (.var 2), (.var 6)])]) (.one 6) .seq [(.var 4)] []) st = .ok (.nl (tk.map fun o => lineP [w_takes, n, o])) st := fun st e1 => by
    refine comp_mapB (fun o => .str o) (fun o => lineP [w_takes, n, o]) tk (ds := [.py (.tuple (tk.map .str))]) (by simp only [v_nil, v_cons, v_for, v_asg, v_par, v_unp, v_setI, v_expr, v_ret, v_ife, v_pass, e_var, e_const, e_tup, e_lst, e_bin, e_negc, e_not, e_and, e_or, e_cmp, e_chain, e_ife, e_idx, e_slc, e_call, e_isi, e_blt, evDs, evPar, evAnd, x_bind, x_then, ok_bind, ok_then, nx_then, rt_then, np_imp, np_nl, np_py, ni_imp, ni_py, ni_nl, nb_imp, nb_py, no_none, no_int, no_intp, fz_imp, fz_im, fz_nl, im_py, im_imp, ok_imp, dm_nil, dm_one, dm_two, dr_py, tp_nil, tp_cons, ck_true, fin_rt, fin_nx, tr_imp, tr_nl, st_im, st_imp, st_nl, st_nlt, un_imp, b_len, b_all, b_any, b_max, b_min, b_int, b_intb, b_ll, b_lt, b_tl, b_tt, len_l, len_t, it_sl, it_st, it_ss, ty_str, ty_tup, c_le, c_ge, c_lt, c_gt, c_eqi, c_nei, c_eqs, c_nes, c_eqb, c_isb, c_isnb, o_add, o_sub, idx_t, idx_l, at0, at1, at2, at3, Bool.not_true, Bool.not_false, Bool.true_and, Bool.false_and, tgSlots, wipeE, bindT, List.getElem?_cons_zero, List.getElem?_cons_succ, List.set_cons_zero, List.set_cons_succ, Option.map_some, if_true, Bool.false_eq_true, if_false]) (by simp only [v_nil, v_cons, v_for, v_asg, v_par, v_unp, v_setI, v_expr, v_ret, v_ife, v_pass, e_var, e_const, e_tup, e_lst, e_bin, e_negc, e_not, e_and, e_or, e_cmp, e_chain, e_ife, e_idx, e_slc, e_call, e_isi, e_blt, evDs, evPar, evAnd, x_bind, x_then, ok_bind, ok_then, nx_then, rt_then, np_imp, np_nl, np_py, ni_imp, ni_py, ni_nl, nb_imp, nb_py, no_none, no_int, no_intp, fz_imp, fz_im, fz_nl, im_py, im_imp, ok_imp, dm_nil, dm_one, dm_two, dr_py, tp_nil, tp_cons, ck_true, fin_rt, fin_nx, tr_imp, tr_nl, st_im, st_imp, st_nl, st_nlt, un_imp, b_len, b_all, b_any, b_max, b_min, b_int, b_intb, b_ll, b_lt, b_tl, b_tt, len_l, len_t, it_sl, it_st, it_ss, ty_str, ty_tup, c_le, c_ge, c_lt, c_gt, c_eqi, c_nei, c_eqs, c_nes, c_eqb, c_isb, c_isnb, o_add, o_sub, idx_t, idx_l, at0, at1, at2, at3, Bool.not_true, Bool.not_false, Bool.true_and, Bool.false_and, tgSlots, wipeE, bindT, List.getElem?_cons_zero, List.getElem?_cons_succ, List.set_cons_zero, List.set_cons_succ, Option.map_some, if_true, Bool.false_eq_true, if_false]) (fun o ho st => ?_) (Nat.le_trans ok.len (by decide))
    refine turn_elt (env1 := [v, e1, some (.py (.str n)), some (.py (.str r)), some (.py (.tuple (tk.map .str))), some (.py (.bool a)), some (.py (.str o)), e7]) (by simp only [v_nil, v_cons, v_for, v_asg, v_par, v_unp, v_setI, v_expr, v_ret, v_ife, v_pass, e_var, e_const, e_tup, e_lst, e_bin, e_negc, e_not, e_and, e_or, e_cmp, e_chain, e_ife, e_idx, e_slc, e_call, e_isi, e_blt, evDs, evPar, evAnd, x_bind, x_then, ok_bind, ok_then, nx_then, rt_then, np_imp, np_nl, np_py, ni_imp, ni_py, ni_nl, nb_imp, nb_py, no_none, no_int, no_intp, fz_imp, fz_im, fz_nl, im_py, im_imp, ok_imp, dm_nil, dm_one, dm_two, dr_py, tp_nil, tp_cons, ck_true, fin_rt, fin_nx, tr_imp, tr_nl, st_im, st_imp, st_nl, st_nlt, un_imp, b_len, b_all, b_any, b_max, b_min, b_int, b_intb, b_ll, b_lt, b_tl, b_tt, len_l, len_t, it_sl, it_st, it_ss, ty_str, ty_tup, c_le, c_ge, c_lt, c_gt, c_eqi, c_nei, c_eqs, c_nes, c_eqb, c_isb, c_isnb, o_add, o_sub, idx_t, idx_l, at0, at1, at2, at3, Bool.not_true, Bool.not_false, Bool.true_and, Bool.false_and, tgSlots, wipeE, bindT, List.getElem?_cons_zero, List.getElem?_cons_succ, List.set_cons_zero, List.set_cons_succ, Option.map_some, if_true, Bool.false_eq_true, if_false]) ?_
    exact tk_ev (fun st => by simp only [v_nil, v_cons, v_for, v_asg, v_par, v_unp, v_setI, v_expr, v_ret, v_ife, v_pass, e_var, e_const, e_tup, e_lst, e_bin, e_negc, e_not, e_and, e_or, e_cmp, e_chain, e_ife, e_idx, e_slc, e_call, e_isi, e_blt, evDs, evPar, evAnd, x_bind, x_then, ok_bind, ok_then, nx_then, rt_then, np_imp, np_nl, np_py, ni_imp, ni_py, ni_nl, nb_imp, nb_py, no_none, no_int, no_intp, fz_imp, fz_im, fz_nl, im_py, im_imp, ok_imp, dm_nil, dm_one, dm_two, dr_py, tp_nil, tp_cons, ck_true, fin_rt, fin_nx, tr_imp, tr_nl, st_im, st_imp, st_nl, st_nlt, un_imp, b_len, b_all, b_any, b_max, b_min, b_int, b_intb, b_ll, b_lt, b_tl, b_tt, len_l, len_t, it_sl, it_st, it_ss, ty_str, ty_tup, c_le, c_ge, c_lt, c_gt, c_eqi, c_nei, c_eqs, c_nes, c_eqb, c_isb, c_isnb, o_add, o_sub, idx_t, idx_l, at0, at1, at2, at3, Bool.not_true, Bool.not_false, Bool.true_and, Bool.false_and, tgSlots, wipeE, bindT, List.getElem?_cons_zero, List.getElem?_cons_succ, List.set_cons_zero, List.set_cons_succ, Option.map_some, if_true, Bool.false_eq_true, if_false]) k3 a1 (lab100 (ok.takes o ho))
  have eb : bindT (.tup [2, 3, 4, 5]) [v, some (.py (.list xs)), e2, e3, e4, e5, e6, e7] (.tuple [.str n, .str r, .tuple (tk.map .str), .bool a]) = some [v, some (.py (.list xs)), some (.py (.str n)), some (.py (.str r)), some (.py (.tuple (tk.map .str))), some (.py (.bool a)), e6, e7] := rfl
  have tl3 : ∀ st, evE Φ [v, some (.py (.list xs)), some (.py (.str n)), some (.py (.str r)), some (.py (.tuple (tk.map .str))), some (.py (.bool a)), e6, e7] (.lst [(.const (.str ⟨#[116, 111, 111, 108]⟩)), (.var 2), (.var 3)]) st = .ok (.nl [.str w_tool, .str n, .str r]) st := fun st => by simp only [v_nil, v_cons, v_for, v_asg, v_par, v_unp, v_setI, v_expr, v_ret, v_ife, v_pass, e_var, e_const, e_tup, e_lst, e_bin, e_negc, e_not, e_and, e_or, e_cmp, e_chain, e_ife, e_idx, e_slc, e_call, e_isi, e_blt, evDs, evPar, evAnd, x_bind, x_then, ok_bind, ok_then, nx_then, rt_then, np_imp, np_nl, np_py, ni_imp, ni_py, ni_nl, nb_imp, nb_py, no_none, no_int, no_intp, fz_imp, fz_im, fz_nl, im_py, im_imp, ok_imp, dm_nil, dm_one, dm_two, dr_py, tp_nil, tp_cons, ck_true, fin_rt, fin_nx, tr_imp, tr_nl, st_im, st_imp, st_nl, st_nlt, un_imp, b_len, b_all, b_any, b_max, b_min, b_int, b_intb, b_ll, b_lt, b_tl, b_tt, len_l, len_t, it_sl, it_st, it_ss, ty_str, ty_tup, c_le, c_ge, c_lt, c_gt, c_eqi, c_nei, c_eqs, c_nes, c_eqb, c_isb, c_isnb, o_add, o_sub, idx_t, idx_l, at0, at1, at2, at3, Bool.not_true, Bool.not_false, Bool.true_and, Bool.false_and, tgSlots, wipeE, bindT, List.getElem?_cons_zero, List.getElem?_cons_succ, List.set_cons_zero, List.set_cons_succ, Option.map_some, if_true, Bool.false_eq_true, if_false, List.length_cons, List.length_nil, Nat.reduceAdd, Nat.zero_add, SZ, sizeLine_eq, Nat.reduceLeDiff, decide_true, eq_self]
  have hm : ∀ st, evE Φ [v, some (.py (.list xs)), some (.py (.str n)), some (.py (.str r)), some (.py (.tuple (tk.map .str))), some (.py (.bool a)), e6, e7] (.meth .join (.const (.str ⟨#[32]⟩)) [(.bin .add (.lst [(.const (.str ⟨#[116, 111, 111, 108]⟩)), (.var 2), (.var 3)]) (.rep (.lst [(.const (.str ⟨#[97, 115, 107, 115]⟩))]) (.blt .int [(.var 5)])))]) st = ok1 (lineP (wTool (n, r, tk, a))) st := fun st => by
    simp only [e_meth, e_const, x_bind, fz_imp, mty_join, ck_true, evDs, e_bin, tl3, hrep, ok_bind, np_nl]
    rw [o_lst _ _ _ hlb]
    simp only [ok_bind, fz_nl, m_join, hso, hj, ck_true]
    rfl
  unfold turnF lnLoop
  show (match bindT (.tup [2, 3, 4, 5]) [v, some (.py (.list xs)), e2, e3, e4, e5, e6, e7] (.tuple [.str n, .str r, .tuple (tk.map .str), .bool a]) with
      | some env2 => evSs Φ _ env2 st
      | none => .bad) = _
  rw [eb]
  have s1 : ∀ st, binop .add (.list xs) (.list [lineP (wTool (n, r, tk, a))]) st = .ok (.nl (xs ++ [lineP (wTool (n, r, tk, a))])) st := fun st => o_lst _ _ _ (Nat.le_trans (show xs.length + 1 ≤ 1001 by omega) (by decide))
  have s2 : ∀ st, binop .add (.list (xs ++ [lineP (wTool (n, r, tk, a))])) (.list (tk.map fun o => lineP [w_takes, n, o])) st = .ok (.nl (xs ++ [lineP (wTool (n, r, tk, a))] ++ tk.map fun o => lineP [w_takes, n, o])) st := fun st => o_lst _ _ _ (by
    have := ok.len
    rw [List.length_append, List.length_singleton, List.length_map]
    exact Nat.le_trans (show xs.length + 1 + tk.length ≤ 1011 by have : tk.length ≤ 10 := ok.len; omega) (by decide))
  have e0 : (wT (n, r, tk, a)).map lineP = lineP (wTool (n, r, tk, a)) :: tk.map fun o => lineP [w_takes, n, o] := by
    unfold wT
    rw [List.map_cons, List.map_map]; rfl
  simp only [v_nil, v_cons, v_for, v_asg, v_par, v_unp, v_setI, v_expr, v_ret, v_ife, v_pass, e_var, e_const, e_tup, e_lst, e_bin, e_negc, e_not, e_and, e_or, e_cmp, e_chain, e_ife, e_idx, e_slc, e_call, e_isi, e_blt, evDs, evPar, evAnd, x_bind, x_then, ok_bind, ok_then, nx_then, rt_then, np_imp, np_nl, np_py, ni_imp, ni_py, ni_nl, nb_imp, nb_py, no_none, no_int, no_intp, fz_imp, fz_im, fz_nl, im_py, im_imp, ok_imp, dm_nil, dm_one, dm_two, dr_py, tp_nil, tp_cons, ck_true, fin_rt, fin_nx, tr_imp, tr_nl, st_im, st_imp, st_nl, st_nlt, un_imp, b_len, b_all, b_any, b_max, b_min, b_int, b_intb, b_ll, b_lt, b_tl, b_tt, len_l, len_t, it_sl, it_st, it_ss, ty_str, ty_tup, c_le, c_ge, c_lt, c_gt, c_eqi, c_nei, c_eqs, c_nes, c_eqb, c_isb, c_isnb, o_add, o_sub, idx_t, idx_l, at0, at1, at2, at3, Bool.not_true, Bool.not_false, Bool.true_and, Bool.false_and, tgSlots, wipeE, bindT, List.getElem?_cons_zero, List.getElem?_cons_succ, List.set_cons_zero, List.set_cons_succ, Option.map_some, if_true, Bool.false_eq_true, if_false, hm, List.length_cons, List.length_nil, Nat.reduceAdd, Nat.zero_add, SZ, sizeLine_eq, Nat.reduceLeDiff, decide_true, eq_self, s1, hc, s2, List.append_assoc, List.cons_append, List.nil_append, e0]
theorem sem_lines {s : SeT} (g : s.Good) : fin st.length (evSs Φ t_lines_of [some (.py s.enc), none, none, none, none, none, none, none] st) = .ok (.nl (s.rows.map lineP)) st := by
  have k1 : w_hook.length ≤ 100 ∧ w_feeds.length ≤ 100 ∧ w_frees.length ≤ 100 := by decide
  obtain ⟨k1, k2, k3⟩ := k1
  obtain ⟨env', st', e, ⟨e2, e3, e4, e5, e6, e7, rfl⟩, rfl⟩ := forL_st (f := turnF Φ (.tup [2, 3, 4, 5]) lnLoop) encT (Inv := fun done env st' => (∃ e2 e3 e4 e5 e6 e7, env = [some (.py s.enc), some (.py (.list ((done.flatMap wT).map lineP))), e2, e3, e4, e5, e6, e7]) ∧ st' = st) (all := s.ts) (fun done t rest env st1 hall h => by
    obtain ⟨⟨e2, e3, e4, e5, e6, e7, rfl⟩, rfl⟩ := h
    have hfl : (done.flatMap wT).length ≤ 110 := by
      refine Nat.le_trans (flat_len _ fun z hz => g.tool z (by rw [hall]; exact List.mem_append_left _ hz)) ?_
      have h1 := g.lt
      have h2 : s.ts.length = done.length + (rest.length + 1) := by rw [hall, List.length_append, List.length_cons]
      omega
    have ee : ((done ++ [t]).flatMap wT).map lineP = (done.flatMap wT).map lineP ++ (wT t).map lineP := by
      rw [List.flatMap_append, List.map_append]
      simp only [List.flatMap_cons, List.flatMap_nil, List.append_nil]
    refine ⟨_, _, turn_lines (g.tool t (by rw [hall]; simp)) (by rw [List.length_map]; omega), ⟨some (.py (.str t.1)), some (.py (.str t.2.1)), some (.py (.tuple (t.2.2.1.map .str))), some (.py (.bool t.2.2.2)), e6, e7, ?_⟩, rfl⟩
    rw [ee]) s.ts [] [some (.py s.enc), some (.py (.list [])), none, none, none, none, none, none] st rfl ⟨⟨_, _, _, _, _, _, rfl⟩, rfl⟩
  have hH : ∀ st e1, evE Φ [some (.py s.enc), e1, e2, e3, e4, e5, e6, e7] (.comp (.meth .join (.const (.str ⟨#[32]⟩)) [(.lst [(.const (.str ⟨#[104, 111, 111, 107]⟩)), (.var 7), (.var 6)])]) (.tup [7, 6]) .seq [(.idx (.var 0) (.const (.int 1)))] []) st = .ok (.nl (s.hs.map fun h => lineP (wH h))) st := fun st e1 => by
    refine comp_mapB encH (fun h => lineP (wH h)) s.hs (ds := [.py (.tuple (s.hs.map encH))]) (by simp only [v_nil, v_cons, v_for, v_asg, v_par, v_unp, v_setI, v_expr, v_ret, v_ife, v_pass, e_var, e_const, e_tup, e_lst, e_bin, e_negc, e_not, e_and, e_or, e_cmp, e_chain, e_ife, e_idx, e_slc, e_call, e_isi, e_blt, evDs, evPar, evAnd, x_bind, x_then, ok_bind, ok_then, nx_then, rt_then, np_imp, np_nl, np_py, ni_imp, ni_py, ni_nl, nb_imp, nb_py, no_none, no_int, no_intp, fz_imp, fz_im, fz_nl, im_py, im_imp, ok_imp, dm_nil, dm_one, dm_two, dr_py, tp_nil, tp_cons, ck_true, fin_rt, fin_nx, tr_imp, tr_nl, st_im, st_imp, st_nl, st_nlt, un_imp, b_len, b_all, b_any, b_max, b_min, b_int, b_intb, b_ll, b_lt, b_tl, b_tt, len_l, len_t, it_sl, it_st, it_ss, ty_str, ty_tup, c_le, c_ge, c_lt, c_gt, c_eqi, c_nei, c_eqs, c_nes, c_eqb, c_isb, c_isnb, o_add, o_sub, idx_t, idx_l, at0, at1, at2, at3, Bool.not_true, Bool.not_false, Bool.true_and, Bool.false_and, tgSlots, wipeE, bindT, List.getElem?_cons_zero, List.getElem?_cons_succ, List.set_cons_zero, List.set_cons_succ, Option.map_some, if_true, Bool.false_eq_true, if_false, SeT.enc]) (by simp only [v_nil, v_cons, v_for, v_asg, v_par, v_unp, v_setI, v_expr, v_ret, v_ife, v_pass, e_var, e_const, e_tup, e_lst, e_bin, e_negc, e_not, e_and, e_or, e_cmp, e_chain, e_ife, e_idx, e_slc, e_call, e_isi, e_blt, evDs, evPar, evAnd, x_bind, x_then, ok_bind, ok_then, nx_then, rt_then, np_imp, np_nl, np_py, ni_imp, ni_py, ni_nl, nb_imp, nb_py, no_none, no_int, no_intp, fz_imp, fz_im, fz_nl, im_py, im_imp, ok_imp, dm_nil, dm_one, dm_two, dr_py, tp_nil, tp_cons, ck_true, fin_rt, fin_nx, tr_imp, tr_nl, st_im, st_imp, st_nl, st_nlt, un_imp, b_len, b_all, b_any, b_max, b_min, b_int, b_intb, b_ll, b_lt, b_tl, b_tt, len_l, len_t, it_sl, it_st, it_ss, ty_str, ty_tup, c_le, c_ge, c_lt, c_gt, c_eqi, c_nei, c_eqs, c_nes, c_eqb, c_isb, c_isnb, o_add, o_sub, idx_t, idx_l, at0, at1, at2, at3, Bool.not_true, Bool.not_false, Bool.true_and, Bool.false_and, tgSlots, wipeE, bindT, List.getElem?_cons_zero, List.getElem?_cons_succ, List.set_cons_zero, List.set_cons_succ, Option.map_some, if_true, Bool.false_eq_true, if_false]) (fun h hh st => ?_) (Nat.le_trans g.lh (by decide))
    refine turn_elt (env1 := [some (.py s.enc), e1, e2, e3, e4, e5, some (.py (.str h.2)), some (.py (.str h.1))]) (by rfl) ?_
    exact tk_ev (fun st => by simp only [v_nil, v_cons, v_for, v_asg, v_par, v_unp, v_setI, v_expr, v_ret, v_ife, v_pass, e_var, e_const, e_tup, e_lst, e_bin, e_negc, e_not, e_and, e_or, e_cmp, e_chain, e_ife, e_idx, e_slc, e_call, e_isi, e_blt, evDs, evPar, evAnd, x_bind, x_then, ok_bind, ok_then, nx_then, rt_then, np_imp, np_nl, np_py, ni_imp, ni_py, ni_nl, nb_imp, nb_py, no_none, no_int, no_intp, fz_imp, fz_im, fz_nl, im_py, im_imp, ok_imp, dm_nil, dm_one, dm_two, dr_py, tp_nil, tp_cons, ck_true, fin_rt, fin_nx, tr_imp, tr_nl, st_im, st_imp, st_nl, st_nlt, un_imp, b_len, b_all, b_any, b_max, b_min, b_int, b_intb, b_ll, b_lt, b_tl, b_tt, len_l, len_t, it_sl, it_st, it_ss, ty_str, ty_tup, c_le, c_ge, c_lt, c_gt, c_eqi, c_nei, c_eqs, c_nes, c_eqb, c_isb, c_isnb, o_add, o_sub, idx_t, idx_l, at0, at1, at2, at3, Bool.not_true, Bool.not_false, Bool.true_and, Bool.false_and, tgSlots, wipeE, bindT, List.getElem?_cons_zero, List.getElem?_cons_succ, List.set_cons_zero, List.set_cons_succ, Option.map_some, if_true, Bool.false_eq_true, if_false]) k1 (lab100 (g.hook h hh).1) (lab100 (g.hook h hh).2)
  have hE : ∀ st e1, evE Φ [some (.py s.enc), e1, e2, e3, e4, e5, e6, e7] (.comp (.meth .join (.const (.str ⟨#[32]⟩)) [(.lst [(.const (.str ⟨#[102, 101, 101, 100, 115]⟩)), (.var 2)])]) (.one 2) .seq [(.idx (.idx (.var 0) (.const (.int 2))) (.const (.int 0)))] []) st = .ok (.nl (s.fe.map fun n => lineP (wE n))) st := fun st e1 => by
    refine comp_mapB (fun n => .str n) (fun n => lineP (wE n)) s.fe (ds := [.py (.tuple (s.fe.map .str))]) (by simp only [v_nil, v_cons, v_for, v_asg, v_par, v_unp, v_setI, v_expr, v_ret, v_ife, v_pass, e_var, e_const, e_tup, e_lst, e_bin, e_negc, e_not, e_and, e_or, e_cmp, e_chain, e_ife, e_idx, e_slc, e_call, e_isi, e_blt, evDs, evPar, evAnd, x_bind, x_then, ok_bind, ok_then, nx_then, rt_then, np_imp, np_nl, np_py, ni_imp, ni_py, ni_nl, nb_imp, nb_py, no_none, no_int, no_intp, fz_imp, fz_im, fz_nl, im_py, im_imp, ok_imp, dm_nil, dm_one, dm_two, dr_py, tp_nil, tp_cons, ck_true, fin_rt, fin_nx, tr_imp, tr_nl, st_im, st_imp, st_nl, st_nlt, un_imp, b_len, b_all, b_any, b_max, b_min, b_int, b_intb, b_ll, b_lt, b_tl, b_tt, len_l, len_t, it_sl, it_st, it_ss, ty_str, ty_tup, c_le, c_ge, c_lt, c_gt, c_eqi, c_nei, c_eqs, c_nes, c_eqb, c_isb, c_isnb, o_add, o_sub, idx_t, idx_l, at0, at1, at2, at3, Bool.not_true, Bool.not_false, Bool.true_and, Bool.false_and, tgSlots, wipeE, bindT, List.getElem?_cons_zero, List.getElem?_cons_succ, List.set_cons_zero, List.set_cons_succ, Option.map_some, if_true, Bool.false_eq_true, if_false, SeT.enc]) (by simp only [v_nil, v_cons, v_for, v_asg, v_par, v_unp, v_setI, v_expr, v_ret, v_ife, v_pass, e_var, e_const, e_tup, e_lst, e_bin, e_negc, e_not, e_and, e_or, e_cmp, e_chain, e_ife, e_idx, e_slc, e_call, e_isi, e_blt, evDs, evPar, evAnd, x_bind, x_then, ok_bind, ok_then, nx_then, rt_then, np_imp, np_nl, np_py, ni_imp, ni_py, ni_nl, nb_imp, nb_py, no_none, no_int, no_intp, fz_imp, fz_im, fz_nl, im_py, im_imp, ok_imp, dm_nil, dm_one, dm_two, dr_py, tp_nil, tp_cons, ck_true, fin_rt, fin_nx, tr_imp, tr_nl, st_im, st_imp, st_nl, st_nlt, un_imp, b_len, b_all, b_any, b_max, b_min, b_int, b_intb, b_ll, b_lt, b_tl, b_tt, len_l, len_t, it_sl, it_st, it_ss, ty_str, ty_tup, c_le, c_ge, c_lt, c_gt, c_eqi, c_nei, c_eqs, c_nes, c_eqb, c_isb, c_isnb, o_add, o_sub, idx_t, idx_l, at0, at1, at2, at3, Bool.not_true, Bool.not_false, Bool.true_and, Bool.false_and, tgSlots, wipeE, bindT, List.getElem?_cons_zero, List.getElem?_cons_succ, List.set_cons_zero, List.set_cons_succ, Option.map_some, if_true, Bool.false_eq_true, if_false]) (fun n hn st => ?_) (Nat.le_trans g.le (by decide))
    refine turn_elt (env1 := [some (.py s.enc), e1, some (.py (.str n)), e3, e4, e5, e6, e7]) (by simp only [v_nil, v_cons, v_for, v_asg, v_par, v_unp, v_setI, v_expr, v_ret, v_ife, v_pass, e_var, e_const, e_tup, e_lst, e_bin, e_negc, e_not, e_and, e_or, e_cmp, e_chain, e_ife, e_idx, e_slc, e_call, e_isi, e_blt, evDs, evPar, evAnd, x_bind, x_then, ok_bind, ok_then, nx_then, rt_then, np_imp, np_nl, np_py, ni_imp, ni_py, ni_nl, nb_imp, nb_py, no_none, no_int, no_intp, fz_imp, fz_im, fz_nl, im_py, im_imp, ok_imp, dm_nil, dm_one, dm_two, dr_py, tp_nil, tp_cons, ck_true, fin_rt, fin_nx, tr_imp, tr_nl, st_im, st_imp, st_nl, st_nlt, un_imp, b_len, b_all, b_any, b_max, b_min, b_int, b_intb, b_ll, b_lt, b_tl, b_tt, len_l, len_t, it_sl, it_st, it_ss, ty_str, ty_tup, c_le, c_ge, c_lt, c_gt, c_eqi, c_nei, c_eqs, c_nes, c_eqb, c_isb, c_isnb, o_add, o_sub, idx_t, idx_l, at0, at1, at2, at3, Bool.not_true, Bool.not_false, Bool.true_and, Bool.false_and, tgSlots, wipeE, bindT, List.getElem?_cons_zero, List.getElem?_cons_succ, List.set_cons_zero, List.set_cons_succ, Option.map_some, if_true, Bool.false_eq_true, if_false]) ?_
    exact tk_ev2 (fun st => by simp only [v_nil, v_cons, v_for, v_asg, v_par, v_unp, v_setI, v_expr, v_ret, v_ife, v_pass, e_var, e_const, e_tup, e_lst, e_bin, e_negc, e_not, e_and, e_or, e_cmp, e_chain, e_ife, e_idx, e_slc, e_call, e_isi, e_blt, evDs, evPar, evAnd, x_bind, x_then, ok_bind, ok_then, nx_then, rt_then, np_imp, np_nl, np_py, ni_imp, ni_py, ni_nl, nb_imp, nb_py, no_none, no_int, no_intp, fz_imp, fz_im, fz_nl, im_py, im_imp, ok_imp, dm_nil, dm_one, dm_two, dr_py, tp_nil, tp_cons, ck_true, fin_rt, fin_nx, tr_imp, tr_nl, st_im, st_imp, st_nl, st_nlt, un_imp, b_len, b_all, b_any, b_max, b_min, b_int, b_intb, b_ll, b_lt, b_tl, b_tt, len_l, len_t, it_sl, it_st, it_ss, ty_str, ty_tup, c_le, c_ge, c_lt, c_gt, c_eqi, c_nei, c_eqs, c_nes, c_eqb, c_isb, c_isnb, o_add, o_sub, idx_t, idx_l, at0, at1, at2, at3, Bool.not_true, Bool.not_false, Bool.true_and, Bool.false_and, tgSlots, wipeE, bindT, List.getElem?_cons_zero, List.getElem?_cons_succ, List.set_cons_zero, List.set_cons_succ, Option.map_some, if_true, Bool.false_eq_true, if_false]) k2 (lab100 (g.fe n hn))
  have hR : ∀ st e1, evE Φ [some (.py s.enc), e1, e2, e3, e4, e5, e6, e7] (.comp (.meth .join (.const (.str ⟨#[32]⟩)) [(.lst [(.const (.str ⟨#[102, 114, 101, 101, 115]⟩)), (.var 2)])]) (.one 2) .seq [(.idx (.idx (.var 0) (.const (.int 2))) (.const (.int 1)))] []) st = .ok (.nl (s.fr.map fun n => lineP (wR n))) st := fun st e1 => by
    refine comp_mapB (fun n => .str n) (fun n => lineP (wR n)) s.fr (ds := [.py (.tuple (s.fr.map .str))]) (by simp only [v_nil, v_cons, v_for, v_asg, v_par, v_unp, v_setI, v_expr, v_ret, v_ife, v_pass, e_var, e_const, e_tup, e_lst, e_bin, e_negc, e_not, e_and, e_or, e_cmp, e_chain, e_ife, e_idx, e_slc, e_call, e_isi, e_blt, evDs, evPar, evAnd, x_bind, x_then, ok_bind, ok_then, nx_then, rt_then, np_imp, np_nl, np_py, ni_imp, ni_py, ni_nl, nb_imp, nb_py, no_none, no_int, no_intp, fz_imp, fz_im, fz_nl, im_py, im_imp, ok_imp, dm_nil, dm_one, dm_two, dr_py, tp_nil, tp_cons, ck_true, fin_rt, fin_nx, tr_imp, tr_nl, st_im, st_imp, st_nl, st_nlt, un_imp, b_len, b_all, b_any, b_max, b_min, b_int, b_intb, b_ll, b_lt, b_tl, b_tt, len_l, len_t, it_sl, it_st, it_ss, ty_str, ty_tup, c_le, c_ge, c_lt, c_gt, c_eqi, c_nei, c_eqs, c_nes, c_eqb, c_isb, c_isnb, o_add, o_sub, idx_t, idx_l, at0, at1, at2, at3, Bool.not_true, Bool.not_false, Bool.true_and, Bool.false_and, tgSlots, wipeE, bindT, List.getElem?_cons_zero, List.getElem?_cons_succ, List.set_cons_zero, List.set_cons_succ, Option.map_some, if_true, Bool.false_eq_true, if_false, SeT.enc]) (by simp only [v_nil, v_cons, v_for, v_asg, v_par, v_unp, v_setI, v_expr, v_ret, v_ife, v_pass, e_var, e_const, e_tup, e_lst, e_bin, e_negc, e_not, e_and, e_or, e_cmp, e_chain, e_ife, e_idx, e_slc, e_call, e_isi, e_blt, evDs, evPar, evAnd, x_bind, x_then, ok_bind, ok_then, nx_then, rt_then, np_imp, np_nl, np_py, ni_imp, ni_py, ni_nl, nb_imp, nb_py, no_none, no_int, no_intp, fz_imp, fz_im, fz_nl, im_py, im_imp, ok_imp, dm_nil, dm_one, dm_two, dr_py, tp_nil, tp_cons, ck_true, fin_rt, fin_nx, tr_imp, tr_nl, st_im, st_imp, st_nl, st_nlt, un_imp, b_len, b_all, b_any, b_max, b_min, b_int, b_intb, b_ll, b_lt, b_tl, b_tt, len_l, len_t, it_sl, it_st, it_ss, ty_str, ty_tup, c_le, c_ge, c_lt, c_gt, c_eqi, c_nei, c_eqs, c_nes, c_eqb, c_isb, c_isnb, o_add, o_sub, idx_t, idx_l, at0, at1, at2, at3, Bool.not_true, Bool.not_false, Bool.true_and, Bool.false_and, tgSlots, wipeE, bindT, List.getElem?_cons_zero, List.getElem?_cons_succ, List.set_cons_zero, List.set_cons_succ, Option.map_some, if_true, Bool.false_eq_true, if_false]) (fun n hn st => ?_) (Nat.le_trans g.lr (by decide))
    refine turn_elt (env1 := [some (.py s.enc), e1, some (.py (.str n)), e3, e4, e5, e6, e7]) (by simp only [v_nil, v_cons, v_for, v_asg, v_par, v_unp, v_setI, v_expr, v_ret, v_ife, v_pass, e_var, e_const, e_tup, e_lst, e_bin, e_negc, e_not, e_and, e_or, e_cmp, e_chain, e_ife, e_idx, e_slc, e_call, e_isi, e_blt, evDs, evPar, evAnd, x_bind, x_then, ok_bind, ok_then, nx_then, rt_then, np_imp, np_nl, np_py, ni_imp, ni_py, ni_nl, nb_imp, nb_py, no_none, no_int, no_intp, fz_imp, fz_im, fz_nl, im_py, im_imp, ok_imp, dm_nil, dm_one, dm_two, dr_py, tp_nil, tp_cons, ck_true, fin_rt, fin_nx, tr_imp, tr_nl, st_im, st_imp, st_nl, st_nlt, un_imp, b_len, b_all, b_any, b_max, b_min, b_int, b_intb, b_ll, b_lt, b_tl, b_tt, len_l, len_t, it_sl, it_st, it_ss, ty_str, ty_tup, c_le, c_ge, c_lt, c_gt, c_eqi, c_nei, c_eqs, c_nes, c_eqb, c_isb, c_isnb, o_add, o_sub, idx_t, idx_l, at0, at1, at2, at3, Bool.not_true, Bool.not_false, Bool.true_and, Bool.false_and, tgSlots, wipeE, bindT, List.getElem?_cons_zero, List.getElem?_cons_succ, List.set_cons_zero, List.set_cons_succ, Option.map_some, if_true, Bool.false_eq_true, if_false]) ?_
    exact tk_ev2 (fun st => by simp only [v_nil, v_cons, v_for, v_asg, v_par, v_unp, v_setI, v_expr, v_ret, v_ife, v_pass, e_var, e_const, e_tup, e_lst, e_bin, e_negc, e_not, e_and, e_or, e_cmp, e_chain, e_ife, e_idx, e_slc, e_call, e_isi, e_blt, evDs, evPar, evAnd, x_bind, x_then, ok_bind, ok_then, nx_then, rt_then, np_imp, np_nl, np_py, ni_imp, ni_py, ni_nl, nb_imp, nb_py, no_none, no_int, no_intp, fz_imp, fz_im, fz_nl, im_py, im_imp, ok_imp, dm_nil, dm_one, dm_two, dr_py, tp_nil, tp_cons, ck_true, fin_rt, fin_nx, tr_imp, tr_nl, st_im, st_imp, st_nl, st_nlt, un_imp, b_len, b_all, b_any, b_max, b_min, b_int, b_intb, b_ll, b_lt, b_tl, b_tt, len_l, len_t, it_sl, it_st, it_ss, ty_str, ty_tup, c_le, c_ge, c_lt, c_gt, c_eqi, c_nei, c_eqs, c_nes, c_eqb, c_isb, c_isnb, o_add, o_sub, idx_t, idx_l, at0, at1, at2, at3, Bool.not_true, Bool.not_false, Bool.true_and, Bool.false_and, tgSlots, wipeE, bindT, List.getElem?_cons_zero, List.getElem?_cons_succ, List.set_cons_zero, List.set_cons_succ, Option.map_some, if_true, Bool.false_eq_true, if_false]) k3 (lab100 (g.fr n hn))
  have hrl := rows_len g
  have rr : s.rows.map lineP = (((s.ts.flatMap wT).map lineP ++ s.hs.map fun h => lineP (wH h)) ++ s.fe.map fun n => lineP (wE n)) ++ s.fr.map fun n => lineP (wR n) := by
    unfold SeT.rows
    simp only [List.map_append, List.map_map]
    rfl
  have hlen : (s.rows.map lineP).length ≤ 230 := by rw [List.length_map]; exact hrl
  rw [rr] at hlen ⊢
  simp only [List.length_append] at hlen
  have hz : (230 : Nat) ≤ SZ := by decide
  show fin st'.length (evSs Φ [.asg 1 false (.lst []), .for (.tup [2, 3, 4, 5]) .seq [(.idx (.var 0) (.const (.int 0)))] lnLoop, _, _, _] [some (.py s.enc), none, none, none, none, none, none, none] st') = _
  have hI : evI Φ [some (.py s.enc), some (.py (.list [])), none, none, none, none, none, none] .seq [(.idx (.var 0) (.const (.int 0)))] st' = .ok (s.ts.map encT) st' := by
    unfold evI
    simp only [v_nil, v_cons, v_for, v_asg, v_par, v_unp, v_setI, v_expr, v_ret, v_ife, v_pass, e_var, e_const, e_tup, e_lst, e_bin, e_negc, e_not, e_and, e_or, e_cmp, e_chain, e_ife, e_idx, e_slc, e_call, e_isi, e_blt, evDs, evPar, evAnd, x_bind, x_then, ok_bind, ok_then, nx_then, rt_then, np_imp, np_nl, np_py, ni_imp, ni_py, ni_nl, nb_imp, nb_py, no_none, no_int, no_intp, fz_imp, fz_im, fz_nl, im_py, im_imp, ok_imp, dm_nil, dm_one, dm_two, dr_py, tp_nil, tp_cons, ck_true, fin_rt, fin_nx, tr_imp, tr_nl, st_im, st_imp, st_nl, st_nlt, un_imp, b_len, b_all, b_any, b_max, b_min, b_int, b_intb, b_ll, b_lt, b_tl, b_tt, len_l, len_t, it_sl, it_st, it_ss, ty_str, ty_tup, c_le, c_ge, c_lt, c_gt, c_eqi, c_nei, c_eqs, c_nes, c_eqb, c_isb, c_isnb, o_add, o_sub, idx_t, idx_l, at0, at1, at2, at3, Bool.not_true, Bool.not_false, Bool.true_and, Bool.false_and, tgSlots, wipeE, bindT, List.getElem?_cons_zero, List.getElem?_cons_succ, List.set_cons_zero, List.set_cons_succ, Option.map_some, if_true, Bool.false_eq_true, if_false, SeT.enc]
  simp only [v_nil, v_cons, v_for, v_asg, v_par, v_unp, v_setI, v_expr, v_ret, v_ife, v_pass, e_var, e_const, e_tup, e_lst, e_bin, e_negc, e_not, e_and, e_or, e_cmp, e_chain, e_ife, e_idx, e_slc, e_call, e_isi, e_blt, evDs, evPar, evAnd, x_bind, x_then, ok_bind, ok_then, nx_then, rt_then, np_imp, np_nl, np_py, ni_imp, ni_py, ni_nl, nb_imp, nb_py, no_none, no_int, no_intp, fz_imp, fz_im, fz_nl, im_py, im_imp, ok_imp, dm_nil, dm_one, dm_two, dr_py, tp_nil, tp_cons, ck_true, fin_rt, fin_nx, tr_imp, tr_nl, st_im, st_imp, st_nl, st_nlt, un_imp, b_len, b_all, b_any, b_max, b_min, b_int, b_intb, b_ll, b_lt, b_tl, b_tt, len_l, len_t, it_sl, it_st, it_ss, ty_str, ty_tup, c_le, c_ge, c_lt, c_gt, c_eqi, c_nei, c_eqs, c_nes, c_eqb, c_isb, c_isnb, o_add, o_sub, idx_t, idx_l, at0, at1, at2, at3, Bool.not_true, Bool.not_false, Bool.true_and, Bool.false_and, tgSlots, wipeE, bindT, List.getElem?_cons_zero, List.getElem?_cons_succ, List.set_cons_zero, List.set_cons_succ, Option.map_some, if_true, Bool.false_eq_true, if_false, List.length_cons, List.length_nil, Nat.reduceAdd, Nat.zero_add, SZ, sizeLine_eq, Nat.reduceLeDiff, decide_true, eq_self, hI, e, hH]
  rw [o_lst _ _ _ (by omega)]
  simp only [v_nil, v_cons, v_for, v_asg, v_par, v_unp, v_setI, v_expr, v_ret, v_ife, v_pass, e_var, e_const, e_tup, e_lst, e_bin, e_negc, e_not, e_and, e_or, e_cmp, e_chain, e_ife, e_idx, e_slc, e_call, e_isi, e_blt, evDs, evPar, evAnd, x_bind, x_then, ok_bind, ok_then, nx_then, rt_then, np_imp, np_nl, np_py, ni_imp, ni_py, ni_nl, nb_imp, nb_py, no_none, no_int, no_intp, fz_imp, fz_im, fz_nl, im_py, im_imp, ok_imp, dm_nil, dm_one, dm_two, dr_py, tp_nil, tp_cons, ck_true, fin_rt, fin_nx, tr_imp, tr_nl, st_im, st_imp, st_nl, st_nlt, un_imp, b_len, b_all, b_any, b_max, b_min, b_int, b_intb, b_ll, b_lt, b_tl, b_tt, len_l, len_t, it_sl, it_st, it_ss, ty_str, ty_tup, c_le, c_ge, c_lt, c_gt, c_eqi, c_nei, c_eqs, c_nes, c_eqb, c_isb, c_isnb, o_add, o_sub, idx_t, idx_l, at0, at1, at2, at3, Bool.not_true, Bool.not_false, Bool.true_and, Bool.false_and, tgSlots, wipeE, bindT, List.getElem?_cons_zero, List.getElem?_cons_succ, List.set_cons_zero, List.set_cons_succ, Option.map_some, if_true, Bool.false_eq_true, if_false, hE]
  rw [o_lst _ _ _ (by rw [List.length_append]; omega)]
  simp only [v_nil, v_cons, v_for, v_asg, v_par, v_unp, v_setI, v_expr, v_ret, v_ife, v_pass, e_var, e_const, e_tup, e_lst, e_bin, e_negc, e_not, e_and, e_or, e_cmp, e_chain, e_ife, e_idx, e_slc, e_call, e_isi, e_blt, evDs, evPar, evAnd, x_bind, x_then, ok_bind, ok_then, nx_then, rt_then, np_imp, np_nl, np_py, ni_imp, ni_py, ni_nl, nb_imp, nb_py, no_none, no_int, no_intp, fz_imp, fz_im, fz_nl, im_py, im_imp, ok_imp, dm_nil, dm_one, dm_two, dr_py, tp_nil, tp_cons, ck_true, fin_rt, fin_nx, tr_imp, tr_nl, st_im, st_imp, st_nl, st_nlt, un_imp, b_len, b_all, b_any, b_max, b_min, b_int, b_intb, b_ll, b_lt, b_tl, b_tt, len_l, len_t, it_sl, it_st, it_ss, ty_str, ty_tup, c_le, c_ge, c_lt, c_gt, c_eqi, c_nei, c_eqs, c_nes, c_eqb, c_isb, c_isnb, o_add, o_sub, idx_t, idx_l, at0, at1, at2, at3, Bool.not_true, Bool.not_false, Bool.true_and, Bool.false_and, tgSlots, wipeE, bindT, List.getElem?_cons_zero, List.getElem?_cons_succ, List.set_cons_zero, List.set_cons_succ, Option.map_some, if_true, Bool.false_eq_true, if_false, hR]
  rw [o_lst _ _ _ (by rw [List.length_append, List.length_append]; omega)]
  simp only [v_nil, v_cons, v_for, v_asg, v_par, v_unp, v_setI, v_expr, v_ret, v_ife, v_pass, e_var, e_const, e_tup, e_lst, e_bin, e_negc, e_not, e_and, e_or, e_cmp, e_chain, e_ife, e_idx, e_slc, e_call, e_isi, e_blt, evDs, evPar, evAnd, x_bind, x_then, ok_bind, ok_then, nx_then, rt_then, np_imp, np_nl, np_py, ni_imp, ni_py, ni_nl, nb_imp, nb_py, no_none, no_int, no_intp, fz_imp, fz_im, fz_nl, im_py, im_imp, ok_imp, dm_nil, dm_one, dm_two, dr_py, tp_nil, tp_cons, ck_true, fin_rt, fin_nx, tr_imp, tr_nl, st_im, st_imp, st_nl, st_nlt, un_imp, b_len, b_all, b_any, b_max, b_min, b_int, b_intb, b_ll, b_lt, b_tl, b_tt, len_l, len_t, it_sl, it_st, it_ss, ty_str, ty_tup, c_le, c_ge, c_lt, c_gt, c_eqi, c_nei, c_eqs, c_nes, c_eqb, c_isb, c_isnb, o_add, o_sub, idx_t, idx_l, at0, at1, at2, at3, Bool.not_true, Bool.not_false, Bool.true_and, Bool.false_and, tgSlots, wipeE, bindT, List.getElem?_cons_zero, List.getElem?_cons_succ, List.set_cons_zero, List.set_cons_succ, Option.map_some, if_true, Bool.false_eq_true, if_false]

/-! ### the law's own text -/
def RowsOfF (Φ : Nat → List D → Sto → R Rv) (i : Nat) : Prop := ∀ (w : Str) (v : P) (ns : List Str) (st : Sto), (v = .list (ns.map .str) ∨ v = .tuple (ns.map .str)) → w.length ≤ 1000 → (∀ n ∈ ns, n.length ≤ 100) → ns.length ≤ 1000 → Φ i [.py (.str w), .py v] st = .ok (.nl (ns.map fun n => .str (w ++ SPC ++ n))) st
theorem sem_rowsOf {w : Str} {v : P} {ns : List Str} (hv : v = .list (ns.map .str) ∨ v = .tuple (ns.map .str)) (hw : w.length ≤ 1000) (hn : ∀ n ∈ ns, n.length ≤ 100) (hl : ns.length ≤ 1000) :
    fin st.length (evSs Φ t_law_rows_of [some (.py (.str w)), some (.py v), none] st) = .ok (.nl (ns.map fun n => .str (w ++ SPC ++ n))) st := by
  have hc : ∀ st, evE Φ [some (.py (.str w)), some (.py v), none] (.comp (.bin .add (.bin .add (.var 0) (.const (.str ⟨#[32]⟩))) (.var 2)) (.one 2) .seq [(.var 1)] []) st = .ok (.nl (ns.map fun n => .str (w ++ SPC ++ n))) st := fun st => by
    refine comp_mapB (fun n => .str n) (fun n => .str (w ++ SPC ++ n)) ns (ds := [.py v]) (by simp only [v_nil, v_cons, v_for, v_asg, v_par, v_unp, v_setI, v_expr, v_ret, v_ife, v_pass, e_var, e_const, e_tup, e_lst, e_bin, e_negc, e_not, e_and, e_or, e_cmp, e_chain, e_ife, e_idx, e_slc, e_call, e_isi, e_blt, evDs, evPar, evAnd, x_bind, x_then, ok_bind, ok_then, nx_then, rt_then, np_imp, np_nl, np_py, ni_imp, ni_py, ni_nl, nb_imp, nb_py, no_none, no_int, no_intp, fz_imp, fz_im, fz_nl, im_py, im_imp, ok_imp, dm_nil, dm_one, dm_two, dr_py, tp_nil, tp_cons, ck_true, fin_rt, fin_nx, tr_imp, tr_nl, st_im, st_imp, st_nl, st_nlt, un_imp, b_len, b_all, b_any, b_max, b_min, b_int, b_intb, b_ll, b_lt, b_tl, b_tt, len_l, len_t, it_sl, it_st, it_ss, ty_str, ty_tup, c_le, c_ge, c_lt, c_gt, c_eqi, c_nei, c_eqs, c_nes, c_eqb, c_isb, c_isnb, o_add, o_sub, idx_t, idx_l, at0, at1, at2, at3, Bool.not_true, Bool.not_false, Bool.true_and, Bool.false_and, tgSlots, wipeE, bindT, List.getElem?_cons_zero, List.getElem?_cons_succ, List.set_cons_zero, List.set_cons_succ, Option.map_some, if_true, Bool.false_eq_true, if_false]) (by rcases hv with rfl | rfl <;> simp only [v_nil, v_cons, v_for, v_asg, v_par, v_unp, v_setI, v_expr, v_ret, v_ife, v_pass, e_var, e_const, e_tup, e_lst, e_bin, e_negc, e_not, e_and, e_or, e_cmp, e_chain, e_ife, e_idx, e_slc, e_call, e_isi, e_blt, evDs, evPar, evAnd, x_bind, x_then, ok_bind, ok_then, nx_then, rt_then, np_imp, np_nl, np_py, ni_imp, ni_py, ni_nl, nb_imp, nb_py, no_none, no_int, no_intp, fz_imp, fz_im, fz_nl, im_py, im_imp, ok_imp, dm_nil, dm_one, dm_two, dr_py, tp_nil, tp_cons, ck_true, fin_rt, fin_nx, tr_imp, tr_nl, st_im, st_imp, st_nl, st_nlt, un_imp, b_len, b_all, b_any, b_max, b_min, b_int, b_intb, b_ll, b_lt, b_tl, b_tt, len_l, len_t, it_sl, it_st, it_ss, ty_str, ty_tup, c_le, c_ge, c_lt, c_gt, c_eqi, c_nei, c_eqs, c_nes, c_eqb, c_isb, c_isnb, o_add, o_sub, idx_t, idx_l, at0, at1, at2, at3, Bool.not_true, Bool.not_false, Bool.true_and, Bool.false_and, tgSlots, wipeE, bindT, List.getElem?_cons_zero, List.getElem?_cons_succ, List.set_cons_zero, List.set_cons_succ, Option.map_some, if_true, Bool.false_eq_true, if_false]) (fun n hn' st => ?_) (Nat.le_trans hl (by decide))
    refine turn_elt (env1 := [some (.py (.str w)), some (.py v), some (.py (.str n))]) (by simp only [v_nil, v_cons, v_for, v_asg, v_par, v_unp, v_setI, v_expr, v_ret, v_ife, v_pass, e_var, e_const, e_tup, e_lst, e_bin, e_negc, e_not, e_and, e_or, e_cmp, e_chain, e_ife, e_idx, e_slc, e_call, e_isi, e_blt, evDs, evPar, evAnd, x_bind, x_then, ok_bind, ok_then, nx_then, rt_then, np_imp, np_nl, np_py, ni_imp, ni_py, ni_nl, nb_imp, nb_py, no_none, no_int, no_intp, fz_imp, fz_im, fz_nl, im_py, im_imp, ok_imp, dm_nil, dm_one, dm_two, dr_py, tp_nil, tp_cons, ck_true, fin_rt, fin_nx, tr_imp, tr_nl, st_im, st_imp, st_nl, st_nlt, un_imp, b_len, b_all, b_any, b_max, b_min, b_int, b_intb, b_ll, b_lt, b_tl, b_tt, len_l, len_t, it_sl, it_st, it_ss, ty_str, ty_tup, c_le, c_ge, c_lt, c_gt, c_eqi, c_nei, c_eqs, c_nes, c_eqb, c_isb, c_isnb, o_add, o_sub, idx_t, idx_l, at0, at1, at2, at3, Bool.not_true, Bool.not_false, Bool.true_and, Bool.false_and, tgSlots, wipeE, bindT, List.getElem?_cons_zero, List.getElem?_cons_succ, List.set_cons_zero, List.set_cons_succ, Option.map_some, if_true, Bool.false_eq_true, if_false]) ?_
    have q := hn n hn'
    have e : (⟨#[32]⟩ : Str).length = 1 := rfl
    simp only [v_nil, v_cons, v_for, v_asg, v_par, v_unp, v_setI, v_expr, v_ret, v_ife, v_pass, e_var, e_const, e_tup, e_lst, e_bin, e_negc, e_not, e_and, e_or, e_cmp, e_chain, e_ife, e_idx, e_slc, e_call, e_isi, e_blt, evDs, evPar, evAnd, x_bind, x_then, ok_bind, ok_then, nx_then, rt_then, np_imp, np_nl, np_py, ni_imp, ni_py, ni_nl, nb_imp, nb_py, no_none, no_int, no_intp, fz_imp, fz_im, fz_nl, im_py, im_imp, ok_imp, dm_nil, dm_one, dm_two, dr_py, tp_nil, tp_cons, ck_true, fin_rt, fin_nx, tr_imp, tr_nl, st_im, st_imp, st_nl, st_nlt, un_imp, b_len, b_all, b_any, b_max, b_min, b_int, b_intb, b_ll, b_lt, b_tl, b_tt, len_l, len_t, it_sl, it_st, it_ss, ty_str, ty_tup, c_le, c_ge, c_lt, c_gt, c_eqi, c_nei, c_eqs, c_nes, c_eqb, c_isb, c_isnb, o_add, o_sub, idx_t, idx_l, at0, at1, at2, at3, Bool.not_true, Bool.not_false, Bool.true_and, Bool.false_and, tgSlots, wipeE, bindT, List.getElem?_cons_zero, List.getElem?_cons_succ, List.set_cons_zero, List.set_cons_succ, Option.map_some, if_true, Bool.false_eq_true, if_false]
    rw [o_strc (by omega)]
    simp only [v_nil, v_cons, v_for, v_asg, v_par, v_unp, v_setI, v_expr, v_ret, v_ife, v_pass, e_var, e_const, e_tup, e_lst, e_bin, e_negc, e_not, e_and, e_or, e_cmp, e_chain, e_ife, e_idx, e_slc, e_call, e_isi, e_blt, evDs, evPar, evAnd, x_bind, x_then, ok_bind, ok_then, nx_then, rt_then, np_imp, np_nl, np_py, ni_imp, ni_py, ni_nl, nb_imp, nb_py, no_none, no_int, no_intp, fz_imp, fz_im, fz_nl, im_py, im_imp, ok_imp, dm_nil, dm_one, dm_two, dr_py, tp_nil, tp_cons, ck_true, fin_rt, fin_nx, tr_imp, tr_nl, st_im, st_imp, st_nl, st_nlt, un_imp, b_len, b_all, b_any, b_max, b_min, b_int, b_intb, b_ll, b_lt, b_tl, b_tt, len_l, len_t, it_sl, it_st, it_ss, ty_str, ty_tup, c_le, c_ge, c_lt, c_gt, c_eqi, c_nei, c_eqs, c_nes, c_eqb, c_isb, c_isnb, o_add, o_sub, idx_t, idx_l, at0, at1, at2, at3, Bool.not_true, Bool.not_false, Bool.true_and, Bool.false_and, tgSlots, wipeE, bindT, List.getElem?_cons_zero, List.getElem?_cons_succ, List.set_cons_zero, List.set_cons_succ, Option.map_some, if_true, Bool.false_eq_true, if_false]
    rw [o_strc (by rw [slen]; omega)]
  unfold t_law_rows_of
  simp only [v_nil, v_cons, v_for, v_asg, v_par, v_unp, v_setI, v_expr, v_ret, v_ife, v_pass, e_var, e_const, e_tup, e_lst, e_bin, e_negc, e_not, e_and, e_or, e_cmp, e_chain, e_ife, e_idx, e_slc, e_call, e_isi, e_blt, evDs, evPar, evAnd, x_bind, x_then, ok_bind, ok_then, nx_then, rt_then, np_imp, np_nl, np_py, ni_imp, ni_py, ni_nl, nb_imp, nb_py, no_none, no_int, no_intp, fz_imp, fz_im, fz_nl, im_py, im_imp, ok_imp, dm_nil, dm_one, dm_two, dr_py, tp_nil, tp_cons, ck_true, fin_rt, fin_nx, tr_imp, tr_nl, st_im, st_imp, st_nl, st_nlt, un_imp, b_len, b_all, b_any, b_max, b_min, b_int, b_intb, b_ll, b_lt, b_tl, b_tt, len_l, len_t, it_sl, it_st, it_ss, ty_str, ty_tup, c_le, c_ge, c_lt, c_gt, c_eqi, c_nei, c_eqs, c_nes, c_eqb, c_isb, c_isnb, o_add, o_sub, idx_t, idx_l, at0, at1, at2, at3, Bool.not_true, Bool.not_false, Bool.true_and, Bool.false_and, tgSlots, wipeE, bindT, List.getElem?_cons_zero, List.getElem?_cons_succ, List.set_cons_zero, List.set_cons_succ, Option.map_some, if_true, Bool.false_eq_true, if_false, hc]
/-- the store of before, at the front -/
def Beh (st0 st : Sto) : Prop := st.take st0.length = st0
theorem Beh.refl {st : Sto} : Beh st st := by unfold Beh; rw [List.take_length]
theorem Beh.le {st0 st : Sto} (h : Beh st0 st) : st0.length ≤ st.length := by
  have := congrArg List.length h
  rw [List.length_take] at this
  omega
theorem Beh.app {st0 st : Sto} (h : Beh st0 st) (more : Sto) : Beh st0 (st ++ more) := by
  unfold Beh
  rw [List.take_append_of_le_length h.le]
  exact h
theorem Beh.set {st0 st : Sto} (h : Beh st0 st) {n : Nat} {o : Ob} (hn : st0.length ≤ n) : Beh st0 (st.set n o) := by
  unfold Beh
  rw [List.take_set_of_le hn]
  exact h
theorem Beh.len {st0 st : Sto} (h : Beh st0 st) {p : P} : trunc st0.length (imp p) st = ok1 p st0 := by
  show R.ok (imp p) (st.take st0.length) = _
  rw [h]; rfl
theorem app_ev {env : Ev} {o e : X} {n : Nat} {xs : List P} {p : P} (ho : evE Φ env o st = .ok (.im (.ref n)) st) (hn : st[n]? = some (.lst xs)) (he : evE Φ env e st = ok1 p st) (hz : xs.length ≤ 1000000) : evE Φ env (.meth .append o [e]) st = ok1 .none (st.set n (.lst (xs ++ [p]))) := by
  have e1 : methTy .append (.ref n) st = true := by
    show (match deref st (.ref n) with | some (.list _) => true | _ => false) = true
    simp only [deref, hn]
  have e2 : methop .append (.ref n) [.py p] st = chk (decide (xs.length < SZ)) (ok1 .none (st.set n (.lst (xs ++ [p])))) := by
    show (match st[n]? with | some (.lst xs) => chk (decide (xs.length < SZ)) (ok1 .none (st.set n (.lst (xs ++ [p])))) | _ => .bad) = _
    rw [hn]
  simp only [e_meth, ho, ok_bind, fz_im, e1, ck_true, evDs, he, x_bind, fz_imp, e2, len_c _ hz]
theorem lst_set {n : Nat} {o o' : Ob} (h : st[n]? = some o) : (st.set n o')[n]? = some o' := by
  have hn := (List.getElem?_eq_some_iff.mp h).1
  rw [List.getElem?_set_self hn]
/-- rows = rows + .. -/
theorem add_ev {env : Ev} {e : X} {n : Nat} {xs ys : List P} {st1 : Sto} (hv : env[1]? = some (some (.ref n))) (he : evE Φ env e st = .ok (.nl ys) st1) (hn : st1[n]? = some (.lst xs)) (hz : xs.length + ys.length ≤ 1000000) :
    evE Φ env (.bin .add (.var 1) e) st = .ok (.nl (xs ++ ys)) st1 := by
  have e1 : evE Φ env (.var 1) st = .ok (.im (.ref n)) st := by rw [e_var, hv]
  simp only [e_bin, e1, ok_bind, he]
  rw [np_ref hn, np_nl, o_lst _ _ _ (Nat.le_trans hz (by decide))]
def txLoop (i : Nat) : List S := [(.expr (.meth .append (.var 1) [(.bin .add (.bin .add (.bin .add (.bin .add (.const (.str ⟨#[116, 111, 111, 108, 32]⟩)) (.var 2)) (.const (.str ⟨#[32]⟩))) (.var 3)) (.ife (.var 5) (.const (.str ⟨#[32, 97, 115, 107, 115]⟩)) (.const (.str ⟨#[]⟩))))])),
    (.asg 1 true (.bin .add (.var 1) (.call i [(.bin .add (.const (.str ⟨#[116, 97, 107, 101, 115, 32]⟩)) (.var 2)), (.var 4)])))]
theorem tool_text {n r : Str} {tk : List Str} (a : Bool) : (⟨#[116, 111, 111, 108, 32]⟩ : Str) ++ n ++ ⟨#[32]⟩ ++ r ++ (if a then ⟨#[32, 97, 115, 107, 115]⟩ else ⟨#[]⟩) = lineOf (wTool (n, r, tk, a)) := by
  unfold wTool
  refine TL.ext_tl ?_
  cases a with
  | true =>
    show TL.tl (_ ++ _ ++ _ ++ _ ++ (⟨#[32, 97, 115, 107, 115]⟩ : Str)) = TL.tl (lineOf [w_tool, n, r, w_asks])
    rw [sj4]
    simp only [TL.tl_append, TL.tl, List.append_assoc, List.cons_append, List.nil_append]
  | false =>
    show TL.tl (_ ++ _ ++ _ ++ _ ++ (⟨#[]⟩ : Str)) = TL.tl (lineOf [w_tool, n, r])
    rw [sj3]
    simp only [TL.tl_append, TL.tl, List.append_assoc, List.cons_append, List.nil_append, List.append_nil]
theorem word3 {w1 w : Str} (h : TL.tl w1 = TL.tl w ++ [32]) (n o : Str) : w1 ++ n ++ SPC ++ o = lineOf [w, n, o] := by
  refine TL.ext_tl ?_
  rw [sj3]
  simp only [TL.tl_append, h, List.append_assoc]
  try rfl
theorem turn_text {i : Nat} (hi : RowsOfF Φ i) {t : To} (ok : ToOk t) {st0 : Sto} {xs : List P} {n : Nat} {v e2 e3 e4 e5 e6 e7 : Option D} (hn : st[n]? = some (.lst xs)) (hb : Beh st0 st) (hle : st0.length ≤ n) (hl : xs.length ≤ 1000) :
    ∃ st', turnF Φ (.tup [2, 3, 4, 5]) (txLoop i) (encT t) [v, some (.ref n), e2, e3, e4, e5, e6, e7] st =
      .nx [v, some (.ref st.length), some (.py (.str t.1)), some (.py (.str t.2.1)), some (.py (.tuple (t.2.2.1.map .str))), some (.py (.bool t.2.2.2)), e6, e7] st' ∧ st'[st.length]? = some (.lst (xs ++ (wT t).map lineP)) ∧ Beh st0 st' ∧ st0.length ≤ st.length := by
  obtain ⟨nm, r, tk, a⟩ := t
  have a1 := lab100 ok.nm
  have a2 := rule100 ok.rule
  have a1 : nm.length ≤ 100 := a1
  have a2 : r.length ≤ 100 := a2
  have hT : ∀ st, evE Φ [v, some (.ref n), some (.py (.str nm)), some (.py (.str r)), some (.py (.tuple (tk.map .str))), some (.py (.bool a)), e6, e7] (.bin .add (.bin .add (.bin .add (.bin .add (.const (.str ⟨#[116, 111, 111, 108, 32]⟩)) (.var 2)) (.const (.str ⟨#[32]⟩))) (.var 3)) (.ife (.var 5) (.const (.str ⟨#[32, 97, 115, 107, 115]⟩)) (.const (.str ⟨#[]⟩)))) st = ok1 (lineP (wTool (nm, r, tk, a))) st := fun st => by
    have l1 : (⟨#[116, 111, 111, 108, 32]⟩ : Str).length = 5 := rfl
    have l2 : (⟨#[32]⟩ : Str).length = 1 := rfl
    have l3 : (⟨#[32, 97, 115, 107, 115]⟩ : Str).length = 5 := rfl
    have l4 : (⟨#[]⟩ : Str).length = 0 := rfl
    simp only [v_nil, v_cons, v_for, v_asg, v_par, v_unp, v_setI, v_expr, v_ret, v_ife, v_pass, e_var, e_const, e_tup, e_lst, e_bin, e_negc, e_not, e_and, e_or, e_cmp, e_chain, e_ife, e_idx, e_slc, e_call, e_isi, e_blt, evDs, evPar, evAnd, x_bind, x_then, ok_bind, ok_then, nx_then, rt_then, np_imp, np_nl, np_py, ni_imp, ni_py, ni_nl, nb_imp, nb_py, no_none, no_int, no_intp, fz_imp, fz_im, fz_nl, im_py, im_imp, ok_imp, dm_nil, dm_one, dm_two, dr_py, tp_nil, tp_cons, ck_true, fin_rt, fin_nx, tr_imp, tr_nl, st_im, st_imp, st_nl, st_nlt, un_imp, b_len, b_all, b_any, b_max, b_min, b_int, b_intb, b_ll, b_lt, b_tl, b_tt, len_l, len_t, it_sl, it_st, it_ss, ty_str, ty_tup, c_le, c_ge, c_lt, c_gt, c_eqi, c_nei, c_eqs, c_nes, c_eqb, c_isb, c_isnb, o_add, o_sub, idx_t, idx_l, at0, at1, at2, at3, Bool.not_true, Bool.not_false, Bool.true_and, Bool.false_and, tgSlots, wipeE, bindT, List.getElem?_cons_zero, List.getElem?_cons_succ, List.set_cons_zero, List.set_cons_succ, Option.map_some, if_true, Bool.false_eq_true, if_false]
    rw [o_strc (by omega)]
    simp only [v_nil, v_cons, v_for, v_asg, v_par, v_unp, v_setI, v_expr, v_ret, v_ife, v_pass, e_var, e_const, e_tup, e_lst, e_bin, e_negc, e_not, e_and, e_or, e_cmp, e_chain, e_ife, e_idx, e_slc, e_call, e_isi, e_blt, evDs, evPar, evAnd, x_bind, x_then, ok_bind, ok_then, nx_then, rt_then, np_imp, np_nl, np_py, ni_imp, ni_py, ni_nl, nb_imp, nb_py, no_none, no_int, no_intp, fz_imp, fz_im, fz_nl, im_py, im_imp, ok_imp, dm_nil, dm_one, dm_two, dr_py, tp_nil, tp_cons, ck_true, fin_rt, fin_nx, tr_imp, tr_nl, st_im, st_imp, st_nl, st_nlt, un_imp, b_len, b_all, b_any, b_max, b_min, b_int, b_intb, b_ll, b_lt, b_tl, b_tt, len_l, len_t, it_sl, it_st, it_ss, ty_str, ty_tup, c_le, c_ge, c_lt, c_gt, c_eqi, c_nei, c_eqs, c_nes, c_eqb, c_isb, c_isnb, o_add, o_sub, idx_t, idx_l, at0, at1, at2, at3, Bool.not_true, Bool.not_false, Bool.true_and, Bool.false_and, tgSlots, wipeE, bindT, List.getElem?_cons_zero, List.getElem?_cons_succ, List.set_cons_zero, List.set_cons_succ, Option.map_some, if_true, Bool.false_eq_true, if_false]
    rw [o_strc (by rw [slen]; omega)]
    simp only [v_nil, v_cons, v_for, v_asg, v_par, v_unp, v_setI, v_expr, v_ret, v_ife, v_pass, e_var, e_const, e_tup, e_lst, e_bin, e_negc, e_not, e_and, e_or, e_cmp, e_chain, e_ife, e_idx, e_slc, e_call, e_isi, e_blt, evDs, evPar, evAnd, x_bind, x_then, ok_bind, ok_then, nx_then, rt_then, np_imp, np_nl, np_py, ni_imp, ni_py, ni_nl, nb_imp, nb_py, no_none, no_int, no_intp, fz_imp, fz_im, fz_nl, im_py, im_imp, ok_imp, dm_nil, dm_one, dm_two, dr_py, tp_nil, tp_cons, ck_true, fin_rt, fin_nx, tr_imp, tr_nl, st_im, st_imp, st_nl, st_nlt, un_imp, b_len, b_all, b_any, b_max, b_min, b_int, b_intb, b_ll, b_lt, b_tl, b_tt, len_l, len_t, it_sl, it_st, it_ss, ty_str, ty_tup, c_le, c_ge, c_lt, c_gt, c_eqi, c_nei, c_eqs, c_nes, c_eqb, c_isb, c_isnb, o_add, o_sub, idx_t, idx_l, at0, at1, at2, at3, Bool.not_true, Bool.not_false, Bool.true_and, Bool.false_and, tgSlots, wipeE, bindT, List.getElem?_cons_zero, List.getElem?_cons_succ, List.set_cons_zero, List.set_cons_succ, Option.map_some, if_true, Bool.false_eq_true, if_false]
    rw [o_strc (by rw [slen, slen]; omega)]
    have ei : ∀ st : Sto, (if a = true then ok1 (PyData.str ⟨#[32, 97, 115, 107, 115]⟩) st else ok1 (.str ⟨#[]⟩) st) = ok1 (.str (if a then ⟨#[32, 97, 115, 107, 115]⟩ else ⟨#[]⟩)) st := fun st => by cases a <;> rfl
    simp only [v_nil, v_cons, v_for, v_asg, v_par, v_unp, v_setI, v_expr, v_ret, v_ife, v_pass, e_var, e_const, e_tup, e_lst, e_bin, e_negc, e_not, e_and, e_or, e_cmp, e_chain, e_ife, e_idx, e_slc, e_call, e_isi, e_blt, evDs, evPar, evAnd, x_bind, x_then, ok_bind, ok_then, nx_then, rt_then, np_imp, np_nl, np_py, ni_imp, ni_py, ni_nl, nb_imp, nb_py, no_none, no_int, no_intp, fz_imp, fz_im, fz_nl, im_py, im_imp, ok_imp, dm_nil, dm_one, dm_two, dr_py, tp_nil, tp_cons, ck_true, fin_rt, fin_nx, tr_imp, tr_nl, st_im, st_imp, st_nl, st_nlt, un_imp, b_len, b_all, b_any, b_max, b_min, b_int, b_intb, b_ll, b_lt, b_tl, b_tt, len_l, len_t, it_sl, it_st, it_ss, ty_str, ty_tup, c_le, c_ge, c_lt, c_gt, c_eqi, c_nei, c_eqs, c_nes, c_eqb, c_isb, c_isnb, o_add, o_sub, idx_t, idx_l, at0, at1, at2, at3, Bool.not_true, Bool.not_false, Bool.true_and, Bool.false_and, tgSlots, wipeE, bindT, List.getElem?_cons_zero, List.getElem?_cons_succ, List.set_cons_zero, List.set_cons_succ, Option.map_some, if_true, Bool.false_eq_true, if_false, ei]
    rw [o_strc (by rw [slen, slen, slen]; cases a <;> simp only [if_true, Bool.false_eq_true, if_false] <;> omega)]
    rw [tool_text (tk := tk) a]
    try rfl
  have hA : evE Φ [v, some (.ref n), some (.py (.str nm)), some (.py (.str r)), some (.py (.tuple (tk.map .str))), some (.py (.bool a)), e6, e7] (.meth .append (.var 1) [(.bin .add (.bin .add (.bin .add (.bin .add (.const (.str ⟨#[116, 111, 111, 108, 32]⟩)) (.var 2)) (.const (.str ⟨#[32]⟩))) (.var 3)) (.ife (.var 5) (.const (.str ⟨#[32, 97, 115, 107, 115]⟩)) (.const (.str ⟨#[]⟩))))]) st = ok1 .none (st.set n (.lst (xs ++ [lineP (wTool (nm, r, tk, a))]))) :=
    app_ev (by simp only [v_nil, v_cons, v_for, v_asg, v_par, v_unp, v_setI, v_expr, v_ret, v_ife, v_pass, e_var, e_const, e_tup, e_lst, e_bin, e_negc, e_not, e_and, e_or, e_cmp, e_chain, e_ife, e_idx, e_slc, e_call, e_isi, e_blt, evDs, evPar, evAnd, x_bind, x_then, ok_bind, ok_then, nx_then, rt_then, np_imp, np_nl, np_py, ni_imp, ni_py, ni_nl, nb_imp, nb_py, no_none, no_int, no_intp, fz_imp, fz_im, fz_nl, im_py, im_imp, ok_imp, dm_nil, dm_one, dm_two, dr_py, tp_nil, tp_cons, ck_true, fin_rt, fin_nx, tr_imp, tr_nl, st_im, st_imp, st_nl, st_nlt, un_imp, b_len, b_all, b_any, b_max, b_min, b_int, b_intb, b_ll, b_lt, b_tl, b_tt, len_l, len_t, it_sl, it_st, it_ss, ty_str, ty_tup, c_le, c_ge, c_lt, c_gt, c_eqi, c_nei, c_eqs, c_nes, c_eqb, c_isb, c_isnb, o_add, o_sub, idx_t, idx_l, at0, at1, at2, at3, Bool.not_true, Bool.not_false, Bool.true_and, Bool.false_and, tgSlots, wipeE, bindT, List.getElem?_cons_zero, List.getElem?_cons_succ, List.set_cons_zero, List.set_cons_succ, Option.map_some, if_true, Bool.false_eq_true, if_false]) hn (hT st) (by omega)
  have hn2 : (st.set n (.lst (xs ++ [lineP (wTool (nm, r, tk, a))])))[n]? = some (.lst (xs ++ [lineP (wTool (nm, r, tk, a))])) := lst_set hn
  have hC : ∀ st, evE Φ [v, some (.ref n), some (.py (.str nm)), some (.py (.str r)), some (.py (.tuple (tk.map .str))), some (.py (.bool a)), e6, e7] (.call i [(.bin .add (.const (.str ⟨#[116, 97, 107, 101, 115, 32]⟩)) (.var 2)), (.var 4)]) st = .ok (.nl (tk.map fun o => lineP [w_takes, nm, o])) st := fun st => by
    have l1 : (⟨#[116, 97, 107, 101, 115, 32]⟩ : Str).length = 6 := rfl
    simp only [v_nil, v_cons, v_for, v_asg, v_par, v_unp, v_setI, v_expr, v_ret, v_ife, v_pass, e_var, e_const, e_tup, e_lst, e_bin, e_negc, e_not, e_and, e_or, e_cmp, e_chain, e_ife, e_idx, e_slc, e_call, e_isi, e_blt, evDs, evPar, evAnd, x_bind, x_then, ok_bind, ok_then, nx_then, rt_then, np_imp, np_nl, np_py, ni_imp, ni_py, ni_nl, nb_imp, nb_py, no_none, no_int, no_intp, fz_imp, fz_im, fz_nl, im_py, im_imp, ok_imp, dm_nil, dm_one, dm_two, dr_py, tp_nil, tp_cons, ck_true, fin_rt, fin_nx, tr_imp, tr_nl, st_im, st_imp, st_nl, st_nlt, un_imp, b_len, b_all, b_any, b_max, b_min, b_int, b_intb, b_ll, b_lt, b_tl, b_tt, len_l, len_t, it_sl, it_st, it_ss, ty_str, ty_tup, c_le, c_ge, c_lt, c_gt, c_eqi, c_nei, c_eqs, c_nes, c_eqb, c_isb, c_isnb, o_add, o_sub, idx_t, idx_l, at0, at1, at2, at3, Bool.not_true, Bool.not_false, Bool.true_and, Bool.false_and, tgSlots, wipeE, bindT, List.getElem?_cons_zero, List.getElem?_cons_succ, List.set_cons_zero, List.set_cons_succ, Option.map_some, if_true, Bool.false_eq_true, if_false]
    rw [o_strc (by omega)]
    simp only [v_nil, v_cons, v_for, v_asg, v_par, v_unp, v_setI, v_expr, v_ret, v_ife, v_pass, e_var, e_const, e_tup, e_lst, e_bin, e_negc, e_not, e_and, e_or, e_cmp, e_chain, e_ife, e_idx, e_slc, e_call, e_isi, e_blt, evDs, evPar, evAnd, x_bind, x_then, ok_bind, ok_then, nx_then, rt_then, np_imp, np_nl, np_py, ni_imp, ni_py, ni_nl, nb_imp, nb_py, no_none, no_int, no_intp, fz_imp, fz_im, fz_nl, im_py, im_imp, ok_imp, dm_nil, dm_one, dm_two, dr_py, tp_nil, tp_cons, ck_true, fin_rt, fin_nx, tr_imp, tr_nl, st_im, st_imp, st_nl, st_nlt, un_imp, b_len, b_all, b_any, b_max, b_min, b_int, b_intb, b_ll, b_lt, b_tl, b_tt, len_l, len_t, it_sl, it_st, it_ss, ty_str, ty_tup, c_le, c_ge, c_lt, c_gt, c_eqi, c_nei, c_eqs, c_nes, c_eqb, c_isb, c_isnb, o_add, o_sub, idx_t, idx_l, at0, at1, at2, at3, Bool.not_true, Bool.not_false, Bool.true_and, Bool.false_and, tgSlots, wipeE, bindT, List.getElem?_cons_zero, List.getElem?_cons_succ, List.set_cons_zero, List.set_cons_succ, Option.map_some, if_true, Bool.false_eq_true, if_false]
    rw [hi _ _ tk st (.inr rfl) (by rw [slen]; omega) (fun o ho => lab100 (ok.takes o ho)) (Nat.le_trans ok.len (by omega))]
    congr 2
  have tkl : tk.length ≤ 10 := ok.len
  have hB := add_ev (Φ := Φ) (env := [v, some (.ref n), some (.py (.str nm)), some (.py (.str r)), some (.py (.tuple (tk.map .str))), some (.py (.bool a)), e6, e7]) rfl (hC _) hn2 (by rw [List.length_append, List.length_singleton, List.length_map]; omega)
  refine ⟨st.set n (.lst (xs ++ [lineP (wTool (nm, r, tk, a))])) ++ [.lst (xs ++ [lineP (wTool (nm, r, tk, a))] ++ tk.map fun o => lineP [w_takes, nm, o])], ?_, ?_, (hb.set hle).app _, hb.le⟩
  · unfold turnF txLoop
    show (match bindT (.tup [2, 3, 4, 5]) [v, some (.ref n), e2, e3, e4, e5, e6, e7] (.tuple [.str nm, .str r, .tuple (tk.map .str), .bool a]) with
      | some env2 => evSs Φ _ env2 st
      | none => .bad) = _
    rw [show bindT (.tup [2, 3, 4, 5]) [v, some (.ref n), e2, e3, e4, e5, e6, e7] (.tuple [.str nm, .str r, .tuple (tk.map .str), .bool a]) = some [v, some (.ref n), some (.py (.str nm)), some (.py (.str r)), some (.py (.tuple (tk.map .str))), some (.py (.bool a)), e6, e7] from rfl]
    simp only [v_cons, v_nil, v_expr, hA, x_then, nx_then, v_asg, hB, ok_then, st_nlt, List.length_set, List.set_cons_zero, List.set_cons_succ]
  · rw [List.getElem?_append_right (by rw [List.length_set]; exact Nat.le_refl _), List.length_set, Nat.sub_self]
    show some (Ob.lst _) = _
    unfold wT
    rw [List.map_cons, List.map_map, List.append_assoc]
    rfl

def txHook (i : Nat) : List S := [(.asg 1 true (.bin .add (.var 1) (.call i [(.bin .add (.const (.str ⟨#[104, 111, 111, 107, 32]⟩)) (.var 6)), (.tup [(.var 7)])])))]
theorem turn_thook {i : Nat} (hi : RowsOfF Φ i) {h : Str × Str} (h1 : lab h.1) (h2 : lab h.2) {st0 : Sto} {xs : List P} {n : Nat} {v e2 e3 e4 e5 e6 e7 : Option D} (hn : st[n]? = some (.lst xs)) (hb : Beh st0 st) (hl : xs.length ≤ 1000) :
    ∃ st', turnF Φ (.tup [6, 7]) (txHook i) (encH h) [v, some (.ref n), e2, e3, e4, e5, e6, e7] st =
      .nx [v, some (.ref st.length), e2, e3, e4, e5, some (.py (.str h.1)), some (.py (.str h.2))] st' ∧ st'[st.length]? = some (.lst (xs ++ [lineP (wH h)])) ∧ Beh st0 st' ∧ st0.length ≤ st.length := by
  obtain ⟨a, b⟩ := h
  have a1 : a.length ≤ 100 := lab100 h1
  have a2 : b.length ≤ 100 := lab100 h2
  have hC : ∀ st, evE Φ [v, some (.ref n), e2, e3, e4, e5, some (.py (.str a)), some (.py (.str b))] (.call i [(.bin .add (.const (.str ⟨#[104, 111, 111, 107, 32]⟩)) (.var 6)), (.tup [(.var 7)])]) st = .ok (.nl [lineP (wH (a, b))]) st := fun st => by
    have l1 : (⟨#[104, 111, 111, 107, 32]⟩ : Str).length = 5 := rfl
    simp only [v_nil, v_cons, v_for, v_asg, v_par, v_unp, v_setI, v_expr, v_ret, v_ife, v_pass, e_var, e_const, e_tup, e_lst, e_bin, e_negc, e_not, e_and, e_or, e_cmp, e_chain, e_ife, e_idx, e_slc, e_call, e_isi, e_blt, evDs, evPar, evAnd, x_bind, x_then, ok_bind, ok_then, nx_then, rt_then, np_imp, np_nl, np_py, ni_imp, ni_py, ni_nl, nb_imp, nb_py, no_none, no_int, no_intp, fz_imp, fz_im, fz_nl, im_py, im_imp, ok_imp, dm_nil, dm_one, dm_two, dr_py, tp_nil, tp_cons, ck_true, fin_rt, fin_nx, tr_imp, tr_nl, st_im, st_imp, st_nl, st_nlt, un_imp, b_len, b_all, b_any, b_max, b_min, b_int, b_intb, b_ll, b_lt, b_tl, b_tt, len_l, len_t, it_sl, it_st, it_ss, ty_str, ty_tup, c_le, c_ge, c_lt, c_gt, c_eqi, c_nei, c_eqs, c_nes, c_eqb, c_isb, c_isnb, o_add, o_sub, idx_t, idx_l, at0, at1, at2, at3, Bool.not_true, Bool.not_false, Bool.true_and, Bool.false_and, tgSlots, wipeE, bindT, List.getElem?_cons_zero, List.getElem?_cons_succ, List.set_cons_zero, List.set_cons_succ, Option.map_some, if_true, Bool.false_eq_true, if_false]
    rw [o_strc (by omega)]
    simp only [v_nil, v_cons, v_for, v_asg, v_par, v_unp, v_setI, v_expr, v_ret, v_ife, v_pass, e_var, e_const, e_tup, e_lst, e_bin, e_negc, e_not, e_and, e_or, e_cmp, e_chain, e_ife, e_idx, e_slc, e_call, e_isi, e_blt, evDs, evPar, evAnd, x_bind, x_then, ok_bind, ok_then, nx_then, rt_then, np_imp, np_nl, np_py, ni_imp, ni_py, ni_nl, nb_imp, nb_py, no_none, no_int, no_intp, fz_imp, fz_im, fz_nl, im_py, im_imp, ok_imp, dm_nil, dm_one, dm_two, dr_py, tp_nil, tp_cons, ck_true, fin_rt, fin_nx, tr_imp, tr_nl, st_im, st_imp, st_nl, st_nlt, un_imp, b_len, b_all, b_any, b_max, b_min, b_int, b_intb, b_ll, b_lt, b_tl, b_tt, len_l, len_t, it_sl, it_st, it_ss, ty_str, ty_tup, c_le, c_ge, c_lt, c_gt, c_eqi, c_nei, c_eqs, c_nes, c_eqb, c_isb, c_isnb, o_add, o_sub, idx_t, idx_l, at0, at1, at2, at3, Bool.not_true, Bool.not_false, Bool.true_and, Bool.false_and, tgSlots, wipeE, bindT, List.getElem?_cons_zero, List.getElem?_cons_succ, List.set_cons_zero, List.set_cons_succ, Option.map_some, if_true, Bool.false_eq_true, if_false, List.length_cons, List.length_nil, Nat.reduceAdd, Nat.zero_add, SZ, sizeLine_eq, Nat.reduceLeDiff, decide_true, eq_self]
    exact hi _ (.tuple [.str b]) [b] st (.inr rfl) (by rw [slen]; omega) (fun o ho => by rw [List.mem_singleton.mp ho]; exact a2) (by simp)
  have hB := add_ev (Φ := Φ) (env := [v, some (.ref n), e2, e3, e4, e5, some (.py (.str a)), some (.py (.str b))]) rfl (hC st) hn (by rw [List.length_singleton]; omega)
  refine ⟨st ++ [.lst (xs ++ [lineP (wH (a, b))])], ?_, ?_, hb.app _, hb.le⟩
  · unfold turnF txHook
    show (match bindT (.tup [6, 7]) [v, some (.ref n), e2, e3, e4, e5, e6, e7] (.tuple [.str a, .str b]) with
      | some env2 => evSs Φ _ env2 st
      | none => .bad) = _
    rw [show bindT (.tup [6, 7]) [v, some (.ref n), e2, e3, e4, e5, e6, e7] (.tuple [.str a, .str b]) = some [v, some (.ref n), e2, e3, e4, e5, some (.py (.str a)), some (.py (.str b))] from rfl]
    simp only [v_cons, v_nil, nx_then, v_asg, hB, ok_then, st_nlt, List.set_cons_zero, List.set_cons_succ]
  · rw [List.getElem?_append_right (Nat.le_refl _), Nat.sub_self]; rfl
theorem sem_text {i : Nat} (hi : RowsOfF Φ i) {s : SeT} (g : s.Good) : fin st.length (evSs Φ (t_law_text i) [some (.py s.enc), none, none, none, none, none, none, none] st) = ok1 (.str s.text) st := by
  have hrl := rows_len g
  have rr : s.rows.map lineP = (((s.ts.flatMap wT).map lineP ++ s.hs.map fun h => lineP (wH h)) ++ s.fe.map fun n => lineP (wE n)) ++ s.fr.map fun n => lineP (wR n) := by
    unfold SeT.rows
    simp only [List.map_append, List.map_map]
    rfl
  have hlen : (s.rows.map lineP).length ≤ 230 := by rw [List.length_map]; exact hrl
  have hlen2 := hlen
  rw [rr] at hlen2
  simp only [List.length_append, List.length_map] at hlen2
  obtain ⟨env1, st1, e1, n1, e2, e3, e4, e5, e6, e7, rfl, hn1, hb1, hl1⟩ := forL_st (f := turnF Φ (.tup [2, 3, 4, 5]) (txLoop i)) encT (Inv := fun done env st' => ∃ n e2 e3 e4 e5 e6 e7, env = [some (.py s.enc), some (.ref n), e2, e3, e4, e5, e6, e7] ∧ st'[n]? = some (.lst ((done.flatMap wT).map lineP)) ∧ Beh st st' ∧ st.length ≤ n) (all := s.ts) (fun done t rest env st1 hall h => by
    obtain ⟨n, e2, e3, e4, e5, e6, e7, rfl, hn, hb, hl⟩ := h
    have hfl : (done.flatMap wT).length ≤ 110 := by
      refine Nat.le_trans (flat_len _ fun z hz => g.tool z (by rw [hall]; exact List.mem_append_left _ hz)) ?_
      have h1 := g.lt
      have h2 : s.ts.length = done.length + (rest.length + 1) := by rw [hall, List.length_append, List.length_cons]
      omega
    have ee : ((done ++ [t]).flatMap wT).map lineP = (done.flatMap wT).map lineP ++ (wT t).map lineP := by
      rw [List.flatMap_append, List.map_append]
      simp only [List.flatMap_cons, List.flatMap_nil, List.append_nil]
    obtain ⟨st', q1, q2, q3, q4⟩ := turn_text hi (g.tool t (by rw [hall]; simp)) (v := some (.py s.enc)) (e2 := e2) (e3 := e3) (e4 := e4) (e5 := e5) (e6 := e6) (e7 := e7) hn hb hl (by rw [List.length_map]; omega)
    exact ⟨_, st', q1, st1.length, some (.py (.str t.1)), some (.py (.str t.2.1)), some (.py (.tuple (t.2.2.1.map .str))), some (.py (.bool t.2.2.2)), e6, e7, rfl, by rw [ee]; exact q2, q3, q4⟩)
    s.ts [] [some (.py s.enc), some (.ref st.length), none, none, none, none, none, none] (st ++ [.lst []]) rfl ⟨st.length, _, _, _, _, _, _, rfl, by rw [List.getElem?_append_right (Nat.le_refl _), Nat.sub_self]; rfl, Beh.refl.app _, Nat.le_refl _⟩
  obtain ⟨env2, st2, e2', n2, f2, f3, f4, f5, f6, f7, rfl, hn2, hb2, hl2⟩ := forL_st (f := turnF Φ (.tup [6, 7]) (txHook i)) encH (Inv := fun done env st' => ∃ n e2 e3 e4 e5 e6 e7, env = [some (.py s.enc), some (.ref n), e2, e3, e4, e5, e6, e7] ∧ st'[n]? = some (.lst ((s.ts.flatMap wT).map lineP ++ done.map fun h => lineP (wH h))) ∧ Beh st st' ∧ st.length ≤ n) (all := s.hs) (fun done t rest env st1 hall h => by
    obtain ⟨n, e2, e3, e4, e5, e6, e7, rfl, hn, hb, hl⟩ := h
    have hd : done.length ≤ s.hs.length := by rw [hall, List.length_append]; omega
    have hm : t ∈ s.hs := by rw [hall]; simp
    obtain ⟨st', q1, q2, q3, q4⟩ := turn_thook hi (g.hook t hm).1 (g.hook t hm).2 (v := some (.py s.enc)) (e2 := e2) (e3 := e3) (e4 := e4) (e5 := e5) (e6 := e6) (e7 := e7) hn hb (by rw [List.length_append, List.length_map, List.length_map]; omega)
    exact ⟨_, st', q1, st1.length, e2, e3, e4, e5, some (.py (.str t.1)), some (.py (.str t.2)), rfl, by rw [List.map_append, ← List.append_assoc]; exact q2, q3, q4⟩)
    s.hs [] _ st1 rfl ⟨n1, e2, e3, e4, e5, e6, e7, rfl, by rw [List.map_nil, List.append_nil]; exact hn1, hb1, hl1⟩
  have hC1 : ∀ st, evE Φ [some (.py s.enc), some (.ref n2), f2, f3, f4, f5, f6, f7] (.call i [(.const (.str ⟨#[102, 101, 101, 100, 115]⟩)), (.idx (.idx (.var 0) (.const (.int 2))) (.const (.int 0)))]) st = .ok (.nl (s.fe.map fun n => lineP (wE n))) st := fun st => by
    simp only [v_nil, v_cons, v_for, v_asg, v_par, v_unp, v_setI, v_expr, v_ret, v_ife, v_pass, e_var, e_const, e_tup, e_lst, e_bin, e_negc, e_not, e_and, e_or, e_cmp, e_chain, e_ife, e_idx, e_slc, e_call, e_isi, e_blt, evDs, evPar, evAnd, x_bind, x_then, ok_bind, ok_then, nx_then, rt_then, np_imp, np_nl, np_py, ni_imp, ni_py, ni_nl, nb_imp, nb_py, no_none, no_int, no_intp, fz_imp, fz_im, fz_nl, im_py, im_imp, ok_imp, dm_nil, dm_one, dm_two, dr_py, tp_nil, tp_cons, ck_true, fin_rt, fin_nx, tr_imp, tr_nl, st_im, st_imp, st_nl, st_nlt, un_imp, b_len, b_all, b_any, b_max, b_min, b_int, b_intb, b_ll, b_lt, b_tl, b_tt, len_l, len_t, it_sl, it_st, it_ss, ty_str, ty_tup, c_le, c_ge, c_lt, c_gt, c_eqi, c_nei, c_eqs, c_nes, c_eqb, c_isb, c_isnb, o_add, o_sub, idx_t, idx_l, at0, at1, at2, at3, Bool.not_true, Bool.not_false, Bool.true_and, Bool.false_and, tgSlots, wipeE, bindT, List.getElem?_cons_zero, List.getElem?_cons_succ, List.set_cons_zero, List.set_cons_succ, Option.map_some, if_true, Bool.false_eq_true, if_false, SeT.enc]
    rw [hi _ _ s.fe st (.inr rfl) (by decide) (fun o ho => lab100 (g.fe o ho)) (Nat.le_trans g.le (by omega))]
    congr 2
  have hC2 : ∀ st, evE Φ [some (.py s.enc), some (.ref n2), f2, f3, f4, f5, f6, f7] (.call i [(.const (.str ⟨#[102, 114, 101, 101, 115]⟩)), (.idx (.idx (.var 0) (.const (.int 2))) (.const (.int 1)))]) st = .ok (.nl (s.fr.map fun n => lineP (wR n))) st := fun st => by
    simp only [v_nil, v_cons, v_for, v_asg, v_par, v_unp, v_setI, v_expr, v_ret, v_ife, v_pass, e_var, e_const, e_tup, e_lst, e_bin, e_negc, e_not, e_and, e_or, e_cmp, e_chain, e_ife, e_idx, e_slc, e_call, e_isi, e_blt, evDs, evPar, evAnd, x_bind, x_then, ok_bind, ok_then, nx_then, rt_then, np_imp, np_nl, np_py, ni_imp, ni_py, ni_nl, nb_imp, nb_py, no_none, no_int, no_intp, fz_imp, fz_im, fz_nl, im_py, im_imp, ok_imp, dm_nil, dm_one, dm_two, dr_py, tp_nil, tp_cons, ck_true, fin_rt, fin_nx, tr_imp, tr_nl, st_im, st_imp, st_nl, st_nlt, un_imp, b_len, b_all, b_any, b_max, b_min, b_int, b_intb, b_ll, b_lt, b_tl, b_tt, len_l, len_t, it_sl, it_st, it_ss, ty_str, ty_tup, c_le, c_ge, c_lt, c_gt, c_eqi, c_nei, c_eqs, c_nes, c_eqb, c_isb, c_isnb, o_add, o_sub, idx_t, idx_l, at0, at1, at2, at3, Bool.not_true, Bool.not_false, Bool.true_and, Bool.false_and, tgSlots, wipeE, bindT, List.getElem?_cons_zero, List.getElem?_cons_succ, List.set_cons_zero, List.set_cons_succ, Option.map_some, if_true, Bool.false_eq_true, if_false, SeT.enc]
    rw [hi _ _ s.fr st (.inr rfl) (by decide) (fun o ho => lab100 (g.fr o ho)) (Nat.le_trans g.lr (by omega))]
    congr 2
  have hI1 : evI Φ [some (.py s.enc), some (.ref st.length), none, none, none, none, none, none] .seq [(.idx (.var 0) (.const (.int 0)))] (st ++ [.lst []]) = .ok (s.ts.map encT) (st ++ [.lst []]) := by
    unfold evI
    simp only [v_nil, v_cons, v_for, v_asg, v_par, v_unp, v_setI, v_expr, v_ret, v_ife, v_pass, e_var, e_const, e_tup, e_lst, e_bin, e_negc, e_not, e_and, e_or, e_cmp, e_chain, e_ife, e_idx, e_slc, e_call, e_isi, e_blt, evDs, evPar, evAnd, x_bind, x_then, ok_bind, ok_then, nx_then, rt_then, np_imp, np_nl, np_py, ni_imp, ni_py, ni_nl, nb_imp, nb_py, no_none, no_int, no_intp, fz_imp, fz_im, fz_nl, im_py, im_imp, ok_imp, dm_nil, dm_one, dm_two, dr_py, tp_nil, tp_cons, ck_true, fin_rt, fin_nx, tr_imp, tr_nl, st_im, st_imp, st_nl, st_nlt, un_imp, b_len, b_all, b_any, b_max, b_min, b_int, b_intb, b_ll, b_lt, b_tl, b_tt, len_l, len_t, it_sl, it_st, it_ss, ty_str, ty_tup, c_le, c_ge, c_lt, c_gt, c_eqi, c_nei, c_eqs, c_nes, c_eqb, c_isb, c_isnb, o_add, o_sub, idx_t, idx_l, at0, at1, at2, at3, Bool.not_true, Bool.not_false, Bool.true_and, Bool.false_and, tgSlots, wipeE, bindT, List.getElem?_cons_zero, List.getElem?_cons_succ, List.set_cons_zero, List.set_cons_succ, Option.map_some, if_true, Bool.false_eq_true, if_false, SeT.enc]
  have hI2 : ∀ a2 a3 a4 a5 a6 a7 st, evI Φ [some (.py s.enc), some (.ref n1), a2, a3, a4, a5, a6, a7] .seq [(.idx (.var 0) (.const (.int 1)))] st = .ok (s.hs.map encH) st := fun a2 a3 a4 a5 a6 a7 st => by
    unfold evI
    simp only [v_nil, v_cons, v_for, v_asg, v_par, v_unp, v_setI, v_expr, v_ret, v_ife, v_pass, e_var, e_const, e_tup, e_lst, e_bin, e_negc, e_not, e_and, e_or, e_cmp, e_chain, e_ife, e_idx, e_slc, e_call, e_isi, e_blt, evDs, evPar, evAnd, x_bind, x_then, ok_bind, ok_then, nx_then, rt_then, np_imp, np_nl, np_py, ni_imp, ni_py, ni_nl, nb_imp, nb_py, no_none, no_int, no_intp, fz_imp, fz_im, fz_nl, im_py, im_imp, ok_imp, dm_nil, dm_one, dm_two, dr_py, tp_nil, tp_cons, ck_true, fin_rt, fin_nx, tr_imp, tr_nl, st_im, st_imp, st_nl, st_nlt, un_imp, b_len, b_all, b_any, b_max, b_min, b_int, b_intb, b_ll, b_lt, b_tl, b_tt, len_l, len_t, it_sl, it_st, it_ss, ty_str, ty_tup, c_le, c_ge, c_lt, c_gt, c_eqi, c_nei, c_eqs, c_nes, c_eqb, c_isb, c_isnb, o_add, o_sub, idx_t, idx_l, at0, at1, at2, at3, Bool.not_true, Bool.not_false, Bool.true_and, Bool.false_and, tgSlots, wipeE, bindT, List.getElem?_cons_zero, List.getElem?_cons_succ, List.set_cons_zero, List.set_cons_succ, Option.map_some, if_true, Bool.false_eq_true, if_false, SeT.enc]
  have hB := add_ev (Φ := Φ) (env := [some (.py s.enc), some (.ref n2), f2, f3, f4, f5, f6, f7]) rfl (hC1 st2) hn2 (by simp only [List.length_append, List.length_map]; omega)
  have hso : strsOf (s.rows.map lineP) = some (s.rows.map lineOf) := by
    have e : s.rows.map lineP = (s.rows.map lineOf).map .str := by rw [List.map_map]; rfl
    rw [e, so_map]
  have hRet : evE Φ [some (.py s.enc), some (.ref n2), f2, f3, f4, f5, f6, f7] (.meth .join (.const (.str ⟨#[10]⟩)) [(.bin .add (.bin .add (.var 1) (.call i [(.const (.str ⟨#[102, 101, 101, 100, 115]⟩)), (.idx (.idx (.var 0) (.const (.int 2))) (.const (.int 0)))])) (.call i [(.const (.str ⟨#[102, 114, 101, 101, 115]⟩)), (.idx (.idx (.var 0) (.const (.int 2))) (.const (.int 1)))]))]) st2 = ok1 (.str s.text) st2 := by
    rw [e_meth]
    simp only [e_const, x_bind, fz_imp, mty_join, ck_true, evDs]
    rw [e_bin, hB]
    simp only [ok_bind, hC2, np_nl]
    rw [o_lst _ _ _ (Nat.le_trans (show _ ≤ 230 by simp only [List.length_append, List.length_map]; omega) (by decide)), ← rr]
    simp only [ok_bind, fz_nl, m_join, hso, text_join g, ck_true]
    rfl
  have h0 : evE Φ [some (.py s.enc), none, none, none, none, none, none, none] (.lst []) st = .ok (.nl []) st := by simp only [v_nil, v_cons, v_for, v_asg, v_par, v_unp, v_setI, v_expr, v_ret, v_ife, v_pass, e_var, e_const, e_tup, e_lst, e_bin, e_negc, e_not, e_and, e_or, e_cmp, e_chain, e_ife, e_idx, e_slc, e_call, e_isi, e_blt, evDs, evPar, evAnd, x_bind, x_then, ok_bind, ok_then, nx_then, rt_then, np_imp, np_nl, np_py, ni_imp, ni_py, ni_nl, nb_imp, nb_py, no_none, no_int, no_intp, fz_imp, fz_im, fz_nl, im_py, im_imp, ok_imp, dm_nil, dm_one, dm_two, dr_py, tp_nil, tp_cons, ck_true, fin_rt, fin_nx, tr_imp, tr_nl, st_im, st_imp, st_nl, st_nlt, un_imp, b_len, b_all, b_any, b_max, b_min, b_int, b_intb, b_ll, b_lt, b_tl, b_tt, len_l, len_t, it_sl, it_st, it_ss, ty_str, ty_tup, c_le, c_ge, c_lt, c_gt, c_eqi, c_nei, c_eqs, c_nes, c_eqb, c_isb, c_isnb, o_add, o_sub, idx_t, idx_l, at0, at1, at2, at3, Bool.not_true, Bool.not_false, Bool.true_and, Bool.false_and, tgSlots, wipeE, bindT, List.getElem?_cons_zero, List.getElem?_cons_succ, List.set_cons_zero, List.set_cons_succ, Option.map_some, if_true, Bool.false_eq_true, if_false, List.length_cons, List.length_nil, Nat.reduceAdd, Nat.zero_add, SZ, sizeLine_eq, Nat.reduceLeDiff, decide_true, eq_self]
  show fin st.length (evSs Φ [.asg 1 true (.lst []), .for (.tup [2, 3, 4, 5]) .seq [(.idx (.var 0) (.const (.int 0)))] (txLoop i), .for (.tup [6, 7]) .seq [(.idx (.var 0) (.const (.int 1)))] (txHook i), .ret (.meth .join (.const (.str ⟨#[10]⟩)) [(.bin .add (.bin .add (.var 1) (.call i [(.const (.str ⟨#[102, 101, 101, 100, 115]⟩)), (.idx (.idx (.var 0) (.const (.int 2))) (.const (.int 0)))])) (.call i [(.const (.str ⟨#[102, 114, 101, 101, 115]⟩)), (.idx (.idx (.var 0) (.const (.int 2))) (.const (.int 1)))]))])] [some (.py s.enc), none, none, none, none, none, none, none] st) = _
  simp only [v_cons, v_asg, h0, ok_then, st_nlt, nx_then, List.set_cons_zero, List.set_cons_succ, v_for, hI1, e1, hI2, e2', v_ret, hRet, x_then, rt_then, fin_rt]
  exact hb2.len

/-! ### what the program says of lines -/
def TextF (Φ : Nat → List D → Sto → R Rv) (i : Nat) : Prop := ∀ (s : SeT) st, s.Good → Φ i [.py s.enc] st = ok1 (.str s.text) st
def LinesF (Φ : Nat → List D → Sto → R Rv) (i : Nat) : Prop := ∀ (s : SeT) st, s.Good → Φ i [.py s.enc] st = .ok (.nl (s.rows.map lineP)) st
theorem sem_setupText {i1 i2 : Nat} {s : SeT} (g : s.Good) (h1 : ∀ st, Φ i1 [.py s.enc] st = ok1 .none st) (h2 : LinesF Φ i2) : fin st.length (evSs Φ (t_setup_text i1 i2) [some (.py s.enc)] st) = ok1 (.str s.text) st := by
  have hso : strsOf (s.rows.map lineP) = some (s.rows.map lineOf) := by
    have e : s.rows.map lineP = (s.rows.map lineOf).map .str := by rw [List.map_map]; rfl
    rw [e, so_map]
  unfold t_setup_text
  simp only [v_nil, v_cons, v_for, v_asg, v_par, v_unp, v_setI, v_expr, v_ret, v_ife, v_pass, e_var, e_const, e_tup, e_lst, e_bin, e_negc, e_not, e_and, e_or, e_cmp, e_chain, e_ife, e_idx, e_slc, e_call, e_isi, e_blt, evDs, evPar, evAnd, x_bind, x_then, ok_bind, ok_then, nx_then, rt_then, np_imp, np_nl, np_py, ni_imp, ni_py, ni_nl, nb_imp, nb_py, no_none, no_int, no_intp, fz_imp, fz_im, fz_nl, im_py, im_imp, ok_imp, dm_nil, dm_one, dm_two, dr_py, tp_nil, tp_cons, ck_true, fin_rt, fin_nx, tr_imp, tr_nl, st_im, st_imp, st_nl, st_nlt, un_imp, b_len, b_all, b_any, b_max, b_min, b_int, b_intb, b_ll, b_lt, b_tl, b_tt, len_l, len_t, it_sl, it_st, it_ss, ty_str, ty_tup, c_le, c_ge, c_lt, c_gt, c_eqi, c_nei, c_eqs, c_nes, c_eqb, c_isb, c_isnb, o_add, o_sub, idx_t, idx_l, at0, at1, at2, at3, Bool.not_true, Bool.not_false, Bool.true_and, Bool.false_and, tgSlots, wipeE, bindT, List.getElem?_cons_zero, List.getElem?_cons_succ, List.set_cons_zero, List.set_cons_succ, Option.map_some, if_true, Bool.false_eq_true, if_false, h1, h2 s _ g, e_meth, mty_join, m_join, hso, text_join g]
  rfl
def DLINE : List (P × P) := [(.str w_takes, .int 3), (.str w_hook, .int 3), (.str w_feeds, .int 2), (.str w_frees, .int 2)]
theorem dline_ev {env : Ev} : evE Φ env (.dic [(.const (.str ⟨#[116, 97, 107, 101, 115]⟩)), (.const (.int 3)), (.const (.str ⟨#[104, 111, 111, 107]⟩)), (.const (.int 3)), (.const (.str ⟨#[102, 101, 101, 100, 115]⟩)), (.const (.int 2)), (.const (.str ⟨#[102, 114, 101, 101, 115]⟩)), (.const (.int 2))]) st = .ok (.nd DLINE) st := by
  have e1 : (st ++ [Ob.dct []])[st.length]? = some (.dct []) := by simp
  have e2 : decide ((st ++ [Ob.dct []]).length = st.length + 1) = true := decide_eq_true (by simp)
  simp only [e_dic, evDs, e_const, x_bind, ok_bind, fz_imp]
  unfold dicEnd
  simp only [tp_nil, tp_cons, Option.map_some, e1, pairUp, e2, List.take_left]
  try rfl
def dlineOf (w : Str) : P := (dGet DLINE (.str w)).getD (.int 0)
theorem dline_get {w : Str} {xs : List P} {e1 e2 : Option D} : evE Φ [some (.py (.list (.str w :: xs))), e1, e2] (.get2 (.dic [(.const (.str ⟨#[116, 97, 107, 101, 115]⟩)), (.const (.int 3)), (.const (.str ⟨#[104, 111, 111, 107]⟩)), (.const (.int 3)), (.const (.str ⟨#[102, 101, 101, 100, 115]⟩)), (.const (.int 2)), (.const (.str ⟨#[102, 114, 101, 101, 115]⟩)), (.const (.int 2))]) (.idx (.var 0) (.const (.int 0))) (.const (.int 0))) st = ok1 (dlineOf w) st := by
  have q1 : isDS st (Rv.nd DLINE).frz = true := rfl
  have q2 : ∀ st, deref st (Rv.nd DLINE).frz = some (.dict DLINE) := fun st => rfl
  have q3 : (keyS (.str w) && DLINE.all fun q => keyS q.1) = true := rfl
  simp only [e_get2, dline_ev, ok_bind, q1, ck_true, v_nil, v_cons, v_for, v_asg, v_par, v_unp, v_setI, v_expr, v_ret, v_ife, v_pass, e_var, e_const, e_tup, e_lst, e_bin, e_negc, e_not, e_and, e_or, e_cmp, e_chain, e_ife, e_idx, e_slc, e_call, e_isi, e_blt, evDs, evPar, evAnd, x_bind, x_then, ok_bind, ok_then, nx_then, rt_then, np_imp, np_nl, np_py, ni_imp, ni_py, ni_nl, nb_imp, nb_py, no_none, no_int, no_intp, fz_imp, fz_im, fz_nl, im_py, im_imp, ok_imp, dm_nil, dm_one, dm_two, dr_py, tp_nil, tp_cons, ck_true, fin_rt, fin_nx, tr_imp, tr_nl, st_im, st_imp, st_nl, st_nlt, un_imp, b_len, b_all, b_any, b_max, b_min, b_int, b_intb, b_ll, b_lt, b_tl, b_tt, len_l, len_t, it_sl, it_st, it_ss, ty_str, ty_tup, c_le, c_ge, c_lt, c_gt, c_eqi, c_nei, c_eqs, c_nes, c_eqb, c_isb, c_isnb, o_add, o_sub, idx_t, idx_l, at0, at1, at2, at3, Bool.not_true, Bool.not_false, Bool.true_and, Bool.false_and, tgSlots, wipeE, bindT, List.getElem?_cons_zero, List.getElem?_cons_succ, List.set_cons_zero, List.set_cons_succ, Option.map_some, if_true, Bool.false_eq_true, if_false, q2, q3]
  try rfl
theorem isLine_other {i : Nat} {w : Str} {ws : List Str} (lb : ∀ x st, lab x → Φ i [.py (.str x)] st = ok1 (.bool true) st) (hw : (w == w_tool) = false) (hd : dlineOf w = .int ((ws.length + 1 : Nat) : Int)) (hl : ∀ x ∈ ws, lab x) (hz : ws.length ≤ 10) :
    fin st.length (evSs Φ (t_is_line i) [some (.py (.list ((w :: ws).map .str))), none, none] st) = ok1 (.bool true) st := by
  have hc : ∀ st e1, evE Φ [some (.py (.list (.str w :: ws.map .str))), e1, none] (.comp (.call i [(.var 2)]) (.one 2) .seq [(.slc (.var 0) (.const (.int 1)) (.const .none))] []) st = .ok (.nl (ws.map fun _ => .bool true)) st := fun st e1 => by
    have ec : cutL (PyData.str w :: ws.map .str) (some 1) none = ws.map .str := by
      rw [show (1 : Int) = ((1 : Nat) : Int) from rfl]
      unfold cutL
      rw [HT.sIx_nat, HT.sIx_none, Nat.min_eq_left (by simp), List.take_of_length_le (by rw [List.length_drop]; exact Nat.le_refl _)]
      rfl
    refine comp_mapB (fun n => .str n) (fun n => .bool true) ws (ds := [.py (.list (ws.map .str))]) ?_ (by simp only [v_nil, v_cons, v_for, v_asg, v_par, v_unp, v_setI, v_expr, v_ret, v_ife, v_pass, e_var, e_const, e_tup, e_lst, e_bin, e_negc, e_not, e_and, e_or, e_cmp, e_chain, e_ife, e_idx, e_slc, e_call, e_isi, e_blt, evDs, evPar, evAnd, x_bind, x_then, ok_bind, ok_then, nx_then, rt_then, np_imp, np_nl, np_py, ni_imp, ni_py, ni_nl, nb_imp, nb_py, no_none, no_int, no_intp, fz_imp, fz_im, fz_nl, im_py, im_imp, ok_imp, dm_nil, dm_one, dm_two, dr_py, tp_nil, tp_cons, ck_true, fin_rt, fin_nx, tr_imp, tr_nl, st_im, st_imp, st_nl, st_nlt, un_imp, b_len, b_all, b_any, b_max, b_min, b_int, b_intb, b_ll, b_lt, b_tl, b_tt, len_l, len_t, it_sl, it_st, it_ss, ty_str, ty_tup, c_le, c_ge, c_lt, c_gt, c_eqi, c_nei, c_eqs, c_nes, c_eqb, c_isb, c_isnb, o_add, o_sub, idx_t, idx_l, at0, at1, at2, at3, Bool.not_true, Bool.not_false, Bool.true_and, Bool.false_and, tgSlots, wipeE, bindT, List.getElem?_cons_zero, List.getElem?_cons_succ, List.set_cons_zero, List.set_cons_succ, Option.map_some, if_true, Bool.false_eq_true, if_false]) (fun n hn st => ?_) (Nat.le_trans hz (by decide))
    · simp only [v_nil, v_cons, v_for, v_asg, v_par, v_unp, v_setI, v_expr, v_ret, v_ife, v_pass, e_var, e_const, e_tup, e_lst, e_bin, e_negc, e_not, e_and, e_or, e_cmp, e_chain, e_ife, e_idx, e_slc, e_call, e_isi, e_blt, evDs, evPar, evAnd, x_bind, x_then, ok_bind, ok_then, nx_then, rt_then, np_imp, np_nl, np_py, ni_imp, ni_py, ni_nl, nb_imp, nb_py, no_none, no_int, no_intp, fz_imp, fz_im, fz_nl, im_py, im_imp, ok_imp, dm_nil, dm_one, dm_two, dr_py, tp_nil, tp_cons, ck_true, fin_rt, fin_nx, tr_imp, tr_nl, st_im, st_imp, st_nl, st_nlt, un_imp, b_len, b_all, b_any, b_max, b_min, b_int, b_intb, b_ll, b_lt, b_tl, b_tt, len_l, len_t, it_sl, it_st, it_ss, ty_str, ty_tup, c_le, c_ge, c_lt, c_gt, c_eqi, c_nei, c_eqs, c_nes, c_eqb, c_isb, c_isnb, o_add, o_sub, idx_t, idx_l, at0, at1, at2, at3, Bool.not_true, Bool.not_false, Bool.true_and, Bool.false_and, tgSlots, wipeE, bindT, List.getElem?_cons_zero, List.getElem?_cons_succ, List.set_cons_zero, List.set_cons_succ, Option.map_some, if_true, Bool.false_eq_true, if_false]
      rw [show slcop (.list (PyData.str w :: ws.map .str)) (some 1) none st = .ok (.nl (cutL (PyData.str w :: ws.map .str) (some 1) none)) st from rfl, ec]
      simp only [v_nil, v_cons, v_for, v_asg, v_par, v_unp, v_setI, v_expr, v_ret, v_ife, v_pass, e_var, e_const, e_tup, e_lst, e_bin, e_negc, e_not, e_and, e_or, e_cmp, e_chain, e_ife, e_idx, e_slc, e_call, e_isi, e_blt, evDs, evPar, evAnd, x_bind, x_then, ok_bind, ok_then, nx_then, rt_then, np_imp, np_nl, np_py, ni_imp, ni_py, ni_nl, nb_imp, nb_py, no_none, no_int, no_intp, fz_imp, fz_im, fz_nl, im_py, im_imp, ok_imp, dm_nil, dm_one, dm_two, dr_py, tp_nil, tp_cons, ck_true, fin_rt, fin_nx, tr_imp, tr_nl, st_im, st_imp, st_nl, st_nlt, un_imp, b_len, b_all, b_any, b_max, b_min, b_int, b_intb, b_ll, b_lt, b_tl, b_tt, len_l, len_t, it_sl, it_st, it_ss, ty_str, ty_tup, c_le, c_ge, c_lt, c_gt, c_eqi, c_nei, c_eqs, c_nes, c_eqb, c_isb, c_isnb, o_add, o_sub, idx_t, idx_l, at0, at1, at2, at3, Bool.not_true, Bool.not_false, Bool.true_and, Bool.false_and, tgSlots, wipeE, bindT, List.getElem?_cons_zero, List.getElem?_cons_succ, List.set_cons_zero, List.set_cons_succ, Option.map_some, if_true, Bool.false_eq_true, if_false]
    · refine turn_elt (env1 := [some (.py (.list (.str w :: ws.map .str))), e1, some (.py (.str n))]) (by simp only [v_nil, v_cons, v_for, v_asg, v_par, v_unp, v_setI, v_expr, v_ret, v_ife, v_pass, e_var, e_const, e_tup, e_lst, e_bin, e_negc, e_not, e_and, e_or, e_cmp, e_chain, e_ife, e_idx, e_slc, e_call, e_isi, e_blt, evDs, evPar, evAnd, x_bind, x_then, ok_bind, ok_then, nx_then, rt_then, np_imp, np_nl, np_py, ni_imp, ni_py, ni_nl, nb_imp, nb_py, no_none, no_int, no_intp, fz_imp, fz_im, fz_nl, im_py, im_imp, ok_imp, dm_nil, dm_one, dm_two, dr_py, tp_nil, tp_cons, ck_true, fin_rt, fin_nx, tr_imp, tr_nl, st_im, st_imp, st_nl, st_nlt, un_imp, b_len, b_all, b_any, b_max, b_min, b_int, b_intb, b_ll, b_lt, b_tl, b_tt, len_l, len_t, it_sl, it_st, it_ss, ty_str, ty_tup, c_le, c_ge, c_lt, c_gt, c_eqi, c_nei, c_eqs, c_nes, c_eqb, c_isb, c_isnb, o_add, o_sub, idx_t, idx_l, at0, at1, at2, at3, Bool.not_true, Bool.not_false, Bool.true_and, Bool.false_and, tgSlots, wipeE, bindT, List.getElem?_cons_zero, List.getElem?_cons_succ, List.set_cons_zero, List.set_cons_succ, Option.map_some, if_true, Bool.false_eq_true, if_false]) ?_
      simp only [v_nil, v_cons, v_for, v_asg, v_par, v_unp, v_setI, v_expr, v_ret, v_ife, v_pass, e_var, e_const, e_tup, e_lst, e_bin, e_negc, e_not, e_and, e_or, e_cmp, e_chain, e_ife, e_idx, e_slc, e_call, e_isi, e_blt, evDs, evPar, evAnd, x_bind, x_then, ok_bind, ok_then, nx_then, rt_then, np_imp, np_nl, np_py, ni_imp, ni_py, ni_nl, nb_imp, nb_py, no_none, no_int, no_intp, fz_imp, fz_im, fz_nl, im_py, im_imp, ok_imp, dm_nil, dm_one, dm_two, dr_py, tp_nil, tp_cons, ck_true, fin_rt, fin_nx, tr_imp, tr_nl, st_im, st_imp, st_nl, st_nlt, un_imp, b_len, b_all, b_any, b_max, b_min, b_int, b_intb, b_ll, b_lt, b_tl, b_tt, len_l, len_t, it_sl, it_st, it_ss, ty_str, ty_tup, c_le, c_ge, c_lt, c_gt, c_eqi, c_nei, c_eqs, c_nes, c_eqb, c_isb, c_isnb, o_add, o_sub, idx_t, idx_l, at0, at1, at2, at3, Bool.not_true, Bool.not_false, Bool.true_and, Bool.false_and, tgSlots, wipeE, bindT, List.getElem?_cons_zero, List.getElem?_cons_succ, List.set_cons_zero, List.set_cons_succ, Option.map_some, if_true, Bool.false_eq_true, if_false, lb n _ (hl n hn)]
  have hlen : ((PyData.str w :: ws.map .str).length : Int) = ((ws.length + 1 : Nat) : Int) := by simp
  have hbo : bools (ws.map fun _ => PyData.bool true) = some (ws.map fun _ => true) := bools_map' _ ws
  unfold t_is_line
  simp only [List.map_cons, v_nil, v_cons, v_for, v_asg, v_par, v_unp, v_setI, v_expr, v_ret, v_ife, v_pass, e_var, e_const, e_tup, e_lst, e_bin, e_negc, e_not, e_and, e_or, e_cmp, e_chain, e_ife, e_idx, e_slc, e_call, e_isi, e_blt, evDs, evPar, evAnd, x_bind, x_then, ok_bind, ok_then, nx_then, rt_then, np_imp, np_nl, np_py, ni_imp, ni_py, ni_nl, nb_imp, nb_py, no_none, no_int, no_intp, fz_imp, fz_im, fz_nl, im_py, im_imp, ok_imp, dm_nil, dm_one, dm_two, dr_py, tp_nil, tp_cons, ck_true, fin_rt, fin_nx, tr_imp, tr_nl, st_im, st_imp, st_nl, st_nlt, un_imp, b_len, b_all, b_any, b_max, b_min, b_int, b_intb, b_ll, b_lt, b_tl, b_tt, len_l, len_t, it_sl, it_st, it_ss, ty_str, ty_tup, c_le, c_ge, c_lt, c_gt, c_eqi, c_nei, c_eqs, c_nes, c_eqb, c_isb, c_isnb, o_add, o_sub, idx_t, idx_l, at0, at1, at2, at3, Bool.not_true, Bool.not_false, Bool.true_and, Bool.false_and, tgSlots, wipeE, bindT, List.getElem?_cons_zero, List.getElem?_cons_succ, List.set_cons_zero, List.set_cons_succ, Option.map_some, if_true, Bool.false_eq_true, if_false, hw, dline_get, hd, hc, hlen, beq_self_eq_true, hbo]
  have : (ws.map fun _ => true).all id = true := by simp
  rw [this]
theorem rules_any {r : Str} (h : PyData.str r ∈ RULES) : RULES.any (fun y => y.eqv (.str r)) = true := by
  unfold RULES at h
  simp only [List.mem_cons, List.not_mem_nil, or_false, PyData.str.injEq] at h
  rcases h with rfl | rfl | rfl | rfl <;> rfl
theorem isLine_tool {i : Nat} {t : To} (lb : ∀ x st, lab x → Φ i [.py (.str x)] st = ok1 (.bool true) st) (ok : ToOk t) : fin st.length (evSs Φ (t_is_line i) [some (.py (.list ((wTool t).map .str))), none, none] st) = ok1 (.bool true) st := by
  obtain ⟨n, r, tk, a⟩ := t
  have hr : cmpop .in_ (.str r) (.tuple RULES) = some true := by
    rw [c_in_t _ _ rfl rules_strs.fit, rules_any ok.rule]
  unfold RULES at hr
  unfold t_is_line wTool
  cases a with
  | true =>
    have h3 : ∀ st, slcop (.list [PyData.str w_tool, .str n, .str r, .str w_asks]) (some 3) none st = .ok (.nl [.str w_asks]) st := fun st => rfl
    have h4 : cmpop .in_ (.int (([PyData.str w_tool, .str n, .str r, .str w_asks].length : Nat) : Int)) (.tuple [.int 3, .int 4]) = some true := rfl
    have h5 : cmpop .in_ (.list [.str w_asks]) (.tuple [.list [], .list [.str ⟨#[97, 115, 107, 115]⟩]]) = some true := rfl
    simp only [if_true, List.cons_append, List.nil_append, List.map_cons, List.map_nil, v_nil, v_cons, v_for, v_asg, v_par, v_unp, v_setI, v_expr, v_ret, v_ife, v_pass, e_var, e_const, e_tup, e_lst, e_bin, e_negc, e_not, e_and, e_or, e_cmp, e_chain, e_ife, e_idx, e_slc, e_call, e_isi, e_blt, evDs, evPar, evAnd, x_bind, x_then, ok_bind, ok_then, nx_then, rt_then, np_imp, np_nl, np_py, ni_imp, ni_py, ni_nl, nb_imp, nb_py, no_none, no_int, no_intp, fz_imp, fz_im, fz_nl, im_py, im_imp, ok_imp, dm_nil, dm_one, dm_two, dr_py, tp_nil, tp_cons, ck_true, fin_rt, fin_nx, tr_imp, tr_nl, st_im, st_imp, st_nl, st_nlt, un_imp, b_len, b_all, b_any, b_max, b_min, b_int, b_intb, b_ll, b_lt, b_tl, b_tt, len_l, len_t, it_sl, it_st, it_ss, ty_str, ty_tup, c_le, c_ge, c_lt, c_gt, c_eqi, c_nei, c_eqs, c_nes, c_eqb, c_isb, c_isnb, o_add, o_sub, idx_t, idx_l, at0, at1, at2, at3, Bool.not_true, Bool.not_false, Bool.true_and, Bool.false_and, tgSlots, wipeE, bindT, List.getElem?_cons_zero, List.getElem?_cons_succ, List.set_cons_zero, List.set_cons_succ, Option.map_some, if_true, Bool.false_eq_true, if_false, beq_self_eq_true, List.length_cons, List.length_nil, Nat.reduceAdd, Nat.zero_add, SZ, sizeLine_eq, Nat.reduceLeDiff, decide_true, eq_self, hr, lb n _ ok.nm, h3, h5]
    rw [show cmpop .in_ (.int ((4 : Nat) : Int)) (.tuple [.int 3, .int 4]) = some true from rfl]
    simp only [v_nil, v_cons, v_for, v_asg, v_par, v_unp, v_setI, v_expr, v_ret, v_ife, v_pass, e_var, e_const, e_tup, e_lst, e_bin, e_negc, e_not, e_and, e_or, e_cmp, e_chain, e_ife, e_idx, e_slc, e_call, e_isi, e_blt, evDs, evPar, evAnd, x_bind, x_then, ok_bind, ok_then, nx_then, rt_then, np_imp, np_nl, np_py, ni_imp, ni_py, ni_nl, nb_imp, nb_py, no_none, no_int, no_intp, fz_imp, fz_im, fz_nl, im_py, im_imp, ok_imp, dm_nil, dm_one, dm_two, dr_py, tp_nil, tp_cons, ck_true, fin_rt, fin_nx, tr_imp, tr_nl, st_im, st_imp, st_nl, st_nlt, un_imp, b_len, b_all, b_any, b_max, b_min, b_int, b_intb, b_ll, b_lt, b_tl, b_tt, len_l, len_t, it_sl, it_st, it_ss, ty_str, ty_tup, c_le, c_ge, c_lt, c_gt, c_eqi, c_nei, c_eqs, c_nes, c_eqb, c_isb, c_isnb, o_add, o_sub, idx_t, idx_l, at0, at1, at2, at3, Bool.not_true, Bool.not_false, Bool.true_and, Bool.false_and, tgSlots, wipeE, bindT, List.getElem?_cons_zero, List.getElem?_cons_succ, List.set_cons_zero, List.set_cons_succ, Option.map_some, if_true, Bool.false_eq_true, if_false, hr, lb n _ ok.nm, h3, h5, List.length_cons, List.length_nil, Nat.reduceAdd, Nat.zero_add, SZ, sizeLine_eq, Nat.reduceLeDiff, decide_true, eq_self]
  | false =>
    have h3 : ∀ st, slcop (.list [PyData.str w_tool, .str n, .str r]) (some 3) none st = .ok (.nl []) st := fun st => rfl
    have h5 : cmpop .in_ (.list []) (.tuple [.list [], .list [.str ⟨#[97, 115, 107, 115]⟩]]) = some true := rfl
    simp only [Bool.false_eq_true, if_false, List.cons_append, List.append_nil, List.nil_append, List.map_cons, List.map_nil, v_nil, v_cons, v_for, v_asg, v_par, v_unp, v_setI, v_expr, v_ret, v_ife, v_pass, e_var, e_const, e_tup, e_lst, e_bin, e_negc, e_not, e_and, e_or, e_cmp, e_chain, e_ife, e_idx, e_slc, e_call, e_isi, e_blt, evDs, evPar, evAnd, x_bind, x_then, ok_bind, ok_then, nx_then, rt_then, np_imp, np_nl, np_py, ni_imp, ni_py, ni_nl, nb_imp, nb_py, no_none, no_int, no_intp, fz_imp, fz_im, fz_nl, im_py, im_imp, ok_imp, dm_nil, dm_one, dm_two, dr_py, tp_nil, tp_cons, ck_true, fin_rt, fin_nx, tr_imp, tr_nl, st_im, st_imp, st_nl, st_nlt, un_imp, b_len, b_all, b_any, b_max, b_min, b_int, b_intb, b_ll, b_lt, b_tl, b_tt, len_l, len_t, it_sl, it_st, it_ss, ty_str, ty_tup, c_le, c_ge, c_lt, c_gt, c_eqi, c_nei, c_eqs, c_nes, c_eqb, c_isb, c_isnb, o_add, o_sub, idx_t, idx_l, at0, at1, at2, at3, Bool.not_true, Bool.not_false, Bool.true_and, Bool.false_and, tgSlots, wipeE, bindT, List.getElem?_cons_zero, List.getElem?_cons_succ, List.set_cons_zero, List.set_cons_succ, Option.map_some, if_true, Bool.false_eq_true, if_false, beq_self_eq_true, List.length_cons, List.length_nil, Nat.reduceAdd, Nat.zero_add, SZ, sizeLine_eq, Nat.reduceLeDiff, decide_true, eq_self, hr, lb n _ ok.nm, h3, h5]
    rw [show cmpop .in_ (.int ((3 : Nat) : Int)) (.tuple [.int 3, .int 4]) = some true from rfl]
    simp only [v_nil, v_cons, v_for, v_asg, v_par, v_unp, v_setI, v_expr, v_ret, v_ife, v_pass, e_var, e_const, e_tup, e_lst, e_bin, e_negc, e_not, e_and, e_or, e_cmp, e_chain, e_ife, e_idx, e_slc, e_call, e_isi, e_blt, evDs, evPar, evAnd, x_bind, x_then, ok_bind, ok_then, nx_then, rt_then, np_imp, np_nl, np_py, ni_imp, ni_py, ni_nl, nb_imp, nb_py, no_none, no_int, no_intp, fz_imp, fz_im, fz_nl, im_py, im_imp, ok_imp, dm_nil, dm_one, dm_two, dr_py, tp_nil, tp_cons, ck_true, fin_rt, fin_nx, tr_imp, tr_nl, st_im, st_imp, st_nl, st_nlt, un_imp, b_len, b_all, b_any, b_max, b_min, b_int, b_intb, b_ll, b_lt, b_tl, b_tt, len_l, len_t, it_sl, it_st, it_ss, ty_str, ty_tup, c_le, c_ge, c_lt, c_gt, c_eqi, c_nei, c_eqs, c_nes, c_eqb, c_isb, c_isnb, o_add, o_sub, idx_t, idx_l, at0, at1, at2, at3, Bool.not_true, Bool.not_false, Bool.true_and, Bool.false_and, tgSlots, wipeE, bindT, List.getElem?_cons_zero, List.getElem?_cons_succ, List.set_cons_zero, List.set_cons_succ, Option.map_some, if_true, Bool.false_eq_true, if_false, hr, lb n _ ok.nm, h3, h5, List.length_cons, List.length_nil, Nat.reduceAdd, Nat.zero_add, SZ, sizeLine_eq, Nat.reduceLeDiff, decide_true, eq_self]
/-- is_line, of the rows of a setup -/
theorem sem_isLine {i : Nat} (hL : LabelF Φ i) {s : SeT} (g : s.Good) {r : List Str} (hr : r ∈ s.rows) : fin st.length (evSs Φ (t_is_line i) [some (.py (.list (r.map .str))), none, none] st) = ok1 (.bool true) st := by
  have lb : ∀ x st, lab x → Φ i [.py (.str x)] st = ok1 (.bool true) st := fun x st h => by
    have e := hL (.str x) st (by show decide (x.length ≤ 1000) = true; exact decide_eq_true (by have := lab_len h; omega))
    rw [e, show isLabel (.str x) = true from h]
  unfold SeT.rows at hr
  rw [List.mem_append, List.mem_append, List.mem_append, List.mem_flatMap, List.mem_map, List.mem_map, List.mem_map] at hr
  rcases hr with ((⟨t, ht, hr⟩ | ⟨h, hh, rfl⟩) | ⟨n, hn, rfl⟩) | ⟨n, hn, rfl⟩
  · have ok := g.tool t ht
    unfold wT at hr
    rcases List.mem_cons.mp hr with rfl | hr
    · exact isLine_tool lb ok
    · obtain ⟨o, ho, rfl⟩ := List.mem_map.mp hr
      refine isLine_other lb (by decide) (by rfl) (fun x hx => ?_) (by simp)
      simp only [List.mem_cons, List.not_mem_nil, or_false] at hx
      rcases hx with rfl | rfl
      · exact ok.nm
      · exact ok.takes _ ho
  · refine isLine_other lb (by decide) (by rfl) (fun x hx => ?_) (by simp)
    simp only [List.mem_cons, List.not_mem_nil, or_false] at hx
    rcases hx with rfl | rfl
    · exact (g.hook _ hh).1
    · exact (g.hook _ hh).2
  · refine isLine_other lb (by decide) (by rfl) (fun x hx => ?_) (by simp)
    rw [List.mem_singleton.mp hx]
    exact g.fe _ hn
  · refine isLine_other lb (by decide) (by rfl) (fun x hx => ?_) (by simp)
    rw [List.mem_singleton.mp hx]
    exact g.fr _ hn

/-! ### rows of words, put together -/
def rowP (r : List Str) : P := .list (r.map .str)
def wAt (r : List Str) (i : Nat) : Str := r.getD i Str.empty
def sel (w0 : Str) (f : List Str → P) (r : List Str) : Option P := if wAt r 0 == w0 then some (f r) else none
def hookP (r : List Str) : P := .tuple [.str (wAt r 1), .str (wAt r 2)]
def takesP (rows : List (List Str)) (n : Str) : List P := rows.filterMap fun o => if wAt o 0 == w_takes && wAt o 1 == n then some (.str (wAt o 2)) else none
def toolP (rows : List (List Str)) (r : List Str) : P := .tuple [.str (wAt r 1), .str (wAt r 2), .tuple (takesP rows (wAt r 1)), .bool (r.length == 4)]
def setupIn (rows : List (List Str)) : P := .tuple [.tuple (rows.filterMap (sel w_tool (toolP rows))), .tuple (rows.filterMap (sel w_hook hookP)), .tuple [.tuple (rows.filterMap (sel w_feeds fun r => .str (wAt r 1))), .tuple (rows.filterMap (sel w_frees fun r => .str (wAt r 1)))]]
/-- a row has the words that are looked at -/
structure RowSh (r : List Str) : Prop where
  ne : 1 ≤ r.length
  tool : wAt r 0 = w_tool → 3 ≤ r.length
  takes : wAt r 0 = w_takes → 3 ≤ r.length
  hook : wAt r 0 = w_hook → 3 ≤ r.length
  feeds : wAt r 0 = w_feeds → 2 ≤ r.length
  frees : wAt r 0 = w_frees → 2 ≤ r.length
theorem at_row {r : List Str} {i : Nat} (h : i < r.length) : L2.atI (r.map PyData.str) (i : Int) = some (.str (wAt r i)) := by
  rw [atI_nat (by rw [List.length_map]; exact h), List.getElem_map]
  unfold wAt
  simp [List.getElem?_eq_getElem h]
theorem fm_len {α β : Type} (f : α → Option β) (xs : List α) : (xs.filterMap f).length ≤ xs.length := List.length_filterMap_le f xs
theorem idx_row {r : List Str} (i : Nat) (h : i < r.length) : idxop (rowP r) (.int (i : Int)) = some (.str (wAt r i)) := by
  unfold rowP
  rw [idx_l]
  exact at_row h
theorem it_rows (rows : List (List Str)) : itemsD .seq [.py (.list (rows.map rowP))] = some (rows.map rowP) := rfl
def inLoop : List S := [(.ife (.cmp .eq (.idx (.var 1) (.const (.int 0))) (.const (.str ⟨#[116, 111, 111, 108]⟩))) [(.asg 4 false (.blt .tuple [(.comp (.idx (.var 6) (.const (.int 2))) (.one 6) .seq [(.var 0)] [(.and (.cmp .eq (.idx (.var 6) (.const (.int 0))) (.const (.str ⟨#[116, 97, 107, 101, 115]⟩))) (.cmp .eq (.idx (.var 6) (.const (.int 1))) (.idx (.var 1) (.const (.int 1)))))])])),
    (.asg 2 false (.bin .add (.var 2) (.tup [(.tup [(.idx (.var 1) (.const (.int 1))), (.idx (.var 1) (.const (.int 2))), (.var 4), (.cmp .eq (.blt .len [(.var 1)]) (.const (.int 4)))])])))] [])]
theorem sem_setupIn {rows : List (List Str)} (hs : ∀ r ∈ rows, RowSh r) (hz : rows.length ≤ 1000000) : fin st.length (evSs Φ t_setup_in [some (.py (.list (rows.map rowP))), none, none, none, none, none, none] st) = ok1 (setupIn rows) st := by
  have i0 : ∀ {r}, r ∈ rows → idxop (rowP r) (.int 0) = some (.str (wAt r 0)) := fun h => idx_row 0 (hs _ h).ne
  -- a selection by the first word
  have sel1 : ∀ (w0 : Str) (f : List Str → P) (elt : X) (st : Sto) (e2 e3 e4 e5 e6 : Option D), (∀ r ∈ rows, wAt r 0 = w0 → ∀ st, evE Φ [some (.py (.list (rows.map rowP))), some (.py (rowP r)), e2, e3, e4, e5, e6] elt st = ok1 (f r) st) →
      ∀ e1, evE Φ [some (.py (.list (rows.map rowP))), e1, e2, e3, e4, e5, e6] (.comp elt (.one 1) .seq [(.var 0)] [(.cmp .eq (.idx (.var 1) (.const (.int 0))) (.const (.str w0)))]) st = .ok (.nl (rows.filterMap (sel w0 f))) st := fun w0 f elt st e2 e3 e4 e5 e6 he e1 => by
    refine comp_gen rowP (sel w0 f) rows (ds := [.py (.list (rows.map rowP))]) (by simp only [v_nil, v_cons, v_for, v_asg, v_par, v_unp, v_setI, v_expr, v_ret, v_ife, v_pass, e_var, e_const, e_tup, e_lst, e_bin, e_negc, e_not, e_and, e_or, e_cmp, e_chain, e_ife, e_idx, e_slc, e_call, e_isi, e_blt, evDs, evPar, evAnd, x_bind, x_then, ok_bind, ok_then, nx_then, rt_then, np_imp, np_nl, np_py, ni_imp, ni_py, ni_nl, nb_imp, nb_py, no_none, no_int, no_intp, fz_imp, fz_im, fz_nl, im_py, im_imp, ok_imp, dm_nil, dm_one, dm_two, dr_py, tp_nil, tp_cons, ck_true, fin_rt, fin_nx, tr_imp, tr_nl, st_im, st_imp, st_nl, st_nlt, un_imp, b_len, b_all, b_any, b_max, b_min, b_int, b_intb, b_ll, b_lt, b_tl, b_tt, len_l, len_t, it_sl, it_st, it_ss, ty_str, ty_tup, c_le, c_ge, c_lt, c_gt, c_eqi, c_nei, c_eqs, c_nes, c_eqb, c_isb, c_isnb, o_add, o_sub, idx_t, idx_l, at0, at1, at2, at3, Bool.not_true, Bool.not_false, Bool.true_and, Bool.false_and, tgSlots, wipeE, bindT, List.getElem?_cons_zero, List.getElem?_cons_succ, List.set_cons_zero, List.set_cons_succ, Option.map_some, if_true, Bool.false_eq_true, if_false]) (it_rows rows) (fun r hr st => ?_) (Nat.le_trans hz (by decide))
    exact turn_if (b := wAt r 0 == w0) (env1 := [some (.py (.list (rows.map rowP))), some (.py (rowP r)), e2, e3, e4, e5, e6]) (by simp only [v_nil, v_cons, v_for, v_asg, v_par, v_unp, v_setI, v_expr, v_ret, v_ife, v_pass, e_var, e_const, e_tup, e_lst, e_bin, e_negc, e_not, e_and, e_or, e_cmp, e_chain, e_ife, e_idx, e_slc, e_call, e_isi, e_blt, evDs, evPar, evAnd, x_bind, x_then, ok_bind, ok_then, nx_then, rt_then, np_imp, np_nl, np_py, ni_imp, ni_py, ni_nl, nb_imp, nb_py, no_none, no_int, no_intp, fz_imp, fz_im, fz_nl, im_py, im_imp, ok_imp, dm_nil, dm_one, dm_two, dr_py, tp_nil, tp_cons, ck_true, fin_rt, fin_nx, tr_imp, tr_nl, st_im, st_imp, st_nl, st_nlt, un_imp, b_len, b_all, b_any, b_max, b_min, b_int, b_intb, b_ll, b_lt, b_tl, b_tt, len_l, len_t, it_sl, it_st, it_ss, ty_str, ty_tup, c_le, c_ge, c_lt, c_gt, c_eqi, c_nei, c_eqs, c_nes, c_eqb, c_isb, c_isnb, o_add, o_sub, idx_t, idx_l, at0, at1, at2, at3, Bool.not_true, Bool.not_false, Bool.true_and, Bool.false_and, tgSlots, wipeE, bindT, List.getElem?_cons_zero, List.getElem?_cons_succ, List.set_cons_zero, List.set_cons_succ, Option.map_some, if_true, Bool.false_eq_true, if_false]) (by simp only [v_nil, v_cons, v_for, v_asg, v_par, v_unp, v_setI, v_expr, v_ret, v_ife, v_pass, e_var, e_const, e_tup, e_lst, e_bin, e_negc, e_not, e_and, e_or, e_cmp, e_chain, e_ife, e_idx, e_slc, e_call, e_isi, e_blt, evDs, evPar, evAnd, x_bind, x_then, ok_bind, ok_then, nx_then, rt_then, np_imp, np_nl, np_py, ni_imp, ni_py, ni_nl, nb_imp, nb_py, no_none, no_int, no_intp, fz_imp, fz_im, fz_nl, im_py, im_imp, ok_imp, dm_nil, dm_one, dm_two, dr_py, tp_nil, tp_cons, ck_true, fin_rt, fin_nx, tr_imp, tr_nl, st_im, st_imp, st_nl, st_nlt, un_imp, b_len, b_all, b_any, b_max, b_min, b_int, b_intb, b_ll, b_lt, b_tl, b_tt, len_l, len_t, it_sl, it_st, it_ss, ty_str, ty_tup, c_le, c_ge, c_lt, c_gt, c_eqi, c_nei, c_eqs, c_nes, c_eqb, c_isb, c_isnb, o_add, o_sub, idx_t, idx_l, at0, at1, at2, at3, Bool.not_true, Bool.not_false, Bool.true_and, Bool.false_and, tgSlots, wipeE, bindT, List.getElem?_cons_zero, List.getElem?_cons_succ, List.set_cons_zero, List.set_cons_succ, Option.map_some, if_true, Bool.false_eq_true, if_false, i0 hr]) (fun hb => he r hr (eq_of_beq hb) st)
  have hH := fun st e2 e3 e4 e5 e6 => sel1 w_hook hookP (.tup [(.idx (.var 1) (.const (.int 1))), (.idx (.var 1) (.const (.int 2)))]) st e2 e3 e4 e5 e6 (fun r hr hw st => by
    have h3 := (hs r hr).hook hw
    have q1 := idx_row (r := r) 1 (by omega)
    have q2 := idx_row (r := r) 2 (by omega)
    have q1 : idxop (rowP r) (.int 1) = some (.str (wAt r 1)) := q1
    have q2 : idxop (rowP r) (.int 2) = some (.str (wAt r 2)) := q2
    simp only [v_nil, v_cons, v_for, v_asg, v_par, v_unp, v_setI, v_expr, v_ret, v_ife, v_pass, e_var, e_const, e_tup, e_lst, e_bin, e_negc, e_not, e_and, e_or, e_cmp, e_chain, e_ife, e_idx, e_slc, e_call, e_isi, e_blt, evDs, evPar, evAnd, x_bind, x_then, ok_bind, ok_then, nx_then, rt_then, np_imp, np_nl, np_py, ni_imp, ni_py, ni_nl, nb_imp, nb_py, no_none, no_int, no_intp, fz_imp, fz_im, fz_nl, im_py, im_imp, ok_imp, dm_nil, dm_one, dm_two, dr_py, tp_nil, tp_cons, ck_true, fin_rt, fin_nx, tr_imp, tr_nl, st_im, st_imp, st_nl, st_nlt, un_imp, b_len, b_all, b_any, b_max, b_min, b_int, b_intb, b_ll, b_lt, b_tl, b_tt, len_l, len_t, it_sl, it_st, it_ss, ty_str, ty_tup, c_le, c_ge, c_lt, c_gt, c_eqi, c_nei, c_eqs, c_nes, c_eqb, c_isb, c_isnb, o_add, o_sub, idx_t, idx_l, at0, at1, at2, at3, Bool.not_true, Bool.not_false, Bool.true_and, Bool.false_and, tgSlots, wipeE, bindT, List.getElem?_cons_zero, List.getElem?_cons_succ, List.set_cons_zero, List.set_cons_succ, Option.map_some, if_true, Bool.false_eq_true, if_false, List.length_cons, List.length_nil, Nat.reduceAdd, Nat.zero_add, SZ, sizeLine_eq, Nat.reduceLeDiff, decide_true, eq_self, q1, q2]
    rfl)
  have hF := fun w0 (hw0 : ∀ r ∈ rows, wAt r 0 = w0 → 2 ≤ r.length) st e2 e3 e4 e5 e6 => sel1 w0 (fun r => .str (wAt r 1)) (.idx (.var 1) (.const (.int 1))) st e2 e3 e4 e5 e6 (fun r hr hw st => by
    have q1 : idxop (rowP r) (.int 1) = some (.str (wAt r 1)) := idx_row (r := r) 1 (by have := hw0 r hr hw; omega)
    simp only [v_nil, v_cons, v_for, v_asg, v_par, v_unp, v_setI, v_expr, v_ret, v_ife, v_pass, e_var, e_const, e_tup, e_lst, e_bin, e_negc, e_not, e_and, e_or, e_cmp, e_chain, e_ife, e_idx, e_slc, e_call, e_isi, e_blt, evDs, evPar, evAnd, x_bind, x_then, ok_bind, ok_then, nx_then, rt_then, np_imp, np_nl, np_py, ni_imp, ni_py, ni_nl, nb_imp, nb_py, no_none, no_int, no_intp, fz_imp, fz_im, fz_nl, im_py, im_imp, ok_imp, dm_nil, dm_one, dm_two, dr_py, tp_nil, tp_cons, ck_true, fin_rt, fin_nx, tr_imp, tr_nl, st_im, st_imp, st_nl, st_nlt, un_imp, b_len, b_all, b_any, b_max, b_min, b_int, b_intb, b_ll, b_lt, b_tl, b_tt, len_l, len_t, it_sl, it_st, it_ss, ty_str, ty_tup, c_le, c_ge, c_lt, c_gt, c_eqi, c_nei, c_eqs, c_nes, c_eqb, c_isb, c_isnb, o_add, o_sub, idx_t, idx_l, at0, at1, at2, at3, Bool.not_true, Bool.not_false, Bool.true_and, Bool.false_and, tgSlots, wipeE, bindT, List.getElem?_cons_zero, List.getElem?_cons_succ, List.set_cons_zero, List.set_cons_succ, Option.map_some, if_true, Bool.false_eq_true, if_false, q1])
  have hTk : ∀ st r e2 e3 e4 e5 e6, r ∈ rows → 2 ≤ r.length → evE Φ [some (.py (.list (rows.map rowP))), some (.py (rowP r)), e2, e3, e4, e5, e6] (.comp (.idx (.var 6) (.const (.int 2))) (.one 6) .seq [(.var 0)] [(.and (.cmp .eq (.idx (.var 6) (.const (.int 0))) (.const (.str ⟨#[116, 97, 107, 101, 115]⟩))) (.cmp .eq (.idx (.var 6) (.const (.int 1))) (.idx (.var 1) (.const (.int 1)))))]) st = .ok (.nl (takesP rows (wAt r 1))) st := fun st r e2 e3 e4 e5 e6 hr h2 => by
    have q1 : idxop (rowP r) (.int 1) = some (.str (wAt r 1)) := idx_row (r := r) 1 (by omega)
    refine comp_gen rowP _ rows (ds := [.py (.list (rows.map rowP))]) (by simp only [v_nil, v_cons, v_for, v_asg, v_par, v_unp, v_setI, v_expr, v_ret, v_ife, v_pass, e_var, e_const, e_tup, e_lst, e_bin, e_negc, e_not, e_and, e_or, e_cmp, e_chain, e_ife, e_idx, e_slc, e_call, e_isi, e_blt, evDs, evPar, evAnd, x_bind, x_then, ok_bind, ok_then, nx_then, rt_then, np_imp, np_nl, np_py, ni_imp, ni_py, ni_nl, nb_imp, nb_py, no_none, no_int, no_intp, fz_imp, fz_im, fz_nl, im_py, im_imp, ok_imp, dm_nil, dm_one, dm_two, dr_py, tp_nil, tp_cons, ck_true, fin_rt, fin_nx, tr_imp, tr_nl, st_im, st_imp, st_nl, st_nlt, un_imp, b_len, b_all, b_any, b_max, b_min, b_int, b_intb, b_ll, b_lt, b_tl, b_tt, len_l, len_t, it_sl, it_st, it_ss, ty_str, ty_tup, c_le, c_ge, c_lt, c_gt, c_eqi, c_nei, c_eqs, c_nes, c_eqb, c_isb, c_isnb, o_add, o_sub, idx_t, idx_l, at0, at1, at2, at3, Bool.not_true, Bool.not_false, Bool.true_and, Bool.false_and, tgSlots, wipeE, bindT, List.getElem?_cons_zero, List.getElem?_cons_succ, List.set_cons_zero, List.set_cons_succ, Option.map_some, if_true, Bool.false_eq_true, if_false]) (it_rows rows) (fun o ho st => ?_) (Nat.le_trans hz (by decide))
    refine turn_if (b := wAt o 0 == w_takes && wAt o 1 == wAt r 1) (env1 := [some (.py (.list (rows.map rowP))), some (.py (rowP r)), e2, e3, e4, e5, some (.py (rowP o))]) (by simp only [v_nil, v_cons, v_for, v_asg, v_par, v_unp, v_setI, v_expr, v_ret, v_ife, v_pass, e_var, e_const, e_tup, e_lst, e_bin, e_negc, e_not, e_and, e_or, e_cmp, e_chain, e_ife, e_idx, e_slc, e_call, e_isi, e_blt, evDs, evPar, evAnd, x_bind, x_then, ok_bind, ok_then, nx_then, rt_then, np_imp, np_nl, np_py, ni_imp, ni_py, ni_nl, nb_imp, nb_py, no_none, no_int, no_intp, fz_imp, fz_im, fz_nl, im_py, im_imp, ok_imp, dm_nil, dm_one, dm_two, dr_py, tp_nil, tp_cons, ck_true, fin_rt, fin_nx, tr_imp, tr_nl, st_im, st_imp, st_nl, st_nlt, un_imp, b_len, b_all, b_any, b_max, b_min, b_int, b_intb, b_ll, b_lt, b_tl, b_tt, len_l, len_t, it_sl, it_st, it_ss, ty_str, ty_tup, c_le, c_ge, c_lt, c_gt, c_eqi, c_nei, c_eqs, c_nes, c_eqb, c_isb, c_isnb, o_add, o_sub, idx_t, idx_l, at0, at1, at2, at3, Bool.not_true, Bool.not_false, Bool.true_and, Bool.false_and, tgSlots, wipeE, bindT, List.getElem?_cons_zero, List.getElem?_cons_succ, List.set_cons_zero, List.set_cons_succ, Option.map_some, if_true, Bool.false_eq_true, if_false]) ?_ (fun hb => ?_)
    · simp only [v_nil, v_cons, v_for, v_asg, v_par, v_unp, v_setI, v_expr, v_ret, v_ife, v_pass, e_var, e_const, e_tup, e_lst, e_bin, e_negc, e_not, e_and, e_or, e_cmp, e_chain, e_ife, e_idx, e_slc, e_call, e_isi, e_blt, evDs, evPar, evAnd, x_bind, x_then, ok_bind, ok_then, nx_then, rt_then, np_imp, np_nl, np_py, ni_imp, ni_py, ni_nl, nb_imp, nb_py, no_none, no_int, no_intp, fz_imp, fz_im, fz_nl, im_py, im_imp, ok_imp, dm_nil, dm_one, dm_two, dr_py, tp_nil, tp_cons, ck_true, fin_rt, fin_nx, tr_imp, tr_nl, st_im, st_imp, st_nl, st_nlt, un_imp, b_len, b_all, b_any, b_max, b_min, b_int, b_intb, b_ll, b_lt, b_tl, b_tt, len_l, len_t, it_sl, it_st, it_ss, ty_str, ty_tup, c_le, c_ge, c_lt, c_gt, c_eqi, c_nei, c_eqs, c_nes, c_eqb, c_isb, c_isnb, o_add, o_sub, idx_t, idx_l, at0, at1, at2, at3, Bool.not_true, Bool.not_false, Bool.true_and, Bool.false_and, tgSlots, wipeE, bindT, List.getElem?_cons_zero, List.getElem?_cons_succ, List.set_cons_zero, List.set_cons_succ, Option.map_some, if_true, Bool.false_eq_true, if_false, i0 ho]
      cases hb : wAt o 0 == w_takes with
      | false => simp only [v_nil, v_cons, v_for, v_asg, v_par, v_unp, v_setI, v_expr, v_ret, v_ife, v_pass, e_var, e_const, e_tup, e_lst, e_bin, e_negc, e_not, e_and, e_or, e_cmp, e_chain, e_ife, e_idx, e_slc, e_call, e_isi, e_blt, evDs, evPar, evAnd, x_bind, x_then, ok_bind, ok_then, nx_then, rt_then, np_imp, np_nl, np_py, ni_imp, ni_py, ni_nl, nb_imp, nb_py, no_none, no_int, no_intp, fz_imp, fz_im, fz_nl, im_py, im_imp, ok_imp, dm_nil, dm_one, dm_two, dr_py, tp_nil, tp_cons, ck_true, fin_rt, fin_nx, tr_imp, tr_nl, st_im, st_imp, st_nl, st_nlt, un_imp, b_len, b_all, b_any, b_max, b_min, b_int, b_intb, b_ll, b_lt, b_tl, b_tt, len_l, len_t, it_sl, it_st, it_ss, ty_str, ty_tup, c_le, c_ge, c_lt, c_gt, c_eqi, c_nei, c_eqs, c_nes, c_eqb, c_isb, c_isnb, o_add, o_sub, idx_t, idx_l, at0, at1, at2, at3, Bool.not_true, Bool.not_false, Bool.true_and, Bool.false_and, tgSlots, wipeE, bindT, List.getElem?_cons_zero, List.getElem?_cons_succ, List.set_cons_zero, List.set_cons_succ, Option.map_some, if_true, Bool.false_eq_true, if_false]
      | true =>
        have h3 := (hs o ho).takes (eq_of_beq hb)
        have q2 : idxop (rowP o) (.int 1) = some (.str (wAt o 1)) := idx_row (r := o) 1 (by omega)
        simp only [v_nil, v_cons, v_for, v_asg, v_par, v_unp, v_setI, v_expr, v_ret, v_ife, v_pass, e_var, e_const, e_tup, e_lst, e_bin, e_negc, e_not, e_and, e_or, e_cmp, e_chain, e_ife, e_idx, e_slc, e_call, e_isi, e_blt, evDs, evPar, evAnd, x_bind, x_then, ok_bind, ok_then, nx_then, rt_then, np_imp, np_nl, np_py, ni_imp, ni_py, ni_nl, nb_imp, nb_py, no_none, no_int, no_intp, fz_imp, fz_im, fz_nl, im_py, im_imp, ok_imp, dm_nil, dm_one, dm_two, dr_py, tp_nil, tp_cons, ck_true, fin_rt, fin_nx, tr_imp, tr_nl, st_im, st_imp, st_nl, st_nlt, un_imp, b_len, b_all, b_any, b_max, b_min, b_int, b_intb, b_ll, b_lt, b_tl, b_tt, len_l, len_t, it_sl, it_st, it_ss, ty_str, ty_tup, c_le, c_ge, c_lt, c_gt, c_eqi, c_nei, c_eqs, c_nes, c_eqb, c_isb, c_isnb, o_add, o_sub, idx_t, idx_l, at0, at1, at2, at3, Bool.not_true, Bool.not_false, Bool.true_and, Bool.false_and, tgSlots, wipeE, bindT, List.getElem?_cons_zero, List.getElem?_cons_succ, List.set_cons_zero, List.set_cons_succ, Option.map_some, if_true, Bool.false_eq_true, if_false, q1, q2]
    · rw [Bool.and_eq_true] at hb
      have h3 := (hs o ho).takes (eq_of_beq hb.1)
      have q2 : idxop (rowP o) (.int 2) = some (.str (wAt o 2)) := idx_row (r := o) 2 (by omega)
      simp only [v_nil, v_cons, v_for, v_asg, v_par, v_unp, v_setI, v_expr, v_ret, v_ife, v_pass, e_var, e_const, e_tup, e_lst, e_bin, e_negc, e_not, e_and, e_or, e_cmp, e_chain, e_ife, e_idx, e_slc, e_call, e_isi, e_blt, evDs, evPar, evAnd, x_bind, x_then, ok_bind, ok_then, nx_then, rt_then, np_imp, np_nl, np_py, ni_imp, ni_py, ni_nl, nb_imp, nb_py, no_none, no_int, no_intp, fz_imp, fz_im, fz_nl, im_py, im_imp, ok_imp, dm_nil, dm_one, dm_two, dr_py, tp_nil, tp_cons, ck_true, fin_rt, fin_nx, tr_imp, tr_nl, st_im, st_imp, st_nl, st_nlt, un_imp, b_len, b_all, b_any, b_max, b_min, b_int, b_intb, b_ll, b_lt, b_tl, b_tt, len_l, len_t, it_sl, it_st, it_ss, ty_str, ty_tup, c_le, c_ge, c_lt, c_gt, c_eqi, c_nei, c_eqs, c_nes, c_eqb, c_isb, c_isnb, o_add, o_sub, idx_t, idx_l, at0, at1, at2, at3, Bool.not_true, Bool.not_false, Bool.true_and, Bool.false_and, tgSlots, wipeE, bindT, List.getElem?_cons_zero, List.getElem?_cons_succ, List.set_cons_zero, List.set_cons_succ, Option.map_some, if_true, Bool.false_eq_true, if_false, q2]
  obtain ⟨env', st', e, ⟨e4, e6, rfl⟩, rfl⟩ := forL_st (f := turnF Φ (.one 1) inLoop) rowP (Inv := fun done env st' => (∃ e4 e6, env = [some (.py (.list (rows.map rowP))), (match done.getLast? with | some r => some (.py (rowP r)) | none => none), some (.py (.tuple (done.filterMap (sel w_tool (toolP rows))))), some (.py (.tuple (rows.filterMap (sel w_hook hookP)))), e4, none, e6]) ∧ st' = st) (all := rows) (fun done r rest env st1 hall h => by
    obtain ⟨⟨e4, e6, rfl⟩, rfl⟩ := h
    have hr : r ∈ rows := by rw [hall]; simp
    have hd : done.length ≤ 1000000 := by
      rw [hall, List.length_append] at hz
      omega
    have hd2 := fm_len (sel w_tool (toolP rows)) done
    have el : (match (done ++ [r]).getLast? with | some r => some (D.py (rowP r)) | none => none) = some (D.py (rowP r)) := by rw [List.getLast?_concat]
    have ef : (done ++ [r]).filterMap (sel w_tool (toolP rows)) = done.filterMap (sel w_tool (toolP rows)) ++ (match sel w_tool (toolP rows) r with | some x => [x] | none => []) := by
      rw [List.filterMap_append]
      simp only [List.filterMap_cons, List.filterMap_nil]
      cases sel w_tool (toolP rows) r <;> rfl
    rw [el, ef]
    unfold turnF inLoop
    cases hb : wAt r 0 == w_tool with
    | false =>
      have es : sel w_tool (toolP rows) r = none := by unfold sel; rw [hb]; rfl
      rw [es, List.append_nil]
      refine ⟨_, _, ?_, ⟨e4, e6, rfl⟩, rfl⟩
      simp only [v_nil, v_cons, v_for, v_asg, v_par, v_unp, v_setI, v_expr, v_ret, v_ife, v_pass, e_var, e_const, e_tup, e_lst, e_bin, e_negc, e_not, e_and, e_or, e_cmp, e_chain, e_ife, e_idx, e_slc, e_call, e_isi, e_blt, evDs, evPar, evAnd, x_bind, x_then, ok_bind, ok_then, nx_then, rt_then, np_imp, np_nl, np_py, ni_imp, ni_py, ni_nl, nb_imp, nb_py, no_none, no_int, no_intp, fz_imp, fz_im, fz_nl, im_py, im_imp, ok_imp, dm_nil, dm_one, dm_two, dr_py, tp_nil, tp_cons, ck_true, fin_rt, fin_nx, tr_imp, tr_nl, st_im, st_imp, st_nl, st_nlt, un_imp, b_len, b_all, b_any, b_max, b_min, b_int, b_intb, b_ll, b_lt, b_tl, b_tt, len_l, len_t, it_sl, it_st, it_ss, ty_str, ty_tup, c_le, c_ge, c_lt, c_gt, c_eqi, c_nei, c_eqs, c_nes, c_eqb, c_isb, c_isnb, o_add, o_sub, idx_t, idx_l, at0, at1, at2, at3, Bool.not_true, Bool.not_false, Bool.true_and, Bool.false_and, tgSlots, wipeE, bindT, List.getElem?_cons_zero, List.getElem?_cons_succ, List.set_cons_zero, List.set_cons_succ, Option.map_some, if_true, Bool.false_eq_true, if_false, i0 hr, hb]
    | true =>
      have es : sel w_tool (toolP rows) r = some (toolP rows r) := by unfold sel; rw [hb]; rfl
      have h3 := (hs r hr).tool (eq_of_beq hb)
      have q1 : idxop (rowP r) (.int 1) = some (.str (wAt r 1)) := idx_row (r := r) 1 (by omega)
      have q2 : idxop (rowP r) (.int 2) = some (.str (wAt r 2)) := idx_row (r := r) 2 (by omega)
      have hl : lenP (rowP r) = some r.length := by
        show some (r.map PyData.str).length = _
        rw [List.length_map]
      have h4 : ((r.length : Int) == 4) = (r.length == 4) := by
        rw [Bool.eq_iff_iff, beq_iff_eq, beq_iff_eq]; omega
      rw [es]
      refine ⟨_, _, ?_, ⟨some (.py (.tuple (takesP rows (wAt r 1)))), e6, rfl⟩, rfl⟩
      simp only [v_nil, v_cons, v_for, v_asg, v_par, v_unp, v_setI, v_expr, v_ret, v_ife, v_pass, e_var, e_const, e_tup, e_lst, e_bin, e_negc, e_not, e_and, e_or, e_cmp, e_chain, e_ife, e_idx, e_slc, e_call, e_isi, e_blt, evDs, evPar, evAnd, x_bind, x_then, ok_bind, ok_then, nx_then, rt_then, np_imp, np_nl, np_py, ni_imp, ni_py, ni_nl, nb_imp, nb_py, no_none, no_int, no_intp, fz_imp, fz_im, fz_nl, im_py, im_imp, ok_imp, dm_nil, dm_one, dm_two, dr_py, tp_nil, tp_cons, ck_true, fin_rt, fin_nx, tr_imp, tr_nl, st_im, st_imp, st_nl, st_nlt, un_imp, b_len, b_all, b_any, b_max, b_min, b_int, b_intb, b_ll, b_lt, b_tl, b_tt, len_l, len_t, it_sl, it_st, it_ss, ty_str, ty_tup, c_le, c_ge, c_lt, c_gt, c_eqi, c_nei, c_eqs, c_nes, c_eqb, c_isb, c_isnb, o_add, o_sub, idx_t, idx_l, at0, at1, at2, at3, Bool.not_true, Bool.not_false, Bool.true_and, Bool.false_and, tgSlots, wipeE, bindT, List.getElem?_cons_zero, List.getElem?_cons_succ, List.set_cons_zero, List.set_cons_succ, Option.map_some, if_true, Bool.false_eq_true, if_false, i0 hr, hb, hTk _ r _ _ _ _ _ hr (show 2 ≤ r.length by omega), List.length_cons, List.length_nil, Nat.reduceAdd, Nat.zero_add, SZ, sizeLine_eq, Nat.reduceLeDiff, decide_true, eq_self, q1, q2, hl, h4]
      rw [o_tup _ _ _ (Nat.le_trans (show (done.filterMap (sel w_tool (toolP rows))).length + 1 ≤ 1000001 by omega) (by decide))]
      simp only [v_nil, v_cons, v_for, v_asg, v_par, v_unp, v_setI, v_expr, v_ret, v_ife, v_pass, e_var, e_const, e_tup, e_lst, e_bin, e_negc, e_not, e_and, e_or, e_cmp, e_chain, e_ife, e_idx, e_slc, e_call, e_isi, e_blt, evDs, evPar, evAnd, x_bind, x_then, ok_bind, ok_then, nx_then, rt_then, np_imp, np_nl, np_py, ni_imp, ni_py, ni_nl, nb_imp, nb_py, no_none, no_int, no_intp, fz_imp, fz_im, fz_nl, im_py, im_imp, ok_imp, dm_nil, dm_one, dm_two, dr_py, tp_nil, tp_cons, ck_true, fin_rt, fin_nx, tr_imp, tr_nl, st_im, st_imp, st_nl, st_nlt, un_imp, b_len, b_all, b_any, b_max, b_min, b_int, b_intb, b_ll, b_lt, b_tl, b_tt, len_l, len_t, it_sl, it_st, it_ss, ty_str, ty_tup, c_le, c_ge, c_lt, c_gt, c_eqi, c_nei, c_eqs, c_nes, c_eqb, c_isb, c_isnb, o_add, o_sub, idx_t, idx_l, at0, at1, at2, at3, Bool.not_true, Bool.not_false, Bool.true_and, Bool.false_and, tgSlots, wipeE, bindT, List.getElem?_cons_zero, List.getElem?_cons_succ, List.set_cons_zero, List.set_cons_succ, Option.map_some, if_true, Bool.false_eq_true, if_false]
      rfl) rows [] [some (.py (.list (rows.map rowP))), none, some (.py (.tuple [])), some (.py (.tuple (rows.filterMap (sel w_hook hookP)))), none, none, none] st rfl ⟨⟨_, _, rfl⟩, rfl⟩
  show fin st'.length (evSs Φ [_, .for (.one 1) .seq [(.var 0)] inLoop, _, _] [some (.py (.list (rows.map rowP))), none, none, none, none, none, none] st') = _
  have hI : evI Φ [some (.py (.list (rows.map rowP))), none, some (.py (.tuple [])), some (.py (.tuple (rows.filterMap (sel w_hook hookP)))), none, none, none] .seq [(.var 0)] st' = .ok (rows.map rowP) st' := by
    unfold evI
    simp only [v_nil, v_cons, v_for, v_asg, v_par, v_unp, v_setI, v_expr, v_ret, v_ife, v_pass, e_var, e_const, e_tup, e_lst, e_bin, e_negc, e_not, e_and, e_or, e_cmp, e_chain, e_ife, e_idx, e_slc, e_call, e_isi, e_blt, evDs, evPar, evAnd, x_bind, x_then, ok_bind, ok_then, nx_then, rt_then, np_imp, np_nl, np_py, ni_imp, ni_py, ni_nl, nb_imp, nb_py, no_none, no_int, no_intp, fz_imp, fz_im, fz_nl, im_py, im_imp, ok_imp, dm_nil, dm_one, dm_two, dr_py, tp_nil, tp_cons, ck_true, fin_rt, fin_nx, tr_imp, tr_nl, st_im, st_imp, st_nl, st_nlt, un_imp, b_len, b_all, b_any, b_max, b_min, b_int, b_intb, b_ll, b_lt, b_tl, b_tt, len_l, len_t, it_sl, it_st, it_ss, ty_str, ty_tup, c_le, c_ge, c_lt, c_gt, c_eqi, c_nei, c_eqs, c_nes, c_eqb, c_isb, c_isnb, o_add, o_sub, idx_t, idx_l, at0, at1, at2, at3, Bool.not_true, Bool.not_false, Bool.true_and, Bool.false_and, tgSlots, wipeE, bindT, List.getElem?_cons_zero, List.getElem?_cons_succ, List.set_cons_zero, List.set_cons_succ, Option.map_some, if_true, Bool.false_eq_true, if_false]
  simp only [v_nil, v_cons, v_for, v_asg, v_par, v_unp, v_setI, v_expr, v_ret, v_ife, v_pass, e_var, e_const, e_tup, e_lst, e_bin, e_negc, e_not, e_and, e_or, e_cmp, e_chain, e_ife, e_idx, e_slc, e_call, e_isi, e_blt, evDs, evPar, evAnd, x_bind, x_then, ok_bind, ok_then, nx_then, rt_then, np_imp, np_nl, np_py, ni_imp, ni_py, ni_nl, nb_imp, nb_py, no_none, no_int, no_intp, fz_imp, fz_im, fz_nl, im_py, im_imp, ok_imp, dm_nil, dm_one, dm_two, dr_py, tp_nil, tp_cons, ck_true, fin_rt, fin_nx, tr_imp, tr_nl, st_im, st_imp, st_nl, st_nlt, un_imp, b_len, b_all, b_any, b_max, b_min, b_int, b_intb, b_ll, b_lt, b_tl, b_tt, len_l, len_t, it_sl, it_st, it_ss, ty_str, ty_tup, c_le, c_ge, c_lt, c_gt, c_eqi, c_nei, c_eqs, c_nes, c_eqb, c_isb, c_isnb, o_add, o_sub, idx_t, idx_l, at0, at1, at2, at3, Bool.not_true, Bool.not_false, Bool.true_and, Bool.false_and, tgSlots, wipeE, bindT, List.getElem?_cons_zero, List.getElem?_cons_succ, List.set_cons_zero, List.set_cons_succ, Option.map_some, if_true, Bool.false_eq_true, if_false, List.length_cons, List.length_nil, Nat.reduceAdd, Nat.zero_add, SZ, sizeLine_eq, Nat.reduceLeDiff, decide_true, eq_self, hH, setDs, pushD, hI, e, hF w_feeds (fun r hr hw => (hs r hr).feeds hw), hF w_frees (fun r hr hw => (hs r hr).frees hw)]
  rfl
end
/-! ### a setup's rows, put together: the setup -/
theorem fm_none {α : Type} {f : List Str → Option P} {g : α → List Str} : ∀ {xs : List α}, (∀ x ∈ xs, f (g x) = none) → (xs.map g).filterMap f = []
  | [], _ => rfl
  | x :: xs, h => by
    rw [List.map_cons, List.filterMap_cons, h x List.mem_cons_self]
    exact fm_none fun y hy => h y (List.mem_cons_of_mem _ hy)
theorem fm_some {α : Type} {f : List Str → Option P} {g : α → List Str} {k : α → P} : ∀ {xs : List α}, (∀ x ∈ xs, f (g x) = some (k x)) → (xs.map g).filterMap f = xs.map k
  | [], _ => rfl
  | x :: xs, h => by
    rw [List.map_cons, List.filterMap_cons, h x List.mem_cons_self, List.map_cons]
    simp only []
    rw [fm_some fun y hy => h y (List.mem_cons_of_mem _ hy)]
theorem fm_flat {f : List Str → Option P} {k : To → List P} : ∀ {ts : List To}, (∀ t ∈ ts, (wT t).filterMap f = k t) → (ts.flatMap wT).filterMap f = ts.flatMap k
  | [], _ => rfl
  | t :: ts, h => by
    rw [List.flatMap_cons, List.filterMap_append, h t List.mem_cons_self, List.flatMap_cons, fm_flat fun y hy => h y (List.mem_cons_of_mem _ hy)]
theorem wAt_tool (t : To) : wAt (wTool t) 0 = w_tool ∧ wAt (wTool t) 1 = t.1 ∧ wAt (wTool t) 2 = t.2.1 := ⟨rfl, rfl, rfl⟩
theorem tool_four (t : To) : ((wTool t).length == 4) = t.2.2.2 := by
  unfold wTool
  cases t.2.2.2 <;> rfl
theorem takes_flat {n : Str} : ∀ {ts : List To}, (ts.map (·.1)).Nodup → ∀ t ∈ ts, t.1 = n → ts.flatMap (fun t => if t.1 == n then t.2.2.1.map PyData.str else []) = t.2.2.1.map PyData.str
  | [], _, t, ht, _ => by cases ht
  | t0 :: ts, hnd, t, ht, hn => by
    rw [List.map_cons, List.nodup_cons] at hnd
    rw [List.flatMap_cons]
    rcases List.mem_cons.mp ht with rfl | ht
    · have e : ts.flatMap (fun t => if t.1 == n then t.2.2.1.map PyData.str else []) = [] := by
        rw [List.flatMap_eq_nil_iff]
        intro x hx
        rw [if_neg]
        intro hb
        have hb := eq_of_beq hb
        exact hnd.1 (by rw [hn, ← hb]; exact List.mem_map_of_mem hx)
      rw [e, List.append_nil, if_pos (by rw [hn]; exact beq_self_eq_true n)]
    · rw [if_neg, List.nil_append]
      · exact takes_flat hnd.2 t ht hn
      · intro hb
        have hb := eq_of_beq hb
        exact hnd.1 (by rw [hb, ← hn]; exact List.mem_map_of_mem ht)
theorem takes_rows {s : SeT} (g : s.Good) {t : To} (ht : t ∈ s.ts) : takesP s.rows t.1 = t.2.2.1.map .str := by
  unfold takesP SeT.rows
  rw [List.filterMap_append, List.filterMap_append, List.filterMap_append, fm_none (g := wH) fun x _ => rfl, fm_none (g := wE) fun x _ => rfl, fm_none (g := wR) fun x _ => rfl, List.append_nil, List.append_nil, List.append_nil]
  rw [fm_flat (k := fun t' => if t'.1 == t.1 then t'.2.2.1.map PyData.str else []) fun t' _ => ?_]
  · exact takes_flat g.nd t ht rfl
  · unfold wT
    rw [List.filterMap_cons]
    have e : (if wAt (wTool t') 0 == w_takes && wAt (wTool t') 1 == t.1 then some (PyData.str (wAt (wTool t') 2)) else none) = none := rfl
    rw [e]
    simp only []
    cases hb : t'.1 == t.1 with
    | true =>
      rw [if_pos rfl]
      refine fm_some fun o _ => ?_
      show (if (w_takes == w_takes) && (t'.1 == t.1) then some (PyData.str o) else none) = _
      rw [hb]; rfl
    | false =>
      rw [if_neg Bool.false_ne_true]
      refine fm_none fun o _ => ?_
      show (if (w_takes == w_takes) && (t'.1 == t.1) then some (PyData.str o) else none) = _
      rw [hb]; rfl
theorem flat_sing {f : To → P} : ∀ ts : List To, ts.flatMap (fun t => [f t]) = ts.map f
  | [] => rfl
  | t :: ts => by rw [List.flatMap_cons, flat_sing ts]; rfl
theorem flat_nil : ∀ ts : List To, ts.flatMap (fun _ => ([] : List P)) = []
  | [] => rfl
  | t :: ts => by rw [List.flatMap_cons, flat_nil ts]; rfl
theorem setupIn_rows {s : SeT} (g : s.Good) : setupIn s.rows = s.enc := by
  have h1 : s.rows.filterMap (sel w_tool (toolP s.rows)) = s.ts.map encT := by
    have e : ∀ f, s.rows.filterMap (sel w_tool f) = s.ts.map fun t => f (wTool t) := fun f => by
      unfold SeT.rows
      rw [List.filterMap_append, List.filterMap_append, List.filterMap_append, fm_none (g := wH) fun x _ => rfl, fm_none (g := wE) fun x _ => rfl, fm_none (g := wR) fun x _ => rfl, List.append_nil, List.append_nil, List.append_nil]
      rw [fm_flat (k := fun t' => [f (wTool t')]) fun t' _ => ?_, flat_sing]
      unfold wT
      rw [List.filterMap_cons]
      have e : sel w_tool f (wTool t') = some (f (wTool t')) := rfl
      rw [e]
      simp only []
      rw [fm_none fun o _ => rfl]
    rw [e]
    refine List.map_congr_left fun t ht => ?_
    unfold toolP
    rw [(wAt_tool t).2.1, (wAt_tool t).2.2, tool_four, takes_rows g ht]
    rfl
  have h2 : s.rows.filterMap (sel w_hook hookP) = s.hs.map encH := by
    unfold SeT.rows
    rw [List.filterMap_append, List.filterMap_append, List.filterMap_append, fm_some (g := wH) (k := encH) fun x _ => rfl, fm_none (g := wE) fun x _ => rfl, fm_none (g := wR) fun x _ => rfl, List.append_nil, List.append_nil]
    rw [fm_flat (k := fun _ => []) fun t' _ => ?_, flat_nil]
    · rfl
    · unfold wT
      rw [List.filterMap_cons]
      have e : sel w_hook hookP (wTool t') = none := rfl
      rw [e]
      exact fm_none fun o _ => rfl
  have h3 : s.rows.filterMap (sel w_feeds fun r => .str (wAt r 1)) = s.fe.map .str := by
    unfold SeT.rows
    rw [List.filterMap_append, List.filterMap_append, List.filterMap_append, fm_none (g := wH) fun x _ => rfl, fm_some (g := wE) (k := PyData.str) fun x _ => rfl, fm_none (g := wR) fun x _ => rfl, List.append_nil, List.append_nil]
    rw [fm_flat (k := fun _ => []) fun t' _ => ?_, flat_nil]
    · rfl
    · unfold wT
      rw [List.filterMap_cons]
      have e : sel w_feeds (fun r => .str (wAt r 1)) (wTool t') = none := rfl
      rw [e]
      exact fm_none fun o _ => rfl
  have h4 : s.rows.filterMap (sel w_frees fun r => .str (wAt r 1)) = s.fr.map .str := by
    unfold SeT.rows
    rw [List.filterMap_append, List.filterMap_append, List.filterMap_append, fm_none (g := wH) fun x _ => rfl, fm_none (g := wE) fun x _ => rfl, fm_some (g := wR) (k := PyData.str) fun x _ => rfl, List.append_nil]
    rw [fm_flat (k := fun _ => []) fun t' _ => ?_, flat_nil]
    · rfl
    · unfold wT
      rw [List.filterMap_cons]
      have e : sel w_frees (fun r => .str (wAt r 1)) (wTool t') = none := rfl
      rw [e]
      exact fm_none fun o _ => rfl
  unfold setupIn
  rw [h1, h2, h3, h4]
  rfl
theorem rows_sh {s : SeT} : ∀ r ∈ s.rows, RowSh r := by
  intro r hr
  have k : ∀ a b c ws, RowSh (a :: b :: c :: ws) := fun a b c ws => ⟨by simp, fun _ => by simp, fun _ => by simp, fun _ => by simp, fun _ => by simp, fun _ => by simp⟩
  unfold SeT.rows at hr
  rw [List.mem_append, List.mem_append, List.mem_append, List.mem_flatMap, List.mem_map, List.mem_map, List.mem_map] at hr
  rcases hr with ((⟨t, ht, hr⟩ | ⟨h, hh, rfl⟩) | ⟨n, hn, rfl⟩) | ⟨n, hn, rfl⟩
  · unfold wT at hr
    rcases List.mem_cons.mp hr with rfl | hr
    · exact k _ _ _ _
    · obtain ⟨o, ho, rfl⟩ := List.mem_map.mp hr
      exact k _ _ _ _
  · exact k _ _ _ _
  · have d : wAt (wE n) 0 = w_feeds := rfl
    exact ⟨by simp [wE], fun e => by rw [d] at e; exact absurd e (by decide), fun e => by rw [d] at e; exact absurd e (by decide), fun e => by rw [d] at e; exact absurd e (by decide), fun e => by simp [wE], fun e => by simp [wE]⟩
  · have d : wAt (wR n) 0 = w_frees := rfl
    exact ⟨by simp [wR], fun e => by rw [d] at e; exact absurd e (by decide), fun e => by rw [d] at e; exact absurd e (by decide), fun e => by rw [d] at e; exact absurd e (by decide), fun e => by simp [wR], fun e => by simp [wR]⟩
theorem strs_fit {xs : List P} (h : Strs xs) : fit (.list xs) = true ∧ fit (.tuple xs) = true := by
  have e : ∀ xs : List P, Strs xs → PyData.plainAll xs = true ∧ PyData.depthAll xs ≤ 1 := by
    intro xs
    induction xs with
    | nil => intro _; exact ⟨rfl, by rw [PyData.depthAll]; omega⟩
    | cons x xs ih =>
      intro h
      obtain ⟨s, rfl⟩ := h x List.mem_cons_self
      obtain ⟨a, b⟩ := ih fun y hy => h y (List.mem_cons_of_mem _ hy)
      refine ⟨by rw [PyData.plainAll, a]; rfl, ?_⟩
      rw [PyData.depthAll, PyData.depth]
      omega
  obtain ⟨a, b⟩ := e xs h
  constructor
  · unfold fit
    rw [PyData.plain, a, PyData.depth]
    exact decide_eq_true (by omega)
  · unfold fit
    rw [PyData.plain, a, PyData.depth]
    exact decide_eq_true (by omega)
theorem strs_eqv : ∀ {xs : List P}, Strs xs → PyData.eqvAll xs xs = true
  | [], _ => rfl
  | x :: xs, h => by
    obtain ⟨s, rfl⟩ := h x List.mem_cons_self
    rw [PyData.eqvAll, strs_eqv fun y hy => h y (List.mem_cons_of_mem _ hy)]
    show ((s == s) && true) = true
    rw [beq_self_eq_true]; rfl
theorem c_nel {xs : List P} (h : Strs xs) : cmpop .ne (.list xs) (.list xs) = some false := by
  show (if (fit (.list xs) && fit (.list xs)) = true then some (!(PyData.list xs).eqv (.list xs)) else none) = _
  rw [(strs_fit h).1, Bool.and_self, if_pos rfl, PyData.eqv, strs_eqv h]; rfl
theorem lineP_strs (rows : List (List Str)) : Strs (rows.map lineP) := fun w hw => by
  obtain ⟨r, _, rfl⟩ := List.mem_map.mp hw
  exact ⟨_, rfl⟩
section
variable {Φ : Nat → List D → Sto → R Rv} {st : Sto}
theorem turn_nl {env : Ev} {t : Tg} {elt : X} {y : P} {env1 : Ev} {xs : List P} (h1 : bindT t (wipeE env (tgSlots t)) y = some env1) (h2 : evE Φ env1 elt st = .ok (.nl xs) st) : turnL Φ env t [] elt y st = .ok (some (.list xs)) st := by
  unfold turnL
  rw [h1]
  simp only [evAnd, ok_bind, if_true, h2, ni_nl]
def t_read (i0 i1 i2 i3 : Nat) (x1 x2 x3 : S) : List S := [(.ife (.not (.isi .str (.var 0))) [x1] []),
    (.asg 1 false (.meth .split (.var 0) [(.const (.str ⟨#[10]⟩))])),
    (.for (.tup [2, 3]) .enum [(.var 1)] [(.ife (.not (.call i0 [(.meth .split (.var 3) [(.const (.str ⟨#[32]⟩))])])) [x2] [])]),
    (.asg 4 false (.call i1 [(.comp (.meth .split (.var 3) [(.const (.str ⟨#[32]⟩))]) (.one 3) .seq [(.var 1)] [])])),
    (.ife (.or (.not (.call i2 [(.var 4)])) (.cmp .ne (.call i3 [(.var 4)]) (.var 1))) [x3] []),
    (.ret (.var 4))]
def LineF (Φ : Nat → List D → Sto → R Rv) (i : Nat) : Prop := ∀ (s : SeT) r st, s.Good → r ∈ s.rows → Φ i [.py (.list (r.map .str))] st = ok1 (.bool true) st
def SetInF (Φ : Nat → List D → Sto → R Rv) (i : Nat) : Prop := ∀ (rows : List (List Str)) st, (∀ r ∈ rows, RowSh r) → rows.length ≤ 1000000 → Φ i [.py (.list (rows.map rowP))] st = ok1 (setupIn rows) st
theorem split_ev {env : Ev} {i : Nat} {a b : Str} (hv : env[i]? = some (some (.py (.str a)))) (hb : b.length = 1) (hz : a.length ≤ 1000000) : evE Φ env (.meth .split (.var i) [(.const (.str b))]) st = .ok (.nl ((Txt.split a b).map .str)) st := by
  have e : (!(b.length == 0) && decide (a.length + 2 ≤ SZ)) = true := by
    rw [hb, decide_eq_true (Nat.le_trans (show a.length + 2 ≤ 1000002 by omega) (by decide))]; rfl
  simp only [e_meth, e_var, hv, ok_bind, fz_im, mty_split, ck_true, evDs, e_const, x_bind, fz_imp, m_split, e]
theorem zip_mem {xs : List P} {q : P × Nat} (h : q ∈ xs.zipIdx) : q.1 ∈ xs := List.fst_mem_of_mem_zipIdx h
theorem sem_read {i0 i1 i2 i3 : Nat} {x1 x2 x3 : S} (h0 : LineF Φ i0) (h1 : SetInF Φ i1) {s : SeT} (h2 : ∀ st, Φ i2 [.py s.enc] st = ok1 (.bool true) st) (h3 : LinesF Φ i3) (g : s.Good) :
    fin st.length (evSs Φ (t_read i0 i1 i2 i3 x1 x2 x3) [some (.py (.str s.text)), none, none, none, none] st) = ok1 s.enc st := by
  have hrl := rows_len g
  have e1 : (Txt.split s.text NLN).map PyData.str = s.rows.map lineP := by
    rw [split_text g, List.map_map]; rfl
  have hsp : ∀ env r st, r ∈ s.rows → env[3]? = some (some (D.py (lineP r))) → evE Φ env (.meth .split (.var 3) [(.const (.str ⟨#[32]⟩))]) st = .ok (.nl (r.map .str)) st := fun env r st hr he => by
    have ok := row_ok g r hr
    have q := split_ev (Φ := Φ) (env := env) (st := st) (i := 3) (a := lineOf r) (b := ⟨#[32]⟩) he rfl (Nat.le_trans (line_len ok.2.1 ok.2.2) (by omega))
    rw [q, show Txt.split (lineOf r) ⟨#[32]⟩ = r from split_row ok.1 ok.2.2]
  obtain ⟨env', st', e, ⟨e2, e3, rfl⟩, rfl⟩ := forL_st (f := turnF Φ (.tup [2, 3]) [(.ife (.not (.call i0 [(.meth .split (.var 3) [(.const (.str ⟨#[32]⟩))])])) [x2] [])]) (fun q : P × Nat => PyData.tuple [.int (q.2 : Nat), q.1]) (Inv := fun done env st' => (∃ e2 e3, env = [some (.py (.str s.text)), some (.py (.list (s.rows.map lineP))), e2, e3, none]) ∧ st' = st) (all := (s.rows.map lineP).zipIdx) (fun done q rest env st1 hall h => by
    obtain ⟨⟨e2, e3, rfl⟩, rfl⟩ := h
    have hq : q ∈ (s.rows.map lineP).zipIdx := by rw [hall]; simp
    obtain ⟨r, hr, er⟩ := List.mem_map.mp (zip_mem hq)
    obtain ⟨q1, q2⟩ := q
    have er : lineP r = q1 := er
    subst er
    refine ⟨_, _, ?_, ⟨some (.py (.int (q2 : Nat))), some (.py (lineP r)), rfl⟩, rfl⟩
    unfold turnF
    show (match bindT (.tup [2, 3]) [some (.py (.str s.text)), some (.py (.list (s.rows.map lineP))), e2, e3, none] (.tuple [.int (q2 : Nat), lineP r]) with
      | some env2 => evSs Φ _ env2 st1
      | none => .bad) = _
    rw [show bindT (.tup [2, 3]) [some (.py (.str s.text)), some (.py (.list (s.rows.map lineP))), e2, e3, none] (.tuple [.int (q2 : Nat), lineP r]) = some [some (.py (.str s.text)), some (.py (.list (s.rows.map lineP))), some (.py (.int (q2 : Nat))), some (.py (lineP r)), none] from rfl]
    have hcall : ∀ st, evE Φ [some (.py (.str s.text)), some (.py (.list (s.rows.map lineP))), some (.py (.int (q2 : Nat))), some (.py (lineP r)), none] (.call i0 [(.meth .split (.var 3) [(.const (.str ⟨#[32]⟩))])]) st = ok1 (.bool true) st := fun st => by
      rw [e_call]
      simp only [evDs, hsp [some (.py (.str s.text)), some (.py (.list (s.rows.map lineP))), some (.py (.int (q2 : Nat))), some (.py (lineP r)), none] r _ hr rfl, ok_bind, fz_nl]
      exact h0 s r st g hr
    simp only [v_cons, v_nil, v_ife, e_not, hcall, v_nil, v_cons, v_for, v_asg, v_par, v_unp, v_setI, v_expr, v_ret, v_ife, v_pass, e_var, e_const, e_tup, e_lst, e_bin, e_negc, e_not, e_and, e_or, e_cmp, e_chain, e_ife, e_idx, e_slc, e_call, e_isi, e_blt, evDs, evPar, evAnd, x_bind, x_then, ok_bind, ok_then, nx_then, rt_then, np_imp, np_nl, np_py, ni_imp, ni_py, ni_nl, nb_imp, nb_py, no_none, no_int, no_intp, fz_imp, fz_im, fz_nl, im_py, im_imp, ok_imp, dm_nil, dm_one, dm_two, dr_py, tp_nil, tp_cons, ck_true, fin_rt, fin_nx, tr_imp, tr_nl, st_im, st_imp, st_nl, st_nlt, un_imp, b_len, b_all, b_any, b_max, b_min, b_int, b_intb, b_ll, b_lt, b_tl, b_tt, len_l, len_t, it_sl, it_st, it_ss, ty_str, ty_tup, c_le, c_ge, c_lt, c_gt, c_eqi, c_nei, c_eqs, c_nes, c_eqb, c_isb, c_isnb, o_add, o_sub, idx_t, idx_l, at0, at1, at2, at3, Bool.not_true, Bool.not_false, Bool.true_and, Bool.false_and, tgSlots, wipeE, bindT, List.getElem?_cons_zero, List.getElem?_cons_succ, List.set_cons_zero, List.set_cons_succ, Option.map_some, if_true, Bool.false_eq_true, if_false])
    (s.rows.map lineP).zipIdx [] [some (.py (.str s.text)), some (.py (.list (s.rows.map lineP))), none, none, none] st rfl ⟨⟨_, _, rfl⟩, rfl⟩
  have hI : evI Φ [some (.py (.str s.text)), some (.py (.list (s.rows.map lineP))), none, none, none] .enum [(.var 1)] st' = .ok ((s.rows.map lineP).zipIdx.map fun q : P × Nat => PyData.tuple [.int (q.2 : Nat), q.1]) st' := by
    unfold evI
    simp only [v_nil, v_cons, v_for, v_asg, v_par, v_unp, v_setI, v_expr, v_ret, v_ife, v_pass, e_var, e_const, e_tup, e_lst, e_bin, e_negc, e_not, e_and, e_or, e_cmp, e_chain, e_ife, e_idx, e_slc, e_call, e_isi, e_blt, evDs, evPar, evAnd, x_bind, x_then, ok_bind, ok_then, nx_then, rt_then, np_imp, np_nl, np_py, ni_imp, ni_py, ni_nl, nb_imp, nb_py, no_none, no_int, no_intp, fz_imp, fz_im, fz_nl, im_py, im_imp, ok_imp, dm_nil, dm_one, dm_two, dr_py, tp_nil, tp_cons, ck_true, fin_rt, fin_nx, tr_imp, tr_nl, st_im, st_imp, st_nl, st_nlt, un_imp, b_len, b_all, b_any, b_max, b_min, b_int, b_intb, b_ll, b_lt, b_tl, b_tt, len_l, len_t, it_sl, it_st, it_ss, ty_str, ty_tup, c_le, c_ge, c_lt, c_gt, c_eqi, c_nei, c_eqs, c_nes, c_eqb, c_isb, c_isnb, o_add, o_sub, idx_t, idx_l, at0, at1, at2, at3, Bool.not_true, Bool.not_false, Bool.true_and, Bool.false_and, tgSlots, wipeE, bindT, List.getElem?_cons_zero, List.getElem?_cons_succ, List.set_cons_zero, List.set_cons_succ, Option.map_some, if_true, Bool.false_eq_true, if_false]
    rfl
  have hS : evE Φ [some (.py (.str s.text)), none, none, none, none] (.meth .split (.var 0) [(.const (.str ⟨#[10]⟩))]) st' = .ok (.nl (s.rows.map lineP)) st' := by
    rw [split_ev (i := 0) (a := s.text) (b := ⟨#[10]⟩) rfl rfl (Nat.le_trans (text_len g) (by omega)), ← e1]
  have hC : evE Φ [some (.py (.str s.text)), some (.py (.list (s.rows.map lineP))), e2, e3, none] (.comp (.meth .split (.var 3) [(.const (.str ⟨#[32]⟩))]) (.one 3) .seq [(.var 1)] []) st' = .ok (.nl (s.rows.map rowP)) st' := by
    refine comp_mapB lineP rowP s.rows (ds := [.py (.list (s.rows.map lineP))]) (by simp only [v_nil, v_cons, v_for, v_asg, v_par, v_unp, v_setI, v_expr, v_ret, v_ife, v_pass, e_var, e_const, e_tup, e_lst, e_bin, e_negc, e_not, e_and, e_or, e_cmp, e_chain, e_ife, e_idx, e_slc, e_call, e_isi, e_blt, evDs, evPar, evAnd, x_bind, x_then, ok_bind, ok_then, nx_then, rt_then, np_imp, np_nl, np_py, ni_imp, ni_py, ni_nl, nb_imp, nb_py, no_none, no_int, no_intp, fz_imp, fz_im, fz_nl, im_py, im_imp, ok_imp, dm_nil, dm_one, dm_two, dr_py, tp_nil, tp_cons, ck_true, fin_rt, fin_nx, tr_imp, tr_nl, st_im, st_imp, st_nl, st_nlt, un_imp, b_len, b_all, b_any, b_max, b_min, b_int, b_intb, b_ll, b_lt, b_tl, b_tt, len_l, len_t, it_sl, it_st, it_ss, ty_str, ty_tup, c_le, c_ge, c_lt, c_gt, c_eqi, c_nei, c_eqs, c_nes, c_eqb, c_isb, c_isnb, o_add, o_sub, idx_t, idx_l, at0, at1, at2, at3, Bool.not_true, Bool.not_false, Bool.true_and, Bool.false_and, tgSlots, wipeE, bindT, List.getElem?_cons_zero, List.getElem?_cons_succ, List.set_cons_zero, List.set_cons_succ, Option.map_some, if_true, Bool.false_eq_true, if_false]) (by simp only [v_nil, v_cons, v_for, v_asg, v_par, v_unp, v_setI, v_expr, v_ret, v_ife, v_pass, e_var, e_const, e_tup, e_lst, e_bin, e_negc, e_not, e_and, e_or, e_cmp, e_chain, e_ife, e_idx, e_slc, e_call, e_isi, e_blt, evDs, evPar, evAnd, x_bind, x_then, ok_bind, ok_then, nx_then, rt_then, np_imp, np_nl, np_py, ni_imp, ni_py, ni_nl, nb_imp, nb_py, no_none, no_int, no_intp, fz_imp, fz_im, fz_nl, im_py, im_imp, ok_imp, dm_nil, dm_one, dm_two, dr_py, tp_nil, tp_cons, ck_true, fin_rt, fin_nx, tr_imp, tr_nl, st_im, st_imp, st_nl, st_nlt, un_imp, b_len, b_all, b_any, b_max, b_min, b_int, b_intb, b_ll, b_lt, b_tl, b_tt, len_l, len_t, it_sl, it_st, it_ss, ty_str, ty_tup, c_le, c_ge, c_lt, c_gt, c_eqi, c_nei, c_eqs, c_nes, c_eqb, c_isb, c_isnb, o_add, o_sub, idx_t, idx_l, at0, at1, at2, at3, Bool.not_true, Bool.not_false, Bool.true_and, Bool.false_and, tgSlots, wipeE, bindT, List.getElem?_cons_zero, List.getElem?_cons_succ, List.set_cons_zero, List.set_cons_succ, Option.map_some, if_true, Bool.false_eq_true, if_false]) (fun r hr st => ?_) (Nat.le_trans hrl (by decide))
    exact turn_nl (env1 := [some (.py (.str s.text)), some (.py (.list (s.rows.map lineP))), e2, some (.py (lineP r)), none]) (by simp only [v_nil, v_cons, v_for, v_asg, v_par, v_unp, v_setI, v_expr, v_ret, v_ife, v_pass, e_var, e_const, e_tup, e_lst, e_bin, e_negc, e_not, e_and, e_or, e_cmp, e_chain, e_ife, e_idx, e_slc, e_call, e_isi, e_blt, evDs, evPar, evAnd, x_bind, x_then, ok_bind, ok_then, nx_then, rt_then, np_imp, np_nl, np_py, ni_imp, ni_py, ni_nl, nb_imp, nb_py, no_none, no_int, no_intp, fz_imp, fz_im, fz_nl, im_py, im_imp, ok_imp, dm_nil, dm_one, dm_two, dr_py, tp_nil, tp_cons, ck_true, fin_rt, fin_nx, tr_imp, tr_nl, st_im, st_imp, st_nl, st_nlt, un_imp, b_len, b_all, b_any, b_max, b_min, b_int, b_intb, b_ll, b_lt, b_tl, b_tt, len_l, len_t, it_sl, it_st, it_ss, ty_str, ty_tup, c_le, c_ge, c_lt, c_gt, c_eqi, c_nei, c_eqs, c_nes, c_eqb, c_isb, c_isnb, o_add, o_sub, idx_t, idx_l, at0, at1, at2, at3, Bool.not_true, Bool.not_false, Bool.true_and, Bool.false_and, tgSlots, wipeE, bindT, List.getElem?_cons_zero, List.getElem?_cons_succ, List.set_cons_zero, List.set_cons_succ, Option.map_some, if_true, Bool.false_eq_true, if_false]) (hsp _ r _ hr rfl)
  have hN : evE Φ [some (.py (.str s.text)), some (.py (.list (s.rows.map lineP))), e2, e3, some (.py s.enc)] (.cmp .ne (.call i3 [(.var 4)]) (.var 1)) st' = ok1 (.bool false) st' := by
    simp only [v_nil, v_cons, v_for, v_asg, v_par, v_unp, v_setI, v_expr, v_ret, v_ife, v_pass, e_var, e_const, e_tup, e_lst, e_bin, e_negc, e_not, e_and, e_or, e_cmp, e_chain, e_ife, e_idx, e_slc, e_call, e_isi, e_blt, evDs, evPar, evAnd, x_bind, x_then, ok_bind, ok_then, nx_then, rt_then, np_imp, np_nl, np_py, ni_imp, ni_py, ni_nl, nb_imp, nb_py, no_none, no_int, no_intp, fz_imp, fz_im, fz_nl, im_py, im_imp, ok_imp, dm_nil, dm_one, dm_two, dr_py, tp_nil, tp_cons, ck_true, fin_rt, fin_nx, tr_imp, tr_nl, st_im, st_imp, st_nl, st_nlt, un_imp, b_len, b_all, b_any, b_max, b_min, b_int, b_intb, b_ll, b_lt, b_tl, b_tt, len_l, len_t, it_sl, it_st, it_ss, ty_str, ty_tup, c_le, c_ge, c_lt, c_gt, c_eqi, c_nei, c_eqs, c_nes, c_eqb, c_isb, c_isnb, o_add, o_sub, idx_t, idx_l, at0, at1, at2, at3, Bool.not_true, Bool.not_false, Bool.true_and, Bool.false_and, tgSlots, wipeE, bindT, List.getElem?_cons_zero, List.getElem?_cons_succ, List.set_cons_zero, List.set_cons_succ, Option.map_some, if_true, Bool.false_eq_true, if_false, h3 s _ g, c_nel (lineP_strs s.rows)]
  have hA : ∀ st, Φ i1 [.py (.list (s.rows.map rowP))] st = ok1 s.enc st := fun st => by
    rw [h1 s.rows _ rows_sh (Nat.le_trans hrl (by omega)), setupIn_rows g]
  unfold t_read
  simp only [v_cons, v_nil, v_ife, e_not, e_isi, e_var, List.getElem?_cons_zero, List.getElem?_cons_succ, ok_bind, np_py, ty_str, x_bind, nb_imp, Bool.not_true, ok_then, Bool.false_eq_true, if_false, nx_then, v_asg, hS, st_nl, List.set_cons_zero, List.set_cons_succ, v_for, hI, e, hC, fz_nl, hA, x_then, st_imp, e_or, e_call, evDs, fz_im, h2, hN, v_ret, rt_then, fin_rt]
  exact tr_imp _ _
end
end Kp

/-! Kp, part 20: bounded data, odd things, the cells, setups opened. -/
namespace Kp
open PySem
/-- _law_odd -/
def t_law_odd (i_law_some : Nat) : List S := [(.asg 1 false (.lst [(.const .none), (.const (.bool true)), (.const (.bool false)), (.const (.int 0)), (.const (.int 1)), (.neg (.const (.int 4))), (.bin .pow (.const (.int 10)) (.const (.int 30))), (.const (.str ⟨#[]⟩)), (.const (.str ⟨#[97]⟩)), (.const (.str ⟨#[100, 101, 115, 107]⟩)), (.const (.str ⟨#[110, 101, 119, 115]⟩)), (.const (.str ⟨#[97, 108, 108]⟩)), (.const (.str ⟨#[110, 111]⟩)), (.const (.str ⟨#[121, 101, 115]⟩)), (.const (.str ⟨#[110, 111, 110, 101]⟩)), (.const (.str ⟨#[97, 98, 99, 100, 101, 102, 103, 104, 105]⟩))])),
    (.asg 1 false (.bin .add (.var 1) (.lst [(.const (.str ⟨#[68, 101, 115, 107]⟩)), (.const (.str ⟨#[97, 32, 98]⟩)), (.tup []), (.lst []), (.tup [(.const (.str ⟨#[100, 101, 115, 107]⟩))]), (.tup [(.const (.str ⟨#[100, 101, 115, 107]⟩)), (.const (.str ⟨#[110, 101, 119, 115]⟩))]), (.tup [(.const (.str ⟨#[115, 97, 121]⟩)), (.const (.str ⟨#[100, 101, 115, 107]⟩)), (.const (.str ⟨#[110, 111]⟩))]), (.tup [(.const (.str ⟨#[100, 114, 111, 112]⟩)), (.const (.str ⟨#[100, 101, 115, 107]⟩))])]))),
    (.ret (.call i_law_some [(.var 0), (.bin .add (.var 1) (.lst [(.tup [(.const (.str ⟨#[100, 101, 115, 107]⟩)), (.const (.str ⟨#[121, 101, 115]⟩))]), (.tup [(.const (.str ⟨#[97, 115, 107, 115]⟩)), (.const (.str ⟨#[100, 101, 115, 107]⟩))]), (.tup [(.tup [(.const (.str ⟨#[115, 97, 121]⟩)), (.const (.str ⟨#[97]⟩)), (.const (.str ⟨#[110, 111]⟩))])])]))]))]
/-! data of bounded width and depth -/
def bd (m : Nat) : Nat → P → Bool
  | _, .str s => decide (s.length ≤ 1000)
  | n + 1, .tuple xs => decide (xs.length ≤ m) && xs.all (bd m n)
  | n + 1, .list xs => decide (xs.length ≤ m) && xs.all (bd m n)
  | _, .none => true
  | _, .bool _ => true
  | _, .int _ => true
  | _, _ => false
theorem bd_tup {m n : Nat} {xs : List P} : bd m (n + 1) (.tuple xs) = (decide (xs.length ≤ m) && xs.all (bd m n)) := by rw [bd]
theorem bd_list {m n : Nat} {xs : List P} : bd m (n + 1) (.list xs) = (decide (xs.length ≤ m) && xs.all (bd m n)) := by rw [bd]
theorem bd_cases {m n : Nat} {v : P} (h : bd m n v = true) : (∃ xs k, (v = .tuple xs ∨ v = .list xs) ∧ n = k + 1 ∧ xs.length ≤ m ∧ ∀ x ∈ xs, bd m k x = true) ∨ ((∀ xs, v ≠ .tuple xs ∧ v ≠ .list xs) ∧ ∀ m' n', bd m' n' v = true ∧ small v = true ∧ v.plain = true ∧ v.depth = 0) := by
  cases v with
  | tuple xs =>
    cases n with
    | zero => simp [bd] at h
    | succ k =>
      rw [bd_tup, Bool.and_eq_true] at h
      exact .inl ⟨xs, k, .inl rfl, rfl, of_decide_eq_true h.1, List.all_eq_true.mp h.2⟩
  | list xs =>
    cases n with
    | zero => simp [bd] at h
    | succ k =>
      rw [bd_list, Bool.and_eq_true] at h
      exact .inl ⟨xs, k, .inr rfl, rfl, of_decide_eq_true h.1, List.all_eq_true.mp h.2⟩
  | dict kvs => cases n <;> simp [bd] at h
  | str s =>
    have h : decide (s.length ≤ 1000) = true := by cases n <;> simpa [bd] using h
    exact .inr ⟨fun xs => ⟨by simp, by simp⟩, fun m' n' => ⟨by cases n' <;> simpa [bd] using h, h, rfl, by rw [PyData.depth]⟩⟩
  | none => exact .inr ⟨fun xs => ⟨by simp, by simp⟩, fun m' n' => ⟨by cases n' <;> rfl, rfl, rfl, by rw [PyData.depth]⟩⟩
  | bool b => exact .inr ⟨fun xs => ⟨by simp, by simp⟩, fun m' n' => ⟨by cases n' <;> rfl, rfl, rfl, by rw [PyData.depth]⟩⟩
  | int b => exact .inr ⟨fun xs => ⟨by simp, by simp⟩, fun m' n' => ⟨by cases n' <;> rfl, rfl, rfl, by rw [PyData.depth]⟩⟩
theorem bd_mono {m m' : Nat} (hm : m ≤ m') : ∀ {n n' : Nat} {v : P}, n ≤ n' → bd m n v = true → bd m' n' v = true := by
  intro n
  induction n with
  | zero =>
    intro n' v hn h
    rcases bd_cases h with ⟨xs, k, _, e, _⟩ | ⟨_, q⟩
    · cases e
    · exact (q m' n').1
  | succ n ih =>
    intro n' v hn h
    rcases bd_cases h with ⟨xs, k, hv, e, hl, hx⟩ | ⟨_, q⟩
    · obtain ⟨p, rfl⟩ : ∃ p, n' = p + 1 := ⟨n' - 1, by omega⟩
      have e : k = n := by omega
      subst e
      have : xs.all (bd m' p) = true := List.all_eq_true.mpr fun x hx' => ih (by omega) (hx x hx')
      rcases hv with rfl | rfl
      · rw [bd_tup, this, decide_eq_true (Nat.le_trans hl hm)]; rfl
      · rw [bd_list, this, decide_eq_true (Nat.le_trans hl hm)]; rfl
    · exact (q m' n').1
theorem smallAll_of {xs : List P} (h : ∀ x ∈ xs, small x = true) : smallAll xs = true := by
  induction xs with
  | nil => rfl
  | cons x xs ih =>
    rw [smallAll, h x List.mem_cons_self, ih fun y hy => h y (List.mem_cons_of_mem _ hy)]; rfl
theorem plainAll_of {xs : List P} {n : Nat} (h : ∀ x ∈ xs, x.plain = true ∧ x.depth ≤ n) : PyData.plainAll xs = true ∧ PyData.depthAll xs ≤ n := by
  induction xs with
  | nil => exact ⟨rfl, by rw [PyData.depthAll]; omega⟩
  | cons x xs ih =>
    obtain ⟨a, b⟩ := h x List.mem_cons_self
    obtain ⟨c, d⟩ := ih fun y hy => h y (List.mem_cons_of_mem _ hy)
    exact ⟨by rw [PyData.plainAll, a, c]; rfl, by rw [PyData.depthAll]; omega⟩
theorem bd_ok {m : Nat} (hm : m ≤ 1000000) : ∀ {n : Nat} {v : P}, bd m n v = true → small v = true ∧ v.plain = true ∧ v.depth ≤ n := by
  intro n
  induction n with
  | zero =>
    intro v h
    rcases bd_cases h with ⟨xs, k, _, e, _⟩ | ⟨_, q⟩
    · cases e
    · obtain ⟨_, a, b, c⟩ := q 0 0
      exact ⟨a, b, by omega⟩
  | succ n ih =>
    intro v h
    rcases bd_cases h with ⟨xs, k, hv, e, hl, hx⟩ | ⟨_, q⟩
    · have e : k = n := by omega
      subst e
      have h1 : smallAll xs = true := smallAll_of fun x hx' => (ih (hx x hx')).1
      obtain ⟨h2, h3⟩ := plainAll_of (n := k) fun x hx' => (ih (hx x hx')).2
      rcases hv with rfl | rfl
      · refine ⟨by rw [small, h1, decide_eq_true (Nat.le_trans hl hm)]; rfl, by rw [PyData.plain, h2], by rw [PyData.depth]; omega⟩
      · refine ⟨by rw [small, h1, decide_eq_true (Nat.le_trans hl hm)]; rfl, by rw [PyData.plain, h2], by rw [PyData.depth]; omega⟩
    · obtain ⟨_, a, b, c⟩ := q 0 0
      exact ⟨a, b, by omega⟩
theorem bd_fit {m n : Nat} {v : P} (hm : m ≤ 1000000) (hn : n ≤ 100) (h : bd m n v = true) : small v = true ∧ fit v = true := by
  obtain ⟨a, b, c⟩ := bd_ok hm h
  refine ⟨a, ?_⟩
  unfold fit
  rw [b, Bool.true_and]
  exact decide_eq_true (by omega)
/-! odd things -/
def ODD : List P := [.none, .bool true, .bool false, .int 0, .int 1, .int (-4), .int 1000000000000000000000000000000, .str ⟨#[]⟩, .str ⟨#[97]⟩, .str ⟨#[100, 101, 115, 107]⟩, .str ⟨#[110, 101, 119, 115]⟩, .str ⟨#[97, 108, 108]⟩, .str ⟨#[110, 111]⟩, .str ⟨#[121, 101, 115]⟩, .str ⟨#[110, 111, 110, 101]⟩, .str ⟨#[97, 98, 99, 100, 101, 102, 103, 104, 105]⟩,
  .str ⟨#[68, 101, 115, 107]⟩, .str ⟨#[97, 32, 98]⟩, .tuple [], .list [], .tuple [.str ⟨#[100, 101, 115, 107]⟩], .tuple [.str ⟨#[100, 101, 115, 107]⟩, .str ⟨#[110, 101, 119, 115]⟩], .tuple [.str ⟨#[115, 97, 121]⟩, .str ⟨#[100, 101, 115, 107]⟩, .str ⟨#[110, 111]⟩], .tuple [.str ⟨#[100, 114, 111, 112]⟩, .str ⟨#[100, 101, 115, 107]⟩],
  .tuple [.str ⟨#[100, 101, 115, 107]⟩, .str ⟨#[121, 101, 115]⟩], .tuple [.str ⟨#[97, 115, 107, 115]⟩, .str ⟨#[100, 101, 115, 107]⟩], .tuple [.tuple [.str ⟨#[115, 97, 121]⟩, .str ⟨#[97]⟩, .str ⟨#[110, 111]⟩]]]
theorem odd_bd : ∀ x ∈ ODD, bd 3 2 x = true := by decide +kernel
theorem pow30 (st : Sto) : binop .pow (.int 10) (.int 30) st = ok1 (.int 1000000000000000000000000000000) st := rfl
def OddF (Φ : Nat → List D → Sto → R Rv) (i : Nat) : Prop := ∀ n st, JarAt n st → ∃ x st', Φ i [.ref n] st = ok1 x st' ∧ bd 3 2 x = true ∧ JarAt n st' ∧ Same n st st'
theorem l8 : decide (0 + 1 + 1 + 1 + 1 + 1 + 1 + 1 + 1 ≤ SZ) = true := by decide
theorem l16 : decide (0 + 1 + 1 + 1 + 1 + 1 + 1 + 1 + 1 + 1 + 1 + 1 + 1 + 1 + 1 + 1 + 1 ≤ SZ) = true := by decide
theorem sem_odd {Φ : Nat → List D → Sto → R Rv} {i : Nat} (h : SomeF Φ i) {n : Nat} {st : Sto} (hj : JarAt n st) : ∃ x st', fin st.length (evSs Φ (t_law_odd i) [some (.ref n), none] st) = ok1 x st' ∧ bd 3 2 x = true ∧ JarAt n st' ∧ Same n st st' := by
  obtain ⟨x, st', e, hx, j, s⟩ := h n st (.list ODD) ODD (.inl rfl) (by decide) (by decide) hj
  refine ⟨x, st', ?_, odd_bd x hx, j, s⟩
  unfold t_law_odd
  unfold ODD at e
  simp only [v_nil, v_cons, v_for, v_asg, v_par, v_unp, v_setI, v_expr, v_ret, v_ife, v_pass, e_var, e_const, e_tup, e_lst, e_bin, e_negc, e_not, e_and, e_or, e_cmp, e_chain, e_ife, e_idx, e_slc, e_call, e_isi, e_blt, evDs, evPar, evAnd, x_bind, x_then, ok_bind, ok_then, nx_then, rt_then, np_imp, np_nl, np_py, ni_imp, ni_py, ni_nl, nb_imp, nb_py, no_none, no_int, no_intp, fz_imp, fz_im, fz_nl, im_py, im_imp, ok_imp, dm_nil, dm_one, dm_two, dr_py, tp_nil, tp_cons, ck_true, fin_rt, fin_nx, tr_imp, tr_nl, st_im, st_imp, st_nl, st_nlt, un_imp, b_len, b_all, b_any, b_max, b_min, b_int, b_intb, b_ll, b_lt, b_tl, b_tt, len_l, len_t, it_sl, it_st, it_ss, ty_str, ty_tup, c_le, c_ge, c_lt, c_gt, c_eqi, c_nei, c_eqs, c_nes, c_eqb, c_isb, c_isnb, o_add, o_sub, idx_t, idx_l, at0, at1, at2, at3, Bool.not_true, Bool.not_false, Bool.true_and, Bool.false_and, tgSlots, wipeE, bindT, List.getElem?_cons_zero, List.getElem?_cons_succ, List.set_cons_zero, List.set_cons_succ, Option.map_some, if_true, Bool.false_eq_true, if_false, List.length_cons, List.length_nil, l0, l1, l2, l3, l8, l16, pow30]
  rw [o_lst _ _ _ (by decide)]
  simp only [v_nil, v_cons, v_for, v_asg, v_par, v_unp, v_setI, v_expr, v_ret, v_ife, v_pass, e_var, e_const, e_tup, e_lst, e_bin, e_negc, e_not, e_and, e_or, e_cmp, e_chain, e_ife, e_idx, e_slc, e_call, e_isi, e_blt, evDs, evPar, evAnd, x_bind, x_then, ok_bind, ok_then, nx_then, rt_then, np_imp, np_nl, np_py, ni_imp, ni_py, ni_nl, nb_imp, nb_py, no_none, no_int, no_intp, fz_imp, fz_im, fz_nl, im_py, im_imp, ok_imp, dm_nil, dm_one, dm_two, dr_py, tp_nil, tp_cons, ck_true, fin_rt, fin_nx, tr_imp, tr_nl, st_im, st_imp, st_nl, st_nlt, un_imp, b_len, b_all, b_any, b_max, b_min, b_int, b_intb, b_ll, b_lt, b_tl, b_tt, len_l, len_t, it_sl, it_st, it_ss, ty_str, ty_tup, c_le, c_ge, c_lt, c_gt, c_eqi, c_nei, c_eqs, c_nes, c_eqb, c_isb, c_isnb, o_add, o_sub, idx_t, idx_l, at0, at1, at2, at3, Bool.not_true, Bool.not_false, Bool.true_and, Bool.false_and, tgSlots, wipeE, bindT, List.getElem?_cons_zero, List.getElem?_cons_succ, List.set_cons_zero, List.set_cons_succ, Option.map_some, if_true, Bool.false_eq_true, if_false]
  rw [o_lst _ _ _ (by decide)]
  simp only [v_nil, v_cons, v_for, v_asg, v_par, v_unp, v_setI, v_expr, v_ret, v_ife, v_pass, e_var, e_const, e_tup, e_lst, e_bin, e_negc, e_not, e_and, e_or, e_cmp, e_chain, e_ife, e_idx, e_slc, e_call, e_isi, e_blt, evDs, evPar, evAnd, x_bind, x_then, ok_bind, ok_then, nx_then, rt_then, np_imp, np_nl, np_py, ni_imp, ni_py, ni_nl, nb_imp, nb_py, no_none, no_int, no_intp, fz_imp, fz_im, fz_nl, im_py, im_imp, ok_imp, dm_nil, dm_one, dm_two, dr_py, tp_nil, tp_cons, ck_true, fin_rt, fin_nx, tr_imp, tr_nl, st_im, st_imp, st_nl, st_nlt, un_imp, b_len, b_all, b_any, b_max, b_min, b_int, b_intb, b_ll, b_lt, b_tl, b_tt, len_l, len_t, it_sl, it_st, it_ss, ty_str, ty_tup, c_le, c_ge, c_lt, c_gt, c_eqi, c_nei, c_eqs, c_nes, c_eqb, c_isb, c_isnb, o_add, o_sub, idx_t, idx_l, at0, at1, at2, at3, Bool.not_true, Bool.not_false, Bool.true_and, Bool.false_and, tgSlots, wipeE, bindT, List.getElem?_cons_zero, List.getElem?_cons_succ, List.set_cons_zero, List.set_cons_succ, Option.map_some, if_true, Bool.false_eq_true, if_false, List.cons_append, List.nil_append]
  rw [show (-(4 : Int)) = -4 from rfl]
  rw [e]
  simp only [v_nil, v_cons, v_for, v_asg, v_par, v_unp, v_setI, v_expr, v_ret, v_ife, v_pass, e_var, e_const, e_tup, e_lst, e_bin, e_negc, e_not, e_and, e_or, e_cmp, e_chain, e_ife, e_idx, e_slc, e_call, e_isi, e_blt, evDs, evPar, evAnd, x_bind, x_then, ok_bind, ok_then, nx_then, rt_then, np_imp, np_nl, np_py, ni_imp, ni_py, ni_nl, nb_imp, nb_py, no_none, no_int, no_intp, fz_imp, fz_im, fz_nl, im_py, im_imp, ok_imp, dm_nil, dm_one, dm_two, dr_py, tp_nil, tp_cons, ck_true, fin_rt, fin_nx, tr_imp, tr_nl, st_im, st_imp, st_nl, st_nlt, un_imp, b_len, b_all, b_any, b_max, b_min, b_int, b_intb, b_ll, b_lt, b_tl, b_tt, len_l, len_t, it_sl, it_st, it_ss, ty_str, ty_tup, c_le, c_ge, c_lt, c_gt, c_eqi, c_nei, c_eqs, c_nes, c_eqb, c_isb, c_isnb, o_add, o_sub, idx_t, idx_l, at0, at1, at2, at3, Bool.not_true, Bool.not_false, Bool.true_and, Bool.false_and, tgSlots, wipeE, bindT, List.getElem?_cons_zero, List.getElem?_cons_succ, List.set_cons_zero, List.set_cons_succ, Option.map_some, if_true, Bool.false_eq_true, if_false]
  exact tr_len s.len
/-! bent things -/
theorem cut_lo {xs : List P} {k : Nat} (h : k ≤ xs.length) : cutL xs none (some (k : Int)) = xs.take k := by
  unfold cutL
  rw [HT.sIx_nat, HT.sIx_none, Nat.min_eq_left h]
  simp
theorem cut_hi {xs : List P} {k : Nat} (h : k ≤ xs.length) : cutL xs (some (k : Int)) none = xs.drop k := by
  unfold cutL
  rw [HT.sIx_nat, HT.sIx_none, Nat.min_eq_left h, List.take_of_length_le]
  rw [List.length_drop]
  exact Nat.le_refl _
theorem slc_t (xs : List P) (l h : Option Int) (st : Sto) : slcop (.tuple xs) l h st = ok1 (.tuple (cutL xs l h)) st := rfl
theorem c_eqt (ys : List P) (h : fit (.tuple ys) = true) : cmpop .eq (.tuple ys) (.tuple []) = some ys.isEmpty := by
  show (if (fit (.tuple ys) && fit (.tuple [])) = true then some ((PyData.tuple ys).eqv (.tuple [])) else none) = _
  have e : fit (PyData.tuple []) = true := rfl
  rw [h, e, Bool.and_self, if_pos rfl]
  cases ys with
  | nil => rfl
  | cons _ _ => rfl
theorem setup_bd {ns : List P} {v : P} (hd : DrawNs ns) (h : DrawSetup ns v) : bd 20 5 v = true := by
  have g := drawNs_good hd
  obtain ⟨ts, ws, p, q, rfl, a1, w1, p1, q1⟩ := h
  obtain ⟨en, el⟩ := al_names a1
  have hs : ∀ x ∈ ns, ∀ n, bd 20 n x = true := fun x hx n => by
    obtain ⟨s, rfl⟩ := g.str_ x hx
    have q := List.all_eq_true.mp g.lab _ hx
    have q : (decide (1 ≤ s.length) && (decide (s.length ≤ 8) && s.cps.toList.all fun c => decide (97 ≤ c) && decide (c ≤ 122))) = true := q
    rw [Bool.and_eq_true, Bool.and_eq_true] at q
    have q2 := of_decide_eq_true q.2.1
    cases n <;> (show decide (s.length ≤ 1000) = true; exact decide_eq_true (by omega))
  have sub : ∀ zs : List P, zs.Sublist ns → ∀ n, bd 20 (n + 1) (.tuple zs) = true := fun zs hz n => by
    have l := hz.length_le
    have := g.len
    rw [bd_tup, Bool.and_eq_true]
    exact ⟨decide_eq_true (by omega), List.all_eq_true.mpr fun x hx => hs x (hz.subset hx) n⟩
  have hts : bd 20 4 (.tuple ts) = true := by
    rw [bd_tup, Bool.and_eq_true]
    refine ⟨decide_eq_true (by have := g.len; omega), List.all_eq_true.mpr fun t ht => ?_⟩
    obtain ⟨y, hy, rule, zs, b, rfl, hr, hz⟩ := al_mem a1 t ht
    have h1 := hs y hy 2
    have h2 : bd 20 2 rule = true := by
      obtain ⟨s, rfl⟩ := rules_strs rule hr
      have : ∀ x ∈ RULES, bd 20 2 x = true := by decide
      exact this _ hr
    have h3 := sub zs (hz.trans List.filter_sublist) 1
    rw [bd_tup, Bool.and_eq_true]
    refine ⟨rfl, List.all_eq_true.mpr fun x hx => ?_⟩
    simp only [List.mem_cons, List.not_mem_nil, or_false] at hx
    rcases hx with rfl | rfl | rfl | rfl
    · exact h1
    · exact h2
    · exact h3
    · rfl
  have hws : bd 20 4 (.tuple ws) = true := by
    have l := w1.length_le
    have lp : (Kp.Pairs ns).length ≤ 6 := hd.cases (p := fun ns => (Kp.Pairs ns).length ≤ 6) (by decide +kernel) (by decide +kernel)
    rw [bd_tup, Bool.and_eq_true]
    refine ⟨decide_eq_true (by omega), List.all_eq_true.mpr fun x hx => ?_⟩
    have hx := w1.subset hx
    unfold Kp.Pairs at hx
    obtain ⟨a, ha, hx⟩ := List.mem_flatMap.mp hx
    obtain ⟨b, hb, rfl⟩ := List.mem_map.mp hx
    have hb := (List.mem_filter.mp hb).1
    rw [bd_tup, Bool.and_eq_true]
    refine ⟨rfl, List.all_eq_true.mpr fun x hx => ?_⟩
    simp only [List.mem_cons, List.not_mem_nil, or_false] at hx
    rcases hx with rfl | rfl
    · exact hs _ ha 2
    · exact hs _ hb 2
  have hpq : bd 20 4 (.tuple [.tuple p, .tuple q]) = true := by
    rw [bd_tup, Bool.and_eq_true]
    refine ⟨rfl, List.all_eq_true.mpr fun x hx => ?_⟩
    simp only [List.mem_cons, List.not_mem_nil, or_false] at hx
    rcases hx with rfl | rfl
    · exact sub p p1 2
    · exact sub q q1 2
  rw [bd_tup, Bool.and_eq_true]
  refine ⟨rfl, List.all_eq_true.mpr fun x hx => ?_⟩
  simp only [List.mem_cons, List.not_mem_nil, or_false] at hx
  rcases hx with rfl | rfl | rfl
  · exact hts
  · exact hws
  · exact hpq
theorem rng3 {Φ : Nat → List D → Sto → R Rv} {env : Ev} {st : Sto} : evI Φ env .rng1 [(.const (.int 3))] st = .ok ((List.range 3).map fun (i : Nat) => .int (0 + (i : Int))) st := by
  unfold evI
  simp only [evDs, e_const, x_bind, ok_bind, fz_imp, it_r1 3 (by decide)]
  rfl
theorem rng10 {Φ : Nat → List D → Sto → R Rv} {env : Ev} {st : Sto} : evI Φ env .rng1 [(.const (.int 10))] st = .ok ((List.range 10).map fun (i : Nat) => .int (0 + (i : Int))) st := by
  unfold evI
  simp only [evDs, e_const, x_bind, ok_bind, fz_imp, it_r1 10 (by decide)]
  rfl
theorem evI_of {Φ : Nat → List D → Sto → R Rv} {env : Ev} {st st1 : Sto} {ik : Ik} {es : List X} {ds : List D} {ys : List P} (h1 : evDs Φ env es st = .ok ds st1) (h2 : itemsD ik ds = some ys) : evI Φ env ik es st = .ok ys st1 := by
  unfold evI
  rw [h1]
  simp only [ok_bind, h2]
theorem it_rc (n : Nat) (h : -(2 ^ 62) ≤ (n : Int) ∧ (n : Int) < 2 ^ 62) : itemsD .rng1 [.py (.int (n : Int))] = some ((List.range n).map fun (i : Nat) => .int (0 + (i : Int))) := by
  have q := it_r1 (n : Int) h
  have e : (n : Int).toNat = n := Int.toNat_natCast n
  rw [e] at q
  exact q
theorem bnd62 (n : Nat) (hn : n ≤ 1000) : -(2 ^ 62) ≤ (n : Int) ∧ (n : Int) < 2 ^ 62 := by omega
theorem rngc {Φ : Nat → List D → Sto → R Rv} {env : Ev} {st : Sto} (n : Nat) (hn : n ≤ 1000) : evI Φ env .rng1 [(.const (.int (n : Int)))] st = .ok ((List.range n).map fun (i : Nat) => .int (0 + (i : Int))) st :=
  evI_of (ds := [.py (.int (n : Int))]) (by simp only [evDs, e_const, x_bind, ok_bind, fz_imp]) (it_rc n (bnd62 n hn))
theorem cut_mem {xs : List P} {a b : Option Int} {x : P} (h : x ∈ cutL xs a b) : x ∈ xs := List.mem_of_mem_drop (List.mem_of_mem_take h)
theorem slc_l (xs : List P) (l h : Option Int) (st : Sto) : slcop (.list xs) l h st = .ok (.nl (cutL xs l h)) st := rfl

/-! ### the law's cells -/
/-- the cells that a law goes through: whole numbers -/
theorem cells_ok {ns : List Int} (hl : ns.length ≤ 63) {d : D} {st : Sto} (hd : (d = D.py (.list (ns.map .int)) ∧ st = []) ∨ (d = .ref 0 ∧ st = [.lst (ns.map .int)])) {Φ : Nat → List D → Sto → R Rv} (m : Nat) :
    ∃ ys, (∀ env : Ev, env[0]? = some (some d) → evI Φ env .seq [(.slc (.bin .add (.lst [(.const (.int 0))]) (.var 0)) (.const .none) (.const (.int (m : Int))))] st = .ok ys st) ∧ ∀ y ∈ ys, ∃ c, y = .int c := by
  refine ⟨cutL (.int 0 :: ns.map .int) none (some (m : Int)), fun env he => ?_, fun y hy => ?_⟩
  · have hz : decide ([PyData.int 0].length + (ns.map PyData.int).length ≤ SZ) = true := decide_eq_true (by rw [List.length_map]; exact Nat.le_trans (show 1 + ns.length ≤ 64 by omega) (by decide))
    unfold evI
    rcases hd with ⟨rfl, rfl⟩ | ⟨rfl, rfl⟩
    · simp only [v_nil, v_cons, v_for, v_asg, v_par, v_unp, v_setI, v_expr, v_ret, v_ife, v_pass, e_var, e_const, e_tup, e_lst, e_bin, e_negc, e_not, e_and, e_or, e_cmp, e_chain, e_ife, e_idx, e_slc, e_call, e_isi, e_blt, evDs, evPar, evAnd, x_bind, x_then, ok_bind, ok_then, nx_then, rt_then, np_imp, np_nl, np_py, ni_imp, ni_py, ni_nl, nb_imp, nb_py, no_none, no_int, no_intp, fz_imp, fz_im, fz_nl, im_py, im_imp, ok_imp, dm_nil, dm_one, dm_two, dr_py, tp_nil, tp_cons, ck_true, fin_rt, fin_nx, tr_imp, tr_nl, st_im, st_imp, st_nl, st_nlt, un_imp, b_len, b_all, b_any, b_max, b_min, b_int, b_intb, b_ll, b_lt, b_tl, b_tt, len_l, len_t, it_sl, it_st, it_ss, ty_str, ty_tup, c_le, c_ge, c_lt, c_gt, c_eqi, c_nei, c_eqs, c_nes, c_eqb, c_isb, c_isnb, o_add, o_sub, idx_t, idx_l, at0, at1, at2, at3, Bool.not_true, Bool.not_false, Bool.true_and, Bool.false_and, tgSlots, wipeE, bindT, List.getElem?_cons_zero, List.getElem?_cons_succ, List.set_cons_zero, List.set_cons_succ, Option.map_some, if_true, Bool.false_eq_true, if_false, he, List.length_nil, List.length_cons, l1, o_lstc, slc_l]
      rw [show decide (0 + 1 + (ns.map PyData.int).length ≤ SZ) = true from hz]
      simp only [v_nil, v_cons, v_for, v_asg, v_par, v_unp, v_setI, v_expr, v_ret, v_ife, v_pass, e_var, e_const, e_tup, e_lst, e_bin, e_negc, e_not, e_and, e_or, e_cmp, e_chain, e_ife, e_idx, e_slc, e_call, e_isi, e_blt, evDs, evPar, evAnd, x_bind, x_then, ok_bind, ok_then, nx_then, rt_then, np_imp, np_nl, np_py, ni_imp, ni_py, ni_nl, nb_imp, nb_py, no_none, no_int, no_intp, fz_imp, fz_im, fz_nl, im_py, im_imp, ok_imp, dm_nil, dm_one, dm_two, dr_py, tp_nil, tp_cons, ck_true, fin_rt, fin_nx, tr_imp, tr_nl, st_im, st_imp, st_nl, st_nlt, un_imp, b_len, b_all, b_any, b_max, b_min, b_int, b_intb, b_ll, b_lt, b_tl, b_tt, len_l, len_t, it_sl, it_st, it_ss, ty_str, ty_tup, c_le, c_ge, c_lt, c_gt, c_eqi, c_nei, c_eqs, c_nes, c_eqb, c_isb, c_isnb, o_add, o_sub, idx_t, idx_l, at0, at1, at2, at3, Bool.not_true, Bool.not_false, Bool.true_and, Bool.false_and, tgSlots, wipeE, bindT, List.getElem?_cons_zero, List.getElem?_cons_succ, List.set_cons_zero, List.set_cons_succ, Option.map_some, if_true, Bool.false_eq_true, if_false, slc_l, List.cons_append, List.nil_append]
    · simp only [v_nil, v_cons, v_for, v_asg, v_par, v_unp, v_setI, v_expr, v_ret, v_ife, v_pass, e_var, e_const, e_tup, e_lst, e_bin, e_negc, e_not, e_and, e_or, e_cmp, e_chain, e_ife, e_idx, e_slc, e_call, e_isi, e_blt, evDs, evPar, evAnd, x_bind, x_then, ok_bind, ok_then, nx_then, rt_then, np_imp, np_nl, np_py, ni_imp, ni_py, ni_nl, nb_imp, nb_py, no_none, no_int, no_intp, fz_imp, fz_im, fz_nl, im_py, im_imp, ok_imp, dm_nil, dm_one, dm_two, dr_py, tp_nil, tp_cons, ck_true, fin_rt, fin_nx, tr_imp, tr_nl, st_im, st_imp, st_nl, st_nlt, un_imp, b_len, b_all, b_any, b_max, b_min, b_int, b_intb, b_ll, b_lt, b_tl, b_tt, len_l, len_t, it_sl, it_st, it_ss, ty_str, ty_tup, c_le, c_ge, c_lt, c_gt, c_eqi, c_nei, c_eqs, c_nes, c_eqb, c_isb, c_isnb, o_add, o_sub, idx_t, idx_l, at0, at1, at2, at3, Bool.not_true, Bool.not_false, Bool.true_and, Bool.false_and, tgSlots, wipeE, bindT, List.getElem?_cons_zero, List.getElem?_cons_succ, List.set_cons_zero, List.set_cons_succ, Option.map_some, if_true, Bool.false_eq_true, if_false, he, List.length_nil, List.length_cons, l1, np_ref (st := [Ob.lst (ns.map .int)]) (n := 0) (xs := ns.map .int) rfl, o_lstc, slc_l]
      rw [show decide (0 + 1 + (ns.map PyData.int).length ≤ SZ) = true from hz]
      simp only [v_nil, v_cons, v_for, v_asg, v_par, v_unp, v_setI, v_expr, v_ret, v_ife, v_pass, e_var, e_const, e_tup, e_lst, e_bin, e_negc, e_not, e_and, e_or, e_cmp, e_chain, e_ife, e_idx, e_slc, e_call, e_isi, e_blt, evDs, evPar, evAnd, x_bind, x_then, ok_bind, ok_then, nx_then, rt_then, np_imp, np_nl, np_py, ni_imp, ni_py, ni_nl, nb_imp, nb_py, no_none, no_int, no_intp, fz_imp, fz_im, fz_nl, im_py, im_imp, ok_imp, dm_nil, dm_one, dm_two, dr_py, tp_nil, tp_cons, ck_true, fin_rt, fin_nx, tr_imp, tr_nl, st_im, st_imp, st_nl, st_nlt, un_imp, b_len, b_all, b_any, b_max, b_min, b_int, b_intb, b_ll, b_lt, b_tl, b_tt, len_l, len_t, it_sl, it_st, it_ss, ty_str, ty_tup, c_le, c_ge, c_lt, c_gt, c_eqi, c_nei, c_eqs, c_nes, c_eqb, c_isb, c_isnb, o_add, o_sub, idx_t, idx_l, at0, at1, at2, at3, Bool.not_true, Bool.not_false, Bool.true_and, Bool.false_and, tgSlots, wipeE, bindT, List.getElem?_cons_zero, List.getElem?_cons_succ, List.set_cons_zero, List.set_cons_succ, Option.map_some, if_true, Bool.false_eq_true, if_false, slc_l, List.cons_append, List.nil_append]
  · rcases List.mem_cons.mp (cut_mem hy) with e | hy
    · exact ⟨0, e⟩
    · obtain ⟨c, _, e⟩ := List.mem_map.mp hy
      exact ⟨c, e.symm⟩
/-! ### a setup, opened -/
theorem strs_map {xs : List P} (h : Strs xs) : ∃ ss : List Str, xs = ss.map .str := by
  induction xs with
  | nil => exact ⟨[], rfl⟩
  | cons x xs ih =>
    obtain ⟨s, rfl⟩ := h x List.mem_cons_self
    obtain ⟨ss, rfl⟩ := ih fun y hy => h y (List.mem_cons_of_mem _ hy)
    exact ⟨s :: ss, rfl⟩
theorem draw_open {ns : List P} {v : P} (hd : DrawNs ns) (h : DrawSetup ns v) : ∃ s : SeT, v = s.enc ∧ s.Good := by
  have g := drawNs_good hd
  obtain ⟨ts, ws, p, q, rfl, a1, w1, p1, q1⟩ := h
  obtain ⟨en, el⟩ := al_names a1
  have lb : ∀ s, PyData.str s ∈ ns → lab s := fun s hs => List.all_eq_true.mp g.lab _ hs
  have subs : ∀ zs : List P, zs.Sublist ns → ∃ ss : List Str, zs = ss.map .str ∧ (∀ x ∈ ss, lab x) ∧ ss.length ≤ 3 := fun zs hz => by
    obtain ⟨ss, rfl⟩ := strs_map (xs := zs) fun x hx => g.str_ x (hz.subset hx)
    refine ⟨ss, rfl, fun x hx => lb x (hz.subset (List.mem_map_of_mem hx)), ?_⟩
    have := hz.length_le
    have := g.len
    rw [List.length_map] at *
    omega
  have tools : ∀ (ns' ts : List P), (∀ x ∈ ns', x ∈ ns) → Al (DrawTool ns) ns' ts → ∃ tt : List To, ts = tt.map encT ∧ (∀ t ∈ tt, ToOk t) ∧ tt.map (fun t => PyData.str t.1) = ns' := by
    intro ns'
    induction ns' with
    | nil =>
      intro ts _ h
      cases ts with
      | nil => exact ⟨[], rfl, (fun t ht => nomatch ht), rfl⟩
      | cons _ _ => cases (show _ :: _ = [] from h)
    | cons n ns' ih =>
      intro ts hm h
      obtain ⟨t, ts, rfl, h1, h2⟩ := h
      obtain ⟨tt, rfl, ok, en⟩ := ih ts (fun x hx => hm x (List.mem_cons_of_mem _ hx)) h2
      obtain ⟨rule, zs, b, rfl, hr, hz⟩ := h1
      obtain ⟨r, rfl⟩ := rules_strs rule hr
      obtain ⟨n, rfl⟩ := g.str_ n (hm _ List.mem_cons_self)
      obtain ⟨ss, rfl, hl, hn⟩ := subs zs (hz.trans List.filter_sublist)
      refine ⟨(n, r, ss, b) :: tt, rfl, fun t ht => ?_, by rw [List.map_cons, en]⟩
      rcases List.mem_cons.mp ht with rfl | ht
      · exact ⟨lb _ (hm _ List.mem_cons_self), hr, hl, Nat.le_trans hn (by omega)⟩
      · exact ok t ht
  obtain ⟨tt, rfl, ok, en2⟩ := tools ns ts (fun x hx => hx) a1
  obtain ⟨fe, rfl, f1, f2⟩ := subs p p1
  obtain ⟨fr, rfl, f3, f4⟩ := subs q q1
  have lp : (Kp.Pairs ns).length ≤ 6 := hd.cases (p := fun ns => (Kp.Pairs ns).length ≤ 6) (by decide +kernel) (by decide +kernel)
  have hooks : ∃ hh : List (Str × Str), ws = hh.map encH ∧ ∀ h ∈ hh, lab h.1 ∧ lab h.2 := by
    have all : ∀ x ∈ ws, ∃ h : Str × Str, x = encH h ∧ lab h.1 ∧ lab h.2 := fun x hx => by
      have hx := w1.subset hx
      unfold Kp.Pairs at hx
      obtain ⟨a, ha, hx⟩ := List.mem_flatMap.mp hx
      obtain ⟨b, hb, rfl⟩ := List.mem_map.mp hx
      have hb2 := (List.mem_filter.mp hb).1
      obtain ⟨a, rfl⟩ := g.str_ a ha
      obtain ⟨b, rfl⟩ := g.str_ b hb2
      exact ⟨(a, b), rfl, lb a ha, lb b hb2⟩
    clear w1
    induction ws with
    | nil => exact ⟨[], rfl, fun h hh => by cases hh⟩
    | cons x ws ih =>
      obtain ⟨h, rfl, l1, l2⟩ := all x List.mem_cons_self
      obtain ⟨hh, rfl, l3⟩ := ih fun y hy => all y (List.mem_cons_of_mem _ hy)
      refine ⟨h :: hh, rfl, fun y hy => ?_⟩
      rcases List.mem_cons.mp hy with rfl | hy
      · exact ⟨l1, l2⟩
      · exact l3 y hy
  obtain ⟨hh, rfl, hl⟩ := hooks
  have gl := g.len
  have w2 := w1.length_le
  rw [List.length_map] at w2 el
  refine ⟨⟨tt, hh, fe, fr⟩, rfl, ok, hl, f1, f3, by show tt.length ≤ 10; omega, by show hh.length ≤ 100; omega, by show fe.length ≤ 10; omega, by show fr.length ≤ 10; omega, fun e => ?_, ?_⟩
  · have e : tt = [] := e
    rw [e] at el
    simp only [List.length_nil] at el
    omega
  · have lt := g.lt
    rw [← en2] at lt
    have e : tt.map (fun t => PyData.str t.1) = (tt.map (·.1)).map PyData.str := by rw [List.map_map]; rfl
    rw [e, List.pairwise_map] at lt
    refine lt.imp fun {a b} hab e => ?_
    subst e
    have hab : PySem.W.dataLt (.str a) (.str a) = true := hab
    rw [PySem.W.dataLt_str] at hab
    exact absurd (of_decide_eq_true hab) (List.lt_irrefl _)
end Kp

namespace K12
open PySem PySem.Spec PyProof.Rows L2 Kp
/-! ### the text, compiled (written by a program) -/
abbrev pw : Program := PySem.Challenge.pw_keptno_k12_texts_there_and_back
def top (i : Nat) : Stmt := pw.main.body.getD i (.Pass ⟨0, 0, 0, 0⟩)
def dnames : List Str := ["is_label", "is_one_of", "ascends", "are_names", "is_tool", "are_tools", "are_hooks", "is_setup", "need_setup", "lines_of", "setup_text", "is_line", "setup_in", "read_setup", "_law_jar", "_law_less", "_law_some", "_law_part", "_law_tool", "_law_setup", "_law_setup_of", "_law_rows_of", "_law_text", "law"]
def cs : List (Str × P) := [("RULES", (.tuple [(.str ⟨#[97, 108, 108]⟩), (.str ⟨#[110, 101, 119]⟩), (.str ⟨#[110, 111]⟩), (.str ⟨#[121, 101, 115]⟩)])), ("FEWEST", (.int 2)), ("MOST", (.int 3))]
def xs : List Nat := []
abbrev G : Str → Option Kp.G := gTab dnames cs (bsTab xs)
/-- is_label -/
def b0 : List S := [(.ret (.and (.isi .str (.var 0)) (.and (.chain .le .le (.const (.int 1)) (.blt .len [(.var 0)]) (.const (.int 8))) (.blt .all [(.comp (.chain .le .le (.const (.str ⟨#[97]⟩)) (.var 1) (.const (.str ⟨#[122]⟩))) (.one 1) .seq [(.var 0)] [])]))))]
def d0 : Dfn := ⟨top 8, ["value", "sign"], 1, ["jar"], b0⟩
theorem dok0 : DfnOk G xs d0 := ⟨by kernel_rfl, scopeB_ok (by kernel_rfl), by decide, fun _ _ _ _ _ _ us hl => match us, hl with | [_], _ => rfl⟩
/-- is_one_of -/
def b1 : List S := [(.ret (.and (.isi .str (.var 1)) (.cmp .in_ (.var 1) (.var 0))))]
def d1 : Dfn := ⟨top 9, ["words", "value"], 2, ["jar"], b1⟩
theorem dok1 : DfnOk G xs d1 := ⟨by kernel_rfl, scopeB_ok (by kernel_rfl), by decide, fun _ _ _ _ _ _ us hl => match us, hl with | [_, _], _ => rfl⟩
/-- ascends -/
def b2 : List S := [(.ret (.blt .all [(.comp (.cmp .lt (.idx (.var 0) (.var 1)) (.idx (.var 0) (.bin .add (.var 1) (.const (.int 1))))) (.one 1) .rng1 [(.bin .sub (.blt .len [(.var 0)]) (.const (.int 1)))] [])]))]
def d2 : Dfn := ⟨top 10, ["row", "at"], 1, ["jar"], b2⟩
theorem dok2 : DfnOk G xs d2 := ⟨by kernel_rfl, scopeB_ok (by kernel_rfl), by decide, fun _ _ _ _ _ _ us hl => match us, hl with | [_], _ => rfl⟩
/-- are_names -/
def b3 : List S := [(.ret (.and (.isi .tup (.var 1)) (.and (.blt .all [(.comp (.call 1 [(.var 0), (.var 2)]) (.one 2) .seq [(.var 1)] [])]) (.call 2 [(.var 1)]))))]
def d3 : Dfn := ⟨top 11, ["names", "value", "one"], 2, ["jar"], b3⟩
theorem dok3 : DfnOk G xs d3 := ⟨by kernel_rfl, scopeB_ok (by kernel_rfl), by decide, fun _ _ _ _ _ _ us hl => match us, hl with | [_, _], _ => rfl⟩
/-- is_tool -/
def b4 : List S := [(.ife (.or (.not (.isi .tup (.var 0))) (.or (.cmp .ne (.blt .len [(.var 0)]) (.const (.int 4))) (.or (.not (.call 0 [(.idx (.var 0) (.const (.int 0)))])) (.not (.call 1 [(.const (.tuple [(.str ⟨#[97, 108, 108]⟩), (.str ⟨#[110, 101, 119]⟩), (.str ⟨#[110, 111]⟩), (.str ⟨#[121, 101, 115]⟩)])), (.idx (.var 0) (.const (.int 1)))]))))) [(.ret (.const (.bool false)))] []),
    (.ret (.and (.isi .tup (.idx (.var 0) (.const (.int 2)))) (.isi .bool (.idx (.var 0) (.const (.int 3))))))]
def d4 : Dfn := ⟨top 12, ["value"], 1, ["jar"], b4⟩
theorem dok4 : DfnOk G xs d4 := ⟨by kernel_rfl, scopeB_ok (by kernel_rfl), by decide, fun _ _ _ _ _ _ us hl => match us, hl with | [_], _ => rfl⟩
/-- are_tools -/
def b5 : List S := [(.ife (.or (.not (.isi .tup (.var 0))) (.or (.not (.chain .le .le (.const (.int 2)) (.blt .len [(.var 0)]) (.const (.int 3)))) (.not (.blt .all [(.comp (.call 4 [(.var 2)]) (.one 2) .seq [(.var 0)] [])])))) [(.ret (.const (.bool false)))] []),
    (.asg 1 false (.comp (.idx (.var 3) (.const (.int 0))) (.one 3) .seq [(.var 0)] [])),
    (.ife (.not (.call 2 [(.var 1)])) [(.ret (.const (.bool false)))] []),
    (.ret (.blt .all [(.comp (.call 3 [(.comp (.var 4) (.one 4) .seq [(.var 1)] [(.cmp .ne (.var 4) (.idx (.var 3) (.const (.int 0))))]), (.idx (.var 3) (.const (.int 2)))]) (.one 3) .seq [(.var 0)] [])]))]
def d5 : Dfn := ⟨top 13, ["value", "names", "one", "tool", "name"], 1, ["jar"], b5⟩
theorem dok5 : DfnOk G xs d5 := ⟨by kernel_rfl, scopeB_ok (by kernel_rfl), by decide, fun _ _ _ _ _ _ us hl => match us, hl with | [_], _ => rfl⟩
/-- are_hooks -/
def b6 : List S := [(.ife (.not (.isi .tup (.var 1))) [(.ret (.const (.bool false)))] []),
    (.for (.one 2) .seq [(.var 1)] [(.ife (.or (.not (.isi .tup (.var 2))) (.or (.cmp .ne (.blt .len [(.var 2)]) (.const (.int 2))) (.not (.blt .all [(.comp (.call 1 [(.var 0), (.var 3)]) (.one 3) .seq [(.var 2)] [])])))) [(.ret (.const (.bool false)))] []),
    (.ife (.cmp .eq (.idx (.var 2) (.const (.int 0))) (.idx (.var 2) (.const (.int 1)))) [(.ret (.const (.bool false)))] [])]),
    (.ret (.call 2 [(.var 1)]))]
def d6 : Dfn := ⟨top 14, ["names", "value", "hook", "one"], 2, ["jar"], b6⟩
theorem dok6 : DfnOk G xs d6 := ⟨by kernel_rfl, scopeB_ok (by kernel_rfl), by decide, fun _ _ _ _ _ _ us hl => match us, hl with | [_, _], _ => rfl⟩
/-- is_setup -/
def b7 : List S := [(.ife (.or (.not (.isi .tup (.var 0))) (.or (.cmp .ne (.blt .len [(.var 0)]) (.const (.int 3))) (.not (.call 5 [(.idx (.var 0) (.const (.int 0)))])))) [(.ret (.const (.bool false)))] []),
    (.asg 1 false (.comp (.idx (.var 2) (.const (.int 0))) (.one 2) .seq [(.idx (.var 0) (.const (.int 0)))] [])),
    (.ife (.or (.not (.call 6 [(.var 1), (.idx (.var 0) (.const (.int 1)))])) (.or (.not (.isi .tup (.idx (.var 0) (.const (.int 2))))) (.cmp .ne (.blt .len [(.idx (.var 0) (.const (.int 2)))]) (.const (.int 2))))) [(.ret (.const (.bool false)))] []),
    (.ret (.and (.call 3 [(.var 1), (.idx (.idx (.var 0) (.const (.int 2))) (.const (.int 0)))]) (.call 3 [(.var 1), (.idx (.idx (.var 0) (.const (.int 2))) (.const (.int 1)))])))]
def d7 : Dfn := ⟨top 15, ["value", "names", "tool"], 1, ["jar"], b7⟩
theorem dok7 : DfnOk G xs d7 := ⟨by kernel_rfl, scopeB_ok (by kernel_rfl), by decide, fun _ _ _ _ _ _ us hl => match us, hl with | [_], _ => rfl⟩
/-- need_setup -/
def b8 : List S := [(.ife (.not (.call 7 [(.var 0)])) [.never] [])]
def d8 : Dfn := ⟨top 16, ["setup"], 1, ["jar"], b8⟩
theorem dok8 : DfnOk G xs d8 := ⟨by kernel_rfl, scopeB_ok (by kernel_rfl), by decide, fun _ _ _ _ _ _ us hl => match us, hl with | [_], _ => rfl⟩
/-- lines_of -/
def b9 : List S := [(.asg 1 false (.lst [])),
    (.for (.tup [2, 3, 4, 5]) .seq [(.idx (.var 0) (.const (.int 0)))] [(.asg 1 false (.bin .add (.var 1) (.lst [(.meth .join (.const (.str ⟨#[32]⟩)) [(.bin .add (.lst [(.const (.str ⟨#[116, 111, 111, 108]⟩)), (.var 2), (.var 3)]) (.rep (.lst [(.const (.str ⟨#[97, 115, 107, 115]⟩))]) (.blt .int [(.var 5)])))])]))),
    (.asg 1 false (.bin .add (.var 1) (.comp (.meth .join (.const (.str ⟨#[32]⟩)) [(.lst [(.const (.str ⟨#[116, 97, 107, 101, 115]⟩)), (.var 2), (.var 6)])]) (.one 6) .seq [(.var 4)] [])))]),
    (.asg 1 false (.bin .add (.var 1) (.comp (.meth .join (.const (.str ⟨#[32]⟩)) [(.lst [(.const (.str ⟨#[104, 111, 111, 107]⟩)), (.var 7), (.var 6)])]) (.tup [7, 6]) .seq [(.idx (.var 0) (.const (.int 1)))] []))),
    (.asg 1 false (.bin .add (.var 1) (.comp (.meth .join (.const (.str ⟨#[32]⟩)) [(.lst [(.const (.str ⟨#[102, 101, 101, 100, 115]⟩)), (.var 2)])]) (.one 2) .seq [(.idx (.idx (.var 0) (.const (.int 2))) (.const (.int 0)))] []))),
    (.ret (.bin .add (.var 1) (.comp (.meth .join (.const (.str ⟨#[32]⟩)) [(.lst [(.const (.str ⟨#[102, 114, 101, 101, 115]⟩)), (.var 2)])]) (.one 2) .seq [(.idx (.idx (.var 0) (.const (.int 2))) (.const (.int 1)))] [])))]
def d9 : Dfn := ⟨top 18, ["setup", "found", "name", "rule", "takes", "asks", "other", "one"], 1, ["jar"], b9⟩
theorem dok9 : DfnOk G xs d9 := ⟨by kernel_rfl, scopeB_ok (by kernel_rfl), by decide, fun _ _ _ _ _ _ us hl => match us, hl with | [_], _ => rfl⟩
/-- setup_text -/
def b10 : List S := [(.expr (.call 8 [(.var 0)])),
    (.ret (.meth .join (.const (.str ⟨#[10]⟩)) [(.call 9 [(.var 0)])]))]
def d10 : Dfn := ⟨top 19, ["setup"], 1, ["jar"], b10⟩
theorem dok10 : DfnOk G xs d10 := ⟨by kernel_rfl, scopeB_ok (by kernel_rfl), by decide, fun _ _ _ _ _ _ us hl => match us, hl with | [_], _ => rfl⟩
/-- is_line -/
def b11 : List S := [(.ife (.cmp .eq (.idx (.var 0) (.const (.int 0))) (.const (.str ⟨#[116, 111, 111, 108]⟩))) [(.ret (.and (.cmp .in_ (.blt .len [(.var 0)]) (.tup [(.const (.int 3)), (.const (.int 4))])) (.and (.call 0 [(.idx (.var 0) (.const (.int 1)))]) (.and (.cmp .in_ (.idx (.var 0) (.const (.int 2))) (.const (.tuple [(.str ⟨#[97, 108, 108]⟩), (.str ⟨#[110, 101, 119]⟩), (.str ⟨#[110, 111]⟩), (.str ⟨#[121, 101, 115]⟩)]))) (.cmp .in_ (.slc (.var 0) (.const (.int 3)) (.const .none)) (.tup [(.lst []), (.lst [(.const (.str ⟨#[97, 115, 107, 115]⟩))])]))))))] []),
    (.asg 1 false (.get2 (.dic [(.const (.str ⟨#[116, 97, 107, 101, 115]⟩)), (.const (.int 3)), (.const (.str ⟨#[104, 111, 111, 107]⟩)), (.const (.int 3)), (.const (.str ⟨#[102, 101, 101, 100, 115]⟩)), (.const (.int 2)), (.const (.str ⟨#[102, 114, 101, 101, 115]⟩)), (.const (.int 2))]) (.idx (.var 0) (.const (.int 0))) (.const (.int 0)))),
    (.ret (.and (.cmp .eq (.blt .len [(.var 0)]) (.var 1)) (.blt .all [(.comp (.call 0 [(.var 2)]) (.one 2) .seq [(.slc (.var 0) (.const (.int 1)) (.const .none))] [])])))]
def d11 : Dfn := ⟨top 20, ["words", "many", "word"], 1, ["jar"], b11⟩
theorem dok11 : DfnOk G xs d11 := ⟨by kernel_rfl, scopeB_ok (by kernel_rfl), by decide, fun _ _ _ _ _ _ us hl => match us, hl with | [_], _ => rfl⟩
/-- setup_in -/
def b12 : List S := [(.par [2, 3] [(false, (.tup [])), (false, (.blt .tuple [(.comp (.tup [(.idx (.var 1) (.const (.int 1))), (.idx (.var 1) (.const (.int 2)))]) (.one 1) .seq [(.var 0)] [(.cmp .eq (.idx (.var 1) (.const (.int 0))) (.const (.str ⟨#[104, 111, 111, 107]⟩)))])]))]),
    (.for (.one 1) .seq [(.var 0)] [(.ife (.cmp .eq (.idx (.var 1) (.const (.int 0))) (.const (.str ⟨#[116, 111, 111, 108]⟩))) [(.asg 4 false (.blt .tuple [(.comp (.idx (.var 6) (.const (.int 2))) (.one 6) .seq [(.var 0)] [(.and (.cmp .eq (.idx (.var 6) (.const (.int 0))) (.const (.str ⟨#[116, 97, 107, 101, 115]⟩))) (.cmp .eq (.idx (.var 6) (.const (.int 1))) (.idx (.var 1) (.const (.int 1)))))])])),
    (.asg 2 false (.bin .add (.var 2) (.tup [(.tup [(.idx (.var 1) (.const (.int 1))), (.idx (.var 1) (.const (.int 2))), (.var 4), (.cmp .eq (.blt .len [(.var 1)]) (.const (.int 4)))])])))] [])]),
    (.asg 5 false (.blt .tuple [(.comp (.idx (.var 1) (.const (.int 1))) (.one 1) .seq [(.var 0)] [(.cmp .eq (.idx (.var 1) (.const (.int 0))) (.const (.str ⟨#[102, 101, 101, 100, 115]⟩)))])])),
    (.ret (.tup [(.var 2), (.var 3), (.tup [(.var 5), (.blt .tuple [(.comp (.idx (.var 1) (.const (.int 1))) (.one 1) .seq [(.var 0)] [(.cmp .eq (.idx (.var 1) (.const (.int 0))) (.const (.str ⟨#[102, 114, 101, 101, 115]⟩)))])])])]))]
def d12 : Dfn := ⟨top 21, ["rows", "row", "tools", "hooks", "takes", "feeds", "other"], 1, ["jar"], b12⟩
theorem dok12 : DfnOk G xs d12 := ⟨by kernel_rfl, scopeB_ok (by kernel_rfl), by decide, fun _ _ _ _ _ _ us hl => match us, hl with | [_], _ => rfl⟩
/-- read_setup -/
def b13 : List S := [(.ife (.not (.isi .str (.var 0))) [.never] []),
    (.asg 1 false (.meth .split (.var 0) [(.const (.str ⟨#[10]⟩))])),
    (.for (.tup [2, 3]) .enum [(.var 1)] [(.ife (.not (.call 11 [(.meth .split (.var 3) [(.const (.str ⟨#[32]⟩))])])) [.never] [])]),
    (.asg 4 false (.call 12 [(.comp (.meth .split (.var 3) [(.const (.str ⟨#[32]⟩))]) (.one 3) .seq [(.var 1)] [])])),
    (.ife (.or (.not (.call 7 [(.var 4)])) (.cmp .ne (.call 9 [(.var 4)]) (.var 1))) [.never] []),
    (.ret (.var 4))]
def d13 : Dfn := ⟨top 22, ["value", "lines", "at", "line", "found"], 1, ["jar"], b13⟩
theorem dok13 : DfnOk G xs d13 := ⟨by kernel_rfl, scopeB_ok (by kernel_rfl), by decide, fun _ _ _ _ _ _ us hl => match us, hl with | [_], _ => rfl⟩
/-- _law_jar -/
def b14 : List S := [(.asg 2 false (.ife (.cmp .ge (.var 0) (.bin .pow (.const (.int 10)) (.const (.int 18)))) (.bin .sub (.var 0) (.bin .pow (.const (.int 10)) (.const (.int 18)))) (.const (.int 0)))),
    (.ret (.lst [(.blt .max [(.const (.int 0)), (.var 2)]), (.bin .add (.bin .mod (.blt .int [(.bin .add (.bin .mul (.var 0) (.const (.int 17))) (.bin .mul (.const (.int 5003)) (.var 1)))]) (.const (.int 1610612741))) (.const (.int 2)))]))]
def d14 : Dfn := ⟨top 24, ["cell", "salt", "whole"], 2, ["jar"], b14⟩
theorem dok14 : DfnOk G xs d14 := ⟨by kernel_rfl, scopeB_ok (by kernel_rfl), by decide, fun _ _ _ _ _ _ us hl => match us, hl with | [_, _], _ => rfl⟩
/-- _law_less -/
def b15 : List S := [(.ife (.cmp .gt (.idx (.var 0) (.const (.int 0))) (.const (.int 0))) [(.asg 2 false (.bin .mod (.blt .int [(.idx (.var 0) (.const (.int 0)))]) (.var 1))),
    (.setI (.var 0) (.const (.int 0)) (.bin .fdiv (.idx (.var 0) (.const (.int 0))) (.var 1))),
    (.ret (.var 2))] []),
    (.setI (.var 0) (.const (.int 1)) (.bin .mod (.blt .int [(.bin .add (.bin .mul (.idx (.var 0) (.const (.int 1))) (.const (.int 362437))) (.const (.int 521288629)))]) (.const (.int 3221225473)))),
    (.ret (.bin .mod (.blt .int [(.bin .fdiv (.bin .mod (.blt .int [(.bin .add (.bin .mul (.idx (.var 0) (.const (.int 1))) (.idx (.var 0) (.const (.int 1)))) (.const (.int 88675123)))]) (.const (.int 2971215073))) (.const (.int 8191)))]) (.var 1)))]
def d15 : Dfn := ⟨top 25, ["jar", "many", "found"], 2, ["jar"], b15⟩
theorem dok15 : DfnOk G xs d15 := ⟨by kernel_rfl, scopeB_ok (by kernel_rfl), by decide, fun _ _ _ _ _ _ us hl => match us, hl with | [_, _], _ => rfl⟩
/-- _law_some -/
def b16 : List S := [(.ret (.idx (.var 1) (.call 15 [(.var 0), (.blt .len [(.var 1)])])))]
def d16 : Dfn := ⟨top 26, ["jar", "things"], 2, ["jar"], b16⟩
theorem dok16 : DfnOk G xs d16 := ⟨by kernel_rfl, scopeB_ok (by kernel_rfl), by decide, fun _ _ _ _ _ _ us hl => match us, hl with | [_, _], _ => rfl⟩
/-- _law_part -/
def b17 : List S := [(.ret (.blt .tuple [(.comp (.var 3) (.one 3) .seq [(.var 1)] [(.cmp .lt (.call 15 [(.var 0), (.const (.int 6))]) (.var 2))])]))]
def d17 : Dfn := ⟨top 27, ["jar", "names", "odds", "name"], 3, ["jar"], b17⟩
theorem dok17 : DfnOk G xs d17 := ⟨by kernel_rfl, scopeB_ok (by kernel_rfl), by decide, fun _ _ _ _ _ _ us hl => match us, hl with | [_, _, _], _ => rfl⟩
/-- _law_tool -/
def b18 : List S := [(.asg 3 false (.comp (.var 5) (.one 5) .seq [(.var 1)] [(.cmp .ne (.var 5) (.var 2))])),
    (.asg 4 false (.call 16 [(.var 0), (.lst [(.const (.str ⟨#[97, 108, 108]⟩)), (.const (.str ⟨#[97, 108, 108]⟩)), (.const (.str ⟨#[110, 101, 119]⟩)), (.const (.str ⟨#[110, 111]⟩)), (.const (.str ⟨#[110, 111]⟩)), (.const (.str ⟨#[121, 101, 115]⟩))])])),
    (.ret (.tup [(.var 2), (.var 4), (.call 17 [(.var 0), (.var 3), (.const (.int 4))]), (.cmp .eq (.call 15 [(.var 0), (.const (.int 3))]) (.const (.int 0)))]))]
def d18 : Dfn := ⟨top 28, ["jar", "names", "name", "others", "rule", "other"], 3, ["jar"], b18⟩
theorem dok18 : DfnOk G xs d18 := ⟨by kernel_rfl, scopeB_ok (by kernel_rfl), by decide, fun _ _ _ _ _ _ us hl => match us, hl with | [_, _, _], _ => rfl⟩
/-- _law_setup -/
def b19 : List S := [(.asg 2 false (.call 16 [(.var 0), (.lst [(.lst [(.const (.str ⟨#[97]⟩)), (.const (.str ⟨#[98]⟩))]), (.lst [(.const (.str ⟨#[100, 101, 115, 107]⟩)), (.const (.str ⟨#[110, 101, 119, 115]⟩))]), (.lst [(.const (.str ⟨#[115, 104, 111, 112]⟩)), (.const (.str ⟨#[122, 105, 110, 101]⟩))])])])),
    (.ife (.and (.var 1) (.cmp .eq (.call 15 [(.var 0), (.const (.int 3))]) (.const (.int 0)))) [(.asg 2 false (.lst [(.const (.str ⟨#[100, 101, 115, 107]⟩)), (.const (.str ⟨#[110, 101, 119, 115]⟩)), (.const (.str ⟨#[115, 104, 111, 112]⟩))]))] []),
    (.ret (.call 20 [(.var 0), (.var 2)]))]
def d19 : Dfn := ⟨top 29, ["jar", "large", "names"], 2, ["jar"], b19⟩
theorem dok19 : DfnOk G xs d19 := ⟨by kernel_rfl, scopeB_ok (by kernel_rfl), by decide, fun _ _ _ _ _ _ us hl => match us, hl with | [_, _], _ => rfl⟩
/-- _law_setup_of -/
def b20 : List S := [(.asg 2 false (.blt .tuple [(.comp (.call 18 [(.var 0), (.var 1), (.var 6)]) (.one 6) .seq [(.var 1)] [])])),
    (.asg 3 false (.tup [])),
    (.for (.one 4) .seq [(.var 1)] [(.for (.one 5) .seq [(.var 1)] [(.ife (.and (.cmp .ne (.var 4) (.var 5)) (.cmp .lt (.call 15 [(.var 0), (.const (.int 5))]) (.const (.int 2)))) [(.asg 3 false (.bin .add (.var 3) (.tup [(.tup [(.var 4), (.var 5)])])))] [])])]),
    (.ret (.tup [(.var 2), (.var 3), (.tup [(.call 17 [(.var 0), (.var 1), (.const (.int 3))]), (.call 17 [(.var 0), (.var 1), (.const (.int 2))])])]))]
def d20 : Dfn := ⟨top 30, ["jar", "names", "tools", "wires", "one", "other", "name"], 2, ["jar"], b20⟩
theorem dok20 : DfnOk G xs d20 := ⟨by kernel_rfl, scopeB_ok (by kernel_rfl), by decide, fun _ _ _ _ _ _ us hl => match us, hl with | [_, _], _ => rfl⟩
/-- _law_rows_of -/
def b21 : List S := [(.ret (.comp (.bin .add (.bin .add (.var 0) (.const (.str ⟨#[32]⟩))) (.var 2)) (.one 2) .seq [(.var 1)] []))]
def d21 : Dfn := ⟨top 31, ["word", "names", "name"], 2, ["jar"], b21⟩
theorem dok21 : DfnOk G xs d21 := ⟨by kernel_rfl, scopeB_ok (by kernel_rfl), by decide, fun _ _ _ _ _ _ us hl => match us, hl with | [_, _], _ => rfl⟩
/-- _law_text -/
def b22 : List S := [(.asg 1 true (.lst [])),
    (.for (.tup [2, 3, 4, 5]) .seq [(.idx (.var 0) (.const (.int 0)))] [(.expr (.meth .append (.var 1) [(.bin .add (.bin .add (.bin .add (.bin .add (.const (.str ⟨#[116, 111, 111, 108, 32]⟩)) (.var 2)) (.const (.str ⟨#[32]⟩))) (.var 3)) (.ife (.var 5) (.const (.str ⟨#[32, 97, 115, 107, 115]⟩)) (.const (.str ⟨#[]⟩))))])),
    (.asg 1 true (.bin .add (.var 1) (.call 21 [(.bin .add (.const (.str ⟨#[116, 97, 107, 101, 115, 32]⟩)) (.var 2)), (.var 4)])))]),
    (.for (.tup [6, 7]) .seq [(.idx (.var 0) (.const (.int 1)))] [(.asg 1 true (.bin .add (.var 1) (.call 21 [(.bin .add (.const (.str ⟨#[104, 111, 111, 107, 32]⟩)) (.var 6)), (.tup [(.var 7)])])))]),
    (.ret (.meth .join (.const (.str ⟨#[10]⟩)) [(.bin .add (.bin .add (.var 1) (.call 21 [(.const (.str ⟨#[102, 101, 101, 100, 115]⟩)), (.idx (.idx (.var 0) (.const (.int 2))) (.const (.int 0)))])) (.call 21 [(.const (.str ⟨#[102, 114, 101, 101, 115]⟩)), (.idx (.idx (.var 0) (.const (.int 2))) (.const (.int 1)))]))]))]
def d22 : Dfn := ⟨top 32, ["setup", "rows", "name", "rule", "takes", "asks", "one", "other"], 1, ["rows"], b22⟩
theorem dok22 : DfnOk G xs d22 := ⟨by kernel_rfl, scopeB_ok (by kernel_rfl), by decide, fun _ _ _ _ _ _ us hl => match us, hl with | [_], _ => rfl⟩
/-- law -/
def b23 : List S := [(.for (.one 1) .seq [(.slc (.bin .add (.lst [(.const (.int 0))]) (.var 0)) (.const .none) (.const (.int 10)))] [(.asg 2 true (.call 14 [(.var 1), (.const (.int 69))])),
    (.for (.one 3) .rng1 [(.const (.int 4))] [(.asg 4 false (.call 19 [(.var 2), (.const (.bool true))])),
    (.asg 5 false (.call 10 [(.var 4)])),
    (.ife (.or (.cmp .ne (.var 5) (.call 22 [(.var 4)])) (.cmp .ne (.call 13 [(.var 5)]) (.var 4))) [(.ret (.const (.bool false)))] [])])]),
    (.asg 6 false (.tup [(.tup [(.const (.str ⟨#[97, 115, 107, 115]⟩)), (.const (.str ⟨#[97, 108, 108]⟩)), (.tup [(.const (.str ⟨#[116, 111, 111, 108]⟩))]), (.const (.bool true))]), (.tup [(.const (.str ⟨#[116, 97, 107, 101, 115]⟩)), (.const (.str ⟨#[110, 111]⟩)), (.tup [(.const (.str ⟨#[97, 115, 107, 115]⟩)), (.const (.str ⟨#[116, 111, 111, 108]⟩))]), (.const (.bool false))]), (.tup [(.const (.str ⟨#[116, 111, 111, 108]⟩)), (.const (.str ⟨#[121, 101, 115]⟩)), (.tup []), (.const (.bool true))])])),
    (.asg 4 false (.tup [(.var 6), (.tup [(.tup [(.const (.str ⟨#[97, 115, 107, 115]⟩)), (.const (.str ⟨#[116, 111, 111, 108]⟩))]), (.tup [(.const (.str ⟨#[116, 97, 107, 101, 115]⟩)), (.const (.str ⟨#[97, 115, 107, 115]⟩))])]), (.tup [(.tup [(.const (.str ⟨#[116, 97, 107, 101, 115]⟩))]), (.tup [(.const (.str ⟨#[97, 115, 107, 115]⟩)), (.const (.str ⟨#[116, 111, 111, 108]⟩))])])])),
    (.ret (.and (.cmp .eq (.call 10 [(.var 4)]) (.call 22 [(.var 4)])) (.cmp .eq (.call 13 [(.call 22 [(.var 4)])]) (.var 4))))]
def d23 : Dfn := ⟨top 33, ["script", "cell", "jar", "turn", "setup", "text", "tools"], 1, ["jar"], b23⟩
theorem dok23 : DfnOk G xs d23 := ⟨by kernel_rfl, scopeB_ok (by kernel_rfl), by decide, fun _ _ _ _ _ _ us hl => match us, hl with | [_], _ => rfl⟩
def ds : List Dfn := [d0, d1, d2, d3, d4, d5, d6, d7, d8, d9, d10, d11, d12, d13, d14, d15, d16, d17, d18, d19, d20, d21, d22, d23]
theorem ds_ok : ∀ d ∈ ds, DfnOk G xs d := by
  intro d hd
  obtain ⟨j, hj⟩ := List.getElem?_of_mem hd
  match j, hj with
  | 0, hj => cases hj; exact dok0
  | 1, hj => cases hj; exact dok1
  | 2, hj => cases hj; exact dok2
  | 3, hj => cases hj; exact dok3
  | 4, hj => cases hj; exact dok4
  | 5, hj => cases hj; exact dok5
  | 6, hj => cases hj; exact dok6
  | 7, hj => cases hj; exact dok7
  | 8, hj => cases hj; exact dok8
  | 9, hj => cases hj; exact dok9
  | 10, hj => cases hj; exact dok10
  | 11, hj => cases hj; exact dok11
  | 12, hj => cases hj; exact dok12
  | 13, hj => cases hj; exact dok13
  | 14, hj => cases hj; exact dok14
  | 15, hj => cases hj; exact dok15
  | 16, hj => cases hj; exact dok16
  | 17, hj => cases hj; exact dok17
  | 18, hj => cases hj; exact dok18
  | 19, hj => cases hj; exact dok19
  | 20, hj => cases hj; exact dok20
  | 21, hj => cases hj; exact dok21
  | 22, hj => cases hj; exact dok22
  | 23, hj => cases hj; exact dok23
  | n + 24, hj => cases hj
end K12

/-! k12: the law, by the evaluator. -/
namespace K12
open PySem Kp
abbrev fs : List Fn := ds.map Dfn.fn
abbrev L (k : Nat) : Nat → List D → Sto → R Rv := evFn fs k
/-! each def, its meaning -/
theorem F_label (k : Nat) : LabelF (L (k + 1)) 0 := fun v st hv => (evFn_def (f := d0.fn) rfl rfl).trans (sem_isLabel hv)
theorem F_one (k : Nat) : OneF (L (k + 1)) 1 := fun W ws v st hW hs => (evFn_def (f := d1.fn) rfl rfl).trans (sem_oneOf hW hs)
theorem F_asc (k : Nat) : AscF (L (k + 1)) 2 := fun v xs st hv hr hz => (evFn_def (f := d2.fn) rfl rfl).trans (sem_ascends hv hr hz)
theorem F_names (k : Nat) : NamesF (L (k + 2)) 3 := fun W ns v st hW hs hv => (evFn_def (f := d3.fn) rfl rfl).trans (sem_areNames (F_one k) (F_asc k) hW hs hv)
theorem F_tool (k : Nat) : ToolF (L (k + 2)) 4 := fun v st hv => (evFn_def (f := d4.fn) rfl rfl).trans (sem_isTool (F_label k) (F_one k) hv)
theorem F_tools (k : Nat) : ToolsF (L (k + 3)) 5 := fun v st hv => (evFn_def (f := d5.fn) rfl rfl).trans (sem_areTools (F_tool k) (F_asc (k + 1)) (F_names k) hv)
theorem F_hooks (k : Nat) : HooksF (L (k + 2)) 6 := fun W ns v st hW hs hv => (evFn_def (f := d6.fn) rfl rfl).trans (sem_areHooks (F_one k) (F_asc k) hW hs hv)
theorem F_setup (k : Nat) : SetupF (L (k + 4)) 7 := fun v st hv => (evFn_def (f := d7.fn) rfl rfl).trans (sem_isSetup (F_tools k) (F_hooks (k + 1)) (F_names (k + 1)) hv)
theorem F_need (k : Nat) : ∀ v st, small v = true → isSetup v = true → L (k + 5) 8 [.py v] st = ok1 .none st := fun v st hv hi => by
  refine (evFn_def (f := d8.fn) rfl rfl).trans ?_
  show fin st.length (evSs (L (k + 4)) b8 [some (.py v)] st) = _
  unfold b8
  simp only [v_nil, v_cons, v_for, v_asg, v_par, v_unp, v_setI, v_expr, v_ret, v_ife, v_pass, e_var, e_const, e_tup, e_lst, e_bin, e_negc, e_not, e_and, e_or, e_cmp, e_chain, e_ife, e_idx, e_slc, e_call, e_isi, e_blt, evDs, evPar, evAnd, x_bind, x_then, ok_bind, ok_then, nx_then, rt_then, np_imp, np_nl, np_py, ni_imp, ni_py, ni_nl, nb_imp, nb_py, no_none, no_int, no_intp, fz_imp, fz_im, fz_nl, im_py, im_imp, ok_imp, dm_nil, dm_one, dm_two, dr_py, tp_nil, tp_cons, ck_true, fin_rt, fin_nx, tr_imp, tr_nl, st_im, st_imp, st_nl, st_nlt, un_imp, b_len, b_all, b_any, b_max, b_min, b_int, b_intb, b_ll, b_lt, b_tl, b_tt, len_l, len_t, it_sl, it_st, it_ss, ty_str, ty_tup, c_le, c_ge, c_lt, c_gt, c_eqi, c_nei, c_eqs, c_nes, c_eqb, c_isb, c_isnb, o_add, o_sub, idx_t, idx_l, at0, at1, at2, at3, Bool.not_true, Bool.not_false, Bool.true_and, Bool.false_and, tgSlots, wipeE, bindT, List.getElem?_cons_zero, List.getElem?_cons_succ, List.set_cons_zero, List.set_cons_succ, Option.map_some, if_true, Bool.false_eq_true, if_false, F_setup k v _ hv, hi]
theorem F_lines (k : Nat) : LinesF (L (k + 1)) 9 := fun s st g => (evFn_def (f := d9.fn) rfl rfl).trans (sem_lines g)
theorem F_stext (k : Nat) : ∀ (s : SeT) st, s.Good → small s.enc = true → isSetup s.enc = true → L (k + 6) 10 [.py s.enc] st = ok1 (.str s.text) st := fun s st g hv hi => (evFn_def (f := d10.fn) rfl rfl).trans (sem_setupText g (fun st => F_need k _ st hv hi) (F_lines (k + 4)))
theorem F_line (k : Nat) : LineF (L (k + 2)) 11 := fun s r st g hr => (evFn_def (f := d11.fn) rfl rfl).trans (sem_isLine (F_label k) g hr)
theorem F_setIn (k : Nat) : SetInF (L (k + 1)) 12 := fun rows st hs hz => (evFn_def (f := d12.fn) rfl rfl).trans (sem_setupIn hs hz)
theorem F_read (k : Nat) : ∀ (s : SeT) st, s.Good → small s.enc = true → isSetup s.enc = true → L (k + 5) 13 [.py (.str s.text)] st = ok1 s.enc st := fun s st g hv hi => (evFn_def (f := d13.fn) rfl rfl).trans (sem_read (x1 := .never) (x2 := .never) (x3 := .never) (F_line (k + 2)) (F_setIn (k + 3)) (fun st => by rw [F_setup k _ _ hv, hi]) (F_lines (k + 3)) g)
theorem F_less (k : Nat) : LessF (L (k + 1)) 15 := fun n st many hj h0 h1 => by
  obtain ⟨r, st', e, h⟩ := sem_less (Φ := L k) hj h0 h1
  exact ⟨r, st', (evFn_def (f := d15.fn) rfl rfl).trans e, h⟩
theorem F_some (k : Nat) : SomeF (L (k + 2)) 16 := fun n st v xs hv hne hz hj => by
  obtain ⟨r, st', e, h⟩ := sem_some (F_less k) hv hne hz hj
  exact ⟨r, st', (evFn_def (f := d16.fn) rfl rfl).trans e, h⟩
theorem F_part (k : Nat) : PartF (L (k + 2)) 17 := fun n st v xs odds hv hz hj => by
  obtain ⟨r, st', e, h⟩ := sem_part (F_less k) (odds := odds) hv hz hj
  exact ⟨r, st', (evFn_def (f := d17.fn) rfl rfl).trans e, h⟩
theorem F_mkTool (k : Nat) : MkToolF (L (k + 3)) 18 := fun n st ns s hs hz hj => by
  obtain ⟨r, st', e, h⟩ := sem_mkTool (F_some k) (F_part k) (F_less (k + 1)) (s := s) hs hz hj
  exact ⟨r, st', (evFn_def (f := d18.fn) rfl rfl).trans e, h⟩
theorem F_setupOf (k : Nat) : SetupOfF (L (k + 4)) 20 := fun n st ns hs hz hj => by
  obtain ⟨r, st', e, h⟩ := sem_setupOf (F_mkTool k) (F_less (k + 2)) (F_part (k + 1)) hs hz hj
  exact ⟨r, st', (evFn_def (f := d20.fn) rfl rfl).trans e, h⟩
theorem F_mkSetup (k : Nat) : MkSetupF (L (k + 5)) 19 := fun n st large hj => by
  obtain ⟨ns, r, st', e, h⟩ := sem_mkSetup (F_some (k + 2)) (F_less (k + 3)) (F_setupOf k) (large := large) hj
  exact ⟨ns, r, st', (evFn_def (f := d19.fn) rfl rfl).trans e, h⟩
theorem F_rowsOf (k : Nat) : RowsOfF (L (k + 1)) 21 := fun w v ns st hv hw hn hl => (evFn_def (f := d21.fn) rfl rfl).trans (sem_rowsOf hv hw hn hl)
theorem F_text (k : Nat) : TextF (L (k + 2)) 22 := fun s st g => (evFn_def (f := d22.fn) rfl rfl).trans (sem_text (F_rowsOf k) g)
theorem F_jar (k : Nat) : ∀ c st, ∃ a b : Int, L (k + 1) 14 [.py (.int c), .py (.int 69)] st = .ok (.nl [.int a, .int b]) st ∧ 0 ≤ a ∧ 0 ≤ b ∧ b < 4294967296 := fun c st => by
  obtain ⟨a, b, e, h⟩ := sem_jar (Φ := L k) (st := st) c 69 (by omega)
  exact ⟨a, b, (evFn_def (f := d14.fn) rfl rfl).trans e, h⟩
/-! the law -/
def inner : List S := [(.asg 4 false (.call 19 [(.var 2), (.const (.bool true))])),
    (.asg 5 false (.call 10 [(.var 4)])),
    (.ife (.or (.cmp .ne (.var 5) (.call 22 [(.var 4)])) (.cmp .ne (.call 13 [(.var 5)]) (.var 4))) [(.ret (.const (.bool false)))] [])]
def outer : List S := [(.asg 2 true (.call 14 [(.var 1), (.const (.int 69))])),
    (.for (.one 3) .rng1 [(.const (.int 4))] inner)]
theorem eqv_refl_small {v : P} (h : fit v = true) : cmpop .ne v v = some (!v.eqv v) := by
  show (if (fit v && fit v) = true then some (!v.eqv v) else none) = _
  rw [h, Bool.and_self, if_pos rfl]
theorem eqv_refl_small2 {v : P} (h : fit v = true) : cmpop .eq v v = some (v.eqv v) := by
  show (if (fit v && fit v) = true then some (v.eqv v) else none) = _
  rw [h, Bool.and_self, if_pos rfl]
mutual
theorem eqv_self : ∀ v : P, v.plain = true → v.eqv v = true
  | .none, _ => rfl
  | .bool b, _ => by cases b <;> rfl
  | .int i, _ => by rw [PyData.eqv]; exact beq_self_eq_true i
  | .str s, _ => by rw [PyData.eqv]; exact beq_self_eq_true s
  | .tuple xs, h => by rw [PyData.plain] at h; rw [PyData.eqv]; exact eqv_selfAll xs h
  | .list xs, h => by rw [PyData.plain] at h; rw [PyData.eqv]; exact eqv_selfAll xs h
  | .dict _, h => by rw [PyData.plain] at h; cases h
theorem eqv_selfAll : ∀ xs : List P, PyData.plainAll xs = true → PyData.eqvAll xs xs = true
  | [], _ => rfl
  | x :: xs, h => by
    rw [PyData.plainAll, Bool.and_eq_true] at h
    rw [PyData.eqvAll, eqv_self x h.1, eqv_selfAll xs h.2]; rfl
end
theorem ne_self {v : P} (h : fit v = true) : cmpop .ne v v = some false := by
  rw [eqv_refl_small h, eqv_self v (by unfold fit at h; rw [Bool.and_eq_true] at h; exact h.1)]; rfl
theorem eq_self_ {v : P} (h : fit v = true) : cmpop .eq v v = some true := by
  rw [eqv_refl_small2 h, eqv_self v (by unfold fit at h; rw [Bool.and_eq_true] at h; exact h.1)]
theorem turn_inner {y : P} {e0 e1 e3 e4 e5 e6 : Option D} {jn : Nat} {st : Sto} (hj : JarAt jn st) :
    ∃ e4' e5' st', turnF (L 59) (.one 3) inner y [e0, e1, some (.ref jn), e3, e4, e5, e6] st = .nx [e0, e1, some (.ref jn), some (.py y), e4', e5', e6] st' ∧ JarAt jn st' := by
  obtain ⟨ns, v, st1, ev, hd, hv, j1, s1⟩ := F_mkSetup 54 jn st true hj
  have b5 := setup_bd hd hv
  obtain ⟨sm, ft⟩ := bd_fit (by omega) (by omega) b5
  have his := drawSetup_is (drawNs_good hd) hv
  obtain ⟨s, rfl, g⟩ := draw_open hd hv
  refine ⟨some (.py s.enc), some (.py (.str s.text)), st1, ?_, j1⟩
  unfold turnF inner
  simp only [v_nil, v_cons, v_for, v_asg, v_par, v_unp, v_setI, v_expr, v_ret, v_ife, v_pass, e_var, e_const, e_tup, e_lst, e_bin, e_negc, e_not, e_and, e_or, e_cmp, e_chain, e_ife, e_idx, e_slc, e_call, e_isi, e_blt, evDs, evPar, evAnd, x_bind, x_then, ok_bind, ok_then, nx_then, rt_then, np_imp, np_nl, np_py, ni_imp, ni_py, ni_nl, nb_imp, nb_py, no_none, no_int, no_intp, fz_imp, fz_im, fz_nl, im_py, im_imp, ok_imp, dm_nil, dm_one, dm_two, dr_py, tp_nil, tp_cons, ck_true, fin_rt, fin_nx, tr_imp, tr_nl, st_im, st_imp, st_nl, st_nlt, un_imp, b_len, b_all, b_any, b_max, b_min, b_int, b_intb, b_ll, b_lt, b_tl, b_tt, len_l, len_t, it_sl, it_st, it_ss, ty_str, ty_tup, c_le, c_ge, c_lt, c_gt, c_eqi, c_nei, c_eqs, c_nes, c_eqb, c_isb, c_isnb, o_add, o_sub, idx_t, idx_l, at0, at1, at2, at3, Bool.not_true, Bool.not_false, Bool.true_and, Bool.false_and, tgSlots, wipeE, bindT, List.getElem?_cons_zero, List.getElem?_cons_succ, List.set_cons_zero, List.set_cons_succ, Option.map_some, if_true, Bool.false_eq_true, if_false, ev, F_stext 53 s _ g sm his, F_text 57 s _ g, beq_self_eq_true, F_read 54 s _ g sm his, ne_self ft]
theorem turn_outer {c : Int} {e0 e1 e2 e3 e4 e5 e6 : Option D} {st : Sto} :
    ∃ e2' e3' e4' e5' st', turnF (L 59) (.one 1) outer (.int c) [e0, e1, e2, e3, e4, e5, e6] st = .nx [e0, some (.py (.int c)), e2', e3', e4', e5', e6] st' := by
  obtain ⟨a, b, ej, ha, hb, hb2⟩ := F_jar 58 c st
  have hj : JarAt st.length (st ++ [.lst [.int a, .int b]]) := ⟨a, b, by rw [List.getElem?_append_right (Nat.le_refl _), Nat.sub_self]; rfl, ha, hb, hb2⟩
  obtain ⟨env', st2, e2', ⟨e3', e4', e5', rfl⟩, j2⟩ := forL_st (f := turnF (L 59) (.one 3) inner) (fun i : Nat => PyData.int (0 + (i : Int))) (Inv := fun _ env st' => (∃ e3 e4 e5, env = [e0, some (D.py (.int c)), some (D.ref st.length), e3, e4, e5, e6]) ∧ JarAt st.length st') (all := List.range 4) (fun done z rest env st2 _ h => by
    obtain ⟨⟨e3, e4, e5, rfl⟩, j⟩ := h
    obtain ⟨e4', e5', st', e, j'⟩ := turn_inner (y := .int (0 + (z : Int))) (e0 := e0) (e1 := some (D.py (.int c))) (e3 := e3) (e4 := e4) (e5 := e5) (e6 := e6) j
    exact ⟨_, st', e, ⟨_, _, _, rfl⟩, j'⟩) (List.range 4) [] [e0, some (D.py (.int c)), some (D.ref st.length), e3, e4, e5, e6] _ rfl ⟨⟨_, _, _, rfl⟩, hj⟩
  refine ⟨some (.ref st.length), e3', e4', e5', st2, ?_⟩
  unfold turnF outer
  simp only [v_nil, v_cons, v_for, v_asg, v_par, v_unp, v_setI, v_expr, v_ret, v_ife, v_pass, e_var, e_const, e_tup, e_lst, e_bin, e_negc, e_not, e_and, e_or, e_cmp, e_chain, e_ife, e_idx, e_slc, e_call, e_isi, e_blt, evDs, evPar, evAnd, x_bind, x_then, ok_bind, ok_then, nx_then, rt_then, np_imp, np_nl, np_py, ni_imp, ni_py, ni_nl, nb_imp, nb_py, no_none, no_int, no_intp, fz_imp, fz_im, fz_nl, im_py, im_imp, ok_imp, dm_nil, dm_one, dm_two, dr_py, tp_nil, tp_cons, ck_true, fin_rt, fin_nx, tr_imp, tr_nl, st_im, st_imp, st_nl, st_nlt, un_imp, b_len, b_all, b_any, b_max, b_min, b_int, b_intb, b_ll, b_lt, b_tl, b_tt, len_l, len_t, it_sl, it_st, it_ss, ty_str, ty_tup, c_le, c_ge, c_lt, c_gt, c_eqi, c_nei, c_eqs, c_nes, c_eqb, c_isb, c_isnb, o_add, o_sub, idx_t, idx_l, at0, at1, at2, at3, Bool.not_true, Bool.not_false, Bool.true_and, Bool.false_and, tgSlots, wipeE, bindT, List.getElem?_cons_zero, List.getElem?_cons_succ, List.set_cons_zero, List.set_cons_succ, Option.map_some, if_true, Bool.false_eq_true, if_false, ej, rngc 4 (by omega)]
  rw [show evI (L 59) [e0, some (D.py (.int c)), some (D.ref st.length), e3, e4, e5, e6] .rng1 [(.const (.int 4))] (st ++ [.lst [.int a, .int b]]) = .ok ((List.range 4).map fun (i : Nat) => .int (0 + (i : Int))) (st ++ [.lst [.int a, .int b]]) from rngc 4 (by omega)]
  simp only [v_nil, v_cons, v_for, v_asg, v_par, v_unp, v_setI, v_expr, v_ret, v_ife, v_pass, e_var, e_const, e_tup, e_lst, e_bin, e_negc, e_not, e_and, e_or, e_cmp, e_chain, e_ife, e_idx, e_slc, e_call, e_isi, e_blt, evDs, evPar, evAnd, x_bind, x_then, ok_bind, ok_then, nx_then, rt_then, np_imp, np_nl, np_py, ni_imp, ni_py, ni_nl, nb_imp, nb_py, no_none, no_int, no_intp, fz_imp, fz_im, fz_nl, im_py, im_imp, ok_imp, dm_nil, dm_one, dm_two, dr_py, tp_nil, tp_cons, ck_true, fin_rt, fin_nx, tr_imp, tr_nl, st_im, st_imp, st_nl, st_nlt, un_imp, b_len, b_all, b_any, b_max, b_min, b_int, b_intb, b_ll, b_lt, b_tl, b_tt, len_l, len_t, it_sl, it_st, it_ss, ty_str, ty_tup, c_le, c_ge, c_lt, c_gt, c_eqi, c_nei, c_eqs, c_nes, c_eqb, c_isb, c_isnb, o_add, o_sub, idx_t, idx_l, at0, at1, at2, at3, Bool.not_true, Bool.not_false, Bool.true_and, Bool.false_and, tgSlots, wipeE, bindT, List.getElem?_cons_zero, List.getElem?_cons_succ, List.set_cons_zero, List.set_cons_succ, Option.map_some, if_true, Bool.false_eq_true, if_false, e2']
def s0 : SeT := ⟨[(⟨#[97, 115, 107, 115]⟩, ⟨#[97, 108, 108]⟩, [⟨#[116, 111, 111, 108]⟩], true), (⟨#[116, 97, 107, 101, 115]⟩, ⟨#[110, 111]⟩, [⟨#[97, 115, 107, 115]⟩, ⟨#[116, 111, 111, 108]⟩], false), (⟨#[116, 111, 111, 108]⟩, ⟨#[121, 101, 115]⟩, [], true)],
  [(⟨#[97, 115, 107, 115]⟩, ⟨#[116, 111, 111, 108]⟩), (⟨#[116, 97, 107, 101, 115]⟩, ⟨#[97, 115, 107, 115]⟩)], [⟨#[116, 97, 107, 101, 115]⟩], [⟨#[97, 115, 107, 115]⟩, ⟨#[116, 111, 111, 108]⟩]⟩
theorem lab_b {x : Str} (h : isLabel (.str x) = true) : lab x := h
instance (x : Str) : Decidable (lab x) := inferInstanceAs (Decidable (_ = true))
theorem g0 : s0.Good := by
  refine ⟨fun t ht => ?_, by decide +kernel, by decide +kernel, by decide +kernel, by decide, by decide, by decide, by decide, by decide, by decide +kernel⟩
  unfold s0 at ht
  simp only [List.mem_cons, List.not_mem_nil, or_false] at ht
  rcases ht with rfl | rfl | rfl
  · exact ⟨by decide +kernel, by unfold RULES; simp, by decide +kernel, by decide⟩
  · exact ⟨by decide +kernel, by unfold RULES; simp, by decide +kernel, by decide⟩
  · exact ⟨by decide +kernel, by unfold RULES; simp, by decide +kernel, by decide⟩
theorem is0 : small s0.enc = true ∧ isSetup s0.enc = true ∧ fit s0.enc = true := by decide +kernel
theorem law_end {e0 e1 e2 e3 e4 e5 : Option D} {st : Sto} : evSs (L 59) (b23.drop 1) [e0, e1, e2, e3, e4, e5, none] st = .rt (imp (.bool true)) st := by
  obtain ⟨sm, his, ft⟩ := is0
  have h1 : ∀ st, L 59 10 [.py s0.enc] st = ok1 (.str s0.text) st := fun st => F_stext 53 s0 st g0 sm his
  have h2 : ∀ st, L 59 22 [.py s0.enc] st = ok1 (.str s0.text) st := fun st => F_text 57 s0 st g0
  have h3 : ∀ st, L 59 13 [.py (.str s0.text)] st = ok1 s0.enc st := fun st => F_read 54 s0 st g0 sm his
  have h4 := eq_self_ ft
  have e : s0.enc = .tuple [.tuple [.tuple [.str ⟨#[97, 115, 107, 115]⟩, .str ⟨#[97, 108, 108]⟩, .tuple [.str ⟨#[116, 111, 111, 108]⟩], .bool true], .tuple [.str ⟨#[116, 97, 107, 101, 115]⟩, .str ⟨#[110, 111]⟩, .tuple [.str ⟨#[97, 115, 107, 115]⟩, .str ⟨#[116, 111, 111, 108]⟩], .bool false], .tuple [.str ⟨#[116, 111, 111, 108]⟩, .str ⟨#[121, 101, 115]⟩, .tuple [], .bool true]],
    .tuple [.tuple [.str ⟨#[97, 115, 107, 115]⟩, .str ⟨#[116, 111, 111, 108]⟩], .tuple [.str ⟨#[116, 97, 107, 101, 115]⟩, .str ⟨#[97, 115, 107, 115]⟩]], .tuple [.tuple [.str ⟨#[116, 97, 107, 101, 115]⟩], .tuple [.str ⟨#[97, 115, 107, 115]⟩, .str ⟨#[116, 111, 111, 108]⟩]]] := rfl
  rw [e] at h1 h2 h3 h4
  generalize s0.text = tx at h1 h2 h3
  unfold b23
  simp only [List.drop_succ_cons, List.drop_zero, v_nil, v_cons, v_for, v_asg, v_par, v_unp, v_setI, v_expr, v_ret, v_ife, v_pass, e_var, e_const, e_tup, e_lst, e_bin, e_negc, e_not, e_and, e_or, e_cmp, e_chain, e_ife, e_idx, e_slc, e_call, e_isi, e_blt, evDs, evPar, evAnd, x_bind, x_then, ok_bind, ok_then, nx_then, rt_then, np_imp, np_nl, np_py, ni_imp, ni_py, ni_nl, nb_imp, nb_py, no_none, no_int, no_intp, fz_imp, fz_im, fz_nl, im_py, im_imp, ok_imp, dm_nil, dm_one, dm_two, dr_py, tp_nil, tp_cons, ck_true, fin_rt, fin_nx, tr_imp, tr_nl, st_im, st_imp, st_nl, st_nlt, un_imp, b_len, b_all, b_any, b_max, b_min, b_int, b_intb, b_ll, b_lt, b_tl, b_tt, len_l, len_t, it_sl, it_st, it_ss, ty_str, ty_tup, c_le, c_ge, c_lt, c_gt, c_eqi, c_nei, c_eqs, c_nes, c_eqb, c_isb, c_isnb, o_add, o_sub, idx_t, idx_l, at0, at1, at2, at3, Bool.not_true, Bool.not_false, Bool.true_and, Bool.false_and, tgSlots, wipeE, bindT, List.getElem?_cons_zero, List.getElem?_cons_succ, List.set_cons_zero, List.set_cons_succ, Option.map_some, if_true, Bool.false_eq_true, if_false, List.length_cons, List.length_nil, Nat.reduceAdd, Nat.zero_add, SZ, sizeLine_eq, Nat.reduceLeDiff, decide_true, eq_self, h1, h2, h3, h4, beq_self_eq_true]
theorem law_ev : LawEv ds 60 23 := by
  intro ns hl d st hd
  obtain ⟨ys, hI, hint⟩ := cells_ok (Φ := L 59) hl hd 10
  have step : ∀ (done : List P) (z : P) rest env st2, ys = done ++ z :: rest → (∃ e1 e2 e3 e4 e5, env = [some d, e1, e2, e3, e4, e5, none]) →
      ∃ env' st', turnF (L 59) (.one 1) outer z env st2 = .nx env' st' ∧ (∃ e1 e2 e3 e4 e5, env' = [some d, e1, e2, e3, e4, e5, none]) := by
    rintro done z rest env st2 hz ⟨e1, e2, e3, e4, e5, rfl⟩
    obtain ⟨c, rfl⟩ := hint z (by rw [hz]; simp)
    obtain ⟨e2', e3', e4', e5', st', e⟩ := turn_outer (c := c) (e0 := some d) (e1 := e1) (e2 := e2) (e3 := e3) (e4 := e4) (e5 := e5) (e6 := none) (st := st2)
    exact ⟨_, st', e, _, _, _, _, _, rfl⟩
  obtain ⟨env', st', e, e1, e2, e3, e4, e5, rfl⟩ := forL_inv (Inv := fun _ env _ => ∃ e1 e2 e3 e4 e5, env = [some d, e1, e2, e3, e4, e5, none]) step ys [] [some d, none, none, none, none, none, none] st rfl ⟨_, _, _, _, _, rfl⟩
  refine ⟨st'.take st.length, ?_⟩
  refine (evFn_def (f := d23.fn) rfl rfl).trans ?_
  show fin st.length (evSs (L 59) ((.for (.one 1) .seq [(.slc (.bin .add (.lst [(.const (.int 0))]) (.var 0)) (.const .none) (.const (.int 10)))] outer) :: b23.drop 1) [some d, none, none, none, none, none, none] st) = _
  have hI := hI [some d, none, none, none, none, none, none] rfl
  have hI : evI (L 59) [some d, none, none, none, none, none, none] .seq [(.slc (.bin .add (.lst [(.const (.int 0))]) (.var 0)) (.const .none) (.const (.int 10)))] st = .ok ys st := hI
  rw [v_cons, v_for, hI]
  simp only [ok_then]
  rw [e]
  simp only [nx_then]
  rw [law_end]
  rfl
end K12

namespace K12
open PySem PySem.Spec PyProof.Rows L2 Kp
def loose : List Str := ["KeptError", "InvalidSetup", "WrongLine", "RULES", "FEWEST", "MOST", "is_label", "is_one_of", "ascends", "are_names", "is_tool", "are_tools", "are_hooks", "is_setup", "need_setup", "lines_of", "setup_text", "is_line", "setup_in", "read_setup", "_law_jar", "_law_less", "_law_some", "_law_part", "_law_tool", "_law_setup", "_law_setup_of", "_law_rows_of", "_law_text"]
abbrev Rw : PySem.W.OpenRow := PySem.W.OpenLaw.row PySem.Challenge.rw_keptno_k12_texts_there_and_back
abbrev hk : PySem.W.Hook := hookC 4 (factsOf dnames) (ds.map Dfn.dd) cs xs
def ob (s : PySem.W.SharedT) : AlC := obsCG 4 (factsOf dnames) (ds.map Dfn.dd) cs xs (HandSHeadRun.getT s)
theorem ob_eq (s : PySem.W.SharedT) : ob s = hk.obs s.abs := obsCG_eq (HandSHeadRun.getT_eq s)
theorem run (w : World) : HandSHeadRun.RunEq Rw (PySem.W.view Rw.prog [33]) hk ob 4000 loose w := by
  intro os
  kernel_rfl
end K12

namespace K12
open PySem PySem.Spec PyProof.Rows L2 Kp
theorem ev : LawEv ds 60 23 := law_ev
theorem facts {Pg : Program} {w : World} {K : PySem.W.Frag} {h : Heap} {mg : Str → Option Value} {f : Addr} (X : K.In h) (N : h.Ns mainGlobals mg) (hf : mg ("law" : Str) = some (.ref f)) (c : SaysC (factsOf dnames) (ds.map Dfn.dd) cs xs K) :
    ∃ (fd : FuncData) (sp : Sp), (∀ (s : Shared) (u : Value), BindsTo s fd ⟨[u], []⟩ [("script", u)]) ∧
      (∀ (H : Hp) (a : Addr) (ns : List Int), ns.length ≤ 63 → Only H → SqL K H a (ns.map V.int) → sp [.ref a] H (fun v _ => v = .bl true) fun _ _ _ => False) ∧
      ∀ base : Heap, K.In base → base.Ns mainGlobals mg → FnOk Pg w K mg base (L2.CX Pg w) 60 f fd ["script"] sp :=
  law_facts (k := 59) (j := 23) (law := "law") (dl := d23) X N c (by kernel_rfl) ds_ok (by kernel_rfl) (by rfl) (by kernel_rfl) hf ev
end K12
open PySem PySem.W PySem.Calls PyProof.Rows
theorem PySem.Challenge.cw_keptno_k12_texts_there_and_back_holds : PySem.Challenge.rw_keptno_k12_texts_there_and_back.Holds := by
  w_on; o_law
  refine HandSHeadRun.head_any (r := OpenLaw.row PySem.Challenge.rw_keptno_k12_texts_there_and_back) (q := view (OpenLaw.row PySem.Challenge.rw_keptno_k12_texts_there_and_back).prog [33]) (H := K12.hk) (ob := K12.ob) (M := 4000) (loose := K12.loose) (d := HandSHeadRun.topDef (OpenLaw.row PySem.Challenge.rw_keptno_k12_texts_there_and_back).prog 33) (kwd := []) K12.ob_eq
    (by kernel_rfl) (fun s => by kernel_rfl) K12.run (by kernel_rfl) (by kernel_rfl) (by kernel_rfl) (by rfl) (by first | assumption | decide +kernel) (by decide +kernel) ⟨rfl, rfl, rfl, rfl, rfl, by decide +kernel⟩ ?hw ?hc
  case hw => w_witness2
  case hc =>
    refine Kp.walk_kp (l := PySem.Challenge.rw_keptno_k12_texts_there_and_back) (n := 63) (k := 60) (x := "script") rfl (by decide) (by kernel_rfl) ⟨rfl, by decide, by decide⟩ ?F
    case F =>
      intro w mg fa h Y G hmg0
      obtain ⟨K, KX, c⟩ := Y
      have hmg : mg ("law" : PySem.Str) = some (.ref fa) := by
        have e : (HandSHeadRun.topDef (OpenLaw.row PySem.Challenge.rw_keptno_k12_texts_there_and_back).prog 33).name = ("law" : PySem.Str) := by kernel_rfl
        rw [← e]
        exact hmg0
      obtain ⟨fd, sp, hb, hsp, hF⟩ := K12.facts (Pg := (PySem.Challenge.rw_keptno_k12_texts_there_and_back).prog) (w := w) KX G hmg c
      exact ⟨K, fd, sp, KX, hb, hsp, hF⟩
