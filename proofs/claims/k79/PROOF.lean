import PyProof.Rows.All
import Wide.All
import OpenK.AllK
import Wide.FinOn
import HandS.ForMost
import HandS.Exc
import HandS.TryMany
import HandS.Lambda
import HandS.Wide
import HandS.WideBits
import HandS.Flow
import HandS.IsInst
import HandS.TupAny
import HandS.SortInts
import HandS.TupLen
import HandS.WordsDict
import HandS.Style
import HandS.Deep
import HandS.Iter
import HandS.Zip
import HandS.NoneIn
import HandS.DictComp
import HandS.ListItems
import HandS.RaiseMore
import HandS.ExcOwn
import HandS.ExcField
import KE.GoesMore
import KE.KDictZip
import HandS.EndTab
import KE.KNestM
import KE.IntBitsLaws
import PyProof.ReprLen
import PyProof.Ascii
import PySem.Challenge.RW_tableplays_k79_whole_machines

section
set_option Elab.async false
set_option linter.all false
namespace Mv
open PySem

/-- values: frozen lists and dicts bear a colour (region); ptr: a shared cell; fn: a def, a class, a built-in by its name -/
inductive MV where
  | non | bl (b : Bool) | int (i : Int) | str (x : Str)
  | lst (c : Nat) (xs : List MV)
  | tup (xs : List MV)
  | dct (c : Nat) (tk : Bool) (kvs : List (MV × MV))
  | ptr (n : Nat)
  | fn (x : Str)
  | scr (xs : List MV)
  deriving Inhabited

inductive BOp where | add | sub | mul | fdiv | mod | pow
  deriving DecidableEq
inductive COp where | eq | ne | lt | le | gt | ge | is_ | isnot | in_ | notin
  deriving DecidableEq

/-- built-in functions, methods, what a for walks by name -/
inductive Bi where | len | abs | int | max | min | sum | all | any | list | tuple | dict (tk : Bool) | repr | sorted | listItems | listValues
  deriving DecidableEq
inductive Mt where | index | get | pop | append | count
  deriving DecidableEq
inductive Wk where | range | zip | enumerate | zipl
  deriving DecidableEq
/-- built-in classes for isinstance -/
inductive Ty where | int | bool | str | list | tuple | dict
  deriving DecidableEq

/-- targets -/
inductive Tg where
  | nm (i : Nat)
  | nil
  | cons (t : Tg) (r : Tg)

mutual
inductive ME where
  | nm (i : Nat)
  | cn (v : MV)
  | bin (o : BOp) (a b : ME)
  | neg (a : ME) | nt (a : ME)
  | cmp (o : COp) (a b : ME)
  | chain (o1 o2 : COp) (a b c : ME)
  | andE (a : ME) (es : Es) | orE (a : ME) (es : Es)
  | ite (c a b : ME)
  | call (f : Str) (es : Es) (pm : List Nat)
  | bi (b : Bi) (es : Es)
  | isi (e : ME) (tp : Bool) (cs : List Ty)
  | mth (m : Mt) (o : ME) (es : Es)
  | lst (es : Es) | tup (es : Es) | dct (tk : Bool) (ks vs : Es)
  | lc (elt : ME) (t : Tg) (it : IT) (ifs : Es) (own : List Nat)
  | dc (tk : Bool) (k v : ME) (t : Tg) (it : IT) (own : List Nat)
  | sub (o i : ME)
  | slc (o : ME) (lo hi : Option ME)
  | rv (o : ME)
  | met (e : ME)
  | cell (e : ME)
  | melt (e : ME)
inductive Es where
  | nil
  | cons (star : Bool) (e : ME) (r : Es)
/-- what is walked: a value's items, range zip enumerate by name, the items of a dict -/
inductive IT where
  | val (e : ME)
  | by_ (b : Wk) (es : Es)
  | items (o : ME)
end

mutual
inductive MS where
  | expr (e : ME)
  | set (i : Nat) (own : Bool) (e : ME)
  | setT (t : Tg) (e : ME)
  | par (is : List (Nat × Bool)) (es : Es)
  | setSub (i : Nat) (ix e : ME)
  | setCell (o ix e : ME)
  | append (i : Nat) (e : ME)
  | extend (i : Nat) (e : ME)
  | pop (t : Tg) (i : Nat) (ix : Option ME)
  | ifS (c : ME) (a b : Ss)
  | whl (c : ME) (b : Ss)
  | for_ (t : Tg) (it : IT) (b : Ss)
  | ret (e : Option ME)
  | raise (c : Str) (e : ME)
  | pass
  | frz (is : List Nat)
  | spoil (e : ME)
  | setR (i : Nat) (own : Bool) (e : ME)
  | dead
inductive Ss where
  | nil
  | cons (s : MS) (r : Ss)
end

inductive Cell where
  | dead
  | lst (xs : List MV)
  | dct (kvs : List (MV × MV))
abbrev Store := List Cell
abbrev Env := List (Option MV)

inductive Out (α : Type) where
  | ok (a : α) (S : Store)
  | exc (c : Str) (v : MV) (S : Store)
abbrev R (α : Type) := Option (Out α)
@[inline] def R.bind {α β : Type} (x : R α) (f : α → Store → R β) : R β :=
  match x with
  | none => none
  | some (.ok a S) => f a S
  | some (.exc c v S) => some (.exc c v S)

mutual
def colsLt (b : Nat) : MV → Bool
  | .lst c xs => decide (c < b) && colsLtL b xs
  | .tup xs => colsLtL b xs
  | .dct c _ kvs => decide (c < b) && colsLtD b kvs
  | .scr xs => colsLtL b xs
  | _ => true
def colsLtL (b : Nat) : List MV → Bool
  | [] => true
  | x :: xs => colsLt b x && colsLtL b xs
def colsLtD (b : Nat) : List (MV × MV) → Bool
  | [] => true
  | p :: ps => colsLtP b p && colsLtD b ps
def colsLtP (b : Nat) : MV × MV → Bool
  | (k, v) => colsLt b k && colsLt b v
end

mutual
def spOk (b : Nat) : MV → Bool
  | .non => true
  | .bl _ => true
  | .int _ => true
  | .str _ => true
  | .lst c xs => decide (b ≤ c) && decide (xs.length ≤ 4194304) && spOkL b xs
  | .tup xs => spOkL b xs
  | _ => false
def spOkL (b : Nat) : List MV → Bool
  | [] => true
  | x :: xs => spOk b x && spOkL b xs
end
mutual
def nodes : MV → Nat
  | .lst _ xs => nodesL xs + 1
  | .tup xs => nodesL xs
  | _ => 0
def nodesL : List MV → Nat
  | [] => 0
  | x :: xs => nodes x + nodesL xs
end
mutual
def dep : MV → Nat
  | .lst _ xs => depL xs + 1
  | .tup xs => depL xs + 1
  | _ => 0
def depL : List MV → Nat
  | [] => 0
  | x :: xs => max (dep x) (depL xs)
end
mutual
def toPD : MV → Option PyData
  | .non => some .none
  | .bl b => some (.bool b)
  | .int i => some (.int i)
  | .str x => some (.str x)
  | .lst _ xs => (toPDs xs).map .list
  | .tup xs => (toPDs xs).map .tuple
  | .dct _ false kvs => (toPDd kvs).map .dict
  | .dct _ true _ => none
  | .ptr _ => none
  | .fn _ => none
  | .scr _ => none
def toPDs : List MV → Option (List PyData)
  | [] => some []
  | x :: xs => match toPD x, toPDs xs with
    | some d, some ds => some (d :: ds)
    | _, _ => none
def toPDd : List (MV × MV) → Option (List (PyData × PyData))
  | [] => some []
  | p :: ps => match toPDp p, toPDd ps with
    | some d, some ds => some (d :: ds)
    | _, _ => none
def toPDp : MV × MV → Option (PyData × PyData)
  | (k, v) => match toPD k, toPD v with
    | some a, some b => some (a, b)
    | _, _ => none
end
def pyEq (a b : MV) : Option Bool :=
  match toPD a, toPD b with
  | some d, some e => if SeqAt.shaped d && SeqAt.shaped e then some (PyData.eqv d e) else none
  | _, _ => none

def keyOf : MV → Option L2.Key
  | .int i => some (.inl i)
  | .str x => some (.inr x)
  | _ => none
def keysOf : List MV → Option (List L2.Key)
  | [] => some []
  | x :: xs => match keyOf x, keysOf xs with
    | some k, some ks => some (k :: ks)
    | _, _ => none
/-- the key as data: a single one or a tuple of such -/
def dkey : MV → Option (L2.Key ⊕ List L2.Key)
  | .int i => some (.inl (.inl i))
  | .str x => some (.inl (.inr x))
  | .tup xs => (keysOf xs).map .inr
  | _ => none
def dget (kvs : List (MV × MV)) (k : L2.Key ⊕ List L2.Key) : Option MV :=
  (kvs.find? fun p => decide (dkey p.1 = some k)).map (·.2)
def dput (kvs : List (MV × MV)) (key : MV) (k : L2.Key ⊕ List L2.Key) (v : MV) : List (MV × MV) :=
  if (kvs.any fun p => decide (dkey p.1 = some k)) = true then kvs.map (fun p => if dkey p.1 = some k then (p.1, v) else p) else kvs ++ [(key, v)]
/-- whether a key is of the dict's sort: tk: tuples -/
def kindOk (tk : Bool) : L2.Key ⊕ List L2.Key → Bool
  | .inl _ => !tk
  | .inr _ => tk

inductive OV where
  | val (v : MV)
  | nl (xs : List MV)
  | nd (tk : Bool) (kvs : List (MV × MV))
def OV.fz (c : Nat) : OV → MV
  | .val v => v
  | .nl xs => .lst c xs
  | .nd tk kvs => .dct c tk kvs

/-- a fresh dict is frozen, a fresh list is not -/
def OV.fzd (c : Nat) : OV → OV
  | .nd tk kvs => .val (.dct c tk kvs)
  | o => o

structure Cfg where
  call : Str → List MV → Nat → Nat → Store → R MV
  col : Nat
  cm : Nat
  hs : List (Str × Str × Str)

def ok {α : Type} (a : α) (S : Store) : R α := some (.ok a S)

def truth : MV → Option Bool
  | .non => some false
  | .bl b => some b
  | .int i => some (i != 0)
  | .str x => if x.length ≤ sizeLine then some ((x.length : Int) != 0) else none
  | .lst _ xs => some (!xs.isEmpty)
  | .tup xs => some (!xs.isEmpty)
  | _ => none

def bop (o : BOp) (a b : MV) : Option OV :=
  match o, a, b with
  | .add, .int i, .int j => some (.val (.int (i + j)))
  | .add, .lst _ xs, .lst _ ys => if xs.length + ys.length ≤ sizeLine then some (.nl (xs ++ ys)) else none
  | .add, .tup xs, .tup ys => if xs.length + ys.length ≤ sizeLine then some (.val (.tup (xs ++ ys))) else none
  | .sub, .int i, .int j => some (.val (.int (i - j)))
  | .mul, .int i, .int j => if Builtin.Int.intBits i + Builtin.Int.intBits j ≤ 134217728 then some (.val (.int (i * j))) else none
  | .mul, .lst _ xs, .int k => if -(2 ^ 63) ≤ k ∧ k < 2 ^ 63 ∧ xs.length * k.toNat ≤ sizeLine then some (.nl ((List.replicate k.toNat xs).flatten)) else none
  | .fdiv, .int i, .int j => if 0 < j ∧ j < 1073741824 ∨ 0 < j ∧ j.natAbs.log2 < 9000 then some (.val (.int (i / j))) else none
  | .mod, .int i, .int j => if 0 < j then some (.val (.int (i % j))) else none
  | .pow, .int i, .int j => if 0 ≤ j ∧ j ≤ 1000000 ∧ i.natAbs < 2 ^ 64 then some (.val (.int (i ^ j.toNat))) else none
  | _, _, _ => none

/-- x in a list of data -/
def inSeq (a : MV) (ys : List MV) : Option Bool :=
  match toPD a, toPDs ys with
  | some d, some ds => if SeqAt.shaped d && SeqAt.shaped (.list ds) then some (ds.any fun z => PyData.eqv z d) else none
  | _, _ => none
/-- x in a tuple of plain things -/
def flatM : MV → Bool
  | .non => true
  | .bl _ => true
  | .int _ => true
  | .str _ => true
  | _ => false
def eqM : MV → MV → Bool
  | .non, .non => true
  | .bl a, .bl b => a == b
  | .bl a, .int b => (if a then 1 else 0) == b
  | .int a, .bl b => a == (if b then 1 else 0)
  | .int a, .int b => a == b
  | .str a, .str b => a == b
  | _, _ => false
def inTup (a : MV) (ys : List MV) : Option Bool := if flatM a && ys.all flatM then some (ys.any fun y => eqM y a) else none

def isNon : MV → Bool
  | .non => true
  | _ => false

def allInts : List MV → Option (List Int)
  | [] => some []
  | .int i :: r => (allInts r).map (i :: ·)
  | _ :: _ => none

def cop (o : COp) (a b : MV) : Option Bool :=
  match o with
  | .eq => pyEq a b
  | .ne => (pyEq a b).map (!·)
  | .lt => match a, b with
    | .int i, .int j => some (decide (i < j))
    | .tup xs, .tup ys => match allInts xs, allInts ys with
      | some ns, some ms => some (HT.lexLt ns ms)
      | _, _ => none
    | _, _ => none
  | .le => match a, b with
    | .int i, .int j => some (decide (i ≤ j))
    | _, _ => none
  | .gt => match a, b with
    | .int i, .int j => some (decide (j < i))
    | _, _ => none
  | .ge => match a, b with
    | .int i, .int j => some (decide (j ≤ i))
    | _, _ => none
  | .is_ => match b with
    | .non => some (isNon a)
    | _ => none
  | .isnot => match b with
    | .non => some (!isNon a)
    | _ => none
  | .in_ => match b with
    | .lst _ ys => inSeq a ys
    | .tup ys => inTup a ys
    | .dct _ tk kvs => match dkey a with
      | some k => if kindOk tk k then some (dget kvs k).isSome else none
      | none => none
    | _ => none
  | .notin => match b with
    | .lst _ ys => (inSeq a ys).map (!·)
    | .tup ys => (inTup a ys).map (!·)
    | .dct _ tk kvs => match dkey a with
      | some k => if kindOk tk k then some (!(dget kvs k).isSome) else none
      | none => none
    | _ => none

/-- isinstance, a built-in class -/
def isTy (v : MV) (c : Ty) : Option Bool :=
  match v with
  | .non => some false
  | .bl _ => some (decide (c = .bool) || decide (c = .int))
  | .int _ => some (decide (c = .int))
  | .str _ => some (decide (c = .str))
  | .lst _ _ => some (decide (c = .list))
  | .tup _ => some (decide (c = .tuple))
  | .dct _ false _ => some (decide (c = .dict))
  | _ => none
def isAny (v : MV) : List Ty → Option Bool
  | [] => some false
  | c :: cs => match isTy v c, isAny v cs with
    | some a, some b => some (a || b)
    | _, _ => none

def allBls : List MV → Option (List Bool)
  | [] => some []
  | .bl b :: r => (allBls r).map (b :: ·)
  | _ :: _ => none

/-- an item of a list by any index in bounds -/
def item (xs : List MV) (i : Int) : Option MV := L2.atI xs i
def cut (xs : List MV) (lo hi : Option Int) : List MV :=
  (xs.drop (HT.sIx xs.length 0 lo)).take (HT.sIx xs.length xs.length hi - HT.sIx xs.length 0 lo)

def items : MV → Option (List MV)
  | .lst _ xs => some xs
  | .tup xs => some xs
  | _ => none

def bind : Tg → MV → Env → Option Env
  | .nm i, v, env => some (env.set i (some v))
  | .nil, v, env => match items v with
    | some [] => some env
    | _ => none
  | .cons t r, v, env => match v with
    | .tup (x :: xs) => match bind t x env with
      | some env' => bind r (.tup xs) env'
      | none => none
    | .lst c (x :: xs) => match bind t x env with
      | some env' => bind r (.lst c xs) env'
      | none => none
    | _ => none


def absI (i : Int) : Int := if i < 0 then -i else i
def maxL : List Int → Option Int
  | [] => none
  | x :: xs => some (xs.foldl (fun m y => if m < y then y else m) x)
def minL : List Int → Option Int
  | [] => none
  | x :: xs => some (xs.foldl (fun m y => if y < m then y else m) x)
def pairUp : List MV → Option (List (MV × MV))
  | [] => some []
  | .tup [k, v] :: r => (pairUp r).map ((k, v) :: ·)
  | _ :: _ => none
/-- dict(pairs): later ones win -/
def dictOf (tk : Bool) : List (MV × MV) → List (MV × MV) → Option (List (MV × MV))
  | acc, [] => some acc
  | acc, (k, v) :: r => match dkey k with
    | some q => if kindOk tk q && decide (acc.length < sizeLine) then dictOf tk (dput acc k q v) r else none
    | none => none

/-- tuples of ints, and texts first, as Python orders them -/
def ltKeys : List MV → List MV → Option Bool
  | [], [] => some false
  | [], _ :: _ => some true
  | _ :: _, [] => some false
  | .int i :: xs, .int j :: ys => if i = j then ltKeys xs ys else some (decide (i < j))
  | .str x :: xs, .str y :: ys => if x = y then ltKeys xs ys else some (decide (x.cps.toList < y.cps.toList))
  | _ :: _, _ :: _ => none


/-- one before another: ints, texts, tuples of such -/
def ltV (a b : MV) : Option Bool :=
  match a, b with
  | .tup xs, .tup ys => ltKeys xs ys
  | .tup _, _ => none
  | _, .tup _ => none
  | a, b => ltKeys [a] [b]
def insS (x : MV) : List MV → Option (List MV)
  | [] => some [x]
  | y :: ys => match ltV x y with
    | some true => some (x :: y :: ys)
    | some false => (insS x ys).map (y :: ·)
    | none => none
/-- stable: later ones go behind equal ones -/
def sortS : List MV → List MV → Option (List MV)
  | acc, [] => some acc
  | acc, x :: xs => match insS x acc with
    | some acc' => sortS acc' xs
    | none => none

def biF (b : Bi) (vs : List MV) : Option OV :=
  match b with
  | .len => match vs with
    | [.lst _ xs] => some (.val (.int xs.length))
    | [.tup xs] => some (.val (.int xs.length))
    | [.dct _ _ kvs] => some (.val (.int kvs.length))
    | [.str x] => if x.length ≤ sizeLine then some (.val (.int x.length)) else none
    | _ => none
  | .abs => match vs with
    | [.int i] => some (.val (.int (absI i)))
    | _ => none
  | .int => match vs with
    | [.int i] => some (.val (.int i))
    | [.bl b] => some (.val (.int (if b then 1 else 0)))
    | _ => none
  | .max => match vs with
    | [.int i, .int j] => some (.val (.int (if j > i then j else i)))
    | [.lst _ xs] => match allInts xs with
      | some ns => (maxL ns).map fun m => .val (.int m)
      | none => none
    | [.tup xs] => match allInts xs with
      | some ns => (maxL ns).map fun m => .val (.int m)
      | none => none
    | _ => none
  | .min => match vs with
    | [.int i, .int j] => some (.val (.int (if j < i then j else i)))
    | [.lst _ xs] => match allInts xs with
      | some ns => (minL ns).map fun m => .val (.int m)
      | none => none
    | [.tup xs] => match allInts xs with
      | some ns => (minL ns).map fun m => .val (.int m)
      | none => none
    | _ => none
  | .sum => match vs with
    | [.lst _ xs] => match allInts xs with
      | some ns => some (.val (.int ns.sum))
      | none => none
    | _ => none
  | .all => match vs with
    | [.lst _ xs] => match allBls xs with
      | some bs => some (.val (.bl (bs.all id)))
      | none => none
    | _ => none
  | .any => match vs with
    | [.lst _ xs] => match allBls xs with
      | some bs => some (.val (.bl (bs.any id)))
      | none => none
    | _ => none
  | .list => match vs with
    | [.lst _ xs] => some (.nl xs)
    | [.tup xs] => some (.nl xs)
    | [.scr xs] => some (.nl xs)
    | _ => none
  | .tuple => match vs with
    | [.lst _ xs] => some (.val (.tup xs))
    | [.tup xs] => some (.val (.tup xs))
    | _ => none
  | .dict tk => match vs with
    | [.lst _ xs] => match pairUp xs with
      | some ps => (dictOf tk [] ps).map (.nd tk)
      | none => none
    | _ => none
  | .repr => match vs with
    | [v] => match toPD v with
      | some d => if d.showable && (decide (d.shown.length ≤ sizeLine) && decide (d.depth ≤ 64)) then some (.val (.str d.shown)) else none
      | none => none
    | _ => none
  | .sorted => match vs with
    | [.lst _ xs] => (sortS [] xs).map .nl
    | [.tup xs] => (sortS [] xs).map .nl
    | [.dct _ _ kvs] => (sortS [] (kvs.map (·.1))).map .nl
    | _ => none
  | .listItems => match vs with
    | [.dct _ false kvs] => some (.nl (kvs.map fun p => .tup [p.1, p.2]))
    | _ => none
  | .listValues => match vs with
    | [.dct _ false kvs] => some (.nl (kvs.map (·.2)))
    | _ => none

def memIx (a : MV) (ys : List MV) : Option Nat :=
  match toPD a, toPDs ys with
  | some d, some ds => if SeqAt.shaped d && SeqAt.shaped (.list ds) then ds.findIdx? (fun z => PyData.eqv z d) else none
  | _, _ => none

/-- a method's receiver, before its arguments are looked at -/
def mthOK (m : Mt) (S : Store) : MV → Bool
  | .ptr n => (match S[n]? with
    | some (.lst _) => true
    | _ => false) && (decide (m = .pop) || decide (m = .append))
  | .lst _ _ => decide (m = .index)
  | .dct _ _ _ => decide (m = .get)
  | _ => false
/-- methods of built-in types on frozen values -/
def mthF (m : Mt) (o : MV) (vs : List MV) : Option OV :=
  match m with
  | .index => match o, vs with
    | .lst _ xs, [y] => (memIx y xs).map fun (k : Nat) => OV.val (.int (k : Int))
    | _, _ => none
  | .get => match o, vs with
    | .dct _ tk kvs, [k] => match dkey k with
      | some q => if kindOk tk q then some (.val ((dget kvs q).getD .non)) else none
      | none => none
    | .dct _ tk kvs, [k, d] => match dkey k with
      | some q => if kindOk tk q then some (.val ((dget kvs q).getD d)) else none
      | none => none
    | _, _ => none
  | _ => none

/-- a shared cell is read as a frozen list only for len, items, comparisons: here its content -/
def look (S : Store) : MV → Option MV
  | .ptr n => match S[n]? with
    | some (.lst xs) => some (.lst 0 xs)
    | _ => none
  | v => some v

def lkL (S : Store) : List MV → Option (List MV)
  | [] => some []
  | v :: vs => match look S v, lkL S vs with
    | some x, some xs => some (x :: xs)
    | _, _ => none

/-- what may stand in a cell: colours below 1 -/
def cellOK (v : MV) : Bool := colsLt 1 v

def subV (o i : MV) : Option MV :=
  match o, i with
  | .lst _ xs, .int k => item xs k
  | .tup xs, .int k => item xs k
  | .dct _ tk kvs, k => match dkey k with
    | some q => if kindOk tk q then dget kvs q else none
    | none => none
  | _, _ => none

def slcV (o : MV) (lo hi : Option Int) : Option OV :=
  match o with
  | .lst _ xs => some (.nl (cut xs lo hi))
  | .tup xs => some (.val (.tup (cut xs lo hi)))
  | _ => none

def starV (v : MV) : Option (List MV) := items v

def rangeL (a b : Int) : List MV := (List.range (b - a).toNat).map fun k => .int (a + (k : Nat))
def rangeD (a b : Int) : List MV := (List.range (a - b).toNat).map fun k => .int (a - (k : Nat))
def zipL : List MV → List MV → List MV
  | x :: xs, y :: ys => .tup [x, y] :: zipL xs ys
  | _, _ => []
def enumL : Nat → List MV → List MV
  | _, [] => []
  | k, x :: xs => .tup [.int k, x] :: enumL (k + 1) xs
def small62 (i : Int) : Bool := decide (-(2 ^ 62) ≤ i ∧ i < 2 ^ 62)

/-- what is walked by a for: range, zip, enumerate by name, else the value's own items -/
def walkF (b : Wk) (vs : List MV) : Option (List MV) :=
  match b with
  | .range => match vs with
    | [.int j] => if small62 j then some (rangeL 0 j) else none
    | [.int i, .int j] => if small62 i && small62 j then some (rangeL i j) else none
    | [.int i, .int j, .int k] => if small62 i && small62 j && decide (k = -1) then some (rangeD i j) else none
    | _ => none
  | .zip => match vs with
    | [.lst _ xs, .lst _ ys] => some (zipL xs ys)
    | [.tup xs, .tup ys] => some (zipL xs ys)
    | _ => none
  | .enumerate => match vs with
    | [x] => (items x).map (enumL 0)
    | _ => none
  | .zipl => match vs with
    | [.lst _ xs, .lst _ ys] => some (zipL xs ys)
    | _ => none
def walkM (o : MV) : Option (List MV) :=
  match o with
  | .dct _ false kvs => some (kvs.map fun p => .tup [p.1, p.2])
  | _ => none
def walkV : MV → Option (List MV)
  | .lst _ xs => some xs
  | .tup xs => some xs
  | .dct _ false kvs => some (kvs.map (·.1))
  | _ => none

def lift {α : Type} (x : Option α) (S : Store) : R α := x.map fun a => .ok a S

/-- the loop of a comprehension: tests and element -/
def lcLoop {α : Type} (t : Tg) (tst : Env → Store → R Bool) (elt : Env → Store → R α) : List MV → Env → Store → R (List α)
  | [], _, S => ok [] S
  | x :: xs, env, S => match bind t x env with
    | none => none
    | some env' => (tst env' S).bind fun b S1 =>
      match b with
      | true => (elt env' S1).bind fun y S2 => (lcLoop t tst elt xs env S2).bind fun ys S3 => ok (y :: ys) S3
      | false => lcLoop t tst elt xs env S1
def wipeE (own : List Nat) (env : Env) : Env := own.foldr (fun i e => e.set i none) env

/-- an error where a comprehension runs is not followed -/
def noExc {α : Type} : R α → R α
  | some (.exc _ _ _) => none
  | r => r

def handled (hs : List (Str × Str × Str)) (c : Str) : Option Str := (hs.find? fun p => decide (p.1 = c)).map (·.2.1)

def fzR (c : Nat) (r : R OV) : R MV := r.bind fun o S => ok (o.fz c) S

def perm (pm : List Nat) (vs : List MV) : List MV := if pm.isEmpty then vs else pm.filterMap fun i => vs[i]?
/-- a list of cells becomes a list of frozen lists -/
def noPtr : MV → Bool
  | .ptr _ => false
  | _ => true
def meltV (col : Nat) (S : Store) : MV → Option MV
  | .ptr n => match S[n]? with
    | some (.lst xs) => some (.lst col xs)
    | _ => none
  | v => some v
def meltL (col : Nat) (S : Store) : List MV → Option (List MV)
  | [] => some []
  | x :: xs => match meltV col S x, meltL col S xs with
    | some y, some ys => some (y :: ys)
    | _, _ => none
def killAll : List MV → Store → Store
  | [], S => S
  | .ptr n :: xs, S => killAll xs (S.set n .dead)
  | _ :: xs, S => killAll xs S

def popC (vs : List MV) (n : Nat) (xs : List MV) (S : Store) : R OV :=
  match vs with
  | [.int k] => match L2.ixN xs.length k with
    | some j => match xs[j]? with
      | some y => ok (.val y) (S.set n (.lst (xs.eraseIdx j)))
      | none => none
    | none => none
  | _ => none
def appC (vs : List MV) (n : Nat) (xs : List MV) (S : Store) : R OV :=
  match vs with
  | [y] => if cellOK y && decide (xs.length < sizeLine) then ok (.val .non) (S.set n (.lst (xs ++ [y]))) else none
  | _ => none
def mthC (m : Mt) (vs : List MV) (n : Nat) (xs : List MV) (S : Store) : R OV :=
  match m with
  | .pop => popC vs n xs S
  | .append => appC vs n xs S
  | _ => none
def mthR (m : Mt) (x : MV) (vs : List MV) (S : Store) : R OV :=
  match x with
  | .ptr n => match S[n]? with
    | some (.lst xs) => mthC m vs n xs S
    | _ => none
  | _ => lift (mthF m x vs) S

mutual
def evO (C : Cfg) : ME → Env → Store → R OV
  | .nm i, env, S => match env[i]? with
    | some (some v) => ok (.val v) S
    | _ => none
  | .cn v, _, S => ok (.val v) S
  | .bin o a b, env, S => (fzR C.col (evO C a env S)).bind fun x S1 => (fzR C.col (evO C b env S1)).bind fun y S2 => lift (bop o x y) S2
  | .neg a, env, S => (fzR C.col (evO C a env S)).bind fun x S1 => match x with
    | .int i => ok (.val (.int (-i))) S1
    | _ => none
  | .nt a, env, S => (fzR C.col (evO C a env S)).bind fun x S1 => lift ((truth x).map fun b => .val (.bl (!b))) S1
  | .cmp o a b, env, S => (fzR C.col (evO C a env S)).bind fun x S1 => (fzR C.col (evO C b env S1)).bind fun y S2 => match look S2 x, look S2 y with
    | some x', some y' => lift ((cop o x' y').map fun b => .val (.bl b)) S2
    | _, _ => none
  | .chain o1 o2 a b c, env, S => (fzR C.col (evO C a env S)).bind fun x S1 => (fzR C.col (evO C b env S1)).bind fun y S2 => match cop o1 x y with
    | some true => (fzR C.col (evO C c env S2)).bind fun z S3 => lift ((cop o2 y z).map fun b => .val (.bl b)) S3
    | some false => ok (.val (.bl false)) S2
    | none => none
  | .andE a es, env, S => (fzR C.col (evO C a env S)).bind fun x S1 => evAnd C x es env S1
  | .orE a es, env, S => (fzR C.col (evO C a env S)).bind fun x S1 => evOr C x es env S1
  | .ite c a b, env, S => (fzR C.col (evO C c env S)).bind fun x S1 => match truth x with
    | some true => evO C a env S1
    | some false => evO C b env S1
    | none => none
  | .call f es pm, env, S => (evs C es env S).bind fun vs S1 => (C.call f (perm pm vs) C.col C.cm S1).bind fun v S2 => ok (.val v) S2
  | .bi b es, env, S => (evs C es env S).bind fun vs S1 => match lkL S1 vs with
    | some vs' => lift (biF b vs') S1
    | none => none
  | .isi e _ cs, env, S => (fzR C.col (evO C e env S)).bind fun x S1 => lift ((isAny x cs).map fun b => .val (.bl b)) S1
  | .mth m o es, env, S => (fzR C.col (evO C o env S)).bind fun x S1 => if mthOK m S1 x then (evs C es env S1).bind fun vs S2 => mthR m x vs S2 else none
  | .lst es, env, S => (evs C es env S).bind fun vs S1 => if vs.length ≤ sizeLine then ok (.nl vs) S1 else none
  | .tup es, env, S => (evs C es env S).bind fun vs S1 => if vs.length ≤ sizeLine then ok (.val (.tup vs)) S1 else none
  | .dct tk ks vs, env, S => (evs C ks env S).bind fun kl S1 => (evs C vs env S1).bind fun vl S2 => if kl.length ≤ 15 then lift ((dictOf tk [] (kl.zip vl)).map (.nd tk)) S2 else none
  | .lc elt t it ifs own, env, S => (evW C it env S).bind fun xs S1 =>
      (noExc (lcLoop t (evTs C ifs) (fun e s => fzR C.col (evO C elt e s)) xs (wipeE own env) S1)).bind fun ys S2 => if ys.length ≤ sizeLine then ok (.nl ys) S2 else none
  | .dc tk k v t it own, env, S => (evW C it env S).bind fun xs S1 =>
      (noExc (lcLoop t (fun _ s => ok true s) (fun e s => (fzR C.col (evO C k e s)).bind fun a s1 => (fzR C.col (evO C v e s1)).bind fun b s2 => ok (a, b) s2) xs (wipeE own env) S1)).bind fun ps S2 => lift ((dictOf tk [] ps).map (.nd tk)) S2
  | .sub o i, env, S => (fzR C.col (evO C o env S)).bind fun x S1 => (fzR C.col (evO C i env S1)).bind fun y S2 => match look S2 x with
    | some x' => lift ((subV x' y).map .val) S2
    | none => none
  | .slc o lo hi, env, S => (fzR C.col (evO C o env S)).bind fun x S1 => (evOp C lo env S1).bind fun a S2 => (evOp C hi env S2).bind fun b S3 => match look S3 x with
    | some x' => lift (slcV x' a b) S3
    | none => none
  | .rv o, env, S => (fzR C.col (evO C o env S)).bind fun x S1 => match x with
    | .lst _ xs => ok (.nl xs.reverse) S1
    | _ => none
  | .met e, env, S => match fzR C.col (evO C e env S) with
    | some (.ok v S1) => ok (.val (.tup [.str "told", v])) S1
    | some (.exc c v S1) => match handled C.hs c with
      | some w => ok (.val (.tup [.str w, v])) S1
      | none => none
    | none => none
  | .cell e, env, S => (evO C e env S).bind fun o S1 => match o with
    | .nl xs => if colsLtL 1 xs then ok (.val (.ptr S1.length)) (S1 ++ [.lst xs]) else none
    | _ => none
  | .melt e, env, S => (fzR C.col (evO C e env S)).bind fun v S1 => match v with
    | .lst c xs => match meltL C.col S1 xs with
      | some ys => ok (.val (.lst c ys)) (killAll xs S1)
      | none => none
    | _ => none
def evs (C : Cfg) : Es → Env → Store → R (List MV)
  | .nil, _, S => ok [] S
  | .cons star e r, env, S => (fzR C.col (evO C e env S)).bind fun x S1 => match star with
    | false => (evs C r env S1).bind fun xs S2 => ok (x :: xs) S2
    | true => match starV x with
      | some ys => (evs C r env S1).bind fun xs S2 => ok (ys ++ xs) S2
      | none => none
def evOp (C : Cfg) : Option ME → Env → Store → R (Option Int)
  | none, _, S => ok none S
  | some e, env, S => (fzR C.col (evO C e env S)).bind fun x S1 => match x with
    | .int i => ok (some i) S1
    | _ => none
def evAnd (C : Cfg) (x : MV) : Es → Env → Store → R OV
  | .nil, _, S => ok (.val x) S
  | .cons _ e r, env, S => match truth x with
    | some true => (fzR C.col (evO C e env S)).bind fun y S1 => evAnd C y r env S1
    | some false => ok (.val x) S
    | none => none
def evOr (C : Cfg) (x : MV) : Es → Env → Store → R OV
  | .nil, _, S => ok (.val x) S
  | .cons _ e r, env, S => match truth x with
    | some true => ok (.val x) S
    | some false => (fzR C.col (evO C e env S)).bind fun y S1 => evOr C y r env S1
    | none => none
def evTs (C : Cfg) : Es → Env → Store → R Bool
  | .nil, _, S => ok true S
  | .cons _ e r, env, S => (fzR C.col (evO C e env S)).bind fun x S1 => match truth x with
    | some true => evTs C r env S1
    | some false => ok false S1
    | none => none
def evW (C : Cfg) : IT → Env → Store → R (List MV)
  | .val e, env, S => (fzR C.col (evO C e env S)).bind fun v S1 => lift (walkV v) S1
  | .by_ b es, env, S => (evs C es env S).bind fun vs S1 => lift (walkF b vs) S1
  | .items o, env, S => (fzR C.col (evO C o env S)).bind fun x S1 => lift (walkM x) S1
end
abbrev ev (C : Cfg) (e : ME) (env : Env) (S : Store) : R MV := fzR C.col (evO C e env S)
end Mv

end
section
set_option Elab.async false
set_option linter.all false
namespace Mv
open PySem

/-- a slot: empty, a value, an owned list, an owned dict -/
inductive SV where
  | un
  | val (v : MV)
  | ol (xs : List MV)
  | od (tk : Bool) (kvs : List (MV × MV))
abbrev Sl := List SV

def SV.view (b : Nat) : SV → Option MV
  | .un => none
  | .val v => some v
  | .ol xs => some (.lst b xs)
  | .od tk kvs => some (.dct b tk kvs)
def view (b : Nat) (sl : Sl) : Env := sl.map (SV.view b)
def SV.isOwn : SV → Bool
  | .ol _ => true
  | .od _ _ => true
  | _ => false
def anyOwn (sl : Sl) : Bool := sl.any SV.isOwn
/-- owned slots become frozen ones of the colour c -/
def SV.frz (c : Nat) : SV → SV
  | .ol xs => .val (.lst c xs)
  | .od tk kvs => .val (.dct c tk kvs)
  | s => s
def frzAll (c : Nat) (sl : Sl) : Sl := sl.map (SV.frz c)
def frzAt (c : Nat) : List Nat → Sl → Sl
  | [], sl => sl
  | i :: is, sl => frzAt c is (match sl[i]? with
    | some s => sl.set i (s.frz c)
    | none => sl)

inductive Fl where
  | nx (sl : Sl)
  | rt (v : MV)

/-- a def: its parameters' names, how many slots, its body, how many regions of its own -/
structure Df where
  ps : List Str
  n : Nat
  body : Ss
  rg : Nat := 0

/-- the text's frame: colours: col to make with, base the first of its own regions, cm where its owned slots are seen -/
structure Fr where
  call : Str → List MV → Nat → Nat → Store → R MV
  col : Nat
  be : Nat
  hs : List (Str × Str × Str)
  fuel : Nat
  /-- colours from here on are the def's own regions -/
  lo : Nat
/-- expressions see owned slots with the colour be, callees begin behind it -/
def Fr.cfg (f : Fr) (sl : Sl) : Cfg := ⟨f.call, f.col, if anyOwn sl then f.be + 1 else f.be, f.hs⟩
def Fr.cfg1 (f : Fr) : Cfg := ⟨f.call, f.col, f.be, f.hs⟩
/-- the frame that makes things in the def's own region -/
def Fr.reg (f : Fr) : Fr := { f with col := f.lo }
/-- not of the def's own regions -/
def Fr.old (f : Fr) (v : MV) : Bool := decide (f.be ≤ f.lo) || colsLt f.lo v
def Fr.oldL (f : Fr) (v : List MV) : Bool := decide (f.be ≤ f.lo) || colsLtL f.lo v
/-- a slot that may hold a thing of the def's own regions is forgotten -/
def wipeS (lo : Nat) : SV → SV
  | .val v => if colsLt lo v then .val v else .un
  | .ol xs => if colsLtL lo xs then .ol xs else .un
  | _ => .un

def okO (b : Nat) (sl : Sl) : OV → Bool
  | .val v => !anyOwn sl || colsLt b v
  | .nl xs => !anyOwn sl || colsLtL b xs
  | .nd _ _ => false
/-- what comes back does not hold an owned thing -/
def guardR {α : Type} (b : Nat) (sl : Sl) (p : α → Bool) (r : R α) : R α :=
  match r with
  | some (.ok a S) => if p a then some (.ok a S) else none
  | some (.exc c v S) => if !anyOwn sl || colsLt b v then some (.exc c v S) else none
  | none => none
/-- an expression of a statement: what it gives does not hold an owned thing -/
def seO (f : Fr) (e : ME) (sl : Sl) (S : Store) : R OV :=
  guardR f.be sl (okO f.be sl) ((evO (f.cfg sl) e (view f.be sl) S).bind fun o S1 => ok (o.fzd f.col) S1)
def se (f : Fr) (e : ME) (sl : Sl) (S : Store) : R MV := fzR f.col (seO f e sl S)
def seOp (f : Fr) : Option ME → Sl → Store → R (Option MV)
  | none, _, S => ok none S
  | some e, sl, S => (se f e sl S).bind fun v S1 => ok (some v) S1

/-- what a slot holds of a value -/
def putO (c : Nat) (own : Bool) (o : OV) : SV :=
  match own, o with
  | true, .nl xs => .ol xs
  | _, o => .val (o.fz c)

def bindS : Tg → MV → Sl → Option Sl
  | .nm i, v, sl => if i < sl.length then some (sl.set i (.val v)) else none
  | .nil, v, sl => match items v with
    | some [] => some sl
    | _ => none
  | .cons t r, v, sl => match v with
    | .tup (x :: xs) => match bindS t x sl with
      | some sl' => bindS r (.tup xs) sl'
      | none => none
    | .lst c (x :: xs) => match bindS t x sl with
      | some sl' => bindS r (.lst c xs) sl'
      | none => none
    | _ => none

def esL : Es → List ME
  | .nil => []
  | .cons _ e r => e :: esL r
/-- several expressions -/
def ses (f : Fr) (sl : Sl) : Es → Store → R (List MV)
  | .nil, S => ok [] S
  | .cons false e r, S => (se f e sl S).bind fun v S1 => (ses f sl r S1).bind fun vs S2 => ok (v :: vs) S2
  | .cons true _ _, _ => none
def putV : List (Nat × Bool) → List MV → Sl → Option Sl
  | [], [], sl => some sl
  | (i, false) :: is, v :: vs, sl => if i < sl.length then putV is vs (sl.set i (.val v)) else none
  | _, _, _ => none

def whileL (c : Sl → Store → R Bool) (b : Sl → Store → R Fl) : Nat → Sl → Store → R Fl
  | 0, _, _ => none
  | n + 1, sl, S => (c sl S).bind fun k S1 => match k with
    | false => ok (.nx sl) S1
    | true => (b sl S1).bind fun r S2 => match r with
      | .nx sl' => whileL c b n sl' S2
      | .rt v => ok (.rt v) S2
def forL (t : Tg) (b : Sl → Store → R Fl) : List MV → Sl → Store → R Fl
  | [], sl, S => ok (.nx sl) S
  | x :: xs, sl, S => match bindS t x sl with
    | none => none
    | some sl' => (b sl' S).bind fun r S2 => match r with
      | .nx sl2 => forL t b xs sl2 S2
      | .rt v => ok (.rt v) S2
/-- what a for walks: a value of its own (not an owned slot's), or by name -/
def seL (f : Fr) (es : Es) (sl : Sl) (S : Store) : R (List MV) :=
  guardR f.be sl (fun xs => !anyOwn sl || colsLtL f.be xs) (evs (f.cfg sl) es (view f.be sl) S)
def seW (f : Fr) (it : IT) (sl : Sl) (S : Store) : R (List MV) :=
  match it with
  | .val e => (se f e sl S).bind fun v S1 => if f.old v = true then lift (walkV v) S1 else none
  | .by_ b es => (seL f es sl S).bind fun vs S1 => if f.oldL vs = true then lift (walkF b vs) S1 else none
  | .items o => (se f o sl S).bind fun v S1 => if f.old v = true then lift (walkM v) S1 else none
def tst (f : Fr) (e : ME) (sl : Sl) (S : Store) : R Bool := guardR f.be sl (fun _ => true) ((fzR f.col (evO (f.cfg sl) e (view f.be sl) S)).bind fun v S1 => lift (truth v) S1)

mutual
def ex (f : Fr) : MS → Sl → Store → R Fl
  | .expr e, sl, S => (se f e sl S).bind fun _ S1 => ok (.nx sl) S1
  | .set i own e, sl, S => (seO f e sl S).bind fun o S1 => if i < sl.length then ok (.nx (sl.set i (putO f.col own o))) S1 else none
  | .setT t e, sl, S => (se f e sl S).bind fun v S1 => match bindS t v sl with
    | some sl' => ok (.nx sl') S1
    | none => none
  | .par is es, sl, S => (ses f sl es S).bind fun vs S1 => match putV is vs sl with
    | some sl' => ok (.nx sl') S1
    | none => none
  | .setSub i ix e, sl, S => match sl[i]? with
    | some (.ol xs) => (se f e sl S).bind fun v S1 => (se f ix sl S1).bind fun k S2 => match k with
      | .int j => match L2.ixN xs.length j with
        | some n => ok (.nx (sl.set i (.ol (xs.set n v)))) S2
        | none => none
      | _ => none
    | _ => none
  | .setCell o ix e, sl, S => (se f e sl S).bind fun v S1 => (se f o sl S1).bind fun p S2 => (se f ix sl S2).bind fun k S3 => match p with
    | .ptr n => match S3[n]?, k with
      | some (.lst xs), .int j => match L2.ixN xs.length j with
        | some m => if cellOK v then ok (.nx sl) (S3.set n (.lst (xs.set m v))) else none
        | none => none
      | _, _ => none
    | _ => none
  | .append i e, sl, S => match sl[i]? with
    | some (.ol xs) => (se f e sl S).bind fun v S1 => if xs.length < sizeLine then ok (.nx (sl.set i (.ol (xs ++ [v])))) S1 else none
    | _ => none
  | .extend i e, sl, S => match sl[i]? with
    | some (.ol xs) => (se f e sl S).bind fun v S1 => match v with
      | .lst _ ys => if xs.length + ys.length ≤ sizeLine then ok (.nx (sl.set i (.ol (xs ++ ys)))) S1 else none
      | _ => none
    | _ => none
  | .pop t i ix, sl, S => match sl[i]? with
    | some (.ol xs) => (seOp f ix sl S).bind fun k S1 => match k with
      | none => match xs.getLast? with
        | some y => match bindS t y (sl.set i (.ol xs.dropLast)) with
          | some sl' => ok (.nx sl') S1
          | none => none
        | none => none
      | some (.int j) => match L2.ixN xs.length j with
        | some n => match xs[n]? with
          | some y => match bindS t y (sl.set i (.ol (xs.eraseIdx n))) with
            | some sl' => ok (.nx sl') S1
            | none => none
          | none => none
        | none => none
      | _ => none
    | _ => none
  | .ifS c a b, sl, S => (tst f c sl S).bind fun k S1 => match k with
    | true => exs f a sl S1
    | false => exs f b sl S1
  | .whl c b, sl, S => whileL (fun sl S => tst f c sl S) (fun sl S => exs f b sl S) f.fuel sl S
  | .for_ t it b, sl, S => (seW f it sl S).bind fun xs S1 => forL t (fun sl S => exs f b sl S) xs sl S1
  | .ret none, _, S => ok (.rt .non) S
  | .ret (some e), sl, S => (evO f.cfg1 e (view f.col sl) S).bind fun o S1 => ok (.rt (o.fz f.col)) S1
  | .raise c e, sl, S => (evO f.cfg1 e (view f.col sl) S).bind fun o S1 => some (.exc c (o.fz f.col) S1)
  | .pass, sl, S => ok (.nx sl) S
  | .frz is, sl, S => ok (.nx (frzAt f.col is sl)) S
  | .spoil e, sl, S => if f.lo < f.be then (se f.reg e sl S).bind fun v S1 => if (spOk f.lo v && decide (nodes v ≤ 4194304) && decide (dep v ≤ 20)) = true then ok (.nx (sl.map (wipeS f.lo))) S1 else none else none
  | .setR i own e, sl, S => if f.lo < f.be then (seO f.reg e sl S).bind fun o S1 => if i < sl.length then ok (.nx (sl.set i (putO f.lo own o))) S1 else none else none
  | .dead, _, _ => none
def exs (f : Fr) : Ss → Sl → Store → R Fl
  | .nil, sl, S => ok (.nx sl) S
  | .cons s r, sl, S => (ex f s sl S).bind fun k S1 => match k with
    | .nx sl' => exs f r sl' S1
    | .rt v => ok (.rt v) S1
end

/-- a program: its defs by name, what the law's try catches -/
structure Pg where
  defs : List (Str × Df)
  hs : List (Str × Str × Str)
def nm (x : String) (d : Df) : Str × Df := (x, d)
def h3 (x y z : String) : Str × Str × Str := (x, y, z)
def Pg.get (p : Pg) (x : Str) : Option Df := p.defs.lookup x
def slots0 (d : Df) (vs : List MV) : Sl := vs.map SV.val ++ List.replicate (d.n - vs.length) .un
def runDf (p : Pg) (fuel : Nat) (call : Str → List MV → Nat → Nat → Store → R MV) (d : Df) (vs : List MV) (col cm : Nat) (S : Store) : R MV :=
  if vs.length = d.ps.length then
    match exs ⟨call, col, cm + d.rg, p.hs, fuel, cm⟩ d.body (slots0 d vs) S with
    | some (.ok r S1) =>
      let v := match r with
        | .nx _ => MV.non
        | .rt v => v
      if d.rg = 0 ∨ colsLt cm v = true then ok v S1 else none
    | some (.exc c v S1) => if d.rg = 0 ∨ colsLt cm v = true then some (.exc c v S1) else none
    | none => none
  else none
/-- the call of a def, to the depth k -/
def callN (p : Pg) (fuel : Nat) : Nat → Str → List MV → Nat → Nat → Store → R MV
  | 0, _, _, _, _, _ => none
  | k + 1, x, vs, col, cm, S => match p.get x with
    | some d => runDf p fuel (callN p fuel k) d vs col cm S
    | none => none
end Mv

end
section
set_option Elab.async false
set_option linter.all false
set_option autoImplicit false
set_option maxRecDepth 100000
namespace Mv
open PySem PySem.Spec L2

/-- the frozen part of the heap, by colours -/
abbrev FHp := Addr → Option (Nat × HO)
def updF (F : FHp) (a : Addr) (c : Nat) (o : HO) : FHp := fun b => if b = a then some (c, o) else F b
theorem updF_same {F : FHp} {a : Addr} {c : Nat} {o : HO} : updF F a c o a = some (c, o) := by unfold updF; rw [if_pos rfl]
theorem updF_ne {F : FHp} {a b : Addr} {c : Nat} {o : HO} (h : b ≠ a) : updF F a c o b = F b := by unfold updF; rw [if_neg h]

mutual
inductive RV (F : FHp) (ι : List Addr) : MV → V → Prop
  | non : RV F ι .non .non
  | bl (b : Bool) : RV F ι (.bl b) (.bl b)
  | int (i : Int) : RV F ι (.int i) (.int i)
  | str (x : Str) : RV F ι (.str x) (.str x)
  | lst {c : Nat} {xs : List MV} {a : Addr} {vs : List V} : F a = some (c, .lst vs) → RVL F ι xs vs → RV F ι (.lst c xs) (.ref a)
  | tup {xs : List MV} {a : Addr} {vs : List V} : F a = some (0, .tup vs) → RVL F ι xs vs → RV F ι (.tup xs) (.ref a)
  | dK {c : Nat} {kvs : List (MV × MV)} {a : Addr} {vs : List (Key × V)} {od : Obj} : F a = some (c, .frz od (.dK vs)) → RVK F ι kvs vs → RV F ι (.dct c false kvs) (.ref a)
  | dT {c : Nat} {kvs : List (MV × MV)} {a : Addr} {vs : List (List Key × V)} {od : Obj} : F a = some (c, .frz od (.dT vs)) → RVT F ι kvs vs → RV F ι (.dct c true kvs) (.ref a)
  | ptr {n : Nat} {a : Addr} : ι[n]? = some a → RV F ι (.ptr n) (.ref a)
  | scr {xs : List MV} {a : Addr} {o : Obj} {vs : List V} : F a = some (0, .frz o (.lst vs)) → RVL F ι xs vs → RV F ι (.scr xs) (.ref a)
inductive RVL (F : FHp) (ι : List Addr) : List MV → List V → Prop
  | nil : RVL F ι [] []
  | cons {x : MV} {v : V} {xs : List MV} {vs : List V} : RV F ι x v → RVL F ι xs vs → RVL F ι (x :: xs) (v :: vs)
inductive RVK (F : FHp) (ι : List Addr) : List (MV × MV) → List (Key × V) → Prop
  | nil : RVK F ι [] []
  | cons {k x : MV} {q : Key} {v : V} {r : List (MV × MV)} {s : List (Key × V)} : keyOf k = some q → RV F ι x v → RVK F ι r s → RVK F ι ((k, x) :: r) ((q, v) :: s)
inductive RVT (F : FHp) (ι : List Addr) : List (MV × MV) → List (List Key × V) → Prop
  | nil : RVT F ι [] []
  | cons {ks : List MV} {x : MV} {q : List Key} {v : V} {r : List (MV × MV)} {s : List (List Key × V)} : keysOf ks = some q → RV F ι x v → RVT F ι r s → RVT F ι ((.tup ks, x) :: r) ((q, v) :: s)
end

section
variable {F F' : FHp} {ι ι' : List Addr}
mutual
theorem RV.mono (hF : ∀ a p, F a = some p → F' a = some p) (hι : ∃ r, ι' = ι ++ r) : ∀ {v : MV} {x : V}, RV F ι v x → RV F' ι' v x
  | _, _, .non => .non
  | _, _, .bl b => .bl b
  | _, _, .int i => .int i
  | _, _, .str x => .str x
  | _, _, .lst h r => .lst (hF _ _ h) (RVL.mono hF hι r)
  | _, _, .tup h r => .tup (hF _ _ h) (RVL.mono hF hι r)
  | _, _, .dK h r => .dK (hF _ _ h) (RVK.mono hF hι r)
  | _, _, .dT h r => .dT (hF _ _ h) (RVT.mono hF hι r)
  | _, _, .ptr h => .ptr (by
      obtain ⟨r, e⟩ := hι
      subst e
      rw [List.getElem?_append_left (List.getElem?_eq_some_iff.mp h).1]
      exact h)
  | _, _, .scr h r => .scr (hF _ _ h) (RVL.mono hF hι r)
theorem RVL.mono (hF : ∀ a p, F a = some p → F' a = some p) (hι : ∃ r, ι' = ι ++ r) : ∀ {v : List MV} {x : List V}, RVL F ι v x → RVL F' ι' v x
  | _, _, .nil => .nil
  | _, _, .cons h r => .cons (RV.mono hF hι h) (RVL.mono hF hι r)
theorem RVK.mono (hF : ∀ a p, F a = some p → F' a = some p) (hι : ∃ r, ι' = ι ++ r) : ∀ {v : List (MV × MV)} {x : List (Key × V)}, RVK F ι v x → RVK F' ι' v x
  | _, _, .nil => .nil
  | _, _, .cons k h r => .cons k (RV.mono hF hι h) (RVK.mono hF hι r)
theorem RVT.mono (hF : ∀ a p, F a = some p → F' a = some p) (hι : ∃ r, ι' = ι ++ r) : ∀ {v : List (MV × MV)} {x : List (List Key × V)}, RVT F ι v x → RVT F' ι' v x
  | _, _, .nil => .nil
  | _, _, .cons k h r => .cons k (RV.mono hF hι h) (RVT.mono hF hι r)
end
theorem RVL.length : ∀ {xs : List MV} {vs : List V}, RVL F ι xs vs → xs.length = vs.length
  | _, _, .nil => rfl
  | _, _, .cons _ r => by rw [List.length_cons, List.length_cons, r.length]
theorem RVL.get : ∀ {xs : List MV} {vs : List V} {i : Nat} {x : MV}, RVL F ι xs vs → xs[i]? = some x → ∃ v, vs[i]? = some v ∧ RV F ι x v
  | _, _, _, _, .nil, e => by simp at e
  | _, _, 0, _, .cons h _, e => by simp at e; subst e; exact ⟨_, rfl, h⟩
  | _, _, i + 1, _, .cons _ r, e => by
    obtain ⟨v, h1, h2⟩ := RVL.get (i := i) r (by simpa using e)
    exact ⟨v, by simpa using h1, h2⟩
theorem RVL.getR : ∀ {xs : List MV} {vs : List V} {i : Nat} {v : V}, RVL F ι xs vs → vs[i]? = some v → ∃ x, xs[i]? = some x ∧ RV F ι x v
  | _, _, _, _, .nil, e => by simp at e
  | _, _, 0, _, .cons h _, e => by simp at e; subst e; exact ⟨_, rfl, h⟩
  | _, _, i + 1, _, .cons _ r, e => by
    obtain ⟨v, h1, h2⟩ := RVL.getR (i := i) r (by simpa using e)
    exact ⟨v, by simpa using h1, h2⟩
theorem RVL.append : ∀ {xs ys : List MV} {vs ws : List V}, RVL F ι xs vs → RVL F ι ys ws → RVL F ι (xs ++ ys) (vs ++ ws)
  | _, _, _, _, .nil, s => s
  | _, _, _, _, .cons h r, s => .cons h (RVL.append r s)
theorem RVL.one {x : MV} {v : V} (h : RV F ι x v) : RVL F ι [x] [v] := .cons h .nil
theorem RVL.take : ∀ {xs : List MV} {vs : List V} (n : Nat), RVL F ι xs vs → RVL F ι (xs.take n) (vs.take n)
  | _, _, 0, _ => .nil
  | _, _, _ + 1, .nil => .nil
  | _, _, n + 1, .cons h r => .cons h (RVL.take n r)
theorem RVL.drop : ∀ {xs : List MV} {vs : List V} (n : Nat), RVL F ι xs vs → RVL F ι (xs.drop n) (vs.drop n)
  | _, _, 0, r => r
  | _, _, _ + 1, .nil => .nil
  | _, _, n + 1, .cons _ r => RVL.drop n r
theorem RVL.set {x : MV} {v : V} (h : RV F ι x v) : ∀ {xs : List MV} {vs : List V} (i : Nat), RVL F ι xs vs → RVL F ι (xs.set i x) (vs.set i v)
  | _, _, _, .nil => .nil
  | _, _, 0, .cons _ r => .cons h r
  | _, _, i + 1, .cons q r => .cons q (RVL.set h i r)
theorem RVL.erase : ∀ {xs : List MV} {vs : List V} (i : Nat), RVL F ι xs vs → RVL F ι (xs.eraseIdx i) (vs.eraseIdx i)
  | _, _, _, .nil => .nil
  | _, _, 0, .cons _ r => r
  | _, _, i + 1, .cons q r => .cons q (RVL.erase i r)
theorem RVL.dropLast : ∀ {xs : List MV} {vs : List V}, RVL F ι xs vs → RVL F ι xs.dropLast vs.dropLast
  | _, _, .nil => .nil
  | _, _, .cons _ .nil => .nil
  | _, _, .cons h (.cons h2 r) => .cons h (RVL.dropLast (.cons h2 r))
theorem RVL.reverse : ∀ {xs : List MV} {vs : List V}, RVL F ι xs vs → RVL F ι xs.reverse vs.reverse
  | _, _, .nil => .nil
  | _, _, .cons h r => by
    rw [List.reverse_cons, List.reverse_cons]
    exact (RVL.reverse r).append (.one h)
theorem RVL.split : ∀ {xs ys : List MV} {vs : List V}, RVL F ι (xs ++ ys) vs → ∃ as bs, vs = as ++ bs ∧ RVL F ι xs as ∧ RVL F ι ys bs
  | [], _, vs, h => ⟨[], vs, rfl, .nil, h⟩
  | x :: xs, ys, _, .cons h r => by
    obtain ⟨as, bs, e, h1, h2⟩ := RVL.split (xs := xs) (ys := ys) r
    subst e
    exact ⟨_ :: as, bs, rfl, .cons h h1, h2⟩
end

def liveC (S : Store) (n : Nat) : Prop := ∃ xs, S[n]? = some (Cell.lst xs)
/-- what is nobody's of ours: it stays as it is -/
def NT (o : Option HO) : Prop := o ≠ none ∧ ∀ ps, o ≠ some (.tbl ps)
def Pv (F : FHp) (ι : List Addr) (S : Store) (H : Hp) (a : Addr) : Prop := NT (H a) ∧ F a = none ∧ ∀ n, liveC S n → ι[n]? ≠ some a

/-- neither a table of code objects nor a thing known by a fact alone -/
def plO : HO → Bool
  | .tbl _ => false
  | .ext _ => false
  | _ => true
/-- the tables of code objects that lambdas need, by the names that they tell -/
class Tbs where
  T : List (Addr × Str)
variable [Tbs]
structure Sim (b : Nat) (F : FHp) (ι : List Addr) (S : Store) (H : Hp) : Prop where
  fh : ∀ a c o, F a = some (c, o) → H a = some o
  fc : ∀ a c o, F a = some (c, o) → c < b
  len : ι.length = S.length
  cell : ∀ (n : Nat) (xs : List MV), S[n]? = some (Cell.lst xs) → ∃ a vs, ι[n]? = some a ∧ H a = some (.lst vs) ∧ F a = none ∧ RVL F ι xs vs ∧ colsLtL 1 xs = true
  apart : ∀ n m a, liveC S n → liveC S m → ι[n]? = some a → ι[m]? = some a → n = m
  pl : ∀ a c o, F a = some (c, o) → plO o = true
  tabs : LamX.Tabs Tbs.T H

structure Tr (b : Nat) (F : FHp) (ι : List Addr) (S : Store) (H : Hp) (F' : FHp) (ι' : List Addr) (S' : Store) (H' : Hp) : Prop where
  keep : ∀ a c o, F a = some (c, o) → c < b → F' a = some (c, o)
  ext : ∃ r, ι' = ι ++ r
  priv : ∀ a, Pv F ι S H a → H' a = H a ∧ Pv F' ι' S' H' a
  dom : ∀ a, NT (H a) → NT (H' a)
theorem not_nt {o : Option HO} (h : o = none) : ¬ NT o := fun z => z.1 h
theorem nt_of {o : Option HO} {u : HO} (h : o = some u) (hp : ∀ ps, u ≠ .tbl ps) : NT o := ⟨(by rw [h]; intro z; cases z), fun ps z => by rw [h] at z; exact hp ps (Option.some.inj z)⟩

section
variable {b : Nat} {F F1 F2 : FHp} {ι ι1 ι2 : List Addr} {S S1 S2 : Store} {H H1 H2 : Hp}
theorem Tr.refl : Tr b F ι S H F ι S H := ⟨fun _ _ _ h _ => h, ⟨[], by simp⟩, fun _ h => ⟨rfl, h⟩, fun _ h => h⟩
theorem Tr.trans (t : Tr b F ι S H F1 ι1 S1 H1) (u : Tr b F1 ι1 S1 H1 F2 ι2 S2 H2) : Tr b F ι S H F2 ι2 S2 H2 where
  keep := fun a c o h hc => u.keep a c o (t.keep a c o h hc) hc
  ext := by
    obtain ⟨r, e⟩ := t.ext
    obtain ⟨s, e2⟩ := u.ext
    exact ⟨r ++ s, by rw [e2, e, List.append_assoc]⟩
  priv := fun a h => by
    obtain ⟨e1, p1⟩ := t.priv a h
    obtain ⟨e2, p2⟩ := u.priv a p1
    exact ⟨e2.trans e1, p2⟩
  dom := fun a h => u.dom a (t.dom a h)
theorem Tr.rv (t : Tr b F ι S H F1 ι1 S1 H1) (s : Sim b F ι S H) {v : MV} {x : V} (h : RV F ι v x) : RV F1 ι1 v x := h.mono (fun a p e => t.keep a p.1 p.2 e (s.fc a p.1 p.2 e)) t.ext
theorem Tr.rvl (t : Tr b F ι S H F1 ι1 S1 H1) (s : Sim b F ι S H) {v : List MV} {x : List V} (h : RVL F ι v x) : RVL F1 ι1 v x := h.mono (fun a p e => t.keep a p.1 p.2 e (s.fc a p.1 p.2 e)) t.ext
theorem Tr.rvk (t : Tr b F ι S H F1 ι1 S1 H1) (s : Sim b F ι S H) {v : List (MV × MV)} {x : List (Key × V)} (h : RVK F ι v x) : RVK F1 ι1 v x := h.mono (fun a p e => t.keep a p.1 p.2 e (s.fc a p.1 p.2 e)) t.ext
theorem Tr.rvt (t : Tr b F ι S H F1 ι1 S1 H1) (s : Sim b F ι S H) {v : List (MV × MV)} {x : List (List Key × V)} (h : RVT F ι v x) : RVT F1 ι1 v x := h.mono (fun a p e => t.keep a p.1 p.2 e (s.fc a p.1 p.2 e)) t.ext
end

/-- the names' values -/
structure EnvOk (F : FHp) (ι : List Addr) (env : Env) (σ : St) : Prop where
  len : env.length = σ.length
  at_ : ∀ (i : Nat) (v : MV), env[i]? = some (some v) → ∃ x, σ[i]? = some (some x) ∧ RV F ι v x
theorem EnvOk.tr {b : Nat} {F F1 : FHp} {ι ι1 : List Addr} {S S1 : Store} {H H1 : Hp} {env : Env} {σ : St} (e : EnvOk F ι env σ) (t : Tr b F ι S H F1 ι1 S1 H1) (s : Sim b F ι S H) : EnvOk F1 ι1 env σ :=
  ⟨e.len, fun i v h => let ⟨x, h1, h2⟩ := e.at_ i v h; ⟨x, h1, t.rv s h2⟩⟩

section
variable {b : Nat} {F : FHp} {ι : List Addr} {S : Store} {H : Hp}
theorem new_keeps {p : Addr} {o : HO} (h : H p = none) : ∀ b u, H b = some u → L2.upd H p o b = some u := fun b u e => by rw [upd_ne (ne_of_none e h)]; exact e
/-- a plain thing is written: the tables stay -/
theorem tabs_upd {T : List (Addr × Str)} {p : Addr} {o o0 : HO} (t : LamX.Tabs T H) (h0 : H p = some o0) (hs : plO o0 = true) : LamX.Tabs T (L2.upd H p o) := fun x hx => by
  obtain ⟨ps, h1, h2, h3⟩ := t x hx
  refine ⟨ps, by rw [upd_ne (fun z => by rw [z, h0] at h1; cases h1; cases hs)]; exact h1, h2, fun pos cv e => ?_⟩
  obtain ⟨c, e1, e2⟩ := h3 pos cv e
  exact ⟨c, e1, by rw [upd_ne (fun z => by rw [z, h0] at e2; cases e2; cases hs)]; exact e2⟩
theorem Sim.notF (s : Sim b F ι S H) {a : Addr} (h : H a = none) : F a = none := by
  cases e : F a with
  | none => rfl
  | some p =>
    obtain ⟨c, o⟩ := p
    have q := s.fh a c o e
    rw [h] at q; cases q
theorem Sim.notCell (s : Sim b F ι S H) {a : Addr} (h : H a = none) {n : Nat} (l : liveC S n) : ι[n]? ≠ some a := fun e => by
  obtain ⟨xs, hx⟩ := l
  obtain ⟨a', vs, e1, e2, _⟩ := s.cell n xs hx
  rw [e] at e1
  cases e1
  rw [h] at e2
  cases e2
/-- a new object stands beside -/
theorem Sim.new (s : Sim b F ι S H) {p : Addr} {o : HO} (h : H p = none) : Sim b F ι S (L2.upd H p o) where
  fh := fun a c u e => by rw [upd_ne (ne_of_none (s.fh a c u e) h)]; exact s.fh a c u e
  fc := s.fc
  len := s.len
  cell := fun n xs e => by
    obtain ⟨a, vs, e1, e2, e3, e4, e5⟩ := s.cell n xs e
    exact ⟨a, vs, e1, by rw [upd_ne (ne_of_none e2 h)]; exact e2, e3, e4, e5⟩
  apart := s.apart
  pl := s.pl
  tabs := s.tabs.ext (new_keeps h)
theorem Tr.new (s : Sim b F ι S H) {p : Addr} {o : HO} (h : H p = none) : Tr b F ι S H F ι S (L2.upd H p o) where
  keep := fun _ _ _ e _ => e
  ext := ⟨[], by simp⟩
  priv := fun a q => by
    have ne : a ≠ p := fun z => q.1.1 (by rw [z]; exact h)
    refine ⟨upd_ne ne, ?_, q.2.1, q.2.2⟩
    rw [upd_ne ne]
    exact q.1
  dom := fun a q => by
    by_cases z : a = p
    · subst z; exact absurd h q.1
    · rw [upd_ne z]; exact q
/-- an object of nobody's becomes a frozen one -/
theorem Sim.freeze (s : Sim b F ι S H) {p : Addr} {o : HO} {c : Nat} (h : H p = some o) (hF : F p = none) (hc : c < b) (hn : ∀ n, liveC S n → ι[n]? ≠ some p) (hp : plO o = true := by rfl) : Sim b (updF F p c o) ι S H where
  fh := fun a c' u e => by
    by_cases z : a = p
    · subst z
      rw [updF_same] at e
      cases e
      exact h
    · rw [updF_ne z] at e
      exact s.fh a c' u e
  fc := fun a c' u e => by
    by_cases z : a = p
    · subst z
      rw [updF_same] at e
      cases e
      exact hc
    · rw [updF_ne z] at e
      exact s.fc a c' u e
  len := s.len
  cell := fun n xs e => by
    obtain ⟨a, vs, e1, e2, e3, e4, e5⟩ := s.cell n xs e
    have ne : a ≠ p := fun z => hn n ⟨xs, e⟩ (by rw [e1, z])
    refine ⟨a, vs, e1, e2, by rw [updF_ne ne]; exact e3, e4.mono (fun d q z => ?_) ⟨[], by simp⟩, e5⟩
    rw [updF_ne (fun y => by rw [y, hF] at z; cases z)]
    exact z
  apart := s.apart
  pl := fun a c' u e => by
    by_cases z : a = p
    · subst z
      rw [updF_same] at e
      cases e
      exact hp
    · rw [updF_ne z] at e
      exact s.pl a c' u e
  tabs := s.tabs
/-- an object of nobody's is changed -/
theorem Sim.updP (s : Sim b F ι S H) {p : Addr} {o o0 : HO} (h0 : H p = some o0) (hF : F p = none) (hn : ∀ n, liveC S n → ι[n]? ≠ some p) (hs : plO o0 = true := by rfl) : Sim b F ι S (L2.upd H p o) where
  fh := fun a c u e => by rw [upd_ne (fun z => by rw [z, hF] at e; cases e)]; exact s.fh a c u e
  fc := s.fc
  len := s.len
  cell := fun n xs e => by
    obtain ⟨a, vs, e1, e2, e3, e4, e5⟩ := s.cell n xs e
    exact ⟨a, vs, e1, by rw [upd_ne (fun z => hn n ⟨xs, e⟩ (by rw [e1, z]))]; exact e2, e3, e4, e5⟩
  apart := s.apart
  pl := s.pl
  tabs := tabs_upd s.tabs h0 hs
theorem Tr.updP {F0 : FHp} {ι0 : List Addr} {S0 : Store} {H0 : Hp} (t : Tr b F0 ι0 S0 H0 F ι S H) {p : Addr} {o : HO} (h0 : ¬ NT (H0 p)) : Tr b F0 ι0 S0 H0 F ι S (L2.upd H p o) where
  keep := t.keep
  ext := t.ext
  priv := fun a q => by
    obtain ⟨e, p1, p2, p3⟩ := t.priv a q
    have ne : a ≠ p := fun z => h0 (by rw [← z]; exact q.1)
    refine ⟨by rw [upd_ne ne]; exact e, ?_, p2, p3⟩
    rw [upd_ne ne]
    exact p1
  dom := fun a q => by
    by_cases z : a = p
    · subst z; exact absurd q h0
    · rw [upd_ne z]; exact t.dom a q
theorem updF_keep {F : FHp} {p : Addr} {c : Nat} {o : HO} (hF : F p = none) : ∀ a q, F a = some q → updF F p c o a = some q := fun a q e => by
  rw [updF_ne (fun z => by rw [z, hF] at e; cases e)]
  exact e
/-- from a state in which p was not yet -/
theorem Tr.freeze {F0 : FHp} {ι0 : List Addr} {S0 : Store} {H0 : Hp} (t : Tr b F0 ι0 S0 H0 F ι S H) {p : Addr} {o : HO} {c : Nat} (hF : F p = none) (h0 : ¬ NT (H0 p)) : Tr b F0 ι0 S0 H0 (updF F p c o) ι S H where
  keep := fun a c' u e q => updF_keep hF a _ (t.keep a c' u e q)
  ext := t.ext
  priv := fun a q => by
    obtain ⟨e, p1, p2, p3⟩ := t.priv a q
    refine ⟨e, p1, ?_, p3⟩
    rw [updF_ne (fun z => h0 (by rw [← z]; exact q.1))]
    exact p2
  dom := t.dom
end

/-- what a value is: of MV, of what is fresh (not there at H0) -/
def RelO (S : Store) (H0 : Hp) (F : FHp) (ι : List Addr) (H : Hp) : OV → V → Prop
  | .val v, x => RV F ι v x
  | .nl xs, x => ∃ a vs, x = .ref a ∧ ¬ NT (H0 a) ∧ H a = some (.lst vs) ∧ F a = none ∧ (∀ n, liveC S n → ι[n]? ≠ some a) ∧ RVL F ι xs vs
  | .nd false kvs, x => ∃ a vs, x = .ref a ∧ ¬ NT (H0 a) ∧ H a = some (.dK vs) ∧ F a = none ∧ (∀ n, liveC S n → ι[n]? ≠ some a) ∧ RVK F ι kvs vs
  | .nd true kvs, x => ∃ a vs, x = .ref a ∧ ¬ NT (H0 a) ∧ H a = some (.dT vs) ∧ F a = none ∧ (∀ n, liveC S n → ι[n]? ≠ some a) ∧ RVT F ι kvs vs

/-- errors: the class's address, its field's name -/
abbrev ExT := Str → Option (Addr × Str)
def ExK (ex : ExT) (W : WX) (b : Nat) (σ : St) (F : FHp) (ι : List Addr) (S : Store) (H : Hp) (c : Str) (v : MV) (S' : Store) : Prop :=
  ∀ F' ι' H' d C f y, Tr b F ι S H F' ι' S' H' → Sim b F' ι' S' H' → RV F' ι' v y → ex c = some (C, f) → H' d = some (.xd [(f, y)]) → W (.ref C) (some d) σ H'
/-- what is wanted behind an outcome -/
def Kt {α β : Type} (ex : ExT) (W : WX) (b : Nat) (rel : Store → Hp → FHp → List Addr → Hp → α → β → Prop) (σ : St) (F : FHp) (ι : List Addr) (S : Store) (H : Hp) (Q : β → Hp → Prop) : Out α → Prop
  | .ok v S' => ∀ F' ι' H' y, Tr b F ι S H F' ι' S' H' → Sim b F' ι' S' H' → rel S' H F' ι' H' v y → Q y H'
  | .exc c v S' => ExK ex W b σ F ι S H c v S'
/-- the reading of something that M evaluates -/
def tG {α β : Type} (ex : ExT) (W : WX) (b : Nat) (rel : Store → Hp → FHp → List Addr → Hp → α → β → Prop) (r : Env → Store → R α) : St → Hp → (β → Hp → Prop) → Prop := fun σ H Q =>
  ∃ env S F ι out, EnvOk F ι env σ ∧ Sim b F ι S H ∧ r env S = some out ∧ Kt ex W b rel σ F ι S H Q out
def relV : Store → Hp → FHp → List Addr → Hp → MV → V → Prop := fun _ _ F ι _ v x => RV F ι v x
def relL : Store → Hp → FHp → List Addr → Hp → List MV → List V → Prop := fun _ _ F ι _ v x => RVL F ι v x
def relB : Store → Hp → FHp → List Addr → Hp → Bool → Bool → Prop := fun _ _ _ _ _ v x => v = x

section
variable {α β γ δ : Type} {ex : ExT} {W : WX} {b : Nat} {σ : St} {F F1 : FHp} {ι ι1 : List Addr} {S S1 S' : Store} {H H1 : Hp}
theorem bind_some {r : R α} {f : α → Store → R β} {out : Out β} (h : r.bind f = some out) : (∃ a S1, r = some (.ok a S1) ∧ f a S1 = some out) ∨ ∃ c v S1, r = some (.exc c v S1) ∧ out = .exc c v S1 := by
  cases r with
  | none => cases h
  | some o =>
    cases o with
    | ok a S1 => exact .inl ⟨a, S1, rfl, h⟩
    | exc c v S1 => exact .inr ⟨c, v, S1, rfl, (Option.some.inj h).symm⟩
theorem ok_some {a : α} {S : Store} {out : Out α} (h : ok a S = some out) : out = .ok a S := (Option.some.inj h).symm
theorem lift_some {x : Option α} {S : Store} {out : Out α} (h : lift x S = some out) : ∃ a, x = some a ∧ out = .ok a S := by
  cases x with
  | none => cases h
  | some a => exact ⟨a, rfl, (Option.some.inj h).symm⟩
theorem ExK.tr {c : Str} {v : MV} (k : ExK ex W b σ F ι S H c v S') (t : Tr b F ι S H F1 ι1 S1 H1) : ExK ex W b σ F1 ι1 S1 H1 c v S' :=
  fun F' ι' H' d C f y u s r e q => k F' ι' H' d C f y (t.trans u) s r e q
/-- an error passes -/
theorem tG.exc {rel : Store → Hp → FHp → List Addr → Hp → α → β → Prop} {r : Env → Store → R α} {Q : β → Hp → Prop} {env : Env} {c : Str} {v : MV} (he : EnvOk F ι env σ) (hs : Sim b F ι S H) (hr : r env S = some (.exc c v S')) (k : ExK ex W b σ F ι S H c v S') :
    tG ex W b rel r σ H Q := ⟨env, S, F, ι, _, he, hs, hr, k⟩
theorem tG.ok {rel : Store → Hp → FHp → List Addr → Hp → α → β → Prop} {r : Env → Store → R α} {Q : β → Hp → Prop} {env : Env} {v : α} (he : EnvOk F ι env σ) (hs : Sim b F ι S H) (hr : r env S = some (.ok v S'))
    (k : ∀ F' ι' H' y, Tr b F ι S H F' ι' S' H' → Sim b F' ι' S' H' → rel S' H F' ι' H' v y → Q y H') : tG ex W b rel r σ H Q := ⟨env, S, F, ι, _, he, hs, hr, k⟩
end
end Mv

end
section
set_option Elab.async false
set_option linter.all false
set_option autoImplicit false
set_option maxRecDepth 100000
namespace Mv
open PySem PySem.Spec L2
variable [Tbs]

section
variable {X : Cx} {e : Expr} {ex : ExT} {W : WX} {b : Nat}
theorem PE.imp {t t' : TE} (h : PE X e t) (w : ∀ σ H Q, t' σ H Q → t σ H Q) : PE X e t' := ⟨fun pins s σ H Q I q => h.run pins s σ H Q I (w σ H Q q)⟩
theorem PT.imp {t t' : TT} (h : PT X e t) (w : ∀ σ H Q, t' σ H Q → t σ H Q) : PT X e t' := ⟨fun pins s σ H Q I q => h.run pins s σ H Q I (w σ H Q q)⟩
theorem PA.imp {es : List Expr} {t t' : TA} (h : PA X es t) (w : ∀ σ H Q, t' σ H Q → t σ H Q) : PA X es t' := ⟨fun pos pins s σ H Q I q => h.run pos pins s σ H Q I (w σ H Q q)⟩
abbrev tO (ex : ExT) (W : WX) (b : Nat) (r : Env → Store → R OV) : TE := tG ex W b RelO r
abbrev tV (ex : ExT) (W : WX) (b : Nat) (r : Env → Store → R MV) : TE := tG ex W b relV r
abbrev tL (ex : ExT) (W : WX) (b : Nat) (r : Env → Store → R (List MV)) : TA := tG ex W b relL r
abbrev tT (ex : ExT) (W : WX) (b : Nat) (r : Env → Store → R Bool) : TT := tG ex W b relB r

/-- a dict that has come is locked for good -/
def tLk (t : TE) : TE := fun σ H Q => t σ H fun x H1 => Q x H1 ∨ ∃ d u, H1 d = some u ∧ Mut (some u) ∧ ∀ od, Q x (upd H1 d (.frz od u))
theorem pe_lk {t : TE} (h : PE X e t) : PE X e (tLk t) := by
  refine ⟨fun pins s σ H Q I hw => ?_⟩
  refine thn (h.run pins s σ H _ I hw) fun v s1 ⟨x, H1, I2, r, q⟩ => ?_
  rcases q with q | ⟨d, u, h1, h2, q⟩
  · exact ⟨x, _, I2, r, q⟩
  · obtain ⟨od, I3⟩ := I2.lock h1 h2
    exact ⟨x, _, I3, r, q od⟩
/-- a fresh thing is frozen, a dict locked -/
theorem fz_rel {F : FHp} {ι : List Addr} {S : Store} {H H0 : Hp} {F0 : FHp} {ι0 : List Addr} {S0 : Store} {o : OV} {x : V} {c : Nat} (hc : c < b) (t : Tr b F0 ι0 S0 H0 F ι S H) (s : Sim b F ι S H) (r : RelO S H0 F ι H o x) :
    (∃ F', Tr b F0 ι0 S0 H0 F' ι S H ∧ Sim b F' ι S H ∧ RV F' ι (o.fz c) x) ∨ ∃ d u, H d = some u ∧ Mut (some u) ∧ ∀ od, ∃ F', Tr b F0 ι0 S0 H0 F' ι S (upd H d (.frz od u)) ∧ Sim b F' ι S (upd H d (.frz od u)) ∧ RV F' ι (o.fz c) x := by
  cases o with
  | val v => exact .inl ⟨F, t, s, r⟩
  | nl xs =>
    obtain ⟨a, vs, rfl, h0, h1, h2, h3, h4⟩ := r
    exact .inl ⟨updF F a c (.lst vs), t.freeze h2 h0, s.freeze h1 h2 hc h3, .lst updF_same (h4.mono (updF_keep h2) ⟨[], by simp⟩)⟩
  | nd tk kvs =>
    cases tk with
    | false =>
      obtain ⟨a, vs, rfl, h0, h1, h2, h3, h4⟩ := r
      exact .inr ⟨a, _, h1, trivial, fun od => ⟨updF F a c (.frz od (.dK vs)), (t.updP h0).freeze h2 h0, (s.updP h1 h2 h3).freeze upd_same h2 hc h3, .dK updF_same (h4.mono (updF_keep h2) ⟨[], by simp⟩)⟩⟩
    | true =>
      obtain ⟨a, vs, rfl, h0, h1, h2, h3, h4⟩ := r
      exact .inr ⟨a, _, h1, trivial, fun od => ⟨updF F a c (.frz od (.dT vs)), (t.updP h0).freeze h2 h0, (s.updP h1 h2 h3).freeze upd_same h2 hc h3, .dT updF_same (h4.mono (updF_keep h2) ⟨[], by simp⟩)⟩⟩
theorem fz_some {c : Nat} {r : R OV} {out : Out MV} (h : fzR c r = some out) : (∃ o S1, r = some (.ok o S1) ∧ out = .ok (o.fz c) S1) ∨ ∃ k v S1, r = some (.exc k v S1) ∧ out = .exc k v S1 := by
  rcases bind_some h with ⟨o, S1, h1, h2⟩ | h
  · exact .inl ⟨o, S1, h1, ok_some h2⟩
  · exact .inr h
theorem pe_fz {r : Env → Store → R OV} {c : Nat} (hc : c < b) (h : PE X e (tO ex W b r)) : PE X e (tV ex W b fun env S => fzR c (r env S)) := by
  refine PE.imp (pe_lk h) fun σ H Q ⟨env, S, F, ι, out, he, hs, hr, k⟩ => ?_
  rcases fz_some hr with ⟨o, S1, h1, rfl⟩ | ⟨c', v, S1, h1, rfl⟩
  · refine tG.ok he hs h1 fun F' ι' H' y t s rel => ?_
    rcases fz_rel hc t s rel with ⟨F2, t2, s2, rv⟩ | ⟨d, u, e1, e2, q⟩
    · exact .inl (k F2 ι' H' y t2 s2 rv)
    · refine .inr ⟨d, u, e1, e2, fun od => ?_⟩
      obtain ⟨F2, t2, s2, rv⟩ := q od
      exact k F2 ι' _ y t2 s2 rv
  · exact tG.exc he hs h1 k
/-- a fresh dict is frozen -/
theorem pe_fzd {r : Env → Store → R OV} {c : Nat} (hc : c < b) (h : PE X e (tO ex W b r)) : PE X e (tO ex W b fun env S => (r env S).bind fun o S1 => ok (o.fzd c) S1) := by
  refine PE.imp (pe_lk h) fun σ H Q ⟨env, S, F, ι, out, he, hs, hr, k⟩ => ?_
  rcases bind_some hr with ⟨o, S1, h1, h2⟩ | ⟨c', v, S1, h1, rfl⟩
  · obtain rfl := ok_some h2
    refine tG.ok he hs h1 fun F' ι' H' y t s rel => ?_
    cases o with
    | val v => exact .inl (k F' ι' H' y t s rel)
    | nl xs => exact .inl (k F' ι' H' y t s rel)
    | nd tk kvs =>
      rcases fz_rel hc t s rel with ⟨F2, t2, s2, rv⟩ | ⟨d, u, e1, e2, q⟩
      · exact .inl (k F2 ι' H' y t2 s2 rv)
      · refine .inr ⟨d, u, e1, e2, fun od => ?_⟩
        obtain ⟨F2, t2, s2, rv⟩ := q od
        exact k F2 ι' _ y t2 s2 rv
  · exact tG.exc he hs h1 k
/-- a value is a value -/
theorem pe_val {r : Env → Store → R MV} {r' : Env → Store → R OV} (h : PE X e (tV ex W b r)) (hr : ∀ env S, r' env S = (r env S).bind fun v S1 => ok (.val v) S1) : PE X e (tO ex W b r') := by
  refine PE.imp h fun σ H Q ⟨env, S, F, ι, out, he, hs, q, k⟩ => ?_
  rw [hr] at q
  rcases bind_some q with ⟨v, S1, h1, h2⟩ | ⟨c', v, S1, h1, rfl⟩
  · obtain rfl := ok_some h2
    exact tG.ok he hs h1 k
  · exact tG.exc he hs h1 k

theorem e_nm {C : Cfg} {i : Nat} {x : Str} {pos : Pos} (hN : X.N[i]? = some x) (hv : Vis X.env.scope x) (hd : (x == ("__debug__" : Str)) = false) (hcd : (x == ("__classdict__" : Str)) = false) : PE X (.Name x pos) (tO ex W b (evO C (.nm i))) := by
  refine PE.imp (pe_var hN hv hd hcd) fun σ H Q ⟨env, S, F, ι, out, he, hs, q, k⟩ => ?_
  have q' : (match env[i]? with
    | some (some v) => ok (.val v) S
    | _ => none) = some out := q
  cases hi : env[i]? with
  | none => rw [hi] at q'; cases q'
  | some o =>
    cases o with
    | none => rw [hi] at q'; cases q'
    | some v =>
      rw [hi] at q'
      obtain rfl := ok_some q'
      obtain ⟨y, h1, h2⟩ := he.at_ i v hi
      exact ⟨y, h1, k F ι H y Tr.refl hs h2⟩
theorem e_cn {C : Cfg} {v : MV} {y : V} (h : PE X e (tC y)) (hv : ∀ F ι, RV F ι v y) : PE X e (tO ex W b (evO C (.cn v))) := by
  refine PE.imp h fun σ H Q ⟨env, S, F, ι, out, he, hs, q, k⟩ => ?_
  obtain rfl := ok_some q
  exact k F ι H y Tr.refl hs (hv F ι)

/-- a relation that asks no more of a later start -/
class RelM {α β : Type} (rel : Store → Hp → FHp → List Addr → Hp → α → β → Prop) : Prop where
  mono : ∀ {S : Store} {H H1 : Hp} {F : FHp} {ι : List Addr} {H' : Hp} {v : α} {y : β}, (∀ a, NT (H a) → NT (H1 a)) → rel S H1 F ι H' v y → rel S H F ι H' v y
instance : RelM RelO where
  mono := fun {S H H1 F ι H' v y} d r => by
    have back : ∀ a, ¬ NT (H1 a) → ¬ NT (H a) := fun a q z => q (d a z)
    cases v with
    | val v => exact r
    | nl xs =>
      obtain ⟨a, vs, e, h0, h⟩ := r
      exact ⟨a, vs, e, back a h0, h⟩
    | nd tk kvs =>
      cases tk with
      | false =>
        obtain ⟨a, vs, e, h0, h⟩ := r
        exact ⟨a, vs, e, back a h0, h⟩
      | true =>
        obtain ⟨a, vs, e, h0, h⟩ := r
        exact ⟨a, vs, e, back a h0, h⟩
instance : RelM relV := ⟨fun _ r => r⟩
instance : RelM relL := ⟨fun _ r => r⟩
instance : RelM relB := ⟨fun _ r => r⟩
theorem Kt.tr {α β : Type} {rel : Store → Hp → FHp → List Addr → Hp → α → β → Prop} [RelM rel] {σ : St} {F F1 : FHp} {ι ι1 : List Addr} {S S1 : Store} {H H1 : Hp} {Q : β → Hp → Prop} {out : Out α}
    (k : Kt ex W b rel σ F ι S H Q out) (t : Tr b F ι S H F1 ι1 S1 H1) : Kt ex W b rel σ F1 ι1 S1 H1 Q out := by
  cases out with
  | ok a S3 => exact fun F' ι' H' z u s r => k F' ι' H' z (t.trans u) s (RelM.mono t.dom r)
  | exc c v S3 => exact ExK.tr k t

theorem one {α : Type} {r1 : Env → Store → R MV} {f : MV → Store → R α} {β : Type} {rel : Store → Hp → FHp → List Addr → Hp → α → β → Prop} [RelM rel] {σ : St} {H : Hp} {Q : β → Hp → Prop}
    (h : tG ex W b rel (fun env S => (r1 env S).bind fun x S1 => f x S1) σ H Q)
    {R1 : V → Hp → Prop}
    (hk : ∀ F ι S H2 x u out, Sim b F ι S H2 → RV F ι x u → f x S = some out → Kt ex W b rel σ F ι S H2 Q out → R1 u H2) :
    tV ex W b r1 σ H fun u H1 => R1 u H1 := by
  obtain ⟨env, S, F, ι, out, he, hs, q, k⟩ := h
  rcases bind_some q with ⟨x, S1, h1, q1⟩ | ⟨c', v, S1, h1, rfl⟩
  · refine tG.ok he hs h1 fun F1 ι1 H1 u t1 s1 ru => ?_
    exact hk F1 ι1 S1 H1 x u out s1 ru q1 (k.tr t1)
  · exact tG.exc he hs h1 k
theorem two {α : Type} {r1 r2 : Env → Store → R MV} {f : MV → MV → Store → R α} {β : Type} {rel : Store → Hp → FHp → List Addr → Hp → α → β → Prop} [RelM rel] {σ : St} {H : Hp} {Q : β → Hp → Prop}
    (h : tG ex W b rel (fun env S => (r1 env S).bind fun x S1 => (r2 env S1).bind fun y S2 => f x y S2) σ H Q)
    {R2' : V → V → Hp → Prop}
    (hk : ∀ F ι S H2 x y u v out, Sim b F ι S H2 → RV F ι x u → RV F ι y v → f x y S = some out → Kt ex W b rel σ F ι S H2 Q out → R2' u v H2) :
    tV ex W b r1 σ H fun u H1 => tV ex W b r2 σ H1 fun v H2 => R2' u v H2 := by
  obtain ⟨env, S, F, ι, out, he, hs, q, k⟩ := h
  rcases bind_some q with ⟨x, S1, h1, q1⟩ | ⟨c', v, S1, h1, rfl⟩
  · refine tG.ok he hs h1 fun F1 ι1 H1 u t1 s1 ru => ?_
    rcases bind_some q1 with ⟨y, S2, h2, q2⟩ | ⟨c', v, S2, h2, rfl⟩
    · refine tG.ok (he.tr t1 hs) s1 h2 fun F2 ι2 H2 v t2 s2 rv => ?_
      exact hk F2 ι2 S2 H2 x y u v out s2 (t2.rv s1 ru) rv q2 (k.tr (t1.trans t2))
    · exact tG.exc (he.tr t1 hs) s1 h2 (ExK.tr k t1)
  · exact tG.exc he hs h1 k
theorem lift_ok {α β : Type} {rel : Store → Hp → FHp → List Addr → Hp → α → β → Prop} {σ : St} {F : FHp} {ι : List Addr} {S : Store} {H : Hp} {Q : β → Hp → Prop} {x : Option α} {out : Out α} {y : α} (h : lift x S = some out) (e : x = some y) (k : Kt ex W b rel σ F ι S H Q out) :
    Kt ex W b rel σ F ι S H Q (.ok y S) := by
  obtain ⟨a, e1, rfl⟩ := lift_some h
  rw [e] at e1
  cases e1
  exact k
/-- the value is there, nothing changes -/
theorem Kt.now {α β : Type} {rel : Store → Hp → FHp → List Addr → Hp → α → β → Prop} {σ : St} {F : FHp} {ι : List Addr} {S : Store} {H : Hp} {Q : β → Hp → Prop} {v : α} {y : β} (k : Kt ex W b rel σ F ι S H Q (.ok v S)) (s : Sim b F ι S H) (r : rel S H F ι H v y) : Q y H :=
  k F ι H y Tr.refl s r
/-- a new list -/
theorem Kt.newL {σ : St} {F : FHp} {ι : List Addr} {S : Store} {H : Hp} {Q : VK} {xs : List MV} {vs : List V} {p : Addr} (k : Kt ex W b RelO σ F ι S H Q (.ok (.nl xs) S)) (s : Sim b F ι S H) (h : H p = none) (r : RVL F ι xs vs) : Q (.ref p) (upd H p (.lst vs)) :=
  k F ι _ _ (Tr.new s h) (s.new h) ⟨p, vs, rfl, not_nt h, upd_same, s.notF h, fun n l => s.notCell h l, r⟩
/-- a new tuple -/
theorem Kt.newT {σ : St} {F : FHp} {ι : List Addr} {S : Store} {H : Hp} {Q : VK} {xs : List MV} {vs : List V} {p : Addr} (hb : 0 < b) (k : Kt ex W b RelO σ F ι S H Q (.ok (.val (.tup xs)) S)) (s : Sim b F ι S H) (h : H p = none) (r : RVL F ι xs vs) : Q (.ref p) (upd H p (.tup vs)) :=
  have hF := s.notF h
  k (updF F p 0 (.tup vs)) ι _ _ ((Tr.new s h).freeze hF (not_nt h)) ((s.new h).freeze upd_same hF hb fun n l => s.notCell h l) (.tup updF_same (r.mono (updF_keep hF) ⟨[], by simp⟩))
theorem SqL.ofRV {K : PySem.W.Frag} {F : FHp} {ι : List Addr} {S : Store} {H : Hp} {c : Nat} {a : Addr} {vs : List V} (s : Sim b F ι S H) (h : F a = some (c, .lst vs)) : SqL K H a vs := SqL.of (s.fh a c _ h)
theorem SqT.ofRV {K : PySem.W.Frag} {F : FHp} {ι : List Addr} {S : Store} {H : Hp} {c : Nat} {a : Addr} {vs : List V} (s : Sim b F ι S H) (h : F a = some (c, .tup vs)) : SqT K H a vs := SqT.of (s.fh a c _ h)

section
variable {C : Cfg} {a a' : Expr} {m m' : ME} {pos : Pos}
def opOf : BOp → Operator
  | .add => .Add | .sub => .Sub | .mul => .Mult | .fdiv => .FloorDiv | .mod => .Mod | .pow => .Pow
/-- what a rule of the layer must be worth for M's operation -/
def BOk (X : Cx) (o : BOp) (r : R2) : Prop := OpR X (binaryOp (opOf o)) r
theorem e_bin {o : BOp} {r : R2} (ho : OpR X (binaryOp (opOf o)) r) (hr : ∀ (F : FHp) (ι : List Addr) (S : Store) (H : Hp) (x y : MV) (u v : V) (z : OV) (σ : St) (Q : VK), Sim b F ι S H → RV F ι x u → RV F ι y v → bop o x y = some z → Kt ex W b RelO σ F ι S H Q (.ok z S) → r u v H Q)
    (ha : PE X a (tV ex W b (ev C m))) (hb : PE X a' (tV ex W b (ev C m'))) : PE X (.BinOp a (opOf o) a' pos) (tO ex W b (evO C (.bin o m m'))) := by
  refine PE.imp (pe_op ho ha hb) fun σ H Q h => ?_
  refine two (f := fun x y S2 => lift (bop o x y) S2) h fun F ι S H2 x y u v out s ru rv q k => ?_
  obtain ⟨z, e, rfl⟩ := lift_some q
  exact hr F ι S H2 x y u v z σ Q s ru rv e k
end
end
end Mv

end
section
set_option Elab.async false
set_option linter.all false
set_option autoImplicit false
set_option maxRecDepth 100000
namespace Mv
open PySem PySem.Spec L2
variable [Tbs]

section
variable {X : Cx} {ex : ExT} {W : WX} {C : Cfg} {a a' : Expr} {m m' : ME} {pos : Pos} {b : Nat}

theorem e_add (hb : 0 < b) (ha : PE X a (tV ex W b (ev C m))) (ha' : PE X a' (tV ex W b (ev C m'))) : PE X (.BinOp a .Add a' pos) (tO ex W b (evO C (.bin .add m m'))) := by
  refine e_bin (o := .add) (op_add.or (op_cat.or op_catA)) (fun F ι S H x y u v z σ Q s ru rv e k => ?_) ha ha'
  cases x <;> cases y <;> try (simp [bop] at e; done)
  · cases ru; cases rv
    cases (Option.some.inj e)
    exact .inl ⟨_, _, rfl, rfl, k.now s (.int _)⟩
  · rename_i c xs c' ys
    cases ru with | lst h1 r1 => cases rv with | lst h2 r2 =>
    have e' : (if xs.length + ys.length ≤ sizeLine then some (OV.nl (xs ++ ys)) else none) = some z := e
    by_cases hl : xs.length + ys.length ≤ sizeLine
    · rw [if_pos hl] at e'
      cases (Option.some.inj e')
      rw [r1.length, r2.length] at hl
      exact .inr (.inl ⟨_, _, _, _, rfl, rfl, s.fh _ _ _ h1, s.fh _ _ _ h2, hl, fun p hp => k.newL s hp (r1.append r2)⟩)
    · rw [if_neg hl] at e'
      cases e'
  · rename_i xs ys
    cases ru with | tup h1 r1 => cases rv with | tup h2 r2 =>
    have e' : (if xs.length + ys.length ≤ sizeLine then some (OV.val (.tup (xs ++ ys))) else none) = some z := e
    by_cases hl : xs.length + ys.length ≤ sizeLine
    · rw [if_pos hl] at e'
      cases (Option.some.inj e')
      rw [r1.length, r2.length] at hl
      refine .inr (.inr ⟨_, _, _, _, rfl, rfl, SqT.ofRV s h1, SqT.ofRV s h2, hl, fun q => ?_, fun _ q => ?_, fun _ _ p hp => k.newT hb s hp (r1.append r2)⟩)
      · subst q
        cases r1
        exact k.now s (.tup h2 r2)
      · subst q
        cases r2
        refine k.now s (.tup h1 ?_)
        rw [List.append_nil]
        exact r1
    · rw [if_neg hl] at e'
      cases e'
theorem e_sub (ha : PE X a (tV ex W b (ev C m))) (ha' : PE X a' (tV ex W b (ev C m'))) : PE X (.BinOp a .Sub a' pos) (tO ex W b (evO C (.bin .sub m m'))) := by
  refine e_bin (o := .sub) op_sub (fun F ι S H x y u v z σ Q s ru rv e k => ?_) ha ha'
  cases x <;> cases y <;> try (simp [bop] at e; done)
  cases ru; cases rv
  cases (Option.some.inj e)
  exact ⟨_, _, rfl, rfl, k.now s (.int _)⟩
theorem mulX_of {i j : Int} (h : Builtin.Int.intBits i + Builtin.Int.intBits j ≤ 134217728) : CMulX i j := by
  show (Builtin.Int.intBits i : Int) + (Builtin.Int.intBits j : Int) ≤ 134217728
  omega
theorem e_mul (ha : PE X a (tV ex W b (ev C m))) (ha' : PE X a' (tV ex W b (ev C m'))) : PE X (.BinOp a .Mult a' pos) (tO ex W b (evO C (.bin .mul m m'))) := by
  refine e_bin (o := .mul) (op_mulX.or op_rep) (fun F ι S H x y u v z σ Q s ru rv e k => ?_) ha ha'
  cases x <;> cases y <;> try (simp [bop] at e; done)
  · rename_i i j
    cases ru; cases rv
    have e' : (if Builtin.Int.intBits i + Builtin.Int.intBits j ≤ 134217728 then some (OV.val (.int (i * j))) else none) = some z := e
    by_cases hl : Builtin.Int.intBits i + Builtin.Int.intBits j ≤ 134217728
    · rw [if_pos hl] at e'
      cases (Option.some.inj e')
      exact .inl ⟨_, _, rfl, rfl, mulX_of hl, k.now s (.int _)⟩
    · rw [if_neg hl] at e'
      cases e'
  · rename_i c xs j
    cases ru with | lst h1 r1 =>
    cases rv
    have e' : (if -(2 ^ 63) ≤ j ∧ j < 2 ^ 63 ∧ xs.length * j.toNat ≤ sizeLine then some (OV.nl ((List.replicate j.toNat xs).flatten)) else none) = some z := e
    by_cases hl : -(2 ^ 63) ≤ j ∧ j < 2 ^ 63 ∧ xs.length * j.toNat ≤ sizeLine
    · rw [if_pos hl] at e'
      cases (Option.some.inj e')
      obtain ⟨l1, l2, l3⟩ := hl
      rw [r1.length] at l3
      refine .inr ⟨_, _, _, rfl, rfl, s.fh _ _ _ h1, l1, l2, l3, fun p hp => k.newL s hp ?_⟩
      have rep : ∀ n : Nat, RVL F ι (List.replicate n xs).flatten (List.replicate n _).flatten := fun n => by
        induction n with
        | zero => exact .nil
        | succ n ih =>
          rw [List.replicate_succ, List.replicate_succ, List.flatten_cons, List.flatten_cons]
          exact r1.append ih
      exact rep _
    · rw [if_neg hl] at e'
      cases e'
theorem e_fdiv (ha : PE X a (tV ex W b (ev C m))) (ha' : PE X a' (tV ex W b (ev C m'))) : PE X (.BinOp a .FloorDiv a' pos) (tO ex W b (evO C (.bin .fdiv m m'))) := by
  refine e_bin (o := .fdiv) (op_fdiv.or op_fdivW) (fun F ι S H x y u v z σ Q s ru rv e k => ?_) ha ha'
  cases x <;> cases y <;> try (simp [bop] at e; done)
  rename_i i j
  cases ru; cases rv
  have e' : (if 0 < j ∧ j < 1073741824 ∨ 0 < j ∧ j.natAbs.log2 < 9000 then some (OV.val (.int (i / j))) else none) = some z := e
  by_cases hl : 0 < j ∧ j < 1073741824 ∨ 0 < j ∧ j.natAbs.log2 < 9000
  · rw [if_pos hl] at e'
    cases (Option.some.inj e')
    rcases hl with hl | hl
    · exact .inl ⟨_, _, rfl, rfl, hl, k.now s (.int _)⟩
    · exact .inr ⟨_, _, rfl, rfl, hl, k.now s (.int _)⟩
  · rw [if_neg hl] at e'
    cases e'
theorem e_mod (ha : PE X a (tV ex W b (ev C m))) (ha' : PE X a' (tV ex W b (ev C m'))) : PE X (.BinOp a .Mod a' pos) (tO ex W b (evO C (.bin .mod m m'))) := by
  refine e_bin (o := .mod) op_mod (fun F ι S H x y u v z σ Q s ru rv e k => ?_) ha ha'
  cases x <;> cases y <;> try (simp [bop] at e; done)
  rename_i i j
  cases ru; cases rv
  have e' : (if 0 < j then some (OV.val (.int (i % j))) else none) = some z := e
  by_cases hl : 0 < j
  · rw [if_pos hl] at e'
    cases (Option.some.inj e')
    exact ⟨_, _, rfl, rfl, hl, k.now s (.int _)⟩
  · rw [if_neg hl] at e'
    cases e'
theorem e_pow (ha : PE X a (tV ex W b (ev C m))) (ha' : PE X a' (tV ex W b (ev C m'))) : PE X (.BinOp a .Pow a' pos) (tO ex W b (evO C (.bin .pow m m'))) := by
  refine e_bin (o := .pow) op_pow (fun F ι S H x y u v z σ Q s ru rv e k => ?_) ha ha'
  cases x <;> cases y <;> try (simp [bop] at e; done)
  rename_i i j
  cases ru; cases rv
  have e' : (if 0 ≤ j ∧ j ≤ 1000000 ∧ i.natAbs < 2 ^ 64 then some (OV.val (.int (i ^ j.toNat))) else none) = some z := e
  by_cases hl : 0 ≤ j ∧ j ≤ 1000000 ∧ i.natAbs < 2 ^ 64
  · rw [if_pos hl] at e'
    cases (Option.some.inj e')
    exact ⟨_, _, rfl, rfl, hl, k.now s (.int _)⟩
  · rw [if_neg hl] at e'
    cases e'
/-- all of them -/
theorem e_binop {o : BOp} (hb : 0 < b) (ha : PE X a (tV ex W b (ev C m))) (ha' : PE X a' (tV ex W b (ev C m'))) : PE X (.BinOp a (opOf o) a' pos) (tO ex W b (evO C (.bin o m m'))) := by
  cases o
  · exact e_add hb ha ha'
  · exact e_sub ha ha'
  · exact e_mul ha ha'
  · exact e_fdiv ha ha'
  · exact e_mod ha ha'
  · exact e_pow ha ha'
theorem e_neg (ha : PE X a (tV ex W b (ev C m))) : PE X (.UnaryOp .USub a pos) (tO ex W b (evO C (.neg m))) := by
  refine PE.imp (pe_un un_neg ha) fun σ H Q h => ?_
  refine one (f := fun x S1 => match x with
    | .int i => ok (OV.val (.int (-i))) S1
    | _ => none) h fun F ι S H2 x u out s ru q k => ?_
  cases x <;> try (simp at q; done)
  cases ru
  obtain rfl := ok_some q
  exact ⟨_, rfl, k.now s (.int _)⟩

theorem truth_rv {K : PySem.W.Frag} {F : FHp} {ι : List Addr} {S : Store} {H : Hp} {x : MV} {u : V} {k : Bool} (s : Sim b F ι S H) (r : RV F ι x u) (h : truth x = some k) : L2.TruV K u H k := by
  cases r with
  | non => exact (Option.some.inj h).symm
  | bl b => exact (Option.some.inj h).symm
  | int i => exact (Option.some.inj h).symm
  | str x =>
    have h' : (if x.length ≤ sizeLine then some ((x.length : Int) != 0) else none) = some k := h
    by_cases hl : x.length ≤ sizeLine
    · rw [if_pos hl] at h'
      exact ⟨hl, (Option.some.inj h').symm⟩
    · rw [if_neg hl] at h'
      cases h'
  | lst hf rl =>
    refine .inl ⟨_, SqL.ofRV s hf, ?_⟩
    have h' := (Option.some.inj h).symm
    rw [h']
    cases rl <;> rfl
  | tup hf rl =>
    refine .inr (.inl ⟨_, SqT.ofRV s hf, ?_⟩)
    have h' := (Option.some.inj h).symm
    rw [h']
    cases rl <;> rfl
  | dK hf rl => exact nomatch h
  | dT hf rl => exact nomatch h
  | ptr h1 => exact nomatch h
  | scr h1 h2 => exact nomatch h
theorem e_nt (ha : PE X a (tV ex W b (ev C m))) : PE X (.UnaryOp .Not a pos) (tO ex W b (evO C (.nt m))) := by
  refine PE.imp (pe_notT ha) fun σ H Q h => ?_
  refine one (f := fun x S1 => lift ((truth x).map fun b => OV.val (.bl (!b))) S1) h fun F ι S H2 x u out s ru q k => ?_
  obtain ⟨z, e, rfl⟩ := lift_some q
  obtain ⟨t, e1, rfl⟩ := Option.map_eq_some_iff.mp e
  exact ⟨t, truth_rv s ru e1, k.now s (.bl _)⟩
theorem e_ite {c : Expr} {mc : ME} (hc : PT X c (tT ex W b fun env S => (ev C mc env S).bind fun x S1 => lift (truth x) S1)) (ha : PE X a (tO ex W b (evO C m))) (ha' : PE X a' (tO ex W b (evO C m'))) :
    PE X (.IfExp c a a' pos) (tO ex W b (evO C (.ite mc m m'))) := by
  refine PE.imp (pe_ifExp hc ha ha') fun σ H Q h => ?_
  obtain ⟨env, S, F, ι, out, he, hs, q, k⟩ := h
  rcases bind_some q with ⟨x, S1, h1, q1⟩ | ⟨c', v, S1, h1, rfl⟩
  · cases ht : truth x with
    | none =>
      rw [ht] at q1
      exact nomatch q1
    | some t =>
      rw [ht] at q1
      have e1 : ((ev C mc env S).bind fun x S1 => lift (truth x) S1) = some (.ok t S1) := by
        have h1' : ev C mc env S = some (.ok x S1) := h1
        rw [h1']
        show lift (truth x) S1 = _
        rw [ht]
        rfl
      refine tG.ok he hs e1 fun F1 ι1 H1 y t1 s1 ry => ?_
      obtain rfl : t = y := ry
      cases t with
      | true => exact ⟨env, S1, F1, ι1, out, he.tr t1 hs, s1, q1, k.tr t1⟩
      | false => exact ⟨env, S1, F1, ι1, out, he.tr t1 hs, s1, q1, k.tr t1⟩
  · refine tG.exc (c := c') (v := v) he hs ?_ k
    show ((ev C mc env S).bind fun x S1 => lift (truth x) S1) = _
    have h1' : ev C mc env S = some (Out.exc c' v S1) := h1
    rw [h1']
    rfl

mutual
theorem RV.dp {K : PySem.W.Frag} {F : FHp} {ι : List Addr} {S : Store} {H : Hp} (s : Sim b F ι S H) : ∀ {v : MV} {x : V} {d : PyData}, RV F ι v x → toPD v = some d → d.hasDict = false → Dp K H x d
  | _, _, _, .non, e, _ => by cases e; exact .non
  | _, _, _, .bl b, e, _ => by cases e; exact .bl b
  | _, _, _, .int i, e, _ => by cases e; exact .int i
  | _, _, _, .str x, e, _ => by cases e; exact .str x
  | _, _, _, .lst (xs := xs) h r, e, n => by
    obtain ⟨ds, e1, rfl⟩ := Option.map_eq_some_iff.mp (show (toPDs xs).map PyData.list = _ from e)
    exact .lst (SqL.ofRV s h) (RVL.dp s r e1 n)
  | _, _, _, .tup (xs := xs) h r, e, n => by
    obtain ⟨ds, e1, rfl⟩ := Option.map_eq_some_iff.mp (show (toPDs xs).map PyData.tuple = _ from e)
    exact .tup (SqT.ofRV s h) (RVL.dp s r e1 n)
  | _, _, _, .dK (kvs := kvs) h r, e, n => by
    obtain ⟨ds, e1, rfl⟩ := Option.map_eq_some_iff.mp (show (toPDd kvs).map PyData.dict = _ from e)
    cases n
  | _, _, _, .dT (kvs := kvs) h r, e, n => nomatch (show (none : Option PyData) = _ from e)
  | _, _, _, .ptr _, e, _ => by cases e
  | _, _, _, .scr _ _, e, _ => by cases e
theorem RVL.dp {K : PySem.W.Frag} {F : FHp} {ι : List Addr} {S : Store} {H : Hp} (s : Sim b F ι S H) : ∀ {v : List MV} {x : List V} {d : List PyData}, RVL F ι v x → toPDs v = some d → PyData.hasDictAll d = false → DpAll K H x d
  | _, _, _, .nil, e, _ => by cases e; exact .nil
  | _, _, _, .cons (x := x) (xs := xs) h r, e, n => by
    have e' : (match toPD x, toPDs xs with
      | some d, some ds => some (d :: ds)
      | _, _ => none) = _ := e
    cases e1 : toPD x with
    | none => rw [e1] at e'; cases e'
    | some d =>
      cases e2 : toPDs xs with
      | none => rw [e1, e2] at e'; cases e'
      | some ds =>
        rw [e1, e2] at e'
        cases e'
        have n' : (PyData.hasDict d || PyData.hasDictAll ds) = false := by
          rw [← n]
          simp [PyData.hasDictAll]
        rw [Bool.or_eq_false_iff] at n'
        exact .cons (RV.dp s h e1 n'.1) (RVL.dp s r e2 n'.2)
end
theorem noDict_of {d : PyData} (h : SeqAt.shaped d = true) : d.hasDict = false := PyData.hasDict_of_canLay d (SeqAt.canLay_of_shaped h)

def copOf : COp → CmpOp
  | .eq => .Eq | .ne => .NotEq | .lt => .Lt | .le => .LtE | .gt => .Gt | .ge => .GtE | .is_ => .Is | .isnot => .IsNot | .in_ => .In | .notin => .NotIn
/-- a value as it is looked at: a cell by its content -/
theorem look_dp {K : PySem.W.Frag} {F : FHp} {ι : List Addr} {S : Store} {H : Hp} {x x' : MV} {u : V} {d : PyData} (s : Sim b F ι S H) (r : RV F ι x u) (l : look S x = some x') (e : toPD x' = some d) (n : d.hasDict = false) : Dp K H u d := by
  cases x with
  | ptr k =>
    cases r with | ptr hk =>
    have l' : (match S[k]? with
      | some (.lst xs) => some (MV.lst 0 xs)
      | _ => none) = some x' := l
    cases hc : S[k]? with
    | none => rw [hc] at l'; cases l'
    | some c =>
      cases c with
      | lst xs =>
        rw [hc] at l'
        cases l'
        obtain ⟨a, vs, e1, e2, e3, e4, e5⟩ := s.cell k xs hc
        rw [hk] at e1
        cases e1
        obtain ⟨ds, e6, rfl⟩ := Option.map_eq_some_iff.mp (show (toPDs xs).map PyData.list = _ from e)
        exact .lst (SqL.of e2) (RVL.dp s e4 e6 n)
      | dead => rw [hc] at l'; cases l'
      | dct _ => rw [hc] at l'; cases l'
  | _ =>
    cases (Option.some.inj l)
    exact RV.dp s r e n
theorem pyEq_some {x y : MV} {t : Bool} (h : pyEq x y = some t) : ∃ d e, toPD x = some d ∧ toPD y = some e ∧ SeqAt.shaped d = true ∧ SeqAt.shaped e = true ∧ PyData.eqv d e = t := by
  unfold pyEq at h
  cases e1 : toPD x with
  | none => rw [e1] at h; cases h
  | some d =>
    cases e2 : toPD y with
    | none => rw [e1, e2] at h; cases h
    | some e =>
      rw [e1, e2] at h
      simp only at h
      by_cases hs : (SeqAt.shaped d && SeqAt.shaped e) = true
      · rw [if_pos hs] at h
        rw [Bool.and_eq_true] at hs
        exact ⟨d, e, rfl, rfl, hs.1, hs.2, Option.some.inj h⟩
      · rw [if_neg hs] at h
        cases h
theorem look_int {S : Store} {x : MV} {i : Int} (l : look S x = some (.int i)) : x = .int i := by
  cases x with
  | ptr k =>
    have l' : (match S[k]? with
      | some (.lst xs) => some (MV.lst 0 xs)
      | _ => none) = some (.int i) := l
    split at l' <;> cases l'
  | _ => exact Option.some.inj l
theorem look_tup {S : Store} {x : MV} {xs : List MV} (l : look S x = some (.tup xs)) : x = .tup xs := by
  cases x with
  | ptr k =>
    have l' : (match S[k]? with
      | some (.lst xs) => some (MV.lst 0 xs)
      | _ => none) = some (.tup xs) := l
    split at l' <;> cases l'
  | _ => exact Option.some.inj l
theorem look_non {S : Store} {x : MV} (l : look S x = some .non) : x = .non := by
  cases x with
  | ptr k =>
    have l' : (match S[k]? with
      | some (.lst xs) => some (MV.lst 0 xs)
      | _ => none) = some .non := l
    split at l' <;> cases l'
  | _ => exact Option.some.inj l
/-- a rule of the layer is worth M's comparison -/
def COk (X : Cx) (b : Nat) (o : COp) (r : R2) : Prop := OpR X (compareOp (copOf o)) r ∧
  ∀ (F : FHp) (ι : List Addr) (S : Store) (H : Hp) (x y x' y' : MV) (u v : V) (t : Bool) (Q : VK), Sim b F ι S H → RV F ι x u → RV F ι y v → look S x = some x' → look S y = some y' → cop o x' y' = some t → Q (.bl t) H → r u v H Q
theorem cok_eq (hu : X.A.units + 64 < cLine) : COk X b .eq (rEqD X.K) := by
  refine ⟨op_eqD hu, fun F ι S H x y x' y' u v t Q s ru rv lx ly e q => ?_⟩
  obtain ⟨d, e', h1, h2, h3, h4, h5⟩ := pyEq_some e
  exact ⟨d, e', look_dp s ru lx h1 (noDict_of h3), look_dp s rv ly h2 (noDict_of h4), h3, h4, by rw [h5]; exact q⟩
theorem cok_ne (hu : X.A.units + 64 < cLine) : COk X b .ne (rNeD X.K) := by
  refine ⟨op_neD hu, fun F ι S H x y x' y' u v t Q s ru rv lx ly e q => ?_⟩
  obtain ⟨t', e1, rfl⟩ := Option.map_eq_some_iff.mp (show (pyEq x' y').map (!·) = some t from e)
  obtain ⟨d, e', h1, h2, h3, h4, h5⟩ := pyEq_some e1
  exact ⟨d, e', look_dp s ru lx h1 (noDict_of h3), look_dp s rv ly h2 (noDict_of h4), h3, h4, by rw [h5]; exact q⟩
theorem cok_le : COk X b .le (rI0 fun i j => .bl (decide (i ≤ j))) := by
  refine ⟨op_le, fun F ι S H x y x' y' u v t Q s ru rv lx ly e q => ?_⟩
  cases x' <;> cases y' <;> try (simp [cop] at e; done)
  obtain rfl := look_int lx
  obtain rfl := look_int ly
  cases ru; cases rv
  cases (Option.some.inj e)
  exact ⟨_, _, rfl, rfl, q⟩
theorem cok_gt : COk X b .gt (rI0 fun i j => .bl (decide (j < i))) := by
  refine ⟨op_gt, fun F ι S H x y x' y' u v t Q s ru rv lx ly e q => ?_⟩
  cases x' <;> cases y' <;> try (simp [cop] at e; done)
  obtain rfl := look_int lx
  obtain rfl := look_int ly
  cases ru; cases rv
  cases (Option.some.inj e)
  exact ⟨_, _, rfl, rfl, q⟩
theorem cok_ge : COk X b .ge (rI0 fun i j => .bl (decide (j ≤ i))) := by
  refine ⟨op_ge, fun F ι S H x y x' y' u v t Q s ru rv lx ly e q => ?_⟩
  cases x' <;> cases y' <;> try (simp [cop] at e; done)
  obtain rfl := look_int lx
  obtain rfl := look_int ly
  cases ru; cases rv
  cases (Option.some.inj e)
  exact ⟨_, _, rfl, rfl, q⟩
theorem isNon_rv {F : FHp} {ι : List Addr} {x : MV} {u : V} (r : RV F ι x u) : isNon x = decide (u = .non) := by
  cases r <;> simp [isNon]
theorem look_isNon {S : Store} {x x' : MV} (l : look S x = some x') : isNon x' = isNon x := by
  cases x with
  | ptr k =>
    have l' : (match S[k]? with
      | some (.lst xs) => some (MV.lst 0 xs)
      | _ => none) = some x' := l
    split at l'
    · cases l'; rfl
    · cases l'
  | _ => cases (Option.some.inj l) <;> rfl
theorem cok_is : COk X b .is_ (fun x y H Q => y = .non ∧ Q (.bl (decide (x = .non))) H) := by
  refine ⟨op_isN, fun F ι S H x y x' y' u v t Q s ru rv lx ly e q => ?_⟩
  cases y' <;> try (simp [cop] at e; done)
  obtain rfl := look_non ly
  cases rv
  refine ⟨rfl, ?_⟩
  have e' : some (isNon x') = some t := e
  rw [← isNon_rv ru, ← look_isNon lx, Option.some.inj e']
  exact q
theorem cok_isnot : COk X b .isnot (fun x y H Q => y = .non ∧ Q (.bl (!decide (x = .non))) H) := by
  refine ⟨op_notN, fun F ι S H x y x' y' u v t Q s ru rv lx ly e q => ?_⟩
  cases y' <;> try (simp [cop] at e; done)
  obtain rfl := look_non ly
  cases rv
  refine ⟨rfl, ?_⟩
  have e' : some (!isNon x') = some t := e
  rw [← isNon_rv ru, ← look_isNon lx, Option.some.inj e']
  exact q
/-- a comparison as a value, by its rule -/
theorem e_cmpR {o : COp} {r : R2} (ho : COk X b o r) (hm : behindInMarks (copOf o) a' = false) (ha : PE X a (tV ex W b (ev C m))) (ha' : PE X a' (tV ex W b (ev C m'))) : PE X (.Compare a [copOf o] [a'] pos) (tO ex W b (evO C (.cmp o m m'))) := by
  refine PE.imp (pe_cmpR ho.1 ha ha' hm) fun σ H Q h => ?_
  refine two (f := fun x y S2 => match look S2 x, look S2 y with
    | some x', some y' => lift ((cop o x' y').map fun b => OV.val (.bl b)) S2
    | _, _ => none) h fun F ι S H2 x y u v out s ru rv q k => ?_
  cases lx : look S x with
  | none => rw [lx] at q; cases q
  | some x' =>
    cases ly : look S y with
    | none => rw [lx, ly] at q; cases q
    | some y' =>
      rw [lx, ly] at q
      obtain ⟨z, e, rfl⟩ := lift_some q
      obtain ⟨t, e1, rfl⟩ := Option.map_eq_some_iff.mp e
      exact ho.2 F ι S H2 x y x' y' u v t Q s ru rv lx ly e1 (k.now s (.bl _))
end
end Mv

end
section
set_option Elab.async false
set_option linter.all false
set_option autoImplicit false
set_option maxRecDepth 100000
namespace Mv
open PySem PySem.Spec L2
variable [Tbs]

def evT (C : Cfg) (m : ME) (env : Env) (S : Store) : R Bool := (ev C m env S).bind fun x S1 => lift (truth x) S1

section
variable {X : Cx} {ex : ExT} {W : WX} {C : Cfg} {a a' a2 : Expr} {m m' m2 : ME} {pos : Pos} {b : Nat}

theorem bind_ok {α β : Type} {x : R α} {f : α → Store → R β} {a : α} {S : Store} (h : x = some (.ok a S)) : x.bind f = f a S := by rw [h]; rfl
theorem bind_exc {α β : Type} {x : R α} {f : α → Store → R β} {c : Str} {v : MV} {S : Store} (h : x = some (.exc c v S)) : x.bind f = some (.exc c v S) := by rw [h]; rfl
theorem bind_assoc {α β γ : Type} (x : R α) (f : α → Store → R β) (g : β → Store → R γ) : (x.bind f).bind g = x.bind fun a S => (f a S).bind g := by
  cases x with
  | none => rfl
  | some o => cases o <;> rfl

/-- a test by the value's truth -/
theorem t_truth (ha : PE X a (tV ex W b (ev C m))) (he : ∀ whole, isTrue a X.env whole = (do let v ← whole; standAt a.pos; holding [v] (truthy v))) : PT X a (tT ex W b (evT C m)) := by
  refine PT.imp (pt_truth ha he) fun σ H Q h => ?_
  refine one (f := fun x S1 => lift (truth x) S1) h fun F ι S H2 x u out s ru q k => ?_
  obtain ⟨t, e, rfl⟩ := lift_some q
  exact ⟨t, truth_rv s ru e, k.now s rfl⟩
theorem t_cmpR {o : COp} {r : R2} (ho : COk X b o r) (hm : behindInMarks (copOf o) a' = false) (ha : PE X a (tV ex W b (ev C m))) (ha' : PE X a' (tV ex W b (ev C m'))) : PT X (.Compare a [copOf o] [a'] pos) (tT ex W b (evT C (.cmp o m m'))) := by
  refine PT.imp (pt_cmpR ho.1 ha ha' hm) fun σ H Q h => ?_
  have e0 : evT C (.cmp o m m') = fun env S => (ev C m env S).bind fun x S1 => (ev C m' env S1).bind fun y S2 => (fzR C.col (match look S2 x, look S2 y with
    | some x', some y' => lift ((cop o x' y').map fun b => OV.val (.bl b)) S2
    | _, _ => none)).bind fun x S1 => lift (truth x) S1 := by
    funext env S
    show ((evO C (.cmp o m m') env S).bind fun o S1 => ok (o.fz C.col) S1).bind _ = _
    show (((ev C m env S).bind fun x S1 => (ev C m' env S1).bind fun y S2 => match look S2 x, look S2 y with
      | some x', some y' => lift ((cop o x' y').map fun b => OV.val (.bl b)) S2
      | _, _ => none).bind fun o S1 => ok (o.fz C.col) S1).bind _ = _
    simp only [bind_assoc, fzR]
  rw [tT, e0] at h
  refine two (f := fun x y S2 => (fzR C.col (match look S2 x, look S2 y with
    | some x', some y' => lift ((cop o x' y').map fun b => OV.val (.bl b)) S2
    | _, _ => none)).bind fun x S1 => lift (truth x) S1) h fun F ι S H2 x y u v out s ru rv q k => ?_
  cases lx : look S x with
  | none => rw [lx] at q; cases q
  | some x' =>
    cases ly : look S y with
    | none => rw [lx, ly] at q; cases q
    | some y' =>
      rw [lx, ly] at q
      cases ec : cop o x' y' with
      | none => simp only [ec] at q; cases q
      | some t =>
        simp only [ec] at q
        have q' : some (Out.ok t S) = some out := q
        cases q'
        exact ho.2 F ι S H2 x y x' y' u v t _ s ru rv lx ly ec ⟨t, rfl, k.now s rfl⟩
theorem t_nt (ha : PT X a (tT ex W b (evT C m))) : PT X (.UnaryOp .Not a pos) (tT ex W b (evT C (.nt m))) := by
  refine PT.imp (pt_not ha) fun σ H Q h => ?_
  obtain ⟨env, S, F, ι, out, he, hs, q, k⟩ := h
  have q0 : (((ev C m env S).bind fun x S1 => lift ((truth x).map fun b => OV.val (.bl (!b))) S1).bind fun o S1 => ok (o.fz C.col) S1).bind (fun x S1 => lift (truth x) S1) = some out := q
  rw [bind_assoc, bind_assoc] at q0
  rcases bind_some q0 with ⟨x, S1, h1, q1⟩ | ⟨c', v, S1, h1, rfl⟩
  · cases et : truth x with
    | none =>
      rw [et] at q1
      cases q1
    | some t =>
      rw [et] at q1
      have q1' : some (Out.ok (!t) S1) = some out := q1
      cases q1'
      refine tG.ok (v := t) (S' := S1) he hs ?_ fun F' ι' H' y t' s' r => k F' ι' H' (!y) t' s' (congrArg not r)
      show (ev C m env S).bind _ = _
      rw [bind_ok h1]
      show lift (truth x) S1 = _
      rw [et]
      rfl
  · refine tG.exc he hs ?_ k
    show (ev C m env S).bind _ = _
    rw [bind_exc h1]

def isStar : Expr → Bool
  | .Starred _ _ => true
  | _ => false
theorem starEach_ns {e : Expr} {es : List Expr} {env : PySem.Env} (h : isStar e = false) : starEach (e :: es) env = (false, eval e env) :: starEach es env := by
  cases e <;> first | rfl | (simp [isStar] at h)
theorem starEach_plain : ∀ {es : List Expr} {env : PySem.Env}, (∀ e ∈ es, isStar e = false) → (starEach es env).any (·.1) = false
  | [], _, _ => rfl
  | e :: es, env, h => by
    rw [starEach_ns (h e List.mem_cons_self), List.any_cons, starEach_plain fun e' he => h e' (List.mem_cons_of_mem _ he)]
    rfl
theorem backTo_any (pos : Pos) (l : List (Bool × Sem Value)) : (backTo pos l).any (·.1) = l.any (·.1) := by
  unfold backTo
  rw [List.any_map]
  rfl

/-- each of them is what M says; none is starred -/
inductive EsOk (P : ME → Expr → Prop) : Es → List Expr → Prop
  | nil : EsOk P .nil []
  | cons {m : ME} {e : Expr} {r : Es} {es : List Expr} : isStar e = false → P m e → EsOk P r es → EsOk P (.cons false m r) (e :: es)
theorem EsOk.plain {P : ME → Expr → Prop} : ∀ {r : Es} {es : List Expr}, EsOk P r es → ∀ e ∈ es, isStar e = false
  | _, _, .nil, e, h => by cases h
  | _, _, .cons n _ t, e, h => by
    rcases List.mem_cons.mp h with rfl | h
    · exact n
    · exact t.plain e h
theorem EsOk.imp {P P' : ME → Expr → Prop} (f : ∀ m e, P m e → P' m e) : ∀ {r : Es} {es : List Expr}, EsOk P r es → EsOk P' r es
  | _, _, .nil => .nil
  | _, _, .cons n p t => .cons n (f _ _ p) (EsOk.imp f t)
/-- arguments -/
theorem a_es : ∀ {r : Es} {es : List Expr}, EsOk (fun m e => PE X e (tV ex W b (ev C m))) r es → PA X es (tL ex W b (evs C r))
  | _, _, .nil => by
    refine PA.imp pa_nil fun σ H Q ⟨env, S, F, ι, out, he, hs, q, k⟩ => ?_
    obtain rfl := ok_some q
    exact k.now hs .nil
  | _, _, .cons (m := m) (e := e) (r := r) (es := es) n p t => by
    refine PA.imp (pa_cons p (a_es t) (starEach_ns n)) fun σ H Q h => ?_
    obtain ⟨env, S, F, ι, out, he, hs, q, k⟩ := h
    have q' : (ev C m env S).bind (fun x S1 => (evs C r env S1).bind fun xs S2 => ok (x :: xs) S2) = some out := q
    rcases bind_some q' with ⟨x, S1, h1, q1⟩ | ⟨c', v, S1, h1, rfl⟩
    · refine tG.ok he hs h1 fun F1 ι1 H1 u t1 s1 ru => ?_
      rcases bind_some q1 with ⟨xs, S2, h2, q2⟩ | ⟨c', v, S2, h2, rfl⟩
      · obtain rfl := ok_some q2
        refine tG.ok (he.tr t1 hs) s1 h2 fun F2 ι2 H2 v t2 s2 rv => ?_
        exact k F2 ι2 H2 _ (t1.trans t2) s2 (.cons (t2.rv s1 ru) rv)
      · exact tG.exc (he.tr t1 hs) s1 h2 (ExK.tr k t1)
    · exact tG.exc he hs h1 k
/-- a tuple, a list of them -/
theorem e_tup {r : Es} {es : List Expr} {x1 : Nat} (hb : 0 < b) (h : PA X es (tL ex W b (evs C r))) : PE X (.Tuple es x1 pos) (tO ex W b (evO C (.tup r))) := by
  refine PE.imp (pe_tup h) fun σ H Q ⟨env, S, F, ι, out, he, hs, q, k⟩ => ?_
  have q' : (evs C r env S).bind (fun vs S1 => if vs.length ≤ sizeLine then ok (OV.val (.tup vs)) S1 else none) = some out := q
  rcases bind_some q' with ⟨xs, S1, h1, q1⟩ | ⟨c', v, S1, h1, rfl⟩
  · refine tG.ok he hs h1 fun F1 ι1 H1 vs t1 s1 rv => ?_
    by_cases hl : xs.length ≤ sizeLine
    · rw [if_pos hl] at q1
      obtain rfl := ok_some q1
      have k1 := Kt.tr k t1
      exact ⟨by rw [← RVL.length rv]; exact hl, fun p hp => k1.newT hb s1 hp rv⟩
    · rw [if_neg hl] at q1
      cases q1
  · exact tG.exc he hs h1 k
theorem e_lst {r : Es} {es : List Expr} (h : PA X es (tL ex W b (evs C r))) : PE X (.List es pos) (tO ex W b (evO C (.lst r))) := by
  refine PE.imp (pe_lst h) fun σ H Q ⟨env, S, F, ι, out, he, hs, q, k⟩ => ?_
  have q' : (evs C r env S).bind (fun vs S1 => if vs.length ≤ sizeLine then ok (OV.nl vs) S1 else none) = some out := q
  rcases bind_some q' with ⟨xs, S1, h1, q1⟩ | ⟨c', v, S1, h1, rfl⟩
  · refine tG.ok he hs h1 fun F1 ι1 H1 vs t1 s1 rv => ?_
    by_cases hl : xs.length ≤ sizeLine
    · rw [if_pos hl] at q1
      obtain rfl := ok_some q1
      have k1 := Kt.tr k t1
      exact ⟨by rw [← RVL.length rv]; exact hl, fun p hp => k1.newL s1 hp rv⟩
    · rw [if_neg hl] at q1
      cases q1
  · exact tG.exc he hs h1 k

theorem evT_bind {x : MV} {r : R OV} {c : Nat} : (r.bind fun o S1 => ok (o.fz c) S1).bind (fun x S1 => lift (truth x) S1) = r.bind fun o S1 => lift (truth (o.fz c)) S1 := by
  rw [bind_assoc]
  rfl
def evAndT (C : Cfg) (m : ME) (r : Es) (env : Env) (S : Store) : R Bool := (ev C m env S).bind fun x S1 => (evAnd C x r env S1).bind fun o S2 => lift (truth (o.fz C.col)) S2
def evOrT (C : Cfg) (m : ME) (r : Es) (env : Env) (S : Store) : R Bool := (ev C m env S).bind fun x S1 => (evOr C x r env S1).bind fun o S2 => lift (truth (o.fz C.col)) S2
theorem evT_and {r : Es} : evT C (.andE m r) = evAndT C m r := by
  funext env S
  show (((ev C m env S).bind fun x S1 => evAnd C x r env S1).bind fun o S1 => ok (o.fz C.col) S1).bind (fun x S1 => lift (truth x) S1) = _
  rw [bind_assoc, bind_assoc]
  rfl
theorem evT_or {r : Es} : evT C (.orE m r) = evOrT C m r := by
  funext env S
  show (((ev C m env S).bind fun x S1 => evOr C x r env S1).bind fun o S1 => ok (o.fz C.col) S1).bind (fun x S1 => lift (truth x) S1) = _
  rw [bind_assoc, bind_assoc]
  rfl
theorem t_andW : ∀ {r : Es} {es : List Expr} {m : ME} {a : Expr}, PT X a (tT ex W b (evT C m)) → EsOk (fun m e => PT X e (tT ex W b (evT C m))) r es → PW X (.BoolOp .And (a :: es) pos) (tT ex W b (evAndT C m r))
  | _, _, m, a, ha, .nil => by
    refine ⟨fun wh pins s σ H Q I h => (pw_and1 (PT.imp ha fun σ H Q h => ?_)).run wh pins s σ H Q I h⟩
    obtain ⟨env, S, F, ι, out, he, hs, q, k⟩ := h
    refine ⟨env, S, F, ι, out, he, hs, ?_, k⟩
    rw [← q]
    rfl
  | _, _, m, a, ha, .cons (m := m2) (r := r) n p t => by
    refine ⟨fun wh pins s σ H Q I h => (pw_and ha (t_andW p t)).run wh pins s σ H Q I ?_⟩
    obtain ⟨env, S, F, ι, out, he, hs, q, k⟩ := h
    have q' : (ev C m env S).bind (fun x S1 => (match truth x with
      | some true => (ev C m2 env S1).bind fun y S1 => evAnd C y r env S1
      | some false => ok (OV.val x) S1
      | none => none).bind fun o S2 => lift (truth (o.fz C.col)) S2) = some out := q
    rcases bind_some q' with ⟨x, S1, h1, q1⟩ | ⟨c', v, S1, h1, rfl⟩
    · cases et : truth x with
      | none => rw [et] at q1; cases q1
      | some t0 =>
        rw [et] at q1
        have e1 : evT C m env S = some (.ok t0 S1) := by
          show (ev C m env S).bind _ = _
          rw [bind_ok h1, et]
          rfl
        refine tG.ok he hs e1 fun F1 ι1 H1 y t1 s1 ry => ?_
        obtain rfl : t0 = y := ry
        cases t0 with
        | true =>
          refine ⟨env, S1, F1, ι1, out, he.tr t1 hs, s1, ?_, Kt.tr k t1⟩
          rw [← q1]
          show _ = ((ev C m2 env S1).bind fun y S1 => evAnd C y r env S1).bind _
          rw [bind_assoc]
          rfl
        | false =>
          have q2 : lift (truth x) S1 = some out := q1
          rw [et] at q2
          obtain rfl := ok_some q2
          exact (Kt.tr k t1).now s1 rfl
    · refine tG.exc he hs ?_ k
      show (ev C m env S).bind _ = _
      rw [bind_exc h1]
theorem t_and {r : Es} {es : List Expr} (ha : PT X a (tT ex W b (evT C m))) (h : EsOk (fun m e => PT X e (tT ex W b (evT C m))) r es) : PT X (.BoolOp .And (a :: es) pos) (tT ex W b (evT C (.andE m r))) := by
  rw [evT_and]
  exact (t_andW ha h).pt
theorem t_orW : ∀ {r : Es} {es : List Expr} {m : ME} {a : Expr}, PT X a (tT ex W b (evT C m)) → EsOk (fun m e => PT X e (tT ex W b (evT C m))) r es → PW X (.BoolOp .Or (a :: es) pos) (tT ex W b (evOrT C m r))
  | _, _, m, a, ha, .nil => by
    refine ⟨fun wh pins s σ H Q I h => (pw_or1 (PT.imp ha fun σ H Q h => ?_)).run wh pins s σ H Q I h⟩
    obtain ⟨env, S, F, ι, out, he, hs, q, k⟩ := h
    refine ⟨env, S, F, ι, out, he, hs, ?_, k⟩
    rw [← q]
    rfl
  | _, _, m, a, ha, .cons (m := m2) (r := r) n p t => by
    refine ⟨fun wh pins s σ H Q I h => (pw_or ha (t_orW p t)).run wh pins s σ H Q I ?_⟩
    obtain ⟨env, S, F, ι, out, he, hs, q, k⟩ := h
    have q' : (ev C m env S).bind (fun x S1 => (match truth x with
      | some true => ok (OV.val x) S1
      | some false => (ev C m2 env S1).bind fun y S1 => evOr C y r env S1
      | none => none).bind fun o S2 => lift (truth (o.fz C.col)) S2) = some out := q
    rcases bind_some q' with ⟨x, S1, h1, q1⟩ | ⟨c', v, S1, h1, rfl⟩
    · cases et : truth x with
      | none => rw [et] at q1; cases q1
      | some t0 =>
        rw [et] at q1
        have e1 : evT C m env S = some (.ok t0 S1) := by
          show (ev C m env S).bind _ = _
          rw [bind_ok h1, et]
          rfl
        refine tG.ok he hs e1 fun F1 ι1 H1 y t1 s1 ry => ?_
        obtain rfl : t0 = y := ry
        cases t0 with
        | false =>
          refine ⟨env, S1, F1, ι1, out, he.tr t1 hs, s1, ?_, Kt.tr k t1⟩
          rw [← q1]
          show _ = ((ev C m2 env S1).bind fun y S1 => evOr C y r env S1).bind _
          rw [bind_assoc]
          rfl
        | true =>
          have q2 : lift (truth x) S1 = some out := q1
          rw [et] at q2
          obtain rfl := ok_some q2
          exact (Kt.tr k t1).now s1 rfl
    · refine tG.exc he hs ?_ k
      show (ev C m env S).bind _ = _
      rw [bind_exc h1]
theorem t_or {r : Es} {es : List Expr} (ha : PT X a (tT ex W b (evT C m))) (h : EsOk (fun m e => PT X e (tT ex W b (evT C m))) r es) : PT X (.BoolOp .Or (a :: es) pos) (tT ex W b (evT C (.orE m r))) := by
  rw [evT_or]
  exact (t_orW ha h).pt
/-- .. as values -/
theorem e_and : ∀ {r : Es} {es : List Expr} {m : ME} {a : Expr}, PE X a (tV ex W b (ev C m)) → EsOk (fun m e => PE X e (tV ex W b (ev C m))) r es → PE X (.BoolOp .And (a :: es) pos) (tO ex W b (evO C (.andE m r)))
  | _, _, m, a, ha, .nil => by
    refine PE.imp (pe_one ha) fun σ H Q ⟨env, S, F, ι, out, he, hs, q, k⟩ => ?_
    have q' : (ev C m env S).bind (fun x S1 => ok (OV.val x) S1) = some out := q
    rcases bind_some q' with ⟨x, S1, h1, q1⟩ | ⟨c', v, S1, h1, rfl⟩
    · obtain rfl := ok_some q1
      exact tG.ok he hs h1 k
    · exact tG.exc he hs h1 k
  | _, _, m, a, ha, .cons (m := m2) (r := r) n p t => by
    refine PE.imp (pe_andT ha (e_and p t)) fun σ H Q ⟨env, S, F, ι, out, he, hs, q, k⟩ => ?_
    have q' : (ev C m env S).bind (fun x S1 => match truth x with
      | some true => (ev C m2 env S1).bind fun y S1 => evAnd C y r env S1
      | some false => ok (OV.val x) S1
      | none => none) = some out := q
    rcases bind_some q' with ⟨x, S1, h1, q1⟩ | ⟨c', v, S1, h1, rfl⟩
    · refine tG.ok he hs h1 fun F1 ι1 H1 y t1 s1 ry => ?_
      cases et : truth x with
      | none => rw [et] at q1; cases q1
      | some t0 =>
        rw [et] at q1
        refine ⟨t0, truth_rv s1 ry et, ?_⟩
        cases t0 with
        | true => exact ⟨env, S1, F1, ι1, out, he.tr t1 hs, s1, q1, Kt.tr k t1⟩
        | false =>
          obtain rfl := ok_some q1
          exact (Kt.tr k t1).now s1 ry
    · exact tG.exc he hs h1 k
theorem e_or : ∀ {r : Es} {es : List Expr} {m : ME} {a : Expr}, PE X a (tV ex W b (ev C m)) → EsOk (fun m e => PE X e (tV ex W b (ev C m))) r es → PE X (.BoolOp .Or (a :: es) pos) (tO ex W b (evO C (.orE m r)))
  | _, _, m, a, ha, .nil => by
    refine PE.imp (pe_one ha) fun σ H Q ⟨env, S, F, ι, out, he, hs, q, k⟩ => ?_
    have q' : (ev C m env S).bind (fun x S1 => ok (OV.val x) S1) = some out := q
    rcases bind_some q' with ⟨x, S1, h1, q1⟩ | ⟨c', v, S1, h1, rfl⟩
    · obtain rfl := ok_some q1
      exact tG.ok he hs h1 k
    · exact tG.exc he hs h1 k
  | _, _, m, a, ha, .cons (m := m2) (r := r) n p t => by
    refine PE.imp (pe_orT ha (e_or p t)) fun σ H Q ⟨env, S, F, ι, out, he, hs, q, k⟩ => ?_
    have q' : (ev C m env S).bind (fun x S1 => match truth x with
      | some true => ok (OV.val x) S1
      | some false => (ev C m2 env S1).bind fun y S1 => evOr C y r env S1
      | none => none) = some out := q
    rcases bind_some q' with ⟨x, S1, h1, q1⟩ | ⟨c', v, S1, h1, rfl⟩
    · refine tG.ok he hs h1 fun F1 ι1 H1 y t1 s1 ry => ?_
      cases et : truth x with
      | none => rw [et] at q1; cases q1
      | some t0 =>
        rw [et] at q1
        refine ⟨t0, truth_rv s1 ry et, ?_⟩
        cases t0 with
        | false => exact ⟨env, S1, F1, ι1, out, he.tr t1 hs, s1, q1, Kt.tr k t1⟩
        | true =>
          obtain rfl := ok_some q1
          exact (Kt.tr k t1).now s1 ry
    · exact tG.exc he hs h1 k
end
end Mv

end
section
set_option Elab.async false
set_option linter.all false
set_option autoImplicit false
set_option maxRecDepth 100000
namespace Mv
open PySem PySem.Spec L2
variable [Tbs]

/-- a value as it is looked at -/
inductive Lk (H : Hp) (F : FHp) (ι : List Addr) : MV → V → Prop
  | rv {v : MV} {x : V} : RV F ι v x → Lk H F ι v x
  | cell {c : Nat} {xs : List MV} {a : Addr} {vs : List V} : H a = some (.lst vs) → RVL F ι xs vs → Lk H F ι (.lst c xs) (.ref a)
inductive LkL (H : Hp) (F : FHp) (ι : List Addr) : List MV → List V → Prop
  | nil : LkL H F ι [] []
  | cons {v : MV} {x : V} {vs : List MV} {xs : List V} : Lk H F ι v x → LkL H F ι vs xs → LkL H F ι (v :: vs) (x :: xs)

section
variable {b : Nat} {F : FHp} {ι : List Addr} {S : Store} {H : Hp}
theorem lk_of {x x' : MV} {u : V} (s : Sim b F ι S H) (r : RV F ι x u) (l : look S x = some x') : Lk H F ι x' u := by
  cases x with
  | ptr k =>
    cases r with | ptr hk =>
    have l' : (match S[k]? with
      | some (.lst xs) => some (MV.lst 0 xs)
      | _ => none) = some x' := l
    cases hc : S[k]? with
    | none => rw [hc] at l'; cases l'
    | some c =>
      cases c with
      | lst xs =>
        rw [hc] at l'
        cases l'
        obtain ⟨a, vs, e1, e2, e3, e4, e5⟩ := s.cell k xs hc
        rw [hk] at e1
        cases e1
        exact .cell e2 e4
      | dead => rw [hc] at l'; cases l'
      | dct _ => rw [hc] at l'; cases l'
  | _ =>
    cases (Option.some.inj l)
    exact .rv r
theorem lkL_of : ∀ {vs vs' : List MV} {us : List V}, Sim b F ι S H → RVL F ι vs us → lkL S vs = some vs' → LkL H F ι vs' us
  | _, _, _, s, .nil, l => by
    cases (Option.some.inj l)
    exact .nil
  | _, _, _, s, .cons (x := x) (xs := xs) r t, l => by
    have l' : (match look S x, lkL S xs with
      | some x, some xs => some (x :: xs)
      | _, _ => none) = some _ := l
    cases e1 : look S x with
    | none => rw [e1] at l'; cases l'
    | some x' =>
      cases e2 : lkL S xs with
      | none => rw [e1, e2] at l'; cases l'
      | some xs' =>
        rw [e1, e2] at l'
        cases l'
        exact .cons (lk_of s r e1) (lkL_of s t e2)
theorem Lk.int {i : Int} {u : V} (l : Lk H F ι (.int i) u) : u = .int i := by
  cases l with | rv r => cases r; rfl
theorem Lk.bl {i : Bool} {u : V} (l : Lk H F ι (.bl i) u) : u = .bl i := by
  cases l with | rv r => cases r; rfl
theorem Lk.str {i : Str} {u : V} (l : Lk H F ι (.str i) u) : u = .str i := by
  cases l with | rv r => cases r; rfl
theorem Lk.lst {c : Nat} {xs : List MV} {u : V} (s : Sim b F ι S H) (l : Lk H F ι (.lst c xs) u) : ∃ a vs, u = .ref a ∧ H a = some (.lst vs) ∧ RVL F ι xs vs := by
  cases l with
  | rv r => cases r with | lst h r => exact ⟨_, _, rfl, s.fh _ _ _ h, r⟩
  | cell h r => exact ⟨_, _, rfl, h, r⟩
theorem Lk.tup {xs : List MV} {u : V} (s : Sim b F ι S H) (l : Lk H F ι (.tup xs) u) : ∃ a vs, u = .ref a ∧ H a = some (.tup vs) ∧ F a = some (0, .tup vs) ∧ RVL F ι xs vs := by
  cases l with
  | rv r => cases r with | tup h r => exact ⟨_, _, rfl, s.fh _ _ _ h, h, r⟩
theorem LkL.one {v : MV} {us : List V} (l : LkL H F ι [v] us) : ∃ u, us = [u] ∧ Lk H F ι v u := by
  cases l with | cons h t => cases t; exact ⟨_, rfl, h⟩
theorem LkL.two {v w : MV} {us : List V} (l : LkL H F ι [v, w] us) : ∃ u t, us = [u, t] ∧ Lk H F ι v u ∧ Lk H F ι w t := by
  cases l with | cons h t => cases t with | cons h2 t2 => cases t2; exact ⟨_, _, rfl, h, h2⟩
/-- ints, bools in a row -/
theorem rvl_ints : ∀ {xs : List MV} {ns : List Int} {vs : List V}, allInts xs = some ns → RVL F ι xs vs → vs = ns.map V.int
  | [], ns, _, h, .nil => by
    cases (Option.some.inj h)
    rfl
  | x :: xs, ns, _, h, .cons r t => by
    cases x <;> try (simp [allInts] at h; done)
    rename_i i
    obtain ⟨ms, e1, rfl⟩ := Option.map_eq_some_iff.mp (show (allInts xs).map (i :: ·) = some ns from h)
    cases r
    rw [rvl_ints e1 t]
    rfl
theorem rvl_bools : ∀ {xs : List MV} {ns : List Bool} {vs : List V}, allBls xs = some ns → RVL F ι xs vs → vs = ns.map V.bl
  | [], ns, _, h, .nil => by
    cases (Option.some.inj h)
    rfl
  | x :: xs, ns, _, h, .cons r t => by
    cases x <;> try (simp [allBls] at h; done)
    rename_i i
    obtain ⟨ms, e1, rfl⟩ := Option.map_eq_some_iff.mp (show (allBls xs).map (i :: ·) = some ns from h)
    cases r
    rw [rvl_bools e1 t]
    rfl
end
theorem maxL_is {ns : List Int} {m k : Int} (h1 : m ∈ ns) (h2 : ∀ y, y ∈ ns → y ≤ m) (h : maxL ns = some k) : m = k := by
  cases ns with
  | nil => cases h
  | cons x xs =>
    have e : xs.foldl (fun m y => if m < y then y else m) x = k := Option.some.inj h
    have key : ∀ (l : List Int) (z : Int), (l.foldl (fun m y => if m < y then y else m) z = z ∨ l.foldl (fun m y => if m < y then y else m) z ∈ l) ∧ z ≤ l.foldl (fun m y => if m < y then y else m) z ∧ ∀ y, y ∈ l → y ≤ l.foldl (fun m y => if m < y then y else m) z := by
      intro l
      induction l with
      | nil => exact fun z => ⟨.inl rfl, Int.le_refl _, fun y hy => absurd hy (by simp)⟩
      | cons a l ih =>
        intro z
        obtain ⟨i1, i2, i3⟩ := ih (if z < a then a else z)
        rw [List.foldl_cons]
        refine ⟨?_, ?_, fun y hy => ?_⟩
        · rcases i1 with q | q
          · by_cases c : z < a
            · rw [if_pos c] at q
              rw [if_pos c, q]
              exact .inr List.mem_cons_self
            · rw [if_neg c] at q
              rw [if_neg c]
              exact .inl q
          · exact .inr (List.mem_cons_of_mem _ q)
        · refine Int.le_trans ?_ i2
          split <;> omega
        · rcases List.mem_cons.mp hy with q | q
          · subst q
            refine Int.le_trans ?_ i2
            split <;> omega
          · exact i3 y q
    obtain ⟨k1, k2, k3⟩ := key xs x
    rw [e] at k1 k2 k3
    have hk : k ∈ x :: xs := by
      rcases k1 with q | q
      · rw [q]; exact List.mem_cons_self
      · exact List.mem_cons_of_mem _ q
    have a1 := h2 k hk
    rcases List.mem_cons.mp h1 with q | q
    · subst q; omega
    · have := k3 m q; omega
theorem minL_is {ns : List Int} {m k : Int} (h1 : m ∈ ns) (h2 : ∀ y, y ∈ ns → m ≤ y) (h : minL ns = some k) : m = k := by
  cases ns with
  | nil => cases h
  | cons x xs =>
    have e : xs.foldl (fun m y => if y < m then y else m) x = k := Option.some.inj h
    have key : ∀ (l : List Int) (z : Int), (l.foldl (fun m y => if y < m then y else m) z = z ∨ l.foldl (fun m y => if y < m then y else m) z ∈ l) ∧ l.foldl (fun m y => if y < m then y else m) z ≤ z ∧ ∀ y, y ∈ l → l.foldl (fun m y => if y < m then y else m) z ≤ y := by
      intro l
      induction l with
      | nil => exact fun z => ⟨.inl rfl, Int.le_refl _, fun y hy => absurd hy (by simp)⟩
      | cons a l ih =>
        intro z
        obtain ⟨i1, i2, i3⟩ := ih (if a < z then a else z)
        rw [List.foldl_cons]
        refine ⟨?_, ?_, fun y hy => ?_⟩
        · rcases i1 with q | q
          · by_cases c : a < z
            · rw [if_pos c] at q
              rw [if_pos c, q]
              exact .inr List.mem_cons_self
            · rw [if_neg c] at q
              rw [if_neg c]
              exact .inl q
          · exact .inr (List.mem_cons_of_mem _ q)
        · refine Int.le_trans i2 ?_
          split <;> omega
        · rcases List.mem_cons.mp hy with q | q
          · subst q
            refine Int.le_trans i2 ?_
            split <;> omega
          · exact i3 y q
    obtain ⟨k1, k2, k3⟩ := key xs x
    rw [e] at k1 k2 k3
    have hk : k ∈ x :: xs := by
      rcases k1 with q | q
      · rw [q]; exact List.mem_cons_self
      · exact List.mem_cons_of_mem _ q
    have a1 := h2 k hk
    rcases List.mem_cons.mp h1 with q | q
    · subst q; omega
    · have := k3 m q; omega
theorem allInts_len : ∀ {xs : List MV} {ns : List Int}, allInts xs = some ns → xs.length = ns.length
  | [], ns, h => by cases (Option.some.inj h); rfl
  | x :: xs, ns, h => by
    cases x <;> try (simp [allInts] at h; done)
    rename_i i
    obtain ⟨ms, e1, rfl⟩ := Option.map_eq_some_iff.mp (show (allInts xs).map (i :: ·) = some ns from h)
    rw [List.length_cons, List.length_cons, allInts_len e1]

section
variable {X : Cx} {ex : ExT} {W : WX} {C : Cfg} {a a' : Expr} {m m' : ME} {pos p : Pos} {b : Nat}
/-- a rule of the layer is worth M's built-in -/
def BiOk (b : Nat) (nm : Bi) (r : List V → Hp → VK → Prop) : Prop :=
  ∀ (ex : ExT) (W : WX) (σ : St) (F : FHp) (ι : List Addr) (S : Store) (H : Hp) (vs : List MV) (us : List V) (z : OV) (Q : VK), Sim b F ι S H → LkL H F ι vs us → biF nm vs = some z → Kt ex W b RelO σ F ι S H Q (.ok z S) → r us H Q
theorem bi_core {nm : Bi} {r : List V → Hp → VK → Prop} {rs : Es} (hr : BiOk b nm r) {σ : St} {H : Hp} {Q : VK} (h : tO ex W b (evO C (.bi nm rs)) σ H Q) : tCB r (tL ex W b (evs C rs)) σ H Q := by
  obtain ⟨env, S, F, ι, out, he, hs, q, k⟩ := h
  have q' : (evs C rs env S).bind (fun vs S1 => match lkL S1 vs with
    | some vs' => lift (biF nm vs') S1
    | none => none) = some out := q
  rcases bind_some q' with ⟨xs, S1, h1, q1⟩ | ⟨c', v, S1, h1, rfl⟩
  · refine tG.ok he hs h1 fun F1 ι1 H1 us t1 s1 rv => ?_
    cases el : lkL S1 xs with
    | none => rw [el] at q1; cases q1
    | some vs' =>
      rw [el] at q1
      obtain ⟨z, e, rfl⟩ := lift_some q1
      exact hr ex W σ F1 ι1 S1 H1 vs' us z Q s1 (lkL_of s1 rv el) e (Kt.tr k t1)
  · exact tG.exc he hs h1 k
theorem e_biB {bt : Bi} {nm : Str} {id : String} {r : List V → Hp → VK → Prop} {rs : Es} {e0 : Expr} {es : List Expr} (hr : BiOk b bt r) (hc : CallR X (.builtin id) r) (hg : Gl X nm) (hm : X.mg nm = none) (hv : bootBuiltins nm = some (.builtin id))
    (hpl : ∀ e ∈ e0 :: es, isStar e = false) (ha : PA X (e0 :: es) (tL ex W b (evs C rs))) (hn : nm ≠ "__name__") (hdb : (nm == ("__debug__" : Str)) = false) : PE X (.Call (.Name nm p) (e0 :: es) [] pos) (tO ex W b (evO C (.bi bt rs))) :=
  PE.imp (pe_callB hc hg hm hv ha hn hdb (starEach_ns (hpl _ List.mem_cons_self)) (by rw [backTo_any]; exact starEach_plain fun e he => hpl e (List.mem_cons_of_mem _ he))) fun σ H Q h => bi_core hr h
theorem e_biT {bt : Bi} {nm : Str} {id : String} {r : List V → Hp → VK → Prop} {rs : Es} {e0 : Expr} {es : List Expr} (hr : BiOk b bt r) (hc : CallR X (.type id) r) (hg : Gl X nm) (hm : X.mg nm = none) (hv : bootBuiltins nm = some (.type id))
    (hpl : ∀ e ∈ e0 :: es, isStar e = false) (ha : PA X (e0 :: es) (tL ex W b (evs C rs))) (hn : nm ≠ "__name__") (hdb : (nm == ("__debug__" : Str)) = false) : PE X (.Call (.Name nm p) (e0 :: es) [] pos) (tO ex W b (evO C (.bi bt rs))) :=
  PE.imp (pe_callTy hc hg hm hv ha hn hdb (starEach_ns (hpl _ List.mem_cons_self)) (by rw [backTo_any]; exact starEach_plain fun e he => hpl e (List.mem_cons_of_mem _ he))) fun σ H Q h => bi_core hr h

theorem biok_abs : BiOk b .abs (fun xs H Q => ∃ i, xs = [.int i] ∧ Q (.int (if i < 0 then -i else i)) H) := by
  intro ex W σ F ι S H vs us z Q s r h k
  simp only [biF] at h
  split at h <;> cases h
  obtain ⟨u, rfl, l⟩ := r.one
  cases l.int
  exact ⟨_, rfl, k.now s (.int _)⟩
theorem biok_int : BiOk b .int (fun xs H Q => (∃ i, xs = [.int i] ∧ Q (.int i) H) ∨ ∃ k, xs = [.bl k] ∧ Q (.int (if k then 1 else 0)) H) := by
  intro ex W σ F ι S H vs us z Q s r h k
  simp only [biF] at h
  split at h <;> cases h
  · obtain ⟨u, rfl, l⟩ := r.one
    cases l.int
    exact .inl ⟨_, rfl, k.now s (.int _)⟩
  · obtain ⟨u, rfl, l⟩ := r.one
    cases l.bl
    exact .inr ⟨_, rfl, k.now s (.int _)⟩
def rLenA (K : PySem.W.Frag) : List V → Hp → VK → Prop := fun xs H Q => (∃ x n, xs = [x] ∧ LenV K x H n ∧ Q (.int n) H) ∨ (∃ a kvs, xs = [V.ref a] ∧ Rd H a (.dK kvs) ∧ Q (.int kvs.length) H) ∨ ∃ a kvs, xs = [V.ref a] ∧ Rd H a (.dT kvs) ∧ Q (.int kvs.length) H
theorem call_lenA {X : Cx} : CallR X (.builtin "len") (rLenA X.K) := by
  intro pins s σ H xs us Q I r h
  rcases h with h | ⟨a, kvs, rfl, ha, q⟩ | ⟨p, kvs, rfl, hp, q⟩
  · exact call_len pins s σ H xs us Q I r h
  · obtain ⟨u, rfl, ru⟩ := vals1 r
    cases ru
    exact d_len I ha fun t s' I' => ⟨.int kvs.length, H, I', ⟨t, rfl⟩, q⟩
  · obtain ⟨u, rfl, rx⟩ := vals1 r
    obtain rfl : u = .ref p := rx
    obtain ⟨z, hd, ys, rel, dd⟩ := dt_rd I.hok hp
    have hl : kvs.length = ys.length := Paired.length rel
    refine call_len_dictH hd dd (by rw [← hl]; rw [sizeLine_eq] at z; omega) ?_
    rw [← hl]
    exact ⟨.int ((kvs.length : Nat) : Int), H, I.tok _, ⟨_, rfl⟩, q⟩
theorem RVK.length {F : FHp} {ι : List Addr} : ∀ {xs : List (MV × MV)} {vs : List (Key × V)}, RVK F ι xs vs → xs.length = vs.length
  | _, _, .nil => rfl
  | _, _, .cons _ _ r => by rw [List.length_cons, List.length_cons, RVK.length r]
theorem RVT.length {F : FHp} {ι : List Addr} : ∀ {xs : List (MV × MV)} {vs : List (List Key × V)}, RVT F ι xs vs → xs.length = vs.length
  | _, _, .nil => rfl
  | _, _, .cons _ _ r => by rw [List.length_cons, List.length_cons, RVT.length r]
theorem biok_len {K : PySem.W.Frag} : BiOk b .len (rLenA K) := by
  intro ex W σ F ι S H vs us z Q s r h k
  simp only [biF] at h
  split at h
  · cases h
    obtain ⟨u, rfl, l⟩ := r.one
    obtain ⟨a, ws, rfl, h1, h2⟩ := l.lst s
    exact .inl ⟨_, _, rfl, .inl ⟨_, SqL.of h1, h2.length⟩, k.now s (.int _)⟩
  · cases h
    obtain ⟨u, rfl, l⟩ := r.one
    obtain ⟨a, ws, rfl, h1, _, h2⟩ := l.tup s
    exact .inl ⟨_, _, rfl, .inr ⟨_, SqT.of h1, h2.length⟩, k.now s (.int _)⟩
  · cases h
    obtain ⟨u, rfl, l⟩ := r.one
    cases l with | rv r =>
    cases r with
    | dK hf rl =>
      have e := k.now s (.int _)
      rw [rl.length] at e
      exact .inr (.inl ⟨_, _, rfl, .inr ⟨_, s.fh _ _ _ hf⟩, e⟩)
    | dT hf rl =>
      have e := k.now s (.int _)
      rw [rl.length] at e
      exact .inr (.inr ⟨_, _, rfl, .inr ⟨_, s.fh _ _ _ hf⟩, e⟩)
  · split at h
    · cases h
      obtain ⟨u, rfl, l⟩ := r.one
      cases l.str
      exact .inl ⟨_, _, rfl, ⟨by assumption, rfl⟩, k.now s (.int _)⟩
    · cases h
  · cases h
/-- of a tuple of ints -/
def rMaxT (K : PySem.W.Frag) : List V → Hp → VK → Prop := fun vs H Q => ∃ (a : Addr) (ns : List Int), vs = [V.ref a] ∧ SqT K H a (ns.map V.int) ∧ 0 < ns.length ∧ ∀ m, m ∈ ns → (∀ y, y ∈ ns → y ≤ m) → Q (.int m) H
def rMinT (K : PySem.W.Frag) : List V → Hp → VK → Prop := fun vs H Q => ∃ (a : Addr) (ns : List Int), vs = [V.ref a] ∧ SqT K H a (ns.map V.int) ∧ 0 < ns.length ∧ ∀ m, m ∈ ns → (∀ y, y ∈ ns → m ≤ y) → Q (.int m) H
section
variable {prog : Program} {w : World} {A : Around} {E : Value → Shared → Prop} {s : Shared} {l : Addr} {its : List Value} {ns : List Int}
theorem iter_tupI {items : Array Value} {Q : Value → Shared → Prop} (hl : s.heap.IsTuple l items)
    (h : ∀ s₂ : Shared, s₂ = { s with heap := s.heap.push { cls := .type "tuple_iterator", data := .fields #[.ref l, .int 0 0] } } →
      (s₂.heap.IsTupleIter s.heap.objs.size l 0 ∧ s₂.heap.IsTuple l items) → (∀ b ∈ [s.heap.objs.size, l], b < s₂.heap.objs.size) → l ≠ s.heap.objs.size → Q (.ref s.heap.objs.size) s₂) :
    wpAny (model prog w) A (pyIter (.ref l)) Q E s := by
  have hlt : l < s.heap.objs.size := by obtain ⟨_, e, _⟩ := hl; exact Heap.lt_size e
  refine wpAny_pyIter_tuple hl (h _ rfl ⟨⟨_, Heap.get?_push_size _ rfl, rfl, rfl⟩, ?_⟩ (fun b hb => ?_) (Nat.ne_of_lt hlt))
  · obtain ⟨o, e, c⟩ := hl
    exact ⟨o, Heap.get?_push_of_some _ e, c⟩
  · show b < (s.heap.push _).objs.size
    rw [Heap.size_push]
    rcases List.mem_cons.mp hb with rfl | hb
    · exact Nat.lt_succ_self _
    · rcases List.mem_cons.mp hb with rfl | hb
      · exact Nat.lt_succ_of_lt hlt
      · cases hb
theorem old_keptT {h' : Heap} (hk : ∀ b o, b ∉ [s.heap.objs.size] → (s.heap.push { cls := .type "tuple_iterator", data := .fields #[.ref l, .int 0 0] }).get? b = some o → h'.get? b = some o) :
    ∀ b o, s.heap.get? b = some o → h'.get? b = some o := fun b o e => by
  refine hk b o (fun hm => ?_) (Heap.get?_push_of_some _ e)
  rcases List.mem_cons.mp hm with e1 | hm
  · exact absurd (e1 ▸ Heap.lt_size e) (Nat.lt_irrefl _)
  · cases hm
theorem max_tupI {xs : Array (Int × Tok)} {Q : Value → Shared → Prop} (hh : A.handled = none) (hl : s.heap.IsTuple l (intItems xs)) (hne : 0 < xs.size)
    (h : ∀ v h' tk, (intItems xs)[argBest (fun i j => decide (numAt xs i > numAt xs j)) (xs.size - 1)]? = some v → (∀ b o, s.heap.get? b = some o → h'.get? b = some o) → Q v { s with heap := h', toks := tk }) :
    wpAny (model prog w) A (call (.builtin "max") [.ref l]) Q E s := by
  refine call_max_walk (iter_tupI hl fun s₂ e st hfp hlI => ?_)
  subst e
  refine ⟨_, _, _, _, _, _, _, rfl, Walks.tuple (A := A.in1) hh _ l hlI (intItems xs), st, hfp, by simpa [intItems] using hne, CmpOf.ints_gt (numAt xs) (fun _ _ => intItems_at), fun v h' tk hP hk => ?_⟩
  exact h v h' tk (by simpa [intItems] using hP) (old_keptT hk)
theorem min_tupI {xs : Array (Int × Tok)} {Q : Value → Shared → Prop} (hh : A.handled = none) (hl : s.heap.IsTuple l (intItems xs)) (hne : 0 < xs.size)
    (h : ∀ v h' tk, (intItems xs)[argBest (fun i j => decide (numAt xs i < numAt xs j)) (xs.size - 1)]? = some v → (∀ b o, s.heap.get? b = some o → h'.get? b = some o) → Q v { s with heap := h', toks := tk }) :
    wpAny (model prog w) A (call (.builtin "min") [.ref l]) Q E s := by
  refine call_min_walk (iter_tupI hl fun s₂ e st hfp hlI => ?_)
  subst e
  refine ⟨_, _, _, _, _, _, _, rfl, Walks.tuple (A := A.in1) hh _ l hlI (intItems xs), st, hfp, by simpa [intItems] using hne, CmpOf.ints_lt (numAt xs) (fun _ _ => intItems_at), fun v h' tk hP hk => ?_⟩
  exact h v h' tk (by simpa [intItems] using hP) (old_keptT hk)
theorem max_rawT {Q : Value → Shared → Prop} (hh : A.handled = none) (hl : s.heap.IsTuple l its.toArray) (hi : PyProof.Rows.IntsAre its ns) (hne : 0 < ns.length)
    (h : ∀ h' tk M t', (∀ b o, s.heap.get? b = some o → h'.get? b = some o) → M ∈ ns → (∀ a, a ∈ ns → a ≤ M) → Q (.int M t') { s with heap := h', toks := tk }) : wpAny (model prog w) A (call (.builtin "max") [.ref l]) Q E s := by
  obtain ⟨xs, e⟩ := hi.allInts.items
  have hn : PySem.numsOf (intItems xs).toList = ns := by rw [← e]; exact hi.numsOf
  rw [PySem.nums_intItems] at hn
  subst hn
  rw [e] at hl
  have hsz : 0 < xs.size := by simpa using hne
  refine max_tupI hh hl hsz fun v h' tk hv hk => ?_
  obtain ⟨t, rfl⟩ := intItems_at hv
  obtain ⟨h1, h2⟩ := argBest_gt (numAt xs) (xs.size - 1)
  refine h h' tk _ t hk ?_ fun a ha => ?_
  · rw [numAt_eq]; exact PySem.getD_mem (by rw [List.length_map, Array.length_toList]; omega)
  · obtain ⟨j, hj, rfl⟩ := mem_getD ha
    rw [List.length_map, Array.length_toList] at hj
    rw [← numAt_eq]; exact h2 j (by omega)
theorem min_rawT {Q : Value → Shared → Prop} (hh : A.handled = none) (hl : s.heap.IsTuple l its.toArray) (hi : PyProof.Rows.IntsAre its ns) (hne : 0 < ns.length)
    (h : ∀ h' tk M t', (∀ b o, s.heap.get? b = some o → h'.get? b = some o) → M ∈ ns → (∀ a, a ∈ ns → M ≤ a) → Q (.int M t') { s with heap := h', toks := tk }) : wpAny (model prog w) A (call (.builtin "min") [.ref l]) Q E s := by
  obtain ⟨xs, e⟩ := hi.allInts.items
  have hn : PySem.numsOf (intItems xs).toList = ns := by rw [← e]; exact hi.numsOf
  rw [PySem.nums_intItems] at hn
  subst hn
  rw [e] at hl
  have hsz : 0 < xs.size := by simpa using hne
  refine min_tupI hh hl hsz fun v h' tk hv hk => ?_
  obtain ⟨t, rfl⟩ := intItems_at hv
  obtain ⟨h1, h2⟩ := argBest_lt (numAt xs) (xs.size - 1)
  refine h h' tk _ t hk ?_ fun a ha => ?_
  · rw [numAt_eq]; exact PySem.getD_mem (by rw [List.length_map, Array.length_toList]; omega)
  · obtain ⟨j, hj, rfl⟩ := mem_getD ha
    rw [List.length_map, Array.length_toList] at hj
    rw [← numAt_eq]; exact h2 j (by omega)
end
theorem cr_maxT (hc : X.calm = true) : CallR X (.builtin "max") (rMaxT X.K) := by
  intro pins s σ H vs us Q I r h
  obtain ⟨a, ns, rfl, hs, hne, q⟩ := h
  obtain ⟨its, rv, hl, _⟩ := I.tuple hs
  rw [Vals.ref1 r]
  exact max_rawT (I.ok.hd hc) (show s.heap.IsTuple a its.toArray from hl) rv.ints hne fun h' tk m t' hk h1 h2 => ⟨.int _, H, I.kept hk, ⟨_, rfl⟩, q m h1 h2⟩
theorem cr_minT (hc : X.calm = true) : CallR X (.builtin "min") (rMinT X.K) := by
  intro pins s σ H vs us Q I r h
  obtain ⟨a, ns, rfl, hs, hne, q⟩ := h
  obtain ⟨its, rv, hl, _⟩ := I.tuple hs
  rw [Vals.ref1 r]
  exact min_rawT (I.ok.hd hc) (show s.heap.IsTuple a its.toArray from hl) rv.ints hne fun h' tk m t' hk h1 h2 => ⟨.int _, H, I.kept hk, ⟨_, rfl⟩, q m h1 h2⟩
theorem pos_of_max {ns : List Int} {m : Int} (h : maxL ns = some m) : 0 < ns.length := by
  cases ns with
  | nil => cases h
  | cons _ _ => exact Nat.succ_pos _
theorem pos_of_min {ns : List Int} {m : Int} (h : minL ns = some m) : 0 < ns.length := by
  cases ns with
  | nil => cases h
  | cons _ _ => exact Nat.succ_pos _
def rMax3 (K : PySem.W.Frag) : List V → Hp → VK → Prop := fun xs H Q => (∃ i j, xs = [.int i, .int j] ∧ Q (.int (if j > i then j else i)) H) ∨ rMax K xs H Q ∨ rMaxT K xs H Q
def rMin3 (K : PySem.W.Frag) : List V → Hp → VK → Prop := fun xs H Q => (∃ i j, xs = [.int i, .int j] ∧ Q (.int (if j < i then j else i)) H) ∨ rMin K xs H Q ∨ rMinT K xs H Q
theorem cr_max3 (hc : X.calm = true) : CallR X (.builtin "max") (rMax3 X.K) := (call_max2 hc).or ((cr_max hc).or (cr_maxT hc))
theorem cr_min3 (hc : X.calm = true) : CallR X (.builtin "min") (rMin3 X.K) := (call_min2 hc).or ((cr_min hc).or (cr_minT hc))
theorem biok_max {K : PySem.W.Frag} : BiOk b .max (rMax3 K) := by
  intro ex W σ F ι S H vs us z Q s r h k
  simp only [biF] at h
  split at h
  · cases h
    obtain ⟨u, t, rfl, l1, l2⟩ := r.two
    cases l1.int
    cases l2.int
    exact .inl ⟨_, _, rfl, k.now s (.int _)⟩
  · rename_i c xs
    cases ei : allInts xs with
    | none => rw [ei] at h; cases h
    | some ns =>
      rw [ei] at h
      obtain ⟨m, em, rfl⟩ := Option.map_eq_some_iff.mp h
      obtain ⟨u, rfl, l⟩ := r.one
      obtain ⟨a, ws, rfl, h1, h2⟩ := l.lst s
      rw [rvl_ints ei h2] at h1
      exact .inr (.inl ⟨_, ns, rfl, SqL.of h1, pos_of_max em, fun m' q1 q2 => by rw [maxL_is q1 q2 em]; exact k.now s (.int _)⟩)
  · rename_i xs
    cases ei : allInts xs with
    | none => rw [ei] at h; cases h
    | some ns =>
      rw [ei] at h
      obtain ⟨m, em, rfl⟩ := Option.map_eq_some_iff.mp h
      obtain ⟨u, rfl, l⟩ := r.one
      obtain ⟨a, ws, rfl, h1, _, h2⟩ := l.tup s
      rw [rvl_ints ei h2] at h1
      exact .inr (.inr ⟨_, ns, rfl, SqT.of h1, pos_of_max em, fun m' q1 q2 => by rw [maxL_is q1 q2 em]; exact k.now s (.int _)⟩)
  · cases h
theorem biok_min {K : PySem.W.Frag} : BiOk b .min (rMin3 K) := by
  intro ex W σ F ι S H vs us z Q s r h k
  simp only [biF] at h
  split at h
  · cases h
    obtain ⟨u, t, rfl, l1, l2⟩ := r.two
    cases l1.int
    cases l2.int
    exact .inl ⟨_, _, rfl, k.now s (.int _)⟩
  · rename_i c xs
    cases ei : allInts xs with
    | none => rw [ei] at h; cases h
    | some ns =>
      rw [ei] at h
      obtain ⟨m, em, rfl⟩ := Option.map_eq_some_iff.mp h
      obtain ⟨u, rfl, l⟩ := r.one
      obtain ⟨a, ws, rfl, h1, h2⟩ := l.lst s
      rw [rvl_ints ei h2] at h1
      exact .inr (.inl ⟨_, ns, rfl, SqL.of h1, pos_of_min em, fun m' q1 q2 => by rw [minL_is q1 q2 em]; exact k.now s (.int _)⟩)
  · rename_i xs
    cases ei : allInts xs with
    | none => rw [ei] at h; cases h
    | some ns =>
      rw [ei] at h
      obtain ⟨m, em, rfl⟩ := Option.map_eq_some_iff.mp h
      obtain ⟨u, rfl, l⟩ := r.one
      obtain ⟨a, ws, rfl, h1, _, h2⟩ := l.tup s
      rw [rvl_ints ei h2] at h1
      exact .inr (.inr ⟨_, ns, rfl, SqT.of h1, pos_of_min em, fun m' q1 q2 => by rw [minL_is q1 q2 em]; exact k.now s (.int _)⟩)
  · cases h
theorem biok_sum {K : PySem.W.Frag} : BiOk b .sum (rSum K) := by
  intro ex W σ F ι S H vs us z Q s r h k
  simp only [biF] at h
  split at h
  · rename_i c xs
    cases ei : allInts xs with
    | none => rw [ei] at h; cases h
    | some ns =>
      rw [ei] at h
      cases h
      obtain ⟨u, rfl, l⟩ := r.one
      obtain ⟨a, ws, rfl, h1, h2⟩ := l.lst s
      rw [rvl_ints ei h2] at h1
      exact ⟨_, ns, rfl, SqL.of h1, k.now s (.int _)⟩
  · cases h
theorem biok_all {K : PySem.W.Frag} : BiOk b .all (rAll K) := by
  intro ex W σ F ι S H vs us z Q s r h k
  simp only [biF] at h
  split at h
  · rename_i c xs
    cases ei : allBls xs with
    | none => rw [ei] at h; cases h
    | some ns =>
      rw [ei] at h
      cases h
      obtain ⟨u, rfl, l⟩ := r.one
      obtain ⟨a, ws, rfl, h1, h2⟩ := l.lst s
      rw [rvl_bools ei h2] at h1
      exact ⟨_, ns, rfl, SqL.of h1, k.now s (.bl _)⟩
  · cases h
theorem biok_any {K : PySem.W.Frag} : BiOk b .any (rAny K) := by
  intro ex W σ F ι S H vs us z Q s r h k
  simp only [biF] at h
  split at h
  · rename_i c xs
    cases ei : allBls xs with
    | none => rw [ei] at h; cases h
    | some ns =>
      rw [ei] at h
      cases h
      obtain ⟨u, rfl, l⟩ := r.one
      obtain ⟨a, ws, rfl, h1, h2⟩ := l.lst s
      rw [rvl_bools ei h2] at h1
      exact ⟨_, ns, rfl, SqL.of h1, k.now s (.bl _)⟩
  · cases h
def rListA (K : PySem.W.Frag) : List V → Hp → VK → Prop := fun xs H Q => ∃ p ys, xs = [.ref p] ∧ (SqL K H p ys ∨ SqT K H p ys) ∧ ∀ l, H l = none → Q (.ref l) (upd H l (.lst ys))
theorem biok_list {K : PySem.W.Frag} : BiOk b .list (rListA K) := by
  intro ex W σ F ι S H vs us z Q s r h k
  simp only [biF] at h
  split at h <;> cases h
  · obtain ⟨u, rfl, l⟩ := r.one
    obtain ⟨a, ws, rfl, h1, h2⟩ := l.lst s
    exact ⟨_, _, rfl, .inl (SqL.of h1), fun p hp => k.newL s hp h2⟩
  · obtain ⟨u, rfl, l⟩ := r.one
    obtain ⟨a, ws, rfl, h1, _, h2⟩ := l.tup s
    exact ⟨_, _, rfl, .inr (SqT.of h1), fun p hp => k.newL s hp h2⟩
  · obtain ⟨u, rfl, l⟩ := r.one
    cases l with | rv r =>
    cases r with | scr h1 h2 =>
    exact ⟨_, _, rfl, .inl (.inl (.inr ⟨_, s.fh _ _ _ h1⟩)), fun p hp => k.newL s hp h2⟩
def rTupleA (K : PySem.W.Frag) : List V → Hp → VK → Prop := fun xs H Q => ∃ p ys, xs = [.ref p] ∧ ((SqL K H p ys ∧ ∀ l, H l = none → Q (.ref l) (upd H l (.tup ys))) ∨ (SqT K H p ys ∧ Q (.ref p) H))
theorem biok_tuple {K : PySem.W.Frag} (hb : 0 < b) : BiOk b .tuple (rTupleA K) := by
  intro ex W σ F ι S H vs us z Q s r h k
  simp only [biF] at h
  split at h <;> cases h
  · obtain ⟨u, rfl, l⟩ := r.one
    obtain ⟨a, ws, rfl, h1, h2⟩ := l.lst s
    exact ⟨_, _, rfl, .inl ⟨SqL.of h1, fun p hp => k.newT hb s hp h2⟩⟩
  · obtain ⟨u, rfl, l⟩ := r.one
    obtain ⟨a, ws, rfl, h1, h3, h2⟩ := l.tup s
    exact ⟨_, _, rfl, .inr ⟨SqT.of h1, k.now s (.tup h3 h2)⟩⟩
end
end Mv

end
section
set_option Elab.async false
set_option linter.all false
set_option autoImplicit false
set_option maxRecDepth 100000
namespace Mv
open PySem PySem.Spec L2
variable [Tbs]

def tyName : Ty → String
  | .int => "int" | .bool => "bool" | .str => "str" | .list => "list" | .tuple => "tuple" | .dict => "dict"
section
variable {X : Cx} {ex : ExT} {W : WX} {C : Cfg} {a a' a2 : Expr} {m m' m2 : ME} {pos p : Pos} {b : Nat}
theorem ty_rv {K : PySem.W.Frag} {F : FHp} {ι : List Addr} {S : Store} {H : Hp} {v : MV} {u : V} {c : Ty} {t : Bool} (s : Sim b F ι S H) (r : RV F ι v u) (h : isTy v c = some t) : ∃ tn : Value, TyX K H u tn ∧ ∀ (c : Ty) (t : Bool), isTy v c = some t → PySem.W.kitOne K tn (.type (tyName c)) = some t := by
  cases r with
  | non => exact ⟨_, .base .non, fun c t h => by cases h; cases c <;> exact kit_ty (by decide +kernel)⟩
  | bl b => exact ⟨_, .base (.bl b), fun c t h => by cases h; cases c <;> exact kit_ty (by decide +kernel)⟩
  | int i => exact ⟨_, .base (.int i), fun c t h => by cases h; cases c <;> exact kit_ty (by decide +kernel)⟩
  | str i => exact ⟨_, .base (.str i), fun c t h => by cases h; cases c <;> exact kit_ty (by decide +kernel)⟩
  | lst hf _ => exact ⟨_, .base (.lst (s.fh _ _ _ hf)), fun c t h => by cases h; cases c <;> exact kit_ty (by decide +kernel)⟩
  | tup hf _ => exact ⟨_, .base (.tup (s.fh _ _ _ hf)), fun c t h => by cases h; cases c <;> exact kit_ty (by decide +kernel)⟩
  | dK hf _ => exact ⟨_, .fDict (s.fh _ _ _ hf), fun c t h => by cases h; cases c <;> exact kit_ty (by decide +kernel)⟩
  | dT hf _ => cases h
  | ptr _ => cases h
  | scr _ _ => cases h
theorem isAny_some {v : MV} : ∀ {cs : List Ty} {t : Bool}, isAny v cs = some t → cs ≠ [] → ∃ c t', isTy v c = some t'
  | [], _, _, h => absurd rfl h
  | c :: cs, t, h, _ => by
    have h' : (match isTy v c, isAny v cs with
      | some a, some b => some (a || b)
      | _, _ => none) = some t := h
    cases e : isTy v c with
    | none => rw [e] at h'; cases h'
    | some t' => exact ⟨c, t', e⟩
theorem kitAny_of {K : PySem.W.Frag} {v : MV} {tn : Value} (hk : ∀ (c : Ty) (t : Bool), isTy v c = some t → PySem.W.kitOne K tn (.type (tyName c)) = some t) : ∀ {cs : List Ty} {t : Bool}, isAny v cs = some t → PySem.W.kitAny K tn (cs.map fun c => Value.type (tyName c)) = some t
  | [], t, h => h
  | c :: cs, t, h => by
    have h' : (match isTy v c, isAny v cs with
      | some a, some b => some (a || b)
      | _, _ => none) = some t := h
    cases e1 : isTy v c with
    | none => rw [e1] at h'; cases h'
    | some t1 =>
      cases e2 : isAny v cs with
      | none => rw [e1, e2] at h'; cases h'
      | some t2 =>
        rw [e1, e2] at h'
        have e : (t1 || t2) = t := Option.some.inj h'
        refine kitAny_cons (hk c t1 e1) (fun q => ?_) (fun q => ?_)
        · subst q
          rw [← e, Bool.false_or]
          exact kitAny_of hk e2
        · subst q
          rw [← e]
          rfl
/-- the names of built-in classes as values -/
inductive TysOk (X : Cx) : List Ty → List Expr → Prop
  | nil : TysOk X [] []
  | cons {c : Ty} {p : Pos} {cs : List Ty} {es : List Expr} : Gl X (tyName c) → X.mg (tyName c) = none → TysOk X cs es → TysOk X (c :: cs) (.Name (tyName c) p :: es)
theorem pe_ty {c : Ty} (hg : Gl X (tyName c)) (hm : X.mg (tyName c) = none) : PE X (.Name (tyName c) p) (tC (.ty (tyName c))) := by
  cases c
  all_goals exact pe_bltn hg hm (by decide +kernel) rfl
def tTys (cs : List Ty) : TA := fun σ H Q => Q (cs.map fun c => V.ty (tyName c)) H
theorem pa_tys : ∀ {cs : List Ty} {es : List Expr}, TysOk X cs es → PA X es (tTys cs)
  | _, _, .nil => PA.imp pa_nil fun σ H Q h => h
  | _, _, .cons (cs := cs) hg hm t => PA.imp (pa_cons (pe_ty hg hm) (pa_tys t) rfl) fun σ H Q h => h
theorem clsv : ∀ cs : List Ty, Paired ClsV (cs.map fun c => V.ty (tyName c)) (cs.map fun c => Value.type (tyName c))
  | [] => .nil
  | c :: cs => .cons (.ty _) (clsv cs)
theorem e_isi1 {c : Ty} {ea : Expr} {p1 p2 : Pos} (hg : Gl X "isinstance") (hm : X.mg "isinstance" = none) (hgc : Gl X (tyName c)) (hmc : X.mg (tyName c) = none) (hs : isStar a = false) (ha : PE X a (tV ex W b (ev C m))) :
    PE X (.Call (.Name "isinstance" p) [a, .Name (tyName c) p1] [] pos) (tO ex W b (evO C (.isi m false [c]))) := by
  refine PE.imp (pe_callB call_isi hg hm (by decide +kernel) (pa_cons ha (pa_cons (pe_ty hgc hmc) pa_nil rfl) (starEach_ns hs)) (by decide) (by decide) (starEach_ns hs) rfl) fun σ H Q h => ?_
  refine one (f := fun x S1 => lift ((isAny x [c]).map fun b => OV.val (.bl b)) S1) h fun F ι S H2 x u out s ru q k => ?_
  obtain ⟨z, e, rfl⟩ := lift_some q
  obtain ⟨t, e1, rfl⟩ := Option.map_eq_some_iff.mp e
  obtain ⟨c0, t0, e0⟩ := isAny_some e1 (by simp)
  obtain ⟨tn, h1, h2⟩ := ty_rv (K := X.K) s ru e0
  have e1' : (match isTy x c, (some false : Option Bool) with
      | some a, some b => some (a || b)
      | _, _ => none) = some t := e1
  cases ec : isTy x c with
  | none => rw [ec] at e1'; cases e1'
  | some t1 =>
    rw [ec] at e1'
    have et : (t1 || false) = t := Option.some.inj e1'
    rw [Bool.or_false] at et
    subst et
    exact ⟨u, .ty (tyName c), tn, .type (tyName c), t1, rfl, .ty _, h1, h2 c t1 ec, k.now s (.bl _)⟩
theorem e_isiT {cs : List Ty} {es : List Expr} {x1 : Nat} {p2 : Pos} (hg : Gl X "isinstance") (hm : X.mg "isinstance" = none) (ht : TysOk X cs es) (hne : cs ≠ []) (hl : cs.length ≤ sizeLine) (hs : isStar a = false) (ha : PE X a (tV ex W b (ev C m))) :
    PE X (.Call (.Name "isinstance" p) [a, .Tuple es x1 p2] [] pos) (tO ex W b (evO C (.isi m true cs))) := by
  refine PE.imp (pe_callB call_isiT hg hm (by decide +kernel) (pa_cons ha (pa_cons (pe_tup (pa_tys ht)) pa_nil rfl) (starEach_ns hs)) (by decide) (by decide) (starEach_ns hs) rfl) fun σ H Q h => ?_
  refine one (f := fun x S1 => lift ((isAny x cs).map fun b => OV.val (.bl b)) S1) h fun F ι S H2 x u out s ru q k => ?_
  obtain ⟨z, e, rfl⟩ := lift_some q
  obtain ⟨t, e1, rfl⟩ := Option.map_eq_some_iff.mp e
  obtain ⟨c0, t0, e0⟩ := isAny_some e1 hne
  refine ⟨by rw [List.length_map]; exact hl, fun tp hp => ?_⟩
  have s2 : Sim b F ι S (upd H2 tp (.tup (cs.map fun c => V.ty (tyName c)))) := s.new hp
  obtain ⟨tn, h1, h2⟩ := ty_rv (K := X.K) s2 ru e0
  exact ⟨u, tp, _, tn, _, t, rfl, upd_same, clsv cs, h1, kitAny_of h2 e1, (Kt.tr k (Tr.new s hp)).now s2 (.bl _)⟩

theorem rvk_get {F : FHp} {ι : List Addr} {q : Key} : ∀ {kvs : List (MV × MV)} {vs : List (Key × V)}, RVK F ι kvs vs → ∀ {x : MV}, dget kvs (.inl q) = some x → ∃ y, valV vs q = some y ∧ RV F ι x y
  | _, _, .nil, x, h => by cases h
  | _, _, .cons (k := k) (x := x0) (q := q0) (v := v0) (r := r) (s := s) hk hx t, x, h => by
    unfold dget at h
    rw [List.find?_cons] at h
    have dk : dkey k = some (.inl q0) := by
      cases k <;> first | (cases hk; rfl) | cases hk
    by_cases e : q0 = q
    · subst e
      have hd : decide (dkey k = some (.inl q0)) = true := decide_eq_true dk
      simp only [hd] at h
      have h' : x0 = x := Option.some.inj h
      subst h'
      exact ⟨v0, by simp [valV, List.find?_cons], hx⟩
    · have hd : decide (dkey k = some (.inl q)) = false := decide_eq_false (by rw [dk]; intro z; cases z; exact e rfl)
      simp only [hd] at h
      obtain ⟨y, h1, h2⟩ := rvk_get t (x := x) h
      refine ⟨y, ?_, h2⟩
      unfold valV at h1 ⊢
      rw [List.find?_cons]
      simp only [decide_eq_false e]
      exact h1
theorem rvt_get {F : FHp} {ι : List Addr} {q : List Key} : ∀ {kvs : List (MV × MV)} {vs : List (List Key × V)}, RVT F ι kvs vs → ∀ {x : MV}, dget kvs (.inr q) = some x → ∃ y, valV vs q = some y ∧ RV F ι x y
  | _, _, .nil, x, h => by cases h
  | _, _, .cons (ks := ks) (x := x0) (q := q0) (v := v0) (r := r) (s := s) hk hx t, x, h => by
    unfold dget at h
    rw [List.find?_cons] at h
    have dk : dkey (.tup ks) = some (.inr q0) := by
      show (keysOf ks).map Sum.inr = _
      rw [hk]
      rfl
    by_cases e : q0 = q
    · subst e
      have hd : decide (dkey (.tup ks) = some (.inr q0)) = true := decide_eq_true dk
      simp only [hd] at h
      have h' : x0 = x := Option.some.inj h
      subst h'
      exact ⟨v0, by simp [valV, List.find?_cons], hx⟩
    · have hd : decide (dkey (.tup ks) = some (.inr q)) = false := decide_eq_false (by rw [dk]; intro z; cases z; exact e rfl)
      simp only [hd] at h
      obtain ⟨y, h1, h2⟩ := rvt_get t (x := x) h
      refine ⟨y, ?_, h2⟩
      unfold valV at h1 ⊢
      rw [List.find?_cons]
      simp only [decide_eq_false e]
      exact h1
theorem rv_keys {F : FHp} {ι : List Addr} : ∀ {xs : List MV} {vs : List V} {ks : List Key}, keysOf xs = some ks → RVL F ι xs vs → vs = ks.map kV
  | [], _, _, h, .nil => by cases (Option.some.inj h); rfl
  | x :: xs, _, _, h, .cons r t => by
    have h' : (match keyOf x, keysOf xs with
      | some k, some ks => some (k :: ks)
      | _, _ => none) = some _ := h
    cases e1 : keyOf x with
    | none => rw [e1] at h'; cases h'
    | some k =>
      cases e2 : keysOf xs with
      | none => rw [e1, e2] at h'; cases h'
      | some ks =>
        rw [e1, e2] at h'
        cases h'
        rw [rv_keys e2 t]
        cases x <;> first | (cases e1; cases r; rfl) | cases e1
theorem dget_none {q : Key} {F : FHp} {ι : List Addr} : ∀ {kvs : List (MV × MV)} {vs : List (Key × V)}, RVK F ι kvs vs → dget kvs (.inl q) = none → valV vs q = none
  | _, _, .nil, _ => rfl
  | _, _, .cons (k := k) (x := x0) (q := q0) (v := v0) (r := r) (s := s) hk hx t, h => by
    unfold dget at h
    rw [List.find?_cons] at h
    have dk : dkey k = some (.inl q0) := by
      cases k <;> first | (cases hk; rfl) | cases hk
    by_cases e : q0 = q
    · subst e
      have hd : decide (dkey k = some (.inl q0)) = true := decide_eq_true dk
      simp only [hd] at h
      cases h
    · have hd : decide (dkey k = some (.inl q)) = false := decide_eq_false (by rw [dk]; intro z; cases z; exact e rfl)
      simp only [hd] at h
      have h1 := dget_none t h
      unfold valV at h1 ⊢
      rw [List.find?_cons]
      simp only [decide_eq_false e]
      exact h1
theorem dget_noneT {q : List Key} {F : FHp} {ι : List Addr} : ∀ {kvs : List (MV × MV)} {vs : List (List Key × V)}, RVT F ι kvs vs → dget kvs (.inr q) = none → valV vs q = none
  | _, _, .nil, _ => rfl
  | _, _, .cons (ks := ks) (x := x0) (q := q0) (v := v0) (r := r) (s := s) hk hx t, h => by
    unfold dget at h
    rw [List.find?_cons] at h
    have dk : dkey (.tup ks) = some (.inr q0) := by
      show (keysOf ks).map Sum.inr = _
      rw [hk]
      rfl
    by_cases e : q0 = q
    · subst e
      have hd : decide (dkey (.tup ks) = some (.inr q0)) = true := decide_eq_true dk
      simp only [hd] at h
      cases h
    · have hd : decide (dkey (.tup ks) = some (.inr q)) = false := decide_eq_false (by rw [dk]; intro z; cases z; exact e rfl)
      simp only [hd] at h
      have h1 := dget_noneT t h
      unfold valV at h1 ⊢
      rw [List.find?_cons]
      simp only [decide_eq_false e]
      exact h1
/-- a key's value -/
theorem key_rv {F : FHp} {ι : List Addr} {S : Store} {H : Hp} {k : MV} {w : V} {q : Key ⊕ List Key} (s : Sim b F ι S H) (r : RV F ι k w) (hq : dkey k = some q) : (∃ q', q = .inl q' ∧ w = kV q' ∧ keyOf k = some q') ∨ ∃ ks q' p, q = .inr q' ∧ k = .tup ks ∧ keysOf ks = some q' ∧ w = .ref p ∧ H p = some (.tup (q'.map kV)) := by
  cases r with
  | int i => cases (Option.some.inj hq); exact .inl ⟨_, rfl, rfl, rfl⟩
  | str i => cases (Option.some.inj hq); exact .inl ⟨_, rfl, rfl, rfl⟩
  | tup h r =>
    obtain ⟨q', e1, rfl⟩ := Option.map_eq_some_iff.mp (show (keysOf _).map Sum.inr = some q from hq)
    have e2 := rv_keys e1 r
    subst e2
    exact .inr ⟨_, q', _, rfl, rfl, e1, rfl, s.fh _ _ _ h⟩
  | _ => cases hq
/-- what the dict gives for a key -/
theorem dget_rv {F : FHp} {ι : List Addr} {S : Store} {H : Hp} {c : Nat} {tk : Bool} {kvs : List (MV × MV)} {u w : V} {k : MV} {q : Key ⊕ List Key} (s : Sim b F ι S H) (r : RV F ι (.dct c tk kvs) u) (rk : RV F ι k w) (hq : dkey k = some q) (hs : kindOk tk q = true) :
    ∃ a, u = .ref a ∧ ((∃ x, dget kvs q = some x ∧ ∃ y, DGet H a w (some y) ∧ RV F ι x y) ∨ (dget kvs q = none ∧ DGet H a w none)) := by
  rcases key_rv s rk hq with ⟨q', rfl, rfl, _⟩ | ⟨ks, q', p, rfl, rfl, e1, rfl, hp⟩
  · cases r with
    | dK hf rl =>
      refine ⟨_, rfl, ?_⟩
      cases e : dget kvs (.inl q') with
      | some x =>
        obtain ⟨y, h1, h2⟩ := rvk_get rl e
        refine .inl ⟨x, rfl, y, ?_, h2⟩
        rw [← h1]
        exact .inl ⟨_, _, .inr ⟨_, s.fh _ _ _ hf⟩, rfl, rfl⟩
      | none =>
        refine .inr ⟨rfl, ?_⟩
        rw [← dget_none rl e]
        exact .inl ⟨_, _, .inr ⟨_, s.fh _ _ _ hf⟩, rfl, rfl⟩
    | dT _ _ => cases hs
  · cases r with
    | dT hf rl =>
      refine ⟨_, rfl, ?_⟩
      cases e : dget kvs (.inr q') with
      | some x =>
        obtain ⟨y, h1, h2⟩ := rvt_get rl e
        refine .inl ⟨x, rfl, y, ?_, h2⟩
        rw [← h1]
        exact .inr ⟨_, _, _, .inr ⟨_, s.fh _ _ _ hf⟩, rfl, hp, rfl⟩
      | none =>
        refine .inr ⟨rfl, ?_⟩
        rw [← dget_noneT rl e]
        exact .inr ⟨_, _, _, .inr ⟨_, s.fh _ _ _ hf⟩, rfl, hp, rfl⟩
    | dK _ _ => cases hs
end
end Mv

end
section
set_option Elab.async false
set_option linter.all false
set_option autoImplicit false
set_option maxRecDepth 100000
namespace Mv
open PySem PySem.Spec L2
variable [Tbs]

theorem ixN_lt {n : Nat} {i : Int} {j : Nat} (h : ixN n i = some j) : j < n := (ixN_seq h).2.1
theorem atI_rv {F : FHp} {ι : List Addr} {xs : List MV} {vs : List V} {i : Int} {v : MV} (r : RVL F ι xs vs) (h : atI xs i = some v) : ∃ x, atI vs i = some x ∧ RV F ι v x := by
  unfold atI at h ⊢
  rw [r.length] at h
  cases e : ixN vs.length i with
  | none => rw [e] at h; cases h
  | some j =>
    rw [e] at h
    obtain ⟨x, h1, h2⟩ := r.get (i := j) (x := v) h
    exact ⟨x, h1, h2⟩

section
variable {b : Nat} {F : FHp} {ι : List Addr} {S : Store} {H : Hp}
/-- a cell's content is changed -/
theorem Sim.setCell (s : Sim b F ι S H) {n : Nat} {xs : List MV} {a : Addr} {ys : List MV} {ws : List V} (hc : S[n]? = some (.lst xs)) (ha : ι[n]? = some a) (r : RVL F ι ys ws) (hy : colsLtL 1 ys = true) :
    Sim b F ι (S.set n (.lst ys)) (upd H a (.lst ws)) := by
  obtain ⟨a', vs, e1, e2, e3, e4, e5⟩ := s.cell n xs hc
  rw [ha] at e1
  cases e1
  have hn : n < S.length := (List.getElem?_eq_some_iff.mp hc).1
  have live : ∀ {m : Nat}, liveC (S.set n (Cell.lst ys)) m → liveC S m := fun {m} ⟨zs, hz⟩ => by
    by_cases e : m = n
    · subst e; exact ⟨xs, hc⟩
    · rw [List.getElem?_set_ne (Ne.symm e)] at hz
      exact ⟨zs, hz⟩
  refine ⟨fun a' c o e => ?_, s.fc, by rw [List.length_set]; exact s.len, fun m zs hz => ?_, fun m k a' l1 l2 => s.apart m k a' (live l1) (live l2), s.pl, tabs_upd s.tabs e2 rfl⟩
  · have ne : a' ≠ a := fun z => by rw [z, e3] at e; cases e
    rw [upd_ne ne]
    exact s.fh a' c o e
  · by_cases e : m = n
    · subst e
      rw [List.getElem?_set_self hn] at hz
      cases hz
      exact ⟨a, ws, ha, upd_same, e3, r, hy⟩
    · rw [List.getElem?_set_ne (Ne.symm e)] at hz
      obtain ⟨a2, vs2, f1, f2, f3, f4, f5⟩ := s.cell m zs hz
      have ne : a2 ≠ a := fun z => e (s.apart m n a ⟨zs, hz⟩ ⟨xs, hc⟩ (by rw [f1, z]) ha)
      exact ⟨a2, vs2, f1, by rw [upd_ne ne]; exact f2, f3, f4, f5⟩
theorem Tr.setCell (s : Sim b F ι S H) {n : Nat} {xs : List MV} {a : Addr} {ys : List MV} {ws : List V} (hc : S[n]? = some (.lst xs)) (ha : ι[n]? = some a) : Tr b F ι S H F ι (S.set n (.lst ys)) (upd H a (.lst ws)) := by
  have live : ∀ {m : Nat}, liveC (S.set n (Cell.lst ys)) m → liveC S m := fun {m} ⟨zs, hz⟩ => by
    by_cases e : m = n
    · subst e; exact ⟨xs, hc⟩
    · rw [List.getElem?_set_ne (Ne.symm e)] at hz
      exact ⟨zs, hz⟩
  refine ⟨fun _ _ _ h _ => h, ⟨[], by simp⟩, fun a' h => ?_, fun a' h => ?_⟩
  · have ne : a' ≠ a := fun z => h.2.2 n ⟨xs, hc⟩ (by rw [ha, z])
    refine ⟨upd_ne ne, ?_, h.2.1, fun m l => h.2.2 m (live l)⟩
    rw [upd_ne ne]
    exact h.1
  · by_cases e : a' = a
    · subst e
      rw [upd_same]
      exact nt_of rfl fun _ z => nomatch z
    · rw [upd_ne e]
      exact h
/-- a new cell -/
theorem Sim.newCell (s : Sim b F ι S H) {p : Addr} {xs : List MV} {vs : List V} (h : H p = some (.lst vs)) (hF : F p = none) (hn : ∀ n, liveC S n → ι[n]? ≠ some p) (r : RVL F ι xs vs) (hx : colsLtL 1 xs = true) :
    Sim b F (ι ++ [p]) (S ++ [.lst xs]) H := by
  have hl := s.len
  have atn : ∀ {m : Nat} {a : Addr}, (ι ++ [p])[m]? = some a → m < S.length → ι[m]? = some a := fun {m a} e hm => by
    rw [List.getElem?_append_left (by omega)] at e
    exact e
  have liveL : ∀ {m : Nat}, liveC (S ++ [Cell.lst xs]) m → m < S.length → liveC S m := fun {m} ⟨zs, hz⟩ hm => ⟨zs, by rw [List.getElem?_append_left hm] at hz; exact hz⟩
  have liveR : ∀ {m : Nat}, liveC (S ++ [Cell.lst xs]) m → ¬ m < S.length → m = S.length := fun {m} ⟨zs, hz⟩ hm => by
    have := (List.getElem?_eq_some_iff.mp hz).1
    rw [List.length_append] at this
    simp at this
    omega
  have atp : (ι ++ [p])[S.length]? = some p := by
    rw [List.getElem?_append_right (by omega), ← hl]
    simp
  refine ⟨s.fh, s.fc, by rw [List.length_append, List.length_append, hl]; rfl, fun m zs hz => ?_, fun m k a l1 l2 e1 e2 => ?_, s.pl, s.tabs⟩
  · by_cases hm : m < S.length
    · rw [List.getElem?_append_left hm] at hz
      obtain ⟨a2, vs2, f1, f2, f3, f4, f5⟩ := s.cell m zs hz
      exact ⟨a2, vs2, by rw [List.getElem?_append_left (by omega)]; exact f1, f2, f3, f4.mono (fun _ _ q => q) ⟨[p], rfl⟩, f5⟩
    · have := liveR ⟨zs, hz⟩ hm
      subst this
      rw [List.getElem?_append_right (Nat.le_refl _)] at hz
      simp at hz
      cases hz
      exact ⟨p, vs, atp, h, hF, r.mono (fun _ _ q => q) ⟨[p], rfl⟩, hx⟩
  · by_cases hm : m < S.length
    · by_cases hk : k < S.length
      · exact s.apart m k a (liveL l1 hm) (liveL l2 hk) (atn e1 hm) (atn e2 hk)
      · have := liveR l2 hk
        subst this
        rw [atp] at e2
        cases e2
        exact absurd (atn e1 hm) (hn m (liveL l1 hm))
    · have q1 := liveR l1 hm
      by_cases hk : k < S.length
      · subst q1
        rw [atp] at e1
        cases e1
        exact absurd (atn e2 hk) (hn k (liveL l2 hk))
      · rw [q1, liveR l2 hk]
theorem Tr.newCell {F0 : FHp} {ι0 : List Addr} {S0 : Store} {H0 : Hp} (t : Tr b F0 ι0 S0 H0 F ι S H) (s : Sim b F ι S H) {p : Addr} {xs : List MV} (h0 : ¬ NT (H0 p)) : Tr b F0 ι0 S0 H0 F (ι ++ [p]) (S ++ [.lst xs]) H := by
  refine ⟨t.keep, ?_, fun a q => ?_, t.dom⟩
  · obtain ⟨r, e⟩ := t.ext
    exact ⟨r ++ [p], by rw [e, List.append_assoc]⟩
  · obtain ⟨e, p1, p2, p3⟩ := t.priv a q
    refine ⟨e, p1, p2, fun n ⟨zs, hz⟩ e2 => ?_⟩
    have hl := s.len
    by_cases hn : n < S.length
    · rw [List.getElem?_append_left hn] at hz
      rw [List.getElem?_append_left (by omega)] at e2
      exact p3 n ⟨zs, hz⟩ e2
    · have := (List.getElem?_eq_some_iff.mp hz).1
      rw [List.length_append] at this
      simp at this
      have en : n = ι.length := by omega
      subst en
      rw [List.getElem?_append_right (Nat.le_refl _)] at e2
      simp at e2
      subst e2
      exact h0 q.1
end
theorem colsLtL_set {xs : List MV} {c : Nat} {v : MV} : ∀ {xs : List MV} {i : Nat}, colsLtL c xs = true → colsLt c v = true → colsLtL c (xs.set i v) = true
  | [], _, _, _ => rfl
  | x :: xs, 0, h, hv => by
    simp only [colsLtL, Bool.and_eq_true] at h
    simp [colsLtL, hv, h.2]
  | x :: xs, i + 1, h, hv => by
    simp only [colsLtL, Bool.and_eq_true] at h
    simp only [List.set_cons_succ, colsLtL, Bool.and_eq_true]
    exact ⟨h.1, colsLtL_set (xs := []) h.2 hv⟩
theorem colsLtL_erase {c : Nat} : ∀ {xs : List MV} {i : Nat}, colsLtL c xs = true → colsLtL c (xs.eraseIdx i) = true
  | [], _, _ => rfl
  | x :: xs, 0, h => by
    simp only [colsLtL, Bool.and_eq_true] at h
    exact h.2
  | x :: xs, i + 1, h => by
    simp only [colsLtL, Bool.and_eq_true] at h
    simp only [List.eraseIdx_cons_succ, colsLtL, Bool.and_eq_true]
    exact ⟨h.1, colsLtL_erase h.2⟩
theorem colsLtL_app {c : Nat} {ys : List MV} : ∀ {xs : List MV}, colsLtL c xs = true → colsLtL c ys = true → colsLtL c (xs ++ ys) = true
  | [], _, h => h
  | x :: xs, h, h2 => by
    simp only [colsLtL, Bool.and_eq_true] at h
    simp only [List.cons_append, colsLtL, Bool.and_eq_true]
    exact ⟨h.1, colsLtL_app h.2 h2⟩
theorem colsLtL_last {c : Nat} : ∀ {xs : List MV}, colsLtL c xs = true → colsLtL c xs.dropLast = true
  | [], _ => rfl
  | [_], _ => rfl
  | x :: y :: xs, h => by
    simp only [colsLtL, Bool.and_eq_true] at h
    simp only [List.dropLast_cons₂, colsLtL, Bool.and_eq_true]
    exact ⟨h.1, colsLtL_last (xs := y :: xs) (by simp only [colsLtL, Bool.and_eq_true]; exact h.2)⟩

section
variable {X : Cx} {ex : ExT} {W : WX} {C : Cfg} {a a' a2 : Expr} {m m' m2 : ME} {pos p : Pos} {b : Nat}
def rIxD : R2 := fun x y H Q => ∃ a v, x = .ref a ∧ DGet H a y (some v) ∧ Q v H
theorem ix_dict (hu : X.A.units + 1 < cLine) : IxR X rIxD := by
  intro value slice pins s σ H x y v u Q I rx ry h hs
  obtain ⟨a, z, rfl, g, q⟩ := h
  cases rx
  exact PyProof.Rows.tail_any (dict_typeIs I g) PySem.F.slot_dict_getitem.lookup (d_getItem hu I g ry fun w' s' I' rw' => ⟨z, H, I', rw', q⟩) hs
def rIx3 (K : PySem.W.Frag) : R2 := fun x y H Q => rIxL K x y H Q ∨ rIxT K x y H Q ∨ rIxD x y H Q
theorem ix_3 (hu : X.A.units + 1 < cLine) : IxR X (rIx3 X.K) := ix_list.or (ix_tup.or (ix_dict hu))
def isSlice : Expr → Bool
  | .Slice _ _ _ _ => true
  | _ => false
theorem plainIx_of {e : Expr} (h : isSlice e = false) : PlainIx e := by
  cases e <;> first | exact fun _ _ => rfl | (simp [isSlice] at h)
theorem e_item {i : Expr} {mi : ME} (hu : X.A.units + 1 < cLine) (hi : isSlice i = false) (ha : PE X a (tV ex W b (ev C m))) (ha' : PE X i (tV ex W b (ev C mi))) : PE X (.Subscript a i pos) (tO ex W b (evO C (.sub m mi))) := by
  refine PE.imp (pe_ix (ix_3 hu) ha ha' (plainIx_of hi)) fun σ H Q h => ?_
  refine two (f := fun x y S2 => match look S2 x with
    | some x' => lift ((subV x' y).map OV.val) S2
    | none => none) h fun F ι S H2 x y u v out s ru rv q k => ?_
  cases lx : look S x with
  | none => rw [lx] at q; cases q
  | some x' =>
    rw [lx] at q
    obtain ⟨z, e, rfl⟩ := lift_some q
    obtain ⟨t, e1, rfl⟩ := Option.map_eq_some_iff.mp e
    have l := lk_of s ru lx
    unfold subV at e1
    split at e1
    · obtain ⟨a, ws, rfl, h1, h2⟩ := l.lst s
      cases rv
      obtain ⟨w, e2, e3⟩ := atI_rv h2 e1
      exact .inl ⟨a, ws, _, w, rfl, rfl, SqL.of h1, e2, k.now s e3⟩
    · obtain ⟨a, ws, rfl, h1, _, h2⟩ := l.tup s
      cases rv
      obtain ⟨w, e2, e3⟩ := atI_rv h2 e1
      exact .inr (.inl ⟨a, ws, _, w, rfl, rfl, SqT.of h1, e2, k.now s e3⟩)
    · cases l with | rv r =>
      cases hd : dkey y with
      | none => rw [hd] at e1; cases e1
      | some d =>
        rw [hd] at e1
        rename_i _ _ c tk kvs
        have e1' : (if kindOk tk d = true then dget kvs d else none) = some t := e1
        by_cases hk : kindOk tk d = true
        · rw [if_pos hk] at e1'
          obtain ⟨a, rfl, ⟨x0, h1, y0, h2, h3⟩ | ⟨h1, _⟩⟩ := dget_rv s r rv hd hk
          · rw [h1] at e1'
            cases e1'
            exact .inr (.inr ⟨a, y0, rfl, h2, k.now s h3⟩)
          · rw [h1] at e1'
            cases e1'
        · rw [if_neg hk] at e1'
          cases e1'
    · cases e1
abbrev tPO (ex : ExT) (W : WX) (b : Nat) (r : Env → Store → R (Option Int)) : TO := tG ex W b (fun _ _ _ _ _ (o : Option Int) (k : Option Int) => o = k) r
instance : RelM (fun (_ : Store) (_ : Hp) (_ : FHp) (_ : List Addr) (_ : Hp) (o : Option Int) (k : Option Int) => o = k) := ⟨fun _ r => r⟩
theorem PO.imp {e : Option Expr} {t t' : TO} (h : PO X e t) (w : ∀ σ H Q, t' σ H Q → t σ H Q) : PO X e t' := ⟨fun pins s σ H Q I q => h.run pins s σ H Q I (w σ H Q q)⟩
/-- a bound of a slice: what M gives and the layer's -/
inductive PoOk (P : ME → Expr → Prop) : Option ME → Option Expr → Prop
  | none : PoOk P none none
  | some {m : ME} {e : Expr} : P m e → PoOk P (some m) (some e)
theorem po_of {mo : Option ME} {eo : Option Expr} (h : PoOk (fun m e => PE X e (tV ex W b (ev C m))) mo eo) : PO X eo (tPO ex W b (evOp C mo)) := by
  cases h with
  | none =>
    refine PO.imp po_none fun σ H Q ⟨env, S, F, ι, out, he, hs, q, k⟩ => ?_
    obtain rfl := ok_some q
    exact k F ι H _ Tr.refl hs rfl
  | some hm =>
    rename_i m0 e0
    refine PO.imp (po_some hm) fun σ H Q ⟨env, S, F, ι, out, he, hs, q, k⟩ => ?_
    have q' : (ev C m0 env S).bind (fun x S1 => match x with
      | .int i => ok (some i) S1
      | _ => none) = some out := q
    rcases bind_some q' with ⟨x, S1, h1, q1⟩ | ⟨c', v, S1, h1, rfl⟩
    · cases x <;> try (cases q1; done)
      obtain rfl := ok_some q1
      refine tG.ok he hs h1 fun F1 ι1 H1 u t1 s1 ru => ?_
      cases ru
      exact ⟨_, rfl, k F1 ι1 H1 _ t1 s1 rfl⟩
    · exact tG.exc he hs h1 k
theorem RVL.cut {F : FHp} {ι : List Addr} {xs : List MV} {vs : List V} (lo hi : Option Int) (r : RVL F ι xs vs) : RVL F ι (Mv.cut xs lo hi) (cutV vs lo hi) := by
  unfold Mv.cut cutV
  rw [r.length]
  exact (r.drop _).take _
theorem cut_whole {xs : List MV} {lo hi : Option Int} (h : HT.sIx xs.length 0 lo = 0 ∧ HT.sIx xs.length xs.length hi = xs.length) : Mv.cut xs lo hi = xs := by
  unfold Mv.cut
  rw [h.1, h.2]
  simp
theorem e_slc {lo hi : Option Expr} {mlo mhi : Option ME} (hb : 0 < b) (ha : PE X a (tV ex W b (ev C m))) (hl : PoOk (fun m e => PE X e (tV ex W b (ev C m))) mlo lo) (hh : PoOk (fun m e => PE X e (tV ex W b (ev C m))) mhi hi) :
    PE X (.Subscript a (.Slice lo hi none p) pos) (tO ex W b (evO C (.slc m mlo mhi))) := by
  refine PE.imp (pe_slice (sl_list.or sl_tupA) ha (po_of hl) (po_of hh)) fun σ H Q ⟨env, S, F, ι, out, he, hs, q, k⟩ => ?_
  have q' : ((ev C m env S).bind fun x S1 => (evOp C mlo env S1).bind fun a S2 => (evOp C mhi env S2).bind fun b S3 => match look S3 x with
    | some x' => lift (slcV x' a b) S3
    | none => none) = some out := q
  rcases bind_some q' with ⟨x, S1, h1, q1⟩ | ⟨c', v, S1, h1, rfl⟩
  rotate_left
  · exact tG.exc he hs h1 k
  refine tG.ok he hs h1 fun F1 ι1 H1 u t1 s1 ru => ?_
  have he1 := he.tr t1 hs
  rcases bind_some q1 with ⟨o1, S2, h2, q2⟩ | ⟨c', v, S2, h2, rfl⟩
  rotate_left
  · exact tG.exc he1 s1 h2 (ExK.tr k t1)
  refine tG.ok he1 s1 h2 fun F2 ι2 H2 lo' t2 s2 e2 => ?_
  obtain rfl := e2
  have he2 := he1.tr t2 s1
  rcases bind_some q2 with ⟨o2, S3, h3, q3⟩ | ⟨c', v, S3, h3, rfl⟩
  rotate_left
  · exact tG.exc he2 s2 h3 (ExK.tr k (t1.trans t2))
  refine tG.ok he2 s2 h3 fun F3 ι3 H3 hi' t3 s3 e3 => ?_
  obtain rfl := e3
  have rx := t3.rv s2 (t2.rv s1 ru)
  have kk := k.tr ((t1.trans t2).trans t3)
  cases lx : look S3 x with
  | none => rw [lx] at q3; cases q3
  | some x' =>
    rw [lx] at q3
    obtain ⟨z, e, rfl⟩ := lift_some q3
    have l := lk_of s3 rx lx
    unfold slcV at e
    split at e
    · cases e
      obtain ⟨a, ws, rfl, h1, h2⟩ := l.lst s3
      exact .inl ⟨a, ws, rfl, SqL.of h1, fun p hp => kk.newL s3 hp (h2.cut _ _)⟩
    · cases e
      obtain ⟨a, ws, rfl, h1, hF, h2⟩ := l.tup s3
      refine .inr ⟨a, ws, rfl, SqT.of h1, fun hw => ?_, fun _ p hp => kk.newT hb s3 hp (h2.cut _ _)⟩
      refine kk.now s3 ?_
      rw [cut_whole (by rw [h2.length]; exact hw)]
      exact .tup hF h2
    · cases e
theorem e_rv {j : Nat} {p1 p2 p3 : Pos} (ha : PE X a (tV ex W b (ev C m))) : PE X (.Subscript a (.Slice none none (some (.UnaryOp .USub (.Constant (.int 1) j p1) p2)) p3) pos) (tO ex W b (evO C (.rv m))) := by
  refine PE.imp (pe_revL ha) fun σ H Q h => ?_
  refine one (f := fun x S1 => match x with
    | .lst _ xs => ok (OV.nl xs.reverse) S1
    | _ => none) h fun F ι S H2 x u out s ru q k => ?_
  cases x <;> try (cases q; done)
  obtain rfl := ok_some q
  cases ru with | lst h1 h2 =>
  exact ⟨_, _, rfl, SqL.ofRV s h1, fun p hp => k.newL s hp h2.reverse⟩
end
end Mv

end
section
set_option Elab.async false
set_option linter.all false
set_option autoImplicit false
set_option maxRecDepth 100000
namespace Mv
open PySem PySem.Spec L2
variable [Tbs]

section
variable {X : Cx} {ex : ExT} {W : WX} {C : Cfg} {a a' a2 : Expr} {m m' m2 : ME} {pos p apos : Pos} {b : Nat}
theorem ints_rv {F : FHp} {ι : List Addr} : ∀ {xs : List MV} {vs : List V} {ns : List Int}, allInts xs = some ns → RVL F ι xs vs → vs = ns.map V.int
  | [], _, _, h, .nil => by cases (Option.some.inj h); rfl
  | x :: xs, _, ns, h, .cons r t => by
    cases x <;> try (cases h; done)
    obtain ⟨ms, e1, rfl⟩ := Option.map_eq_some_iff.mp (show (allInts xs).map _ = some ns from h)
    cases r
    rw [ints_rv e1 t]
    rfl
def rLtA (K : PySem.W.Frag) : R2 := fun x y H Q => rI0 (fun i j => .bl (decide (i < j))) x y H Q ∨ rLtT K x y H Q
theorem cok_lt (hu : X.A.units < cLine) : COk X b .lt (rLtA X.K) := by
  refine ⟨op_lt.or (op_ltT hu), fun F ι S H x y x' y' u v t Q s ru rv lx ly e q => ?_⟩
  simp only [cop] at e
  split at e
  · obtain rfl := look_int lx
    obtain rfl := look_int ly
    cases ru; cases rv
    cases (Option.some.inj e)
    exact .inl ⟨_, _, rfl, rfl, q⟩
  · rename_i xs ys
    obtain rfl := look_tup lx
    obtain rfl := look_tup ly
    cases e1 : allInts xs with
    | none => rw [e1] at e; cases e
    | some ns =>
      cases e2 : allInts ys with
      | none => rw [e1, e2] at e; cases e
      | some ms =>
        rw [e1, e2] at e
        cases (Option.some.inj e)
        cases ru with | tup h1 r1 =>
        cases rv with | tup h2 r2 =>
        have z1 := ints_rv e1 r1
        have z2 := ints_rv e2 r2
        subst z1 z2
        exact .inr ⟨_, _, ns, ms, rfl, rfl, SqT.ofRV s h1, SqT.ofRV s h2, q⟩
  · cases e
/-- in a dict -/
def rInDi (neg : Bool) : R2 := fun x y H Q => ∃ a o, y = .ref a ∧ DGet H a x o ∧ Q (.bl (if neg then !o.isSome else o.isSome)) H
theorem op_inDi (hu : X.A.units + 1 < cLine) : OpR X (compareOp .In) (rInDi false) := by
  intro pins s σ H x y v u Q I rx ry h
  obtain ⟨a, o, rfl, g, q⟩ := h
  cases ry
  exact d_in hu I g rx fun s' I' => ⟨.bl o.isSome, H, I', rfl, q⟩
theorem op_notInDi (hu : X.A.units + 1 < cLine) : OpR X (compareOp .NotIn) (rInDi true) := by
  intro pins s σ H x y v u Q I rx ry h
  obtain ⟨a, o, rfl, g, q⟩ := h
  cases ry
  exact d_notIn hu I g rx fun s' I' => ⟨.bl (!o.isSome), H, I', rfl, q⟩
theorem flat_rv {F : FHp} {ι : List Addr} {x : MV} {u : V} (f : flatM x = true) (r : RV F ι x u) : flatV u = true := by
  cases r <;> first | rfl | cases f
theorem eqM_rv {F : FHp} {ι : List Addr} {x y : MV} {u v : V} (f : flatM x = true) (g : flatM y = true) (r : RV F ι x u) (q : RV F ι y v) : eqV u v = eqM x y := by
  cases r <;> first | (cases f; done) | (cases q <;> first | (cases g; done) | rfl)
theorem flats_rv {F : FHp} {ι : List Addr} : ∀ {xs : List MV} {vs : List V}, xs.all flatM = true → RVL F ι xs vs → vs.all flatV = true
  | [], _, _, .nil => rfl
  | x :: xs, _, h, .cons r t => by
    rw [List.all_cons, Bool.and_eq_true] at h ⊢
    exact ⟨flat_rv h.1 r, flats_rv h.2 t⟩
theorem anyE_rv {F : FHp} {ι : List Addr} {x : MV} {u : V} (f : flatM x = true) (r : RV F ι x u) : ∀ {xs : List MV} {vs : List V}, xs.all flatM = true → RVL F ι xs vs → (vs.any fun y => eqV y u) = xs.any fun y => eqM y x
  | [], _, _, .nil => rfl
  | y :: xs, _, h, .cons q t => by
    rw [List.all_cons, Bool.and_eq_true] at h
    rw [List.any_cons, List.any_cons, anyE_rv f r h.2 t, eqM_rv h.1 f q r]
theorem inTup_some {x : MV} {ys : List MV} {t : Bool} (h : inTup x ys = some t) : flatM x = true ∧ ys.all flatM = true ∧ t = ys.any fun y => eqM y x := by
  unfold inTup at h
  by_cases c : (flatM x && ys.all flatM) = true
  · rw [if_pos c] at h
    rw [Bool.and_eq_true] at c
    exact ⟨c.1, c.2, (Option.some.inj h).symm⟩
  · rw [if_neg c] at h
    cases h
theorem inSeq_some {x : MV} {ys : List MV} {t : Bool} (h : inSeq x ys = some t) : ∃ d ds, toPD x = some d ∧ toPDs ys = some ds ∧ SeqAt.shaped d = true ∧ SeqAt.shaped (.list ds) = true ∧ t = ds.any fun z => PyData.eqv z d := by
  unfold inSeq at h
  cases e1 : toPD x with
  | none => rw [e1] at h; cases h
  | some d =>
    cases e2 : toPDs ys with
    | none => rw [e1, e2] at h; cases h
    | some ds =>
      rw [e1, e2] at h
      simp only at h
      by_cases c : (SeqAt.shaped d && SeqAt.shaped (.list ds)) = true
      · rw [if_pos c] at h
        rw [Bool.and_eq_true] at c
        exact ⟨d, ds, rfl, rfl, c.1, c.2, (Option.some.inj h).symm⟩
      · rw [if_neg c] at h
        cases h
def rInA (K : PySem.W.Frag) : R2 := fun x y H Q => rInD K x y H Q ∨ rIn K false x y H Q ∨ rInDi false x y H Q
def rNotInA (K : PySem.W.Frag) : R2 := fun x y H Q => rNotInD K x y H Q ∨ rIn K true x y H Q ∨ rInDi true x y H Q
theorem look_dct {S : Store} {x : MV} {c : Nat} {tk : Bool} {kvs : List (MV × MV)} (l : look S x = some (.dct c tk kvs)) : x = .dct c tk kvs := by
  cases x with
  | ptr k =>
    have l' : (match S[k]? with
      | some (.lst xs) => some (MV.lst 0 xs)
      | _ => none) = some (.dct c tk kvs) := l
    split at l' <;> cases l'
  | _ => exact Option.some.inj l
theorem flat_look {S : Store} {x x' : MV} (f : flatM x' = true) (l : look S x = some x') : x = x' := by
  cases x with
  | ptr k =>
    have l' : (match S[k]? with
      | some (.lst xs) => some (MV.lst 0 xs)
      | _ => none) = some x' := l
    split at l' <;> (cases l'; try cases f)
  | _ => exact Option.some.inj l
theorem key_look {S : Store} {x x' : MV} {q : Key ⊕ List Key} (f : dkey x' = some q) (l : look S x = some x') : x = x' := by
  cases x with
  | ptr k =>
    have l' : (match S[k]? with
      | some (.lst xs) => some (MV.lst 0 xs)
      | _ => none) = some x' := l
    split at l' <;> (cases l'; try cases f)
  | _ => exact Option.some.inj l
theorem cok_in (hu : X.A.units + 65 < cLine) : COk X b .in_ (rInA X.K) := by
  refine ⟨(op_inD hu).or (op_in_seq.or (op_inDi (by omega))), fun F ι S H x y x' y' u v t Q s ru rv lx ly e q => ?_⟩
  simp only [cop] at e
  split at e
  · obtain ⟨d, ds, e1, e2, h1, h2, rfl⟩ := inSeq_some e
    exact .inl ⟨d, ds, look_dp s ru lx e1 (noDict_of h1), look_dp s rv ly (by show (toPDs _).map PyData.list = _; rw [e2]; rfl) (noDict_of h2), h1, h2, q⟩
  · obtain ⟨f1, f2, rfl⟩ := inTup_some e
    obtain rfl := flat_look f1 lx
    obtain rfl := look_tup ly
    cases rv with | tup h2 r2 =>
    refine .inr (.inl ⟨_, _, rfl, .inr (SqT.ofRV s h2), flat_rv f1 ru, flats_rv f2 r2, ?_⟩)
    have z : inV u _ = _ := anyE_rv f1 ru f2 r2
    rw [if_neg Bool.false_ne_true, z]
    exact q
  · obtain rfl := look_dct ly
    cases hd : dkey x' with
    | none => rw [hd] at e; cases e
    | some d =>
      rename_i c tk kvs
      rw [hd] at e
      obtain rfl := key_look hd lx
      have e1 : (if kindOk tk d = true then some (dget kvs d).isSome else none) = some t := e
      by_cases hk : kindOk tk d = true
      · rw [if_pos hk] at e1
        have e2 := Option.some.inj e1
        obtain ⟨a, rfl, ⟨x0, h1, y0, h2, h3⟩ | ⟨h1, h2⟩⟩ := dget_rv s rv ru hd hk
        · rw [h1] at e2
          subst e2
          exact .inr (.inr ⟨a, _, rfl, h2, q⟩)
        · rw [h1] at e2
          subst e2
          exact .inr (.inr ⟨a, _, rfl, h2, q⟩)
      · rw [if_neg hk] at e1
        cases e1
  · cases e
theorem cok_notin (hu : X.A.units + 65 < cLine) : COk X b .notin (rNotInA X.K) := by
  refine ⟨(op_notInD hu).or (op_notIn_seq.or (op_notInDi (by omega))), fun F ι S H x y x' y' u v t Q s ru rv lx ly e q => ?_⟩
  simp only [cop] at e
  split at e
  · obtain ⟨t', e0, rfl⟩ := Option.map_eq_some_iff.mp e
    obtain ⟨d, ds, e1, e2, h1, h2, rfl⟩ := inSeq_some e0
    exact .inl ⟨d, ds, look_dp s ru lx e1 (noDict_of h1), look_dp s rv ly (by show (toPDs _).map PyData.list = _; rw [e2]; rfl) (noDict_of h2), h1, h2, q⟩
  · obtain ⟨t', e0, rfl⟩ := Option.map_eq_some_iff.mp e
    obtain ⟨f1, f2, rfl⟩ := inTup_some e0
    obtain rfl := flat_look f1 lx
    obtain rfl := look_tup ly
    cases rv with | tup h2 r2 =>
    refine .inr (.inl ⟨_, _, rfl, .inr (SqT.ofRV s h2), flat_rv f1 ru, flats_rv f2 r2, ?_⟩)
    have z : inV u _ = _ := anyE_rv f1 ru f2 r2
    rw [if_pos rfl, z]
    exact q
  · obtain rfl := look_dct ly
    cases hd : dkey x' with
    | none => rw [hd] at e; cases e
    | some d =>
      rename_i c tk kvs
      rw [hd] at e
      obtain rfl := key_look hd lx
      have e1 : (if kindOk tk d = true then some (!(dget kvs d).isSome) else none) = some t := e
      by_cases hk : kindOk tk d = true
      · rw [if_pos hk] at e1
        have e2 := Option.some.inj e1
        obtain ⟨a, rfl, ⟨x0, h1, y0, h2, h3⟩ | ⟨h1, h2⟩⟩ := dget_rv s rv ru hd hk
        · rw [h1] at e2
          subst e2
          exact .inr (.inr ⟨a, _, rfl, h2, q⟩)
        · rw [h1] at e2
          subst e2
          exact .inr (.inr ⟨a, _, rfl, h2, q⟩)
      · rw [if_neg hk] at e1
        cases e1
  · cases e
def ordOp : COp → Bool
  | .lt | .le | .gt | .ge => true
  | _ => false
theorem look_self {S : Store} {x : MV} (h : ∀ n, x ≠ .ptr n) : look S x = some x := by
  cases x <;> first | rfl | exact absurd rfl (h _)
theorem ord_noptr {o : COp} {x y : MV} {t : Bool} (ho : ordOp o = true) (h : cop o x y = some t) : (∀ n, x ≠ .ptr n) ∧ ∀ n, y ≠ .ptr n := by
  cases o <;> first | (cases ho; done) | (constructor <;> (rintro n rfl; first | (cases h; done) | (cases x <;> cases h)))
theorem e_chain {o1 o2 : COp} {r1 r2 : R2} (h1 : COk X b o1 r1) (h2 : COk X b o2 r2) (p1 : ordOp o1 = true) (p2 : ordOp o2 = true) (hm : lastMarks [copOf o1, copOf o2] [a', a2] = false)
    (ha : PE X a (tV ex W b (ev C m))) (ha' : PE X a' (tV ex W b (ev C m'))) (ha2 : PE X a2 (tV ex W b (ev C m2))) : PE X (.Compare a [copOf o1, copOf o2] [a', a2] pos) (tO ex W b (evO C (.chain o1 o2 m m' m2))) := by
  refine PE.imp (pe_chain h1.1 h2.1 ha ha' ha2 hm) fun σ H Q ⟨env, S, F, ι, out, he, hs, q, k⟩ => ?_
  have q' : ((ev C m env S).bind fun x S1 => (ev C m' env S1).bind fun y S2 => match cop o1 x y with
    | some true => (ev C m2 env S2).bind fun z S3 => lift ((cop o2 y z).map fun b => OV.val (.bl b)) S3
    | some false => ok (OV.val (.bl false)) S2
    | none => none) = some out := q
  rcases bind_some q' with ⟨x, S1, e1, q1⟩ | ⟨c', v, S1, e1, rfl⟩
  rotate_left
  · exact tG.exc he hs e1 k
  refine tG.ok he hs e1 fun F1 ι1 H1 u t1 s1 ru => ?_
  have he1 := he.tr t1 hs
  rcases bind_some q1 with ⟨y, S2, e2, q2⟩ | ⟨c', v, S2, e2, rfl⟩
  rotate_left
  · exact tG.exc he1 s1 e2 (ExK.tr k t1)
  refine tG.ok he1 s1 e2 fun F2 ι2 H2 v t2 s2 rv => ?_
  have he2 := he1.tr t2 s1
  have t12 := t1.trans t2
  cases e3 : cop o1 x y with
  | none => rw [e3] at q2; cases q2
  | some c =>
    have np := ord_noptr p1 e3
    refine h1.2 F2 ι2 S2 H2 x y x y u v c _ s2 (t2.rv s1 ru) rv (look_self np.1) (look_self np.2) e3 ⟨c, rfl, ?_⟩
    rw [e3] at q2
    cases c with
    | false =>
      obtain rfl := ok_some q2
      rw [if_neg Bool.false_ne_true]
      exact (k.tr t12).now s2 (.bl _)
    | true =>
      rw [if_pos rfl]
      rcases bind_some q2 with ⟨z, S3, e4, q3⟩ | ⟨c', v, S3, e4, rfl⟩
      rotate_left
      · exact tG.exc he2 s2 e4 (ExK.tr k t12)
      refine tG.ok he2 s2 e4 fun F3 ι3 H3 w t3 s3 rw' => ?_
      obtain ⟨o, e5, rfl⟩ := lift_some q3
      obtain ⟨d, e6, rfl⟩ := Option.map_eq_some_iff.mp e5
      have np2 := ord_noptr p2 e6
      exact h2.2 F3 ι3 S3 H3 y z y z v w d _ s3 (t3.rv s2 rv) rw' (look_self np2.1) (look_self np2.2) e6 ((k.tr (t12.trans t3)).now s3 (.bl _))
def abOk : Expr → Bool
  | .Call (.Name id _) [] [] _ => id != ("super" : Str)
  | _ => true
theorem abase {o : Expr} {name : Str} {env : PySem.Env} {whole : Sem Value} (h : abOk o = true) : attributeBase o name env whole = whole := by
  unfold attributeBase
  split
  · rename_i id p pos
    have h' : (id != ("super" : Str)) = true := h
    simp only [h', Bool.true_or, if_true, bind_pure]
  · rfl
/-- the reading of a method of a built-in type, its receiver and its arguments plain -/
theorem bm_core {K : PySem.W.Frag} {T : String} {r : V → List V → Hp → VK → Prop} {mt : Mt} {rs : Es} {σ : St} {H : Hp} {Q : VK}
    (hty : ∀ (F : FHp) (ι : List Addr) (S : Store) (H : Hp) (x : MV) (u : V), Sim b F ι S H → RV F ι x u → mthOK mt S x = true → tyV K T u H)
    (hr : ∀ (σ : St) (F : FHp) (ι : List Addr) (S : Store) (H : Hp) (x : MV) (vs : List MV) (u : V) (us : List V) (out : Out OV) (Q : VK), Sim b F ι S H → RV F ι x u → RVL F ι vs us →
      mthR mt x vs S = some out → Kt ex W b RelO σ F ι S H Q out → r u us H Q)
    (h : tO ex W b (evO C (.mth mt m rs)) σ H Q) : tBM K T r (tV ex W b (ev C m)) (tL ex W b (evs C rs)) σ H Q := by
  obtain ⟨env, S, F, ι, out, he, hs, q, k⟩ := h
  have q' : ((ev C m env S).bind fun x S1 => if mthOK mt S1 x = true then (evs C rs env S1).bind fun vs S2 => mthR mt x vs S2 else none) = some out := q
  rcases bind_some q' with ⟨x, S1, e1, q1⟩ | ⟨c', v, S1, e1, rfl⟩
  rotate_left
  · exact tG.exc he hs e1 k
  refine tG.ok he hs e1 fun F1 ι1 H1 u t1 s1 ru => ?_
  by_cases hm : mthOK mt S1 x = true
  rotate_left
  · rw [if_neg hm] at q1; cases q1
  rw [if_pos hm] at q1
  refine ⟨hty F1 ι1 S1 H1 x u s1 ru hm, ?_⟩
  have he1 := he.tr t1 hs
  rcases bind_some q1 with ⟨vs, S2, e2, q2⟩ | ⟨c', v, S2, e2, rfl⟩
  rotate_left
  · exact tG.exc he1 s1 e2 (ExK.tr k t1)
  refine tG.ok he1 s1 e2 fun F2 ι2 H2 us t2 s2 rvs => ?_
  exact hr σ F2 ι2 S2 H2 x vs u us out Q s2 (t2.rv s1 ru) rvs q2 (k.tr (t1.trans t2))
theorem mth_ty {K : PySem.W.Frag} {mt : Mt} {F : FHp} {ι : List Addr} {S : Store} {H : Hp} {x : MV} {u : V} (hm : mt ≠ .get) (s : Sim b F ι S H) (r : RV F ι x u) (h : mthOK mt S x = true) : tyV K "list" u H := by
  cases x <;> try (simp [mthOK] at h; done)
  case lst c xs =>
    cases r with | lst h1 _ =>
    exact .inl ⟨rfl, _, SqL.ofRV s h1⟩
  case dct c tk kvs =>
    exact absurd (of_decide_eq_true h) hm
  case ptr n =>
    cases r with | ptr hn =>
    have h' : ((match S[n]? with
      | some (.lst _) => true
      | _ => false) && (decide (mt = .pop) || decide (mt = .append))) = true := h
    rw [Bool.and_eq_true] at h'
    cases e : S[n]? with
    | none => rw [e] at h'; exact absurd h'.1 Bool.false_ne_true
    | some c =>
      cases c with
      | lst xs =>
        obtain ⟨a, vs, e1, e2, _⟩ := s.cell n xs e
        rw [hn] at e1
        cases e1
        exact .inl ⟨rfl, _, SqL.of e2⟩
      | dead => rw [e] at h'; exact absurd h'.1 Bool.false_ne_true
      | dct _ => rw [e] at h'; exact absurd h'.1 Bool.false_ne_true
theorem fewOk {e : Expr} {es : List Expr} {cpos : Pos} {env : PySem.Env} (h : ∀ x ∈ e :: es, isStar x = false) (hl : (e :: es).length < 30) :
    ((backTo cpos (starEach (e :: es) env)).all (fun x => !x.1) && (backToKw cpos (keywordEach [] env)).all (fun x => x.1.isSome)
      && decide ((e :: es).length + ([] : List Keyword).length + (if ([] : List Keyword).isEmpty then 0 else 1) < 30)) = true := by
  have h1 : (backTo cpos (starEach (e :: es) env)).all (fun x => !x.1) = true := by
    have z : (backTo cpos (starEach (e :: es) env)).any (·.1) = false := by rw [backTo_any]; exact starEach_plain h
    rw [List.any_eq_false] at z
    rw [List.all_eq_true]
    intro x hx
    have := z x hx
    revert this
    cases x.1 <;> simp
  rw [h1]
  have h2 : (backToKw cpos (keywordEach [] env)).all (fun x => x.1.isSome) = true := rfl
  rw [h2]
  have h3 : (e :: es).length + ([] : List Keyword).length + (if ([] : List Keyword).isEmpty then 0 else 1) < 30 := hl
  rw [decide_eq_true h3]
  rfl
theorem e_index {rs : Es} {e0 : Expr} {es : List Expr} (hu : X.A.units + 65 < cLine) (ha : PE X a (tV ex W b (ev C m))) (hes : PA X (e0 :: es) (tL ex W b (evs C rs))) (hab : abOk a = true) (hpl : ∀ x ∈ e0 :: es, isStar x = false) (hl : (e0 :: es).length < 30) (hline : (apos.endLine == pos.line) = true) :
    PE X (.Call (.Attribute a "index" apos) (e0 :: es) [] pos) (tO ex W b (evO C (.mth .index m rs))) := by
  refine PE.imp (pe_bm PySem.F.plainAttrs_list PySem.F.slot_list_index PySem.F.type_list_index (mt_indexD hu) ha hes (abase hab) (fewOk hpl hl) hline (starEach_ns (hpl _ List.mem_cons_self)) (by rw [backTo_any]; exact starEach_plain fun e he => hpl e (List.mem_cons_of_mem _ he))) fun σ H Q h => ?_
  refine bm_core (fun F ι S H x u s r h => mth_ty (by intro z; cases z) s r h) (fun σ F ι S H x vs u us out Q s ru rv q k => ?_) h
  cases x with
  | ptr n =>
    have q' : (match S[n]? with
      | some (.lst xs) => mthC .index vs n xs S
      | _ => none) = some out := q
    split at q' <;> cases q'
  | lst c xs =>
    have q' : lift (mthF .index (.lst c xs) vs) S = some out := q
    obtain ⟨z, e, rfl⟩ := lift_some q'
    simp only [mthF] at e
    obtain ⟨y, rfl⟩ : ∃ y, vs = [y] := by
      cases vs with
      | nil => cases e
      | cons y t => cases t <;> first | exact ⟨_, rfl⟩ | cases e
    obtain ⟨k', e1, rfl⟩ := Option.map_eq_some_iff.mp (show (memIx y xs).map (fun (k : Nat) => OV.val (.int (k : Int))) = some z from e)
    obtain ⟨w, rfl, rw'⟩ : ∃ w, us = [w] ∧ RV F ι y w := by
      cases rv with | cons r t => cases t; exact ⟨_, rfl, r⟩
    unfold memIx at e1
    cases e3 : toPD y with
    | none => rw [e3] at e1; cases e1
    | some d =>
      cases e4 : toPDs xs with
      | none => rw [e3, e4] at e1; cases e1
      | some ds =>
        rw [e3, e4] at e1
        simp only at e1
        by_cases c : (SeqAt.shaped d && SeqAt.shaped (.list ds)) = true
        · rw [if_pos c] at e1
          rw [Bool.and_eq_true] at c
          obtain ⟨hj, h1, h2⟩ := List.findIdx?_eq_some_iff_getElem.mp e1
          have hd : Dp X.K H u (.list ds) := RV.dp s ru (by show (toPDs _).map PyData.list = _; rw [e4]; rfl) (noDict_of c.2)
          cases ru with | lst hF _ =>
          exact ⟨_, w, d, ds, k', ds[k'], rfl, rfl, hd, RV.dp s rw' e3 (noDict_of c.1), c.2, c.1, List.getElem?_eq_getElem hj, h1, fun mm z' hm hz => by
            have hlt := (List.getElem?_eq_some_iff.mp hz).1
            have := h2 mm hm
            rw [List.getElem?_eq_getElem hlt] at hz
            cases hz
            simpa using this, k.now s (.int _)⟩
        · rw [if_neg c] at e1
          cases e1
  | dct c tk kvs =>
    have q' : lift (mthF .index (.dct c tk kvs) vs) S = some out := q
    obtain ⟨z, e, rfl⟩ := lift_some q'
    cases e
  | _ =>
    obtain ⟨z, e, rfl⟩ := lift_some (show lift (mthF .index _ vs) S = some out from q)
    cases e
def rPopA : V → List V → Hp → VK → Prop := fun x vs H Q => (∃ l xs i k y, x = .ref l ∧ vs = [.int i] ∧ H l = some (.lst xs) ∧ ixN xs.length i = some k ∧ xs[k]? = some y ∧ Q y (upd H l (.lst (xs.eraseIdx k))))
theorem mt_popA : MtR X "list.pop" rPopA := by
  intro pins s σ H x vs v us Q I rx rv h
  obtain ⟨l, xs, i, k, y, rfl, rfl, hH, hk, hy, q⟩ := h
  obtain ⟨z, _⟩ := I.lstM hH
  obtain ⟨h1, h2, h3, h4⟩ := ixN_seq hk
  have hn := line63
  exact mt_popAt pins s σ H _ _ v us Q I rx rv ⟨l, xs, i, k, y, rfl, rfl, hH, by omega, by omega, h1, hy, q⟩
theorem e_popC {rs : Es} {e0 : Expr} {es : List Expr} (ha : PE X a (tV ex W b (ev C m))) (hes : PA X (e0 :: es) (tL ex W b (evs C rs))) (hab : abOk a = true) (hpl : ∀ x ∈ e0 :: es, isStar x = false) (hl : (e0 :: es).length < 30) (hline : (apos.endLine == pos.line) = true) :
    PE X (.Call (.Attribute a "pop" apos) (e0 :: es) [] pos) (tO ex W b (evO C (.mth .pop m rs))) := by
  refine PE.imp (pe_bm PySem.F.plainAttrs_list PySem.F.slot_list_pop PySem.F.type_list_pop mt_popA ha hes (abase hab) (fewOk hpl hl) hline (starEach_ns (hpl _ List.mem_cons_self)) (by rw [backTo_any]; exact starEach_plain fun e he => hpl e (List.mem_cons_of_mem _ he))) fun σ H Q h => ?_
  refine bm_core (fun F ι S H x u s r h => mth_ty (by intro z; cases z) s r h) (fun σ F ι S H x vs u us out Q s ru rv q k => ?_) h
  cases x with
  | ptr n =>
    have q' : (match S[n]? with
      | some (.lst xs) => mthC .pop vs n xs S
      | _ => none) = some out := q
    cases e : S[n]? with
    | none => rw [e] at q'; cases q'
    | some c =>
      cases c with
      | dead => rw [e] at q'; cases q'
      | dct _ => rw [e] at q'; cases q'
      | lst xs =>
        rw [e] at q'
        have q2 : popC vs n xs S = some out := q'
        cases ru with | ptr hn =>
        obtain ⟨a, ws, e1, e2, e3, e4, e5⟩ := s.cell n xs e
        rw [hn] at e1
        cases e1
        unfold popC at q2
        split at q2
        · rename_i k'
          obtain ⟨w, rfl, rw'⟩ : ∃ w, us = [w] ∧ RV F ι (.int k') w := by
            cases rv with | cons r t => cases t; exact ⟨_, rfl, r⟩
          cases rw'
          split at q2
          · rename_i j hj
            split at q2
            · rename_i y hy
              obtain rfl := ok_some q2
              obtain ⟨w, h1, h2⟩ := e4.get hy
              exact ⟨_, ws, k', j, w, rfl, rfl, e2, by rw [← e4.length]; exact hj, h1, k _ _ _ _ (Tr.setCell s e hn) (s.setCell e hn (e4.erase j) (colsLtL_erase e5)) h2⟩
            · cases q2
          · cases q2
        · cases q2
  | lst c xs => obtain ⟨z, e, rfl⟩ := lift_some (show lift (mthF .pop _ vs) S = some out from q); cases e
  | _ => obtain ⟨z, e, rfl⟩ := lift_some (show lift (mthF .pop _ vs) S = some out from q); cases e
theorem e_cell (ha : PE X a (tO ex W b (evO C m))) : PE X a (tO ex W b (evO C (.cell m))) := by
  refine PE.imp ha fun σ H Q ⟨env, S, F, ι, out, he, hs, q, k⟩ => ?_
  have q' : ((evO C m env S).bind fun o S1 => match o with
    | .nl xs => if colsLtL 1 xs = true then ok (OV.val (.ptr S1.length)) (S1 ++ [.lst xs]) else none
    | _ => none) = some out := q
  rcases bind_some q' with ⟨o, S1, h1, q1⟩ | ⟨c', v, S1, h1, rfl⟩
  rotate_left
  · exact tG.exc he hs h1 k
  refine tG.ok he hs h1 fun F1 ι1 H1 x t1 s1 r => ?_
  cases o with
  | val _ => cases q1
  | nd _ _ => cases q1
  | nl xs =>
    by_cases c : colsLtL 1 xs = true
    · rw [show (match OV.nl xs with
        | .nl xs => if colsLtL 1 xs = true then ok (OV.val (.ptr S1.length)) (S1 ++ [.lst xs]) else none
        | _ => none) = if colsLtL 1 xs = true then ok (OV.val (.ptr S1.length)) (S1 ++ [.lst xs]) else none from rfl, if_pos c] at q1
      obtain rfl := ok_some q1
      obtain ⟨p, vs, rfl, h0, h2, h3, h4, h5⟩ := r
      refine k F1 (ι1 ++ [p]) H1 (.ref p) (t1.newCell s1 h0) (s1.newCell h2 h3 h4 h5 c) (.ptr ?_)
      rw [← s1.len, List.getElem?_append_right (Nat.le_refl _)]
      simp
    · rw [show (match OV.nl xs with
        | .nl xs => if colsLtL 1 xs = true then ok (OV.val (.ptr S1.length)) (S1 ++ [.lst xs]) else none
        | _ => none) = if colsLtL 1 xs = true then ok (OV.val (.ptr S1.length)) (S1 ++ [.lst xs]) else none from rfl, if_neg c] at q1
      cases q1
/-- one cell is frozen -/
theorem Sim.killCell {F : FHp} {ι : List Addr} {S : Store} {H : Hp} (s : Sim b F ι S H) {n : Nat} {xs : List MV} (hn : S[n]? = some (.lst xs)) {c : Nat} (hc : c < b) : ∃ p vs, ι[n]? = some p ∧ F p = none ∧ Sim b (updF F p c (.lst vs)) ι (S.set n .dead) H ∧ RVL F ι xs vs ∧
    ∀ {F0 : FHp} {ι0 : List Addr} {S0 : Store} {H0 : Hp}, Tr b F0 ι0 S0 H0 F ι S H → Tr b F0 ι0 S0 H0 (updF F p c (.lst vs)) ι (S.set n .dead) H := by
  obtain ⟨p, vs, e1, e2, e3, e4, e5⟩ := s.cell n xs hn
  have hl : n < S.length := (List.getElem?_eq_some_iff.mp hn).1
  have live : ∀ {m : Nat}, liveC (S.set n .dead) m → liveC S m ∧ m ≠ n := fun {m} ⟨zs, hz⟩ => by
    by_cases e : m = n
    · subst e
      rw [List.getElem?_set_self hl] at hz
      cases hz
    · rw [List.getElem?_set_ne (Ne.symm e)] at hz
      exact ⟨⟨zs, hz⟩, e⟩
  have notP : ∀ m, liveC (S.set n .dead) m → ι[m]? ≠ some p := fun m l e => by
    obtain ⟨l1, l2⟩ := live l
    exact l2 (s.apart m n p l1 ⟨xs, hn⟩ e e1)
  have s1 : Sim b F ι (S.set n .dead) H := by
    refine ⟨s.fh, s.fc, by rw [List.length_set]; exact s.len, fun m zs hz => ?_, fun m k a l1 l2 => s.apart m k a (live l1).1 (live l2).1, s.pl, s.tabs⟩
    have ne := (live ⟨zs, hz⟩).2
    rw [List.getElem?_set_ne (Ne.symm ne)] at hz
    exact s.cell m zs hz
  refine ⟨p, vs, e1, e3, s1.freeze e2 e3 hc notP, e4, fun {F0 ι0 S0 H0} t => ⟨fun a c' u e q => updF_keep e3 a _ (t.keep a c' u e q), t.ext, fun a q => ?_, t.dom⟩⟩
  obtain ⟨z, p1, p2, p3⟩ := t.priv a q
  have ne : a ≠ p := fun z => p3 n ⟨xs, hn⟩ (by rw [z]; exact e1)
  exact ⟨z, p1, by rw [updF_ne ne]; exact p2, fun m l => p3 m (live l).1⟩
/-- what is killed already stays frozen: the list of cells as frozen lists -/
theorem melt_all {F0 : FHp} {ι0 : List Addr} {S0 : Store} {H0 : Hp} {col : Nat} (hc : col < b) {H : Hp} {ι : List Addr} {Sb : Store} : ∀ {xs ys : List MV} {vs : List V} {F : FHp} {S : Store}, Sim b F ι S H → Tr b F0 ι0 S0 H0 F ι S H → RVL F ι xs vs →
    (∀ (n : Nat) (zs : List MV), Sb[n]? = some (Cell.lst zs) → S[n]? = some (Cell.lst zs) ∨ ∃ p ws, S[n]? = some Cell.dead ∧ ι[n]? = some p ∧ F p = some (col, HO.lst ws) ∧ RVL F ι zs ws) → meltL col Sb xs = some ys →
    ∃ F', (∀ a p, F a = some p → F' a = some p) ∧ Sim b F' ι (killAll xs S) H ∧ Tr b F0 ι0 S0 H0 F' ι (killAll xs S) H ∧ RVL F' ι ys vs
  | [], ys, _, F, S, s, t, .nil, _, h => by
    cases (Option.some.inj h)
    exact ⟨F, fun _ _ q => q, s, t, .nil⟩
  | x :: xs, ys, _, F, S, s, t, .cons (v := v0) (vs := vs0) r q, hb, h => by
    have h' : (match meltV col Sb x, meltL col Sb xs with
      | some y, some ys => some (y :: ys)
      | _, _ => none) = some ys := h
    cases e1 : meltV col Sb x with
    | none => rw [e1] at h'; cases h'
    | some y =>
      cases e2 : meltL col Sb xs with
      | none => rw [e1, e2] at h'; cases h'
      | some ys' =>
        rw [e1, e2] at h'
        cases (Option.some.inj h')
        have plain : (∀ n, x ≠ .ptr n) → ∃ F', (∀ a p, F a = some p → F' a = some p) ∧ Sim b F' ι (killAll (x :: xs) S) H ∧ Tr b F0 ι0 S0 H0 F' ι (killAll (x :: xs) S) H ∧ RVL F' ι (y :: ys') (v0 :: vs0) := fun np => by
          have ek : killAll (x :: xs) S = killAll xs S := by cases x <;> first | rfl | exact absurd rfl (np _)
          have ey : y = x := by cases x <;> first | exact (Option.some.inj e1).symm | exact absurd rfl (np _)
          subst ey
          obtain ⟨F', k1, k2, k3, k4⟩ := melt_all hc s t q hb e2
          rw [ek]
          exact ⟨F', k1, k2, k3, .cons (r.mono k1 ⟨[], by simp⟩) k4⟩
        by_cases np : ∃ n, x = .ptr n
        · obtain ⟨n, rfl⟩ := np
          have e3 : (match Sb[n]? with
            | some (.lst xs) => some (MV.lst col xs)
            | _ => none) = some y := e1
          cases e4 : Sb[n]? with
          | none => rw [e4] at e3; cases e3
          | some c =>
            cases c with
            | dead => rw [e4] at e3; cases e3
            | dct _ => rw [e4] at e3; cases e3
            | lst zs =>
              rw [e4] at e3
              cases (Option.some.inj e3)
              cases r with | ptr hn =>
              rename_i a
              rcases hb n zs e4 with hl | ⟨p, ws, i0, i1, i2, i3⟩
              · obtain ⟨p, ws, i1, i2, s1, i3, t1⟩ := s.killCell hl hc
                rw [hn] at i1
                cases i1
                have kp : ∀ a' p', F a' = some p' → updF F a col (.lst ws) a' = some p' := updF_keep i2
                have hln : n < S.length := (List.getElem?_eq_some_iff.mp hl).1
                obtain ⟨F', k1, k2, k3, k4⟩ := melt_all (xs := xs) hc s1 (t1 t) (q.mono kp ⟨[], by simp⟩) (fun m us e => by
                  by_cases em : m = n
                  · subst em
                    rw [e4] at e
                    cases e
                    exact .inr ⟨a, ws, List.getElem?_set_self hln, hn, updF_same, i3.mono kp ⟨[], by simp⟩⟩
                  · rcases hb m us e with z | ⟨p', w', z0, z1, z2, z3⟩
                    · exact .inl (by rw [List.getElem?_set_ne (Ne.symm em)]; exact z)
                    · exact .inr ⟨p', w', by rw [List.getElem?_set_ne (Ne.symm em)]; exact z0, z1, kp _ _ z2, z3.mono kp ⟨[], by simp⟩⟩) e2
                refine ⟨F', fun a' p' z => k1 _ _ (kp _ _ z), k2, k3, .cons (.lst (k1 _ _ updF_same) (i3.mono (fun a' p' z => k1 _ _ (kp _ _ z)) ⟨[], by simp⟩)) k4⟩
              · rw [hn] at i1
                cases i1
                have es : S.set n .dead = S := List.ext_getElem? fun m => by
                  by_cases em : m = n
                  · subst em
                    rw [List.getElem?_set_self (List.getElem?_eq_some_iff.mp i0).1, i0]
                  · rw [List.getElem?_set_ne (Ne.symm em)]
                obtain ⟨F', k1, k2, k3, k4⟩ := melt_all (xs := xs) hc s t q hb e2
                refine ⟨F', k1, ?_, ?_, .cons (.lst (k1 _ _ i2) (i3.mono k1 ⟨[], by simp⟩)) k4⟩
                · show Sim b F' ι (killAll xs (S.set n .dead)) H
                  rw [es]
                  exact k2
                · show Tr b F0 ι0 S0 H0 F' ι (killAll xs (S.set n .dead)) H
                  rw [es]
                  exact k3
        · exact plain fun n z => np ⟨n, z⟩
theorem e_melt (hc : C.col < b) (ha : PE X a (tV ex W b (ev C m))) : PE X a (tO ex W b (evO C (.melt m))) := by
  refine PE.imp ha fun σ H Q ⟨env, S, F, ι, out, he, hs, q, k⟩ => ?_
  have q' : ((ev C m env S).bind fun v S1 => match v with
    | .lst c xs => match meltL C.col S1 xs with
      | some ys => ok (OV.val (.lst c ys)) (killAll xs S1)
      | none => none
    | _ => none) = some out := q
  rcases bind_some q' with ⟨v, S1, h1, q1⟩ | ⟨c', v, S1, h1, rfl⟩
  rotate_left
  · exact tG.exc he hs h1 k
  refine tG.ok he hs h1 fun F1 ι1 H1 x t1 s1 r => ?_
  cases r with
  | lst hF rl =>
    rename_i c xs a vs
    cases e : meltL C.col S1 xs with
    | none => simp only [e] at q1; cases q1
    | some ys =>
      simp only [e] at q1
      obtain rfl := ok_some q1
      obtain ⟨F', k1, k2, k3, k4⟩ := melt_all hc s1 t1 rl (fun n zs z => .inl z) e
      exact k F' ι1 H1 _ k3 k2 (.lst (k1 _ _ hF) k4)
  | _ => cases q1
end
end Mv

end
section
set_option Elab.async false
set_option linter.all false
set_option autoImplicit false
set_option maxRecDepth 100000
namespace Mv
open PySem PySem.Spec L2
variable [Tbs]

theorem PI.imp {X : Cx} {tg e : Expr} {t t' : TI} (h : PI X tg e t) (w : ∀ σ H R, t' σ H R → t σ H R) : PI X tg e t' := ⟨fun pins s σ H R I q => h.run pins s σ H R I (w σ H R q)⟩
/-- an iterator gives these values, in any later state -/
def Wlk (b : Nat) (J : It) (xs : List MV) (F : FHp) (ι : List Addr) : Prop := ∀ (F' : FHp) (ι' : List Addr) (S' : Store) (H' : Hp), (∀ a p, F a = some p → F' a = some p) → (∃ r, ι' = ι ++ r) → Sim b F' ι' S' H' →
  J.stop xs.length H' ∧ ∀ i v, xs[i]? = some v → J.go i H' ∧ ∀ x H'', J.yld i H' x H'' → ∃ F'', Tr b F' ι' S' H' F'' ι' S' H'' ∧ Sim b F'' ι' S' H'' ∧ RV F'' ι' v x
def relW (b : Nat) : Store → Hp → FHp → List Addr → Hp → List MV → It → Prop := fun _ _ F ι _ xs J => Wlk b J xs F ι
instance {b : Nat} : RelM (relW b) := ⟨fun _ r => r⟩
abbrev tI (ex : ExT) (W : WX) (b : Nat) (r : Env → Store → R (List MV)) : TI := tG ex W b (relW b) r

section
variable {b : Nat} {F : FHp} {ι : List Addr} {S : Store} {H : Hp} {K : PySem.W.Frag}
theorem wlk_list {c : Nat} {a : Addr} {vs : List V} {xs : List MV} (h : F a = some (c, .lst vs)) (r : RVL F ι xs vs) : Wlk b (Itl K a) xs F ι := by
  intro F' ι' S' H' hF hι s
  have sq : SqL K H' a vs := SqL.ofRV s (hF _ _ h)
  have r' := r.mono hF hι
  refine ⟨⟨vs, sq, by rw [r.length]; exact Nat.le_refl _⟩, fun i v e => ?_⟩
  obtain ⟨x, hx, rx⟩ := r'.get e
  refine ⟨⟨vs, x, sq, hx⟩, ?_⟩
  rintro x' H'' ⟨rfl, hy⟩
  have z := hy vs sq
  rw [hx] at z
  cases z
  exact ⟨F', Tr.refl, s, rx⟩
theorem wlk_tup {c : Nat} {a : Addr} {vs : List V} {xs : List MV} (h : F a = some (c, .tup vs)) (r : RVL F ι xs vs) : Wlk b (Itt K a) xs F ι := by
  intro F' ι' S' H' hF hι s
  have sq : SqT K H' a vs := SqT.ofRV s (hF _ _ h)
  have r' := r.mono hF hι
  refine ⟨⟨vs, sq, by rw [r.length]; exact Nat.le_refl _⟩, fun i v e => ?_⟩
  obtain ⟨x, hx, rx⟩ := r'.get e
  refine ⟨⟨vs, x, sq, hx⟩, ?_⟩
  rintro x' H'' ⟨rfl, hy⟩
  have z := hy vs sq
  rw [hx] at z
  cases z
  exact ⟨F', Tr.refl, s, rx⟩
theorem rangeL_get {lo hi : Int} {i : Nat} {v : MV} (h : (rangeL lo hi)[i]? = some v) : i < (hi - lo).toNat ∧ v = .int (lo + (i : Nat)) := by
  unfold rangeL at h
  rw [List.getElem?_map] at h
  obtain ⟨k, h1, rfl⟩ := Option.map_eq_some_iff.mp h
  obtain ⟨h2, h3⟩ := List.getElem?_eq_some_iff.mp h1
  simp at h2 h3
  subst h3
  exact ⟨by omega, rfl⟩
theorem rangeL_len {lo hi : Int} : (rangeL lo hi).length = (hi - lo).toNat := by unfold rangeL; simp
theorem wlk_rng {lo hi : Int} : Wlk b (Itr lo (hi - lo).toNat) (rangeL lo hi) F ι := by
  intro F' ι' S' H' hF hι s
  refine ⟨by show (hi - lo).toNat ≤ _; rw [rangeL_len]; exact Nat.le_refl _, fun i v e => ?_⟩
  obtain ⟨h1, rfl⟩ := rangeL_get e
  refine ⟨h1, ?_⟩
  rintro x' H'' ⟨rfl, rfl⟩
  exact ⟨F', Tr.refl, s, .int _⟩
theorem rangeD_get {lo hi : Int} {i : Nat} {v : MV} (h : (rangeD lo hi)[i]? = some v) : i < (lo - hi).toNat ∧ v = .int (lo - (i : Nat)) := by
  unfold rangeD at h
  rw [List.getElem?_map] at h
  obtain ⟨k, h1, rfl⟩ := Option.map_eq_some_iff.mp h
  obtain ⟨h2, h3⟩ := List.getElem?_eq_some_iff.mp h1
  simp at h2 h3
  subst h3
  exact ⟨by omega, rfl⟩
theorem rangeD_len {lo hi : Int} : (rangeD lo hi).length = (lo - hi).toNat := by unfold rangeD; simp
theorem wlk_rngD {lo hi : Int} : Wlk b (Itc lo (-1) (lo - hi).toNat) (rangeD lo hi) F ι := by
  intro F' ι' S' H' hF hι s
  refine ⟨by show (lo - hi).toNat ≤ _; rw [rangeD_len]; exact Nat.le_refl _, fun i v e => ?_⟩
  obtain ⟨h1, rfl⟩ := rangeD_get e
  refine ⟨h1, ?_⟩
  rintro x' H'' ⟨rfl, rfl⟩
  refine ⟨F', Tr.refl, s, ?_⟩
  rw [show lo + (i : Int) * -1 = lo - (i : Int) by omega]
  exact .int _
theorem key_rvv {k : MV} {q : Key} (h : keyOf k = some q) : RV F ι k (kV q) := by
  cases k <;> first | (cases h; done) | (cases (Option.some.inj h); constructor)
theorem rvk_at : ∀ {kvs : List (MV × MV)} {vs : List (Key × V)} {i : Nat} {p : MV × MV}, RVK F ι kvs vs → kvs[i]? = some p → ∃ k v, vs[i]? = some (k, v) ∧ RV F ι p.1 (kV k) ∧ RV F ι p.2 v
  | _, _, _, _, .nil, e => by simp at e
  | _, _, 0, _, .cons hk h _, e => by
    simp at e
    subst e
    exact ⟨_, _, rfl, key_rvv hk, h⟩
  | _, _, i + 1, _, .cons _ _ r, e => by
    obtain ⟨k, v, h1, h2⟩ := rvk_at (i := i) r (by simpa using e)
    exact ⟨k, v, by simpa using h1, h2⟩
theorem wlk_keys {c : Nat} {a : Addr} {od : Obj} {vs : List (Key × V)} {kvs : List (MV × MV)} (h : F a = some (c, .frz od (.dK vs))) (r : RVK F ι kvs vs) : Wlk b (Itk a od vs) (kvs.map (·.1)) F ι := by
  intro F' ι' S' H' hF hι s
  have sq := s.fh _ _ _ (hF _ _ h)
  have r' := r.mono hF hι
  refine ⟨⟨sq, by rw [List.length_map, r.length]; exact Nat.le_refl _⟩, fun i v e => ?_⟩
  rw [List.getElem?_map] at e
  obtain ⟨p, e1, rfl⟩ := Option.map_eq_some_iff.mp e
  obtain ⟨k, w, h1, h2, h3⟩ := rvk_at r' e1
  refine ⟨⟨sq, (List.getElem?_eq_some_iff.mp h1).1⟩, ?_⟩
  rintro x' H'' ⟨rfl, k', v', hy, rfl⟩
  rw [h1] at hy
  cases hy
  exact ⟨F', Tr.refl, s, h2⟩
/-- a new tuple, frozen -/
theorem newTup (hb : 0 < b) (s : Sim b F ι S H) {T : Addr} (hT : H T = none) {xs : List MV} {vs : List V} (r : RVL F ι xs vs) : ∃ F', Tr b F ι S H F' ι S (upd H T (.tup vs)) ∧ Sim b F' ι S (upd H T (.tup vs)) ∧ RV F' ι (.tup xs) (.ref T) := by
  have hF := s.notF hT
  exact ⟨updF F T 0 (.tup vs), (Tr.new s hT).freeze hF (not_nt hT), (s.new hT).freeze upd_same hF hb fun n l => s.notCell hT l, .tup updF_same (r.mono (updF_keep hF) ⟨[], by simp⟩)⟩
theorem wlk_items (hb : 0 < b) {c : Nat} {a : Addr} {od : Obj} {vs : List (Key × V)} {kvs : List (MV × MV)} (h : F a = some (c, .frz od (.dK vs))) (r : RVK F ι kvs vs) : Wlk b (Iti a od vs) (kvs.map fun p => .tup [p.1, p.2]) F ι := by
  intro F' ι' S' H' hF hι s
  have sq := s.fh _ _ _ (hF _ _ h)
  have r' := r.mono hF hι
  refine ⟨⟨sq, by rw [List.length_map, r.length]; exact Nat.le_refl _⟩, fun i v e => ?_⟩
  rw [List.getElem?_map] at e
  obtain ⟨p, e1, rfl⟩ := Option.map_eq_some_iff.mp e
  obtain ⟨k, w, h1, h2, h3⟩ := rvk_at r' e1
  refine ⟨⟨sq, (List.getElem?_eq_some_iff.mp h1).1⟩, ?_⟩
  rintro x' H'' ⟨T, k', v', hy, rfl, hT, rfl⟩
  rw [h1] at hy
  cases hy
  exact newTup hb s hT (.cons h2 (.cons h3 .nil))
theorem zipL_get : ∀ {xs ys : List MV} {i : Nat} {v : MV}, (zipL xs ys)[i]? = some v → ∃ x y, xs[i]? = some x ∧ ys[i]? = some y ∧ v = .tup [x, y]
  | [], _, _, _, h => by simp [zipL] at h
  | _ :: _, [], _, _, h => by simp [zipL] at h
  | x :: xs, y :: ys, 0, v, h => by
    simp [zipL] at h
    exact ⟨x, y, rfl, rfl, h.symm⟩
  | x :: xs, y :: ys, i + 1, v, h => by
    obtain ⟨x', y', h1, h2, h3⟩ := zipL_get (xs := xs) (ys := ys) (i := i) (v := v) (by simpa [zipL] using h)
    exact ⟨x', y', by simpa using h1, by simpa using h2, h3⟩
theorem zipL_len : ∀ {xs ys : List MV}, (zipL xs ys).length = min xs.length ys.length
  | [], _ => by simp [zipL]
  | _ :: _, [] => by simp [zipL]
  | x :: xs, y :: ys => by
    have := zipL_len (xs := xs) (ys := ys)
    simp only [zipL, List.length_cons, this]
    omega
theorem wlk_zipL (hb : 0 < b) {c d : Nat} {a a' : Addr} {vs ws : List V} {xs ys : List MV} (h : F a = some (c, .lst vs)) (h' : F a' = some (d, .lst ws)) (r : RVL F ι xs vs) (q : RVL F ι ys ws) : Wlk b (Itz K a a') (zipL xs ys) F ι := by
  intro F' ι' S' H' hF hι s
  have sq : SqL K H' a vs := SqL.ofRV s (hF _ _ h)
  have sq' : SqL K H' a' ws := SqL.ofRV s (hF _ _ h')
  have r' := r.mono hF hι
  have q' := q.mono hF hι
  refine ⟨⟨vs, ws, sq, sq', by rw [zipL_len, r.length, q.length]; omega⟩, fun i v e => ?_⟩
  obtain ⟨x, y, e1, e2, rfl⟩ := zipL_get e
  obtain ⟨u, hu, ru⟩ := r'.get e1
  obtain ⟨w, hw, rw'⟩ := q'.get e2
  refine ⟨⟨vs, ws, u, w, sq, sq', hu, hw⟩, ?_⟩
  rintro x' H'' ⟨T, u', w', rfl, hT, rfl, h1, h2⟩
  have z1 := h1 vs sq
  have z2 := h2 ws sq'
  rw [hu] at z1
  rw [hw] at z2
  cases z1
  cases z2
  exact newTup hb s hT (.cons ru (.cons rw' .nil))
theorem wlk_zipT (hb : 0 < b) {c d : Nat} {a a' : Addr} {vs ws : List V} {xs ys : List MV} (h : F a = some (c, .tup vs)) (h' : F a' = some (d, .tup ws)) (r : RVL F ι xs vs) (q : RVL F ι ys ws) : Wlk b (RZ.ItzT K a a') (zipL xs ys) F ι := by
  intro F' ι' S' H' hF hι s
  have sq : SqT K H' a vs := SqT.ofRV s (hF _ _ h)
  have sq' : SqT K H' a' ws := SqT.ofRV s (hF _ _ h')
  have r' := r.mono hF hι
  have q' := q.mono hF hι
  refine ⟨⟨vs, ws, sq, sq', by rw [zipL_len, r.length, q.length]; omega⟩, fun i v e => ?_⟩
  obtain ⟨x, y, e1, e2, rfl⟩ := zipL_get e
  obtain ⟨u, hu, ru⟩ := r'.get e1
  obtain ⟨w, hw, rw'⟩ := q'.get e2
  refine ⟨⟨vs, ws, u, w, sq, sq', hu, hw⟩, ?_⟩
  rintro x' H'' ⟨T, u', w', rfl, hT, rfl, h1, h2⟩
  have z1 := h1 vs sq
  have z2 := h2 ws sq'
  rw [hu] at z1
  rw [hw] at z2
  cases z1
  cases z2
  exact newTup hb s hT (.cons ru (.cons rw' .nil))
theorem enumL_get : ∀ {xs : List MV} {k i : Nat} {v : MV}, (enumL k xs)[i]? = some v → ∃ x, xs[i]? = some x ∧ v = .tup [.int ((k + i : Nat) : Int), x]
  | [], _, _, _, h => by simp [enumL] at h
  | x :: xs, k, 0, v, h => by
    simp [enumL] at h
    exact ⟨x, rfl, by simpa using h.symm⟩
  | x :: xs, k, i + 1, v, h => by
    obtain ⟨x', h1, h2⟩ := enumL_get (xs := xs) (k := k + 1) (i := i) (v := v) (by simpa [enumL] using h)
    exact ⟨x', by simpa using h1, by rw [h2, show k + 1 + i = k + (i + 1) by omega]⟩
theorem enumL_len : ∀ {xs : List MV} {k : Nat}, (enumL k xs).length = xs.length
  | [], _ => rfl
  | x :: xs, k => by simp [enumL, enumL_len (xs := xs)]
theorem wlk_enumL (hb : 0 < b) {c : Nat} {a : Addr} {vs : List V} {xs : List MV} (h : F a = some (c, .lst vs)) (r : RVL F ι xs vs) : Wlk b (Ite K a) (enumL 0 xs) F ι := by
  intro F' ι' S' H' hF hι s
  have sq : SqL K H' a vs := SqL.ofRV s (hF _ _ h)
  have r' := r.mono hF hι
  refine ⟨⟨vs, sq, by rw [enumL_len, r.length]; exact Nat.le_refl _⟩, fun i v e => ?_⟩
  obtain ⟨x, e1, rfl⟩ := enumL_get e
  obtain ⟨u, hu, ru⟩ := r'.get e1
  refine ⟨⟨vs, u, sq, hu⟩, ?_⟩
  rintro x' H'' ⟨T, u', rfl, hT, rfl, h1⟩
  have z1 := h1 vs sq
  rw [hu] at z1
  cases z1
  rw [Nat.zero_add]
  exact newTup hb s hT (.cons (.int _) (.cons ru .nil))
end

section
variable {X : Cx} {tg e : Expr} {te : TE}
/-- any list, tuple, dict of plain keys -/
def iAny (K : PySem.W.Frag) (te : TE) : TI := fun σ H R => te σ H fun x H1 => (∃ a, x = .ref a ∧ (∃ xs, SqL K H1 a xs) ∧ R (Itl K a) H1) ∨ (∃ a, x = .ref a ∧ (∃ xs, SqT K H1 a xs) ∧ R (Itt K a) H1) ∨
  ∃ d o kvs, x = .ref d ∧ H1 d = some (.frz o (.dK kvs)) ∧ R (Itk d o kvs) H1
theorem pi_any (he : PE X e te) : PI X tg e (iAny X.K te) := by
  refine ⟨fun pins s σ H R I h => ?_⟩
  refine thn (he.run pins s σ H _ I h) fun v s1 ⟨x, H1, I1, r1, q1⟩ => ?_
  rcases q1 with ⟨a, e, ⟨xs, hq⟩, q⟩ | ⟨a, e, ⟨xs, hq⟩, q⟩ | ⟨d, o, kvs, e, hd, q⟩
  · subst e
    cases r1
    obtain ⟨its, rv, p, hz⟩ := I1.list hq
    refine wpAny_pyIter_list p.isList ?_
    refine ⟨s1.heap.objs.size, [s1.heap.objs.size], _, _, H1, rfl, I1.kept (t' := s1.toks) fun b o e => Heap.get?_push_of_some _ e, turn_list a _, ⟨_, Heap.get?_push_size _ rfl, rfl, rfl⟩, fun b hb => ?_, q⟩
    have e : b = s1.heap.objs.size := by simpa using hb
    subst e
    exact I1.fpOk (Nat.le_refl _) (I1.hok.fresh (Nat.le_refl _))
  · subst e
    cases r1
    obtain ⟨its, rv, p, hz⟩ := I1.tuple hq
    refine wpAny_pyIter_tuple (show s1.heap.IsTuple a its.toArray from p) ?_
    refine ⟨s1.heap.objs.size, [s1.heap.objs.size], _, _, H1, rfl, I1.kept (t' := s1.toks) fun b o e => Heap.get?_push_of_some _ e, turn_tuple a _, ⟨_, Heap.get?_push_size _ rfl, rfl, rfl⟩, fun b hb => ?_, q⟩
    have e : b = s1.heap.objs.size := by simpa using hb
    subst e
    exact I1.fpOk (Nat.le_refl _) (I1.hok.fresh (Nat.le_refl _))
  · subst e
    obtain rfl : v = Value.ref d := r1
    obtain ⟨hs, hgd, hx, es, ep, vs, hdt, hsz, kv, hm⟩ := I1.frzK hd
    refine iter_keys hs hgd hx hdt (pi_one (tk := s1.toks) I1 _ (turn_keys _ hdt) ⟨_, Heap.get?_push_size _ rfl, rfl, ?_⟩ q)
    rw [hsz]
    rfl
variable {ex : ExT} {W : WX} {C : Cfg} {b : Nat} {m : ME} {pos p : Pos} {rs : Es}
theorem v_val {F : FHp} {ι : List Addr} {S : Store} {H : Hp} {x : MV} {u : V} {z : List MV} {R : It → Hp → Prop} {K : PySem.W.Frag} (s : Sim b F ι S H) (ru : RV F ι x u) (e1 : walkV x = some z) (k : ∀ J, Wlk b J z F ι → R J H) :
    (∃ a, u = .ref a ∧ (∃ xs, SqL K H a xs) ∧ R (Itl K a) H) ∨ (∃ a, u = .ref a ∧ (∃ xs, SqT K H a xs) ∧ R (Itt K a) H) ∨ ∃ d o kvs, u = .ref d ∧ H d = some (.frz o (.dK kvs)) ∧ R (Itk d o kvs) H := by
  unfold walkV at e1
  split at e1
  · cases e1
    cases ru with | lst h1 h2 =>
    exact .inl ⟨_, rfl, ⟨_, SqL.ofRV s h1⟩, k _ (wlk_list h1 h2)⟩
  · cases e1
    cases ru with | tup h1 h2 =>
    exact .inr (.inl ⟨_, rfl, ⟨_, SqT.ofRV s h1⟩, k _ (wlk_tup h1 h2)⟩)
  · cases e1
    cases ru with | dK h1 h2 =>
    exact .inr (.inr ⟨_, _, _, rfl, s.fh _ _ _ h1, k _ (wlk_keys h1 h2)⟩)
  · cases e1
theorem i_val (ha : PE X e (tV ex W b (ev C m))) : PI X tg e (tI ex W b (evW C (.val m))) := by
  refine PI.imp (pi_any ha) fun σ H R h => ?_
  refine one (f := fun v S1 => lift (walkV v) S1) h fun F ι S H2 x u out s ru q k => ?_
  obtain ⟨z, e1, rfl⟩ := lift_some q
  exact v_val s ru e1 fun J w => k.now s w
theorem RVL.int1 {F : FHp} {ι : List Addr} {j : Int} {us : List V} (r : RVL F ι [.int j] us) : us = [.int j] := by
  cases r with | cons h t => cases t; cases h; rfl
/-- how many, none starred -/
def esNum : Es → Option Nat
  | .nil => some 0
  | .cons true _ _ => none
  | .cons false _ r => (esNum r).map (· + 1)
theorem evs_num {C : Cfg} : ∀ {rs : Es} {n : Nat} {env : Env} {S S1 : Store} {vs : List MV}, esNum rs = some n → evs C rs env S = some (.ok vs S1) → vs.length = n
  | .nil, n, env, S, S1, vs, h, q => by
    cases (Option.some.inj h)
    cases (ok_some q)
    rfl
  | .cons true _ _, n, env, S, S1, vs, h, q => by cases h
  | .cons false m r, n, env, S, S1, vs, h, q => by
    obtain ⟨k, h1, rfl⟩ := Option.map_eq_some_iff.mp (show (esNum r).map (· + 1) = some n from h)
    have q' : ((ev C m env S).bind fun x S1 => (evs C r env S1).bind fun xs S2 => ok (x :: xs) S2) = some (.ok vs S1) := q
    rcases bind_some q' with ⟨x, S2, e1, q1⟩ | ⟨c, v, S2, _, z⟩
    · rcases bind_some q1 with ⟨xs, S3, e2, q2⟩ | ⟨c, v, S3, _, z⟩
      · cases (ok_some q2)
        rw [List.length_cons, evs_num h1 e2]
      · cases z
    · cases z
/-- several values, then an iterator by values -/
theorem iw_core {bw : Wk} {σ : St} {H : Hp} {R : It → Hp → Prop} {R2' : List V → Hp → Prop} {n : Nat} (hn : esNum rs = some n) (h : tI ex W b (evW C (.by_ bw rs)) σ H R)
    (hk : ∀ F ι S H2 vs us xs, vs.length = n → Sim b F ι S H2 → RVL F ι vs us → walkF bw vs = some xs → (∀ J, Wlk b J xs F ι → R J H2) → R2' us H2) : tL ex W b (evs C rs) σ H fun us H1 => R2' us H1 := by
  obtain ⟨env, S, F, ι, out, he, hs, q, k⟩ := h
  have q' : ((evs C rs env S).bind fun vs S1 => lift (walkF bw vs) S1) = some out := q
  rcases bind_some q' with ⟨vs, S1, h1, q1⟩ | ⟨c', v, S1, h1, rfl⟩
  · refine tG.ok he hs h1 fun F1 ι1 H1 us t1 s1 ru => ?_
    obtain ⟨xs, e, rfl⟩ := lift_some q1
    exact hk F1 ι1 S1 H1 vs us xs (evs_num hn h1) s1 ru e fun J w => (k.tr t1).now s1 w
  · exact tG.exc he hs h1 k
theorem small62_of {i : Int} (h : small62 i = true) : -(2 ^ 62) ≤ i ∧ i < 2 ^ 62 := of_decide_eq_true h
theorem starEach_one {e : Expr} {env : PySem.Env} (h : isStar e = false) : starEach [e] env = [(false, eval e env)] := starEach_ns h
variable {e1 e2 e3 : Expr}
theorem pl1 {e : Expr} (h : isStar e = false) : ∀ x ∈ [e], isStar x = false := fun x hx => by
  rcases List.mem_cons.mp hx with rfl | hx
  · exact h
  · cases hx
theorem pl2 {e e' : Expr} (h : isStar e = false) (h' : isStar e' = false) : ∀ x ∈ [e, e'], isStar x = false := fun x hx => by
  rcases List.mem_cons.mp hx with rfl | hx
  · exact h
  · exact pl1 h' x hx
theorem v_rng1 {F : FHp} {ι : List Addr} {S : Store} {H2 : Hp} {vs : List MV} {us : List V} {xs : List MV} {R : It → Hp → Prop} (hl : vs.length = 1) (s : Sim b F ι S H2) (ru : RVL F ι vs us) (e : walkF .range vs = some xs) (k : ∀ J, Wlk b J xs F ι → R J H2) :
    ∃ j : Int, us = [.int j] ∧ -(2 ^ 62) ≤ j ∧ j < 2 ^ 62 ∧ R (Itr 0 j.toNat) H2 := by
  simp only [walkF] at e
  split at e
  · split at e
    · rename_i j hj
      cases e
      cases RVL.int1 ru
      obtain ⟨h1, h2⟩ := small62_of hj
      refine ⟨j, rfl, h1, h2, k _ ?_⟩
      have := wlk_rng (b := b) (F := F) (ι := ι) (lo := 0) (hi := j)
      rw [show (j - 0).toNat = j.toNat by simp] at this
      exact this
    · cases e
  · cases hl
  · cases hl
  · cases e
theorem v_rng2 {F : FHp} {ι : List Addr} {S : Store} {H2 : Hp} {vs : List MV} {us : List V} {xs : List MV} {R : It → Hp → Prop} (hl : vs.length = 2) (s : Sim b F ι S H2) (ru : RVL F ι vs us) (e : walkF .range vs = some xs) (k : ∀ J, Wlk b J xs F ι → R J H2) :
    ∃ i j : Int, us = [.int i, .int j] ∧ (-(2 ^ 62) ≤ i ∧ i < 2 ^ 62 ∧ -(2 ^ 62) ≤ j ∧ j < 2 ^ 62) ∧ R (Itr i (j - i).toNat) H2 := by
  simp only [walkF] at e
  split at e
  · cases hl
  · split at e
    · rename_i i j hj
      cases e
      rw [Bool.and_eq_true] at hj
      obtain ⟨h1, h2⟩ := small62_of hj.1
      obtain ⟨h3, h4⟩ := small62_of hj.2
      cases ru with | cons r t =>
      cases t with | cons r' t =>
      cases t
      cases r
      cases r'
      exact ⟨i, j, rfl, ⟨h1, h2, h3, h4⟩, k _ wlk_rng⟩
    · cases e
  · cases hl
  · cases e
theorem v_rng3 {F : FHp} {ι : List Addr} {S : Store} {H2 : Hp} {vs : List MV} {us : List V} {xs : List MV} {R : It → Hp → Prop} (hl : vs.length = 3) (s : Sim b F ι S H2) (ru : RVL F ι vs us) (e : walkF .range vs = some xs) (k : ∀ J, Wlk b J xs F ι → R J H2) :
    ∃ (i j c : Int) (n : Nat), us = [.int i, .int j, .int c] ∧ RgC i j c n ∧ R (Itc i c n) H2 := by
  simp only [walkF] at e
  split at e
  · cases hl
  · cases hl
  · split at e
    · rename_i i j kk hj
      cases e
      rw [Bool.and_eq_true, Bool.and_eq_true] at hj
      obtain ⟨h1, h2⟩ := small62_of hj.1.1
      obtain ⟨h3, h4⟩ := small62_of hj.1.2
      have h5 : kk = -1 := of_decide_eq_true hj.2
      subst h5
      cases ru with | cons r t =>
      cases t with | cons r' t =>
      cases t with | cons r2 t =>
      cases t
      cases r
      cases r'
      cases r2
      exact ⟨i, j, -1, _, rfl, RgC.neg h1 h2 h3 h4, k _ wlk_rngD⟩
    · cases e
  · cases e
theorem v_zip {F : FHp} {ι : List Addr} {S : Store} {H2 : Hp} {vs : List MV} {us : List V} {xs : List MV} {R : It → Hp → Prop} {K : PySem.W.Frag} (hb : 0 < b) (s : Sim b F ι S H2) (ru : RVL F ι vs us) (e : walkF .zip vs = some xs) (k : ∀ J, Wlk b J xs F ι → R J H2) :
    ∃ a c xs ys, us = [.ref a, .ref c] ∧ ((SqL K H2 a xs ∧ SqL K H2 c ys ∧ R (Itz K a c) H2) ∨ (SqT K H2 a xs ∧ SqT K H2 c ys ∧ R (RZ.ItzT K a c) H2)) := by
  simp only [walkF] at e
  split at e
  · cases e
    cases ru with | cons r t =>
    cases t with | cons r' t =>
    cases t
    cases r with | lst f1 r1 =>
    cases r' with | lst f2 r2 =>
    exact ⟨_, _, _, _, rfl, .inl ⟨SqL.ofRV s f1, SqL.ofRV s f2, k _ (wlk_zipL hb f1 f2 r1 r2)⟩⟩
  · cases e
    cases ru with | cons r t =>
    cases t with | cons r' t =>
    cases t
    cases r with | tup f1 r1 =>
    cases r' with | tup f2 r2 =>
    exact ⟨_, _, _, _, rfl, .inr ⟨SqT.ofRV s f1, SqT.ofRV s f2, k _ (wlk_zipT hb f1 f2 r1 r2)⟩⟩
  · cases e
theorem v_items {F : FHp} {ι : List Addr} {S : Store} {H : Hp} {x : MV} {u : V} {z : List MV} {R : It → Hp → Prop} (hb : 0 < b) (s : Sim b F ι S H) (ru : RV F ι x u) (e1 : walkM x = some z) (k : ∀ J, Wlk b J z F ι → R J H) :
    ∃ d o kvs, u = .ref d ∧ H d = some (.frz o (.dK kvs)) ∧ R (Iti d o kvs) H := by
  unfold walkM at e1
  split at e1
  · cases e1
    cases ru with | dK h1 h2 =>
    exact ⟨_, _, _, rfl, s.fh _ _ _ h1, k _ (wlk_items hb h1 h2)⟩
  · cases e1
theorem i_rng1 (hg : Gl X "range") (hm : X.mg "range" = none) (hn : esNum rs = some 1) (ha : PA X [e1] (tL ex W b (evs C rs))) (hp : isStar e1 = false) : PI X tg (.Call (.Name "range" p) [e1] [] pos) (tI ex W b (evW C (.by_ .range rs))) := by
  refine PI.imp (pi_range1 hg hm ha (starEach_one hp)) fun σ H R h => iw_core hn h fun F ι S H2 vs us xs hl s ru e k =>  v_rng1 hl s ru e k
theorem i_rng2 (hg : Gl X "range") (hm : X.mg "range" = none) (hn : esNum rs = some 2) (ha : PA X [e1, e2] (tL ex W b (evs C rs))) (hp : isStar e1 = false) (hp2 : isStar e2 = false) : PI X tg (.Call (.Name "range" p) [e1, e2] [] pos) (tI ex W b (evW C (.by_ .range rs))) := by
  refine PI.imp (pi_range2 hg hm ha (by rw [starEach_ns hp, starEach_one hp2]) (starEach_one hp2)) fun σ H R h => iw_core hn h fun F ι S H2 vs us xs hl s ru e k =>  v_rng2 hl s ru e k
theorem i_rng3 (hg : Gl X "range") (hm : X.mg "range" = none) (hn : esNum rs = some 3) (ha : PA X [e1, e2, e3] (tL ex W b (evs C rs))) (hp : isStar e1 = false) (hp2 : isStar e2 = false) (hp3 : isStar e3 = false) : PI X tg (.Call (.Name "range" p) [e1, e2, e3] [] pos) (tI ex W b (evW C (.by_ .range rs))) := by
  refine PI.imp (pi_range3 hg hm ha (starEach_ns hp) (by rw [backTo_any]; exact starEach_plain (pl2 hp2 hp3))) fun σ H R h => iw_core hn h fun F ι S H2 vs us xs hl s ru e k =>  v_rng3 hl s ru e k
theorem i_zip {elts : List Expr} {kk : Nat} {tpos : Pos} (hb : 0 < b) (hg : Gl X "zip") (hm : X.mg "zip" = none) (ha : PA X [e1, e2] (tL ex W b (evs C rs))) (hp : isStar e1 = false) (hp2 : isStar e2 = false) (hn : esNum rs = some 2) : PI X (.Tuple elts kk tpos) (.Call (.Name "zip" p) [e1, e2] [] pos) (tI ex W b (evW C (.by_ .zip rs))) := by
  refine PI.imp (RZ.pi_zipA hg hm ha (starEach_ns hp) (by rw [backTo_any]; exact starEach_plain (pl1 hp2))) fun σ H R h => iw_core hn h fun F ι S H2 vs us xs hl s ru e k =>  v_zip hb s ru e k
theorem i_items {elts : List Expr} {kk : Nat} {tpos apos : Pos} (hb : 0 < b) (ha : PE X e (tV ex W b (ev C m))) (hab : abOk e = true) (hline : (apos.endLine == pos.line) = true) : PI X (.Tuple elts kk tpos) (.Call (.Attribute e "items" apos) [] [] pos) (tI ex W b (evW C (.items m))) := by
  refine PI.imp (pi_items ha (abase hab) hline) fun σ H R h => ?_
  refine one (f := fun v S1 => lift (walkM v) S1) h fun F ι S H2 x u out s ru q k => ?_
  obtain ⟨z, e1, rfl⟩ := lift_some q
  exact v_items hb s ru e1 fun J w => k.now s w
end
end Mv

end
section
set_option Elab.async false
set_option linter.all false
set_option autoImplicit false
set_option maxRecDepth 100000
namespace Mv
open PySem PySem.Spec L2
variable [Tbs]

/-- where a target writes -/
def Tg.ix : Tg → List Nat
  | .nm i => [i]
  | .nil => []
  | .cons t r => t.ix ++ r.ix
theorem EnvOk.set {F : FHp} {ι : List Addr} {env : Env} {σ : L2.St} (e : EnvOk F ι env σ) {i : Nat} {v : MV} {x : V} (r : RV F ι v x) : EnvOk F ι (env.set i (some v)) (σ.set i (some x)) where
  len := by rw [List.length_set, List.length_set, e.len]
  at_ := fun j w h => by
    by_cases hj : i = j
    · subst hj
      by_cases hl : i < env.length
      · rw [List.getElem?_set_self hl] at h
        cases h
        exact ⟨x, List.getElem?_set_self (by rw [← e.len]; exact hl), r⟩
      · rw [List.getElem?_eq_none (by rw [List.length_set]; omega)] at h
        cases h
    · rw [List.getElem?_set_ne hj] at h
      obtain ⟨y, h1, h2⟩ := e.at_ j w h
      exact ⟨y, by rw [List.getElem?_set_ne hj]; exact h1, h2⟩
mutual
/-- M's target is the text's -/
inductive TgOk (X : Cx) : Tg → Expr → Prop
  | nm {i : Nat} {x : Str} {pos : Pos} : X.N[i]? = some x → Loc X.env.scope x → (X.fn x = true ∨ X.env.scope.names.lookup x = some .local) → TgOk X (.nm i) (.Name x pos)
  | tup {t : Tg} {es : List Expr} {k : Nat} {pos : Pos} : TgsOk X t es → TgOk X t (.Tuple es k pos)
inductive TgsOk (X : Cx) : Tg → List Expr → Prop
  | nil : TgsOk X .nil []
  | cons {t r : Tg} {e : Expr} {es : List Expr} : isStar e = false → TgOk X t e → TgsOk X r es → TgsOk X (.cons t r) (e :: es)
end
def tTg (t : Tg) : TG := fun v σ H Q => ∃ (b : Nat) (env : Env) (F : FHp) (ι : List Addr) (S : Store) (mv : MV) (env' : Env), EnvOk F ι env σ ∧ Sim b F ι S H ∧ RV F ι mv v ∧ bind t mv env = some env' ∧ ∀ σ', EnvOk F ι env' σ' → (∀ j, j ∉ t.ix → σ'[j]? = σ[j]?) → Q σ' H
def tTgs (t : Tg) : TGs := fun vs σ H Q => ∃ (b : Nat) (env : Env) (F : FHp) (ι : List Addr) (S : Store) (xs : List MV) (env' : Env), EnvOk F ι env σ ∧ Sim b F ι S H ∧ RVL F ι xs vs ∧ (bind t (.tup xs) env = some env' ∨ ∃ c, bind t (.lst c xs) env = some env') ∧ ∀ σ', EnvOk F ι env' σ' → (∀ j, j ∉ t.ix → σ'[j]? = σ[j]?) → Q σ' H
def gTL (K : PySem.W.Frag) (n : Nat) (t : TGs) : TG := fun v σ H Q => gTup K n t v σ H Q ∨ gUnl K n t v σ H Q
theorem assignEach_len {env : PySem.Env} : ∀ {es : List Expr}, (assignEach es env).length = es.length
  | [] => rfl
  | e :: es => by cases e <;> simp [assignEach, assignEach_len (es := es)]
theorem assignEach_ns {env : PySem.Env} {e : Expr} {es : List Expr} (h : isStar e = false) : assignEach (e :: es) env = (false, assign e env) :: assignEach es env := by
  cases e <;> first | rfl | cases h
theorem assignEach_find {env : PySem.Env} : ∀ {es : List Expr}, (∀ e ∈ es, isStar e = false) → (assignEach es env).findIdx? (·.1) = none
  | [], _ => rfl
  | e :: es, h => by
    rw [assignEach_ns (h e List.mem_cons_self), List.findIdx?_cons]
    simp [assignEach_find (es := es) fun x hx => h x (List.mem_cons_of_mem _ hx)]
section
variable {X : Cx}
theorem TgsOk.plain : ∀ {t : Tg} {es : List Expr}, TgsOk X t es → ∀ e ∈ es, isStar e = false
  | _, _, .nil, e, h => by cases h
  | _, _, .cons p _ q, e, h => by
    rcases List.mem_cons.mp h with rfl | h
    · exact p
    · exact TgsOk.plain q e h
theorem TgsOk.len : ∀ {t : Tg} {es : List Expr} {xs : List MV} {env env' : Env}, TgsOk X t es → (bind t (.tup xs) env = some env' ∨ ∃ c, bind t (.lst c xs) env = some env') → xs.length = es.length
  | _, _, xs, env, env', .nil, h => by
    cases xs with
    | nil => rfl
    | cons x xs => rcases h with h | ⟨c, h⟩ <;> cases h
  | _, _, xs, env, env', .cons (t := t) (r := r) p q w, h => by
    cases xs with
    | nil => rcases h with h | ⟨c, h⟩ <;> cases h
    | cons x xs =>
      rcases h with h | ⟨c, h⟩
      · have h' : (match bind t x env with
          | some env' => bind r (.tup xs) env'
          | none => none) = some env' := h
        cases e : bind t x env with
        | none => rw [e] at h'; cases h'
        | some e1 =>
          rw [e] at h'
          rw [List.length_cons, List.length_cons, TgsOk.len w (.inl h')]
      · have h' : (match bind t x env with
          | some env' => bind r (.lst c xs) env'
          | none => none) = some env' := h
        cases e : bind t x env with
        | none => rw [e] at h'; cases h'
        | some e1 =>
          rw [e] at h'
          rw [List.length_cons, List.length_cons, TgsOk.len w (.inr ⟨c, h'⟩)]
theorem PG.imp {e : Expr} {t t' : TG} (h : PG X e t) (w : ∀ v σ H Q, t' v σ H Q → t v σ H Q) : PG X e t' := ⟨fun pins s σ H v u Q I r q => h.run pins s σ H v u Q I r (w v σ H Q q)⟩
theorem PGs.imp {es : List Expr} {t t' : TGs} (h : PGs X es t) (w : ∀ vs σ H Q, t' vs σ H Q → t vs σ H Q) : PGs X es t' := ⟨fun pins s σ H vs us Q I r q => h.run pins s σ H vs us Q I r (w vs σ H Q q)⟩
mutual
theorem pg_tg (hc : X.calm = true) (hN : X.N.Nodup) : ∀ {t : Tg} {e : Expr}, TgOk X t e → PG X e (tTg t)
  | _, _, .nm (i := i) h1 h2 h3 => by
    refine PG.imp (pg_name hN h1 h2 h3) fun v σ H Q ⟨b, env, F, ι, S, mv, env', he, hs, r, hb, k⟩ => ?_
    have e : env.set i (some mv) = env' := Option.some.inj hb
    subst e
    exact k _ (he.set r) fun j hj => List.getElem?_set_ne (fun z => hj (by rw [← z]; exact List.mem_singleton.mpr rfl))
  | t, _, .tup (es := es) h => by
    have hp := pgs_tg hc hN h
    refine ⟨fun pins s σ H v u Q I r q => ?_⟩
    obtain ⟨b, env, F, ι, S, mv, env', he, hs, rv, hb, k⟩ := q
    have tl : (∃ xs, mv = .tup xs) ∨ ∃ c xs, mv = .lst c xs := by
      cases h with
      | nil =>
        have hb' : (match items mv with
          | some [] => some env
          | _ => none) = some env' := hb
        cases mv with
        | tup xs => exact .inl ⟨_, rfl⟩
        | lst c xs => exact .inr ⟨_, _, rfl⟩
        | _ => cases hb'
      | cons p q w =>
        cases mv with
        | tup xs => exact .inl ⟨_, rfl⟩
        | lst c xs => exact .inr ⟨_, _, rfl⟩
        | _ => cases hb
    rcases tl with ⟨xs, rfl⟩ | ⟨c, xs, rfl⟩
    · cases rv with | tup hF rl =>
      exact (pg_tup hc hp assignEach_len (assignEach_find h.plain)).run pins s σ H _ u Q I r ⟨_, _, rfl, SqT.ofRV hs hF, by rw [← rl.length]; exact h.len (.inl hb), b, env, F, ι, S, xs, env', he, hs, rl, .inl hb, k⟩
    · cases rv with | lst hF rl =>
      exact (pg_unl hc hp assignEach_len (assignEach_find h.plain)).run pins s σ H _ u Q I r ⟨_, _, rfl, SqL.ofRV hs hF, by rw [← rl.length]; exact h.len (.inr ⟨c, hb⟩), b, env, F, ι, S, xs, env', he, hs, rl, .inr ⟨c, hb⟩, k⟩
theorem pgs_tg (hc : X.calm = true) (hN : X.N.Nodup) : ∀ {t : Tg} {es : List Expr}, TgsOk X t es → PGs X es (tTgs t)
  | _, _, .nil => by
    refine PGs.imp pgs_nil fun vs σ H Q ⟨b, env, F, ι, S, xs, env', he, hs, rl, hb, k⟩ => ?_
    have z : xs = [] ∧ env = env' := by
      cases xs with
      | nil => rcases hb with h | ⟨c, h⟩ <;> exact ⟨rfl, Option.some.inj h⟩
      | cons x xs => rcases hb with h | ⟨c, h⟩ <;> cases h
    obtain ⟨rfl, rfl⟩ := z
    cases rl
    exact ⟨rfl, k σ he fun _ _ => rfl⟩
  | _, _, .cons (t := t) (r := r) p q w => by
    refine PGs.imp (pgs_cons (pg_tg hc hN q) (pgs_tg hc hN w) (by rw [assignEach_ns p]; rfl)) fun vs σ H Q ⟨b, env, F, ι, S, xs, env', he, hs, rl, hb, k⟩ => ?_
    cases rl with
    | nil => rcases hb with h | ⟨c, h⟩ <;> cases h
    | @cons x v xs vs rx rl =>
      have z : ∃ env1, bind t x env = some env1 ∧ (bind r (.tup xs) env1 = some env' ∨ ∃ c, bind r (.lst c xs) env1 = some env') := by
        rcases hb with h | ⟨c, h⟩
        · have h' : (match bind t x env with
            | some env' => bind r (.tup xs) env'
            | none => none) = some env' := h
          cases e : bind t x env with
          | none => rw [e] at h'; cases h'
          | some e1 => rw [e] at h'; exact ⟨e1, rfl, .inl h'⟩
        · have h' : (match bind t x env with
            | some env' => bind r (.lst c xs) env'
            | none => none) = some env' := h
          cases e : bind t x env with
          | none => rw [e] at h'; cases h'
          | some e1 => rw [e] at h'; exact ⟨e1, rfl, .inr ⟨c, h'⟩⟩
      obtain ⟨env1, z1, z2⟩ := z
      refine ⟨v, vs, rfl, b, env, F, ι, S, x, env1, he, hs, rx, z1, fun σ1 he1 k1 => ?_⟩
      exact ⟨b, env1, F, ι, S, xs, env', he1, hs, rl, z2, fun σ2 he2 k2 => k σ2 he2 fun j hj => by
        have hj' : j ∉ t.ix ∧ j ∉ r.ix := ⟨fun z => hj (List.mem_append_left _ z), fun z => hj (List.mem_append_right _ z)⟩
        rw [k2 j hj'.2, k1 j hj'.1]⟩
end
end

theorem PTs.imp {X : Cx} {es : List Expr} {t t' : TT} (h : PTs X es t) (w : ∀ σ H Q, t' σ H Q → t σ H Q) : PTs X es t' := ⟨fun pins s σ H Q I q => h.run pins s σ H Q I (w σ H Q q)⟩
section
variable {X : Cx} {ex : ExT} {W : WX} {C : Cfg} {b : Nat}
theorem ts_nil : PTs X [] (tT ex W b (evTs C .nil)) := by
  refine PTs.imp pts_nil fun σ H Q ⟨env, S, F, ι, out, he, hs, q, k⟩ => ?_
  obtain rfl := ok_some q
  exact k F ι H true Tr.refl hs rfl
theorem evTs_one {m : ME} {env : Env} {S : Store} : evTs C (.cons false m .nil) env S = evT C m env S := by
  show ((ev C m env S).bind fun x S1 => match truth x with
    | some true => evTs C .nil env S1
    | some false => ok false S1
    | none => none) = (ev C m env S).bind fun x S1 => lift (truth x) S1
  congr 1
  funext x S1
  cases truth x with
  | none => rfl
  | some b => cases b <;> rfl
theorem ts_one {m : ME} {e : Expr} (h : PT X e (tT ex W b (evT C m))) : PTs X [e] (tT ex W b (evTs C (.cons false m .nil))) := by
  refine PTs.imp (pts_one h) fun σ H Q ⟨env, S, F, ι, out, he, hs, q, k⟩ => ?_
  exact ⟨env, S, F, ι, out, he, hs, by rw [← evTs_one]; exact q, k⟩
end

/-- nothing is followed behind an error -/
def W0 : WX := fun _ _ _ _ => False
theorem wipe_at {σ : L2.St} : ∀ {vs : List Nat} {j : Nat}, (wipe σ vs)[j]? = if j ∈ vs then (if j < σ.length then some none else none) else σ[j]?
  | [], j => by simp [wipe]
  | v :: vs, j => by
    have hl : (wipe σ vs).length = σ.length := wipe_length σ vs
    unfold wipe
    by_cases e : v = j
    · subst e
      rw [List.getElem?_set]
      simp [hl]
    · rw [List.getElem?_set_ne e, wipe_at]
      by_cases h : j ∈ vs
      · rw [if_pos h, if_pos (List.mem_cons_of_mem _ h)]
      · rw [if_neg h, if_neg (by
          intro z
          rcases List.mem_cons.mp z with rfl | z
          · exact e rfl
          · exact h z)]
theorem wipe_eq {σ σ' : L2.St} {vs : List Nat} (hl : σ'.length = σ.length) (h : ∀ j, j ∉ vs → σ'[j]? = σ[j]?) : wipe σ' vs = wipe σ vs := by
  refine List.ext_getElem? fun j => ?_
  rw [wipe_at, wipe_at, hl]
  by_cases z : j ∈ vs
  · rw [if_pos z, if_pos z]
  · rw [if_neg z, if_neg z]
    exact h j z
theorem wipeE_at {env : Env} : ∀ {vs : List Nat} {j : Nat} {v : MV}, (wipeE vs env)[j]? = some (some v) → j ∉ vs ∧ env[j]? = some (some v)
  | [], j, v, h => ⟨by simp, h⟩
  | i :: vs, j, v, h => by
    have h' : ((wipeE vs env).set i none)[j]? = some (some v) := h
    by_cases e : i = j
    · subst e
      by_cases hl : i < (wipeE vs env).length
      · rw [List.getElem?_set_self hl] at h'
        cases h'
      · rw [List.getElem?_eq_none (by rw [List.length_set]; omega)] at h'
        cases h'
    · rw [List.getElem?_set_ne e] at h'
      obtain ⟨h1, h2⟩ := wipeE_at h'
      exact ⟨by simp only [List.mem_cons, not_or]; exact ⟨fun z => e z.symm, h1⟩, h2⟩
theorem wipeE_len {env : Env} : ∀ {vs : List Nat}, (wipeE vs env).length = env.length
  | [] => rfl
  | i :: vs => by
    show ((wipeE vs env).set i none).length = _
    rw [List.length_set, wipeE_len]
theorem EnvOk.wipe {F : FHp} {ι : List Addr} {env : Env} {σ : L2.St} (e : EnvOk F ι env σ) (vs : List Nat) : EnvOk F ι (wipeE vs env) (L2.wipe σ vs) where
  len := by rw [wipeE_len, wipe_length, e.len]
  at_ := fun j v h => by
    obtain ⟨h1, h2⟩ := wipeE_at h
    obtain ⟨x, h3, h4⟩ := e.at_ j v h2
    exact ⟨x, by rw [wipe_at, if_neg h1]; exact h3, h4⟩
theorem noExc_ok {α : Type} {r : R α} {out : Out α} (h : noExc r = some out) : ∃ a S, out = .ok a S ∧ r = some (.ok a S) := by
  cases r with
  | none => cases h
  | some o =>
    cases o with
    | ok a S => exact ⟨a, S, (Option.some.inj h).symm, rfl⟩
    | exc c v S => cases h
section
variable {X : Cx} {ex : ExT} {W : WX} {C : Cfg} {b : Nat}
/-- an owned list that is being made beside -/
def Own (F : FHp) (ι : List Addr) (S : Store) (H : Hp) (D : Addr) (vs : List V) : Prop := H D = some (.lst vs) ∧ F D = none ∧ ∀ n, liveC S n → ι[n]? ≠ some D
theorem Own.pv {F : FHp} {ι : List Addr} {S : Store} {H : Hp} {D : Addr} {vs : List V} (o : Own F ι S H D vs) : Pv F ι S H D := ⟨⟨(by rw [o.1]; intro z; cases z), fun ps => by rw [o.1]; intro z; cases z⟩, o.2.1, o.2.2⟩
theorem Own.tr {F F' : FHp} {ι ι' : List Addr} {S S' : Store} {H H' : Hp} {D : Addr} {vs : List V} (o : Own F ι S H D vs) (t : Tr b F ι S H F' ι' S' H') : Own F' ι' S' H' D vs := by
  obtain ⟨e, p1, p2, p3⟩ := t.priv D o.pv
  exact ⟨by rw [e]; exact o.1, p2, p3⟩
/-- the list changes, from a state where it was not yet -/
theorem Own.upd {F F0 : FHp} {ι ι0 : List Addr} {S S0 : Store} {H H0 : Hp} {D : Addr} {vs : List V} (o : Own F ι S H D vs) (ws : List V) (h0 : ¬ NT (H0 D)) (s : Sim b F ι S H) (t : Tr b F0 ι0 S0 H0 F ι S H) :
    Own F ι S (L2.upd H D (.lst ws)) D ws ∧ Sim b F ι S (L2.upd H D (.lst ws)) ∧ Tr b F0 ι0 S0 H0 F ι S (L2.upd H D (.lst ws)) := ⟨⟨upd_same, o.2⟩, s.updP o.1 o.2.1 o.2.2, t.updP h0⟩
/-- the loop of a comprehension -/
theorem lc_loop {t : Tg} {tst : Env → Store → R Bool} {elt : Env → Store → R MV} {own : List Nat} {J : It} {xs : List MV} {env : Env} {D : Addr} {σ : L2.St} {Qd : Hp → Prop} {F0 : FHp} {ι0 : List Addr} {S0 : Store} {H0 : Hp} {ys : List MV} {Sn : Store}
    (ht : ∀ j ∈ t.ix, j ∈ own) (hz : ys.length ≤ sizeLine) (hJ : Wlk b J xs F0 ι0) (he : EnvOk F0 ι0 env σ) (hs : Sim b F0 ι0 S0 H0) (hD : H0 D = none)
    (hr : lcLoop t tst elt xs (wipeE own env) S0 = some (.ok ys Sn))
    (hq : ∀ F ι H vs, Tr b F0 ι0 S0 H0 F ι Sn H → Sim b F ι Sn H → Own F ι Sn H D vs → RVL F ι ys vs → Qd H) :
    ∃ Wn : Nat → Nat → Hp → Prop, (∃ m, Wn 0 m (upd H0 D (.lst []))) ∧ ∀ i m H, Wn i m H →
      (J.stop i H ∧ Qd H) ∨ (J.go i H ∧ ∃ Nx : Hp → Prop, (∀ H', Nx H' → ∃ m', m' < m ∧ Wn (i + 1) m' H') ∧ ∀ x H', J.yld i H x H' → tTg t x (wipe σ own) H' fun σ2 H2 => wipe σ2 own = wipe σ own ∧ tT ex W0 b tst σ2 H2 fun k H3 =>
        if k = true then tV ex W0 b elt σ2 H3 fun y H4 => ∃ acc, H4 D = some (.lst acc) ∧ acc.length < sizeLine ∧ Nx (upd H4 D (.lst (acc ++ [y]))) else Nx H3) := by
  refine ⟨fun i m H => m = xs.length - i ∧ i ≤ xs.length ∧ ∃ F ι S acc vs zs, Tr b F0 ι0 S0 H0 F ι S H ∧ Sim b F ι S H ∧ Own F ι S H D vs ∧ RVL F ι acc vs ∧ lcLoop t tst elt (xs.drop i) (wipeE own env) S = some (.ok zs Sn) ∧ acc ++ zs = ys, ⟨xs.length, rfl, Nat.zero_le _, F0, ι0, S0, [], [], ys, ?_⟩, ?_⟩
  · have s1 := hs.new (o := .lst []) hD
    exact ⟨Tr.new hs hD, s1, ⟨upd_same, hs.notF hD, fun n l => hs.notCell hD l⟩, .nil, hr, rfl⟩
  · rintro i m H ⟨rfl, hi, F, ι, S, acc, vs, zs, tr, sm, ow, ra, hl, ea⟩
    have keepF : ∀ a p, F0 a = some p → F a = some p := fun a p e => tr.keep a p.1 p.2 e (hs.fc a p.1 p.2 e)
    obtain ⟨w1, w2⟩ := hJ F ι S H keepF tr.ext sm
    by_cases hlt : i < xs.length
    · obtain ⟨v, hv⟩ : ∃ v, xs[i]? = some v := ⟨xs[i], List.getElem?_eq_getElem hlt⟩
      have hdrop : xs.drop i = v :: xs.drop (i + 1) := by
        rw [List.drop_eq_getElem_cons hlt]
        have : xs[i] = v := by
          rw [List.getElem?_eq_getElem hlt] at hv
          exact Option.some.inj hv
        rw [this]
      rw [hdrop] at hl
      obtain ⟨g1, g2⟩ := w2 i v hv
      refine .inr ⟨g1, fun H' => i + 1 ≤ xs.length ∧ ∃ F ι S acc vs zs, Tr b F0 ι0 S0 H0 F ι S H' ∧ Sim b F ι S H' ∧ Own F ι S H' D vs ∧ RVL F ι acc vs ∧ lcLoop t tst elt (xs.drop (i + 1)) (wipeE own env) S = some (.ok zs Sn) ∧ acc ++ zs = ys, fun H' h => ⟨xs.length - (i + 1), by omega, rfl, h⟩, fun x H' hy => ?_⟩
      obtain ⟨F1, t1, s1, rx⟩ := g2 x H' hy
      have hl' : (match bind t v (wipeE own env) with
        | none => none
        | some env' => (tst env' S).bind fun b S1 =>
          match b with
          | true => (elt env' S1).bind fun y S2 => (lcLoop t tst elt (xs.drop (i + 1)) (wipeE own env) S2).bind fun ys S3 => ok (y :: ys) S3
          | false => lcLoop t tst elt (xs.drop (i + 1)) (wipeE own env) S1) = some (.ok zs Sn) := hl
      cases hb : bind t v (wipeE own env) with
      | none => rw [hb] at hl'; cases hl'
      | some env' =>
        rw [hb] at hl'
        have tr1 := tr.trans t1
        have he1 : EnvOk F1 ι (wipeE own env) (wipe σ own) := (he.tr tr1 hs).wipe own
        refine ⟨b, wipeE own env, F1, ι, S, v, env', he1, s1, rx, hb, fun σ2 he2 k2 => ⟨?_, ?_⟩⟩
        · have e1 : wipe (wipe σ own) own = wipe σ own := wipe_eq (wipe_length σ own) fun j hj => by rw [wipe_at, if_neg hj]
          rw [← e1]
          refine wipe_eq ?_ fun j hj => k2 j fun z => hj (ht j z)
          rw [← he2.len, ← he1.len]
          have : ∀ {t : Tg} {v : MV} {e e' : Env}, bind t v e = some e' → e'.length = e.length := by
            intro t
            induction t with
            | nm i => intro v e e' h; cases (Option.some.inj h); rw [List.length_set]
            | nil =>
              intro v e e' h
              have h' : (match items v with
                | some [] => some e
                | _ => none) = some e' := h
              split at h'
              · cases h'; rfl
              · cases h'
            | cons t r iht ihr =>
              intro v e e' h
              cases v with
              | tup xs =>
                cases xs with
                | nil => cases h
                | cons x xs =>
                  have h' : (match bind t x e with
                    | some env' => bind r (.tup xs) env'
                    | none => none) = some e' := h
                  cases e1 : bind t x e with
                  | none => rw [e1] at h'; cases h'
                  | some e2 => rw [e1] at h'; rw [ihr h', iht e1]
              | lst c xs =>
                cases xs with
                | nil => cases h
                | cons x xs =>
                  have h' : (match bind t x e with
                    | some env' => bind r (.lst c xs) env'
                    | none => none) = some e' := h
                  cases e1 : bind t x e with
                  | none => rw [e1] at h'; cases h'
                  | some e2 => rw [e1] at h'; rw [ihr h', iht e1]
              | _ => cases h
          exact this hb
        · rcases bind_some hl' with ⟨k, S1, e1, q1⟩ | ⟨c', v', S1, e1, z⟩
          rotate_left
          · cases z
          refine ⟨env', S, F1, ι, .ok k S1, he2, s1, e1, fun F2 ι2 H2 k' t2 s2 ek => ?_⟩
          have ek : k = k' := ek
          subst ek
          have tr2 := tr1.trans t2
          have ow2 := (ow.tr t1).tr t2
          have ra2 := t2.rvl s1 (t1.rvl sm ra)
          cases k with
          | false =>
            dsimp only
            rw [if_neg Bool.false_ne_true]
            exact ⟨hlt, F2, ι2, S1, acc, vs, zs, tr2, s2, ow2, ra2, q1, ea⟩
          | true =>
            dsimp only
            rw [if_pos rfl]
            rcases bind_some q1 with ⟨y, S2, e2, q2⟩ | ⟨c', v', S2, e2, z⟩
            rotate_left
            · cases z
            refine ⟨env', S1, F2, ι2, .ok y S2, he2.tr t2 s1, s2, e2, fun F3 ι3 H3 y' t3 s3 ry => ?_⟩
            have ry : RV F3 ι3 y y' := ry
            rcases bind_some q2 with ⟨zs', S3, e3, q3⟩ | ⟨c', v', S3, e3, z⟩
            rotate_left
            · cases z
            cases (ok_some q3)
            have tr3 := tr2.trans t3
            have ow3 := ow2.tr t3
            have ra3 := t3.rvl s2 ra2
            refine ⟨vs, ow3.1, ?_, hlt, F3, ι3, S2, acc ++ [y], vs ++ [y'], zs', ?_⟩
            · rw [← ra.length]
              have : acc.length + (y :: zs').length = ys.length := by rw [← ea, List.length_append]
              simp at this
              omega
            · obtain ⟨o4, s4, t4⟩ := ow3.upd (vs ++ [y']) (not_nt hD) s3 tr3
              exact ⟨t4, s4, o4, ra3.append (.one ry), e3, by rw [List.append_assoc]; exact ea⟩
    · have hi' : i = xs.length := by omega
      subst hi'
      rw [List.drop_length] at hl
      cases (ok_some hl)
      refine .inl ⟨w1, hq F ι H vs tr sm ow ?_⟩
      rw [← ea, List.append_nil]
      exact ra
theorem colsLtL_nil : True := trivial
/-- [elt for t in it if ..] -/
theorem lc_read {t : Tg} {ifs : Es} {m : ME} {it : IT} {own : List Nat} {σ : L2.St} {H : Hp} {Q : VK} (ht : ∀ j ∈ t.ix, j ∈ own) (h : tO ex W b (evO C (.lc m t it ifs own)) σ H Q) :
    tLc (tI ex W b (evW C it)) (tTg t) (tT ex W0 b (evTs C ifs)) (tV ex W0 b (ev C m)) own σ H Q := by
  obtain ⟨env, S, F, ι, out, he, hs, q, k⟩ := h
  have q' : ((evW C it env S).bind fun xs S1 =>
      (noExc (lcLoop t (evTs C ifs) (fun e s => ev C m e s) xs (wipeE own env) S1)).bind fun ys S2 => if ys.length ≤ sizeLine then ok (OV.nl ys) S2 else none) = some out := q
  rcases bind_some q' with ⟨xs, S1, e1, q1⟩ | ⟨c', v, S1, e1, rfl⟩
  rotate_left
  · exact ⟨env, S, F, ι, _, he, hs, e1, k⟩
  refine ⟨env, S, F, ι, .ok xs S1, he, hs, e1, fun F1 ι1 H1 J t1 s1 w => ?_⟩
  have w : Wlk b J xs F1 ι1 := w
  intro D hD
  rcases bind_some q1 with ⟨ys, S2, e2, q2⟩ | ⟨c', v, S2, e2, rfl⟩
  rotate_left
  · obtain ⟨a, S, z, _⟩ := noExc_ok e2
    cases z
  obtain ⟨a, S', z, e3⟩ := noExc_ok e2
  cases z
  by_cases hz : ys.length ≤ sizeLine
  rotate_left
  · rw [if_neg hz] at q2
    cases q2
  rw [if_pos hz] at q2
  cases (ok_some q2)
  exact lc_loop ht hz w (he.tr t1 hs) s1 hD e3 fun F2 ι2 H2 vs t2 s2 o2 r2 => (k.tr t1) F2 ι2 H2 (.ref D) t2 s2 ⟨D, vs, rfl, not_nt hD, o2.1, o2.2.1, o2.2.2, r2⟩
end
end Mv

end
section
set_option Elab.async false
set_option linter.all false
set_option autoImplicit false
set_option maxRecDepth 100000
namespace Mv
open PySem PySem.Spec L2

mutual
inductive RdX (h : Heap) : Value → PyData → Prop
  | none : RdX h .none .none
  | bool (b : Bool) : RdX h (.bool b) (.bool b)
  | int (i : Int) (t : Tok) : RdX h (.int i t) (.int i)
  | str (x : Str) (t : Tok) : RdX h (.str x t) (.str x)
  | list {a : Addr} {o : Obj} {vs : Array Value} {n : Nat} {xs : List PyData} : h.get? a = some o → o.cls = .type "list" → o.data = .seq vs n → RdXs h vs.toList xs → RdX h (.ref a) (.list xs)
  | tuple {a : Addr} {o : Obj} {vs : Array Value} {n : Nat} {xs : List PyData} : h.get? a = some o → o.cls = .type "tuple" → o.data = .seq vs n → RdXs h vs.toList xs → RdX h (.ref a) (.tuple xs)
  | dict {a : Addr} {o : Obj} {es : Array DictEntry} {n : Nat} {kvs : List (PyData × PyData)} : h.get? a = some o → o.cls = .type "dict" → o.data = .dict es n → (a == sysModules) = false → RdXs h (es.toList.map (·.key)) (kvs.map (·.1)) → RdXs h (es.toList.map (·.val)) (kvs.map (·.2)) → RdX h (.ref a) (.dict kvs)
inductive RdXs (h : Heap) : List Value → List PyData → Prop
  | nil : RdXs h [] []
  | cons {v : Value} {d : PyData} {vs : List Value} {ds : List PyData} : RdX h v d → RdXs h vs ds → RdXs h (v :: vs) (d :: ds)
end
mutual
theorem RdX.reads {h : Heap} : ∀ {v : Value} {d : PyData}, RdX h v d → ∃ as, Reads h v d as
  | _, _, .none => ⟨_, .none⟩
  | _, _, .bool b => ⟨_, .bool b⟩
  | _, _, .int i t => ⟨_, .int i t⟩
  | _, _, .str i t => ⟨_, .str i t⟩
  | _, _, .list h1 h2 h3 r => let ⟨_, q⟩ := RdXs.reads r; ⟨_, .list h1 h2 h3 q⟩
  | _, _, .tuple h1 h2 h3 r => let ⟨_, q⟩ := RdXs.reads r; ⟨_, .tuple h1 h2 h3 q⟩
  | _, _, .dict h1 h2 h3 _ r1 r2 => let ⟨_, q1⟩ := RdXs.reads r1; let ⟨_, q2⟩ := RdXs.reads r2; ⟨_, .dict h1 h2 h3 q1 q2⟩
theorem RdXs.reads {h : Heap} : ∀ {v : List Value} {d : List PyData}, RdXs h v d → ∃ as, ReadsAll h v d as
  | _, _, .nil => ⟨_, .nil⟩
  | _, _, .cons r rs => let ⟨_, q1⟩ := RdX.reads r; let ⟨_, q2⟩ := RdXs.reads rs; ⟨_, .cons q1 q2⟩
end
section
variable {prog : Program} {w : World} {h₀ : Heap}
mutual
theorem rdX_k : ∀ {v : Value} {d : PyData}, RdX h₀ v d → d.showable = true → d.shown.length ≤ sizeLine → ∃ bs, ReadAtMost h₀ d.depth bs ∧ ReprK prog w bs h₀ d.depth v d.shown
  | _, _, .none, _, _ => ReprK.of_reads .none rfl (fun h => nomatch h) (by decide)
  | _, _, .bool b, hs, hz => ReprK.of_reads (.bool b) hs (fun h => nomatch h) hz
  | _, _, .int i t, hs, hz => ReprK.of_reads (.int i t) hs (fun h => nomatch h) hz
  | _, _, .str x t, hs, hz => ReprK.of_reads (.str x t) hs (fun h => nomatch h) hz
  | _, _, .list (a := a) (vs := vs) (xs := xs) h1 h2 h3 h4, hs, hz => by
    have hz' : (listText (PyData.shownAll xs)).length ≤ sizeLine := by simpa only [PyData.shown] using hz
    obtain ⟨bs, hb, hk⟩ := rdXs_k h4 (by simpa [PyData.showable] using hs) (fun t ht => Nat.le_trans (listText_mem_le ht) hz')
    obtain ⟨as, r⟩ := (RdX.list h1 h2 h3 h4).reads
    have hna : a ∉ bs := not_mem_of_deeper r (by simp only [PyData.depth]; omega) hb
    refine ⟨a :: bs, ReadAtMost.cons r (by simp only [PyData.depth]; omega) hb, ?_⟩
    simp only [PyData.depth, PyData.shown]
    obtain ⟨l⟩ := vs
    cases l with
    | nil =>
      have h4' : RdXs h₀ [] xs := h4
      cases h4'
      simp only [PyData.shownAll, listText_nil]
      exact ReprK.listEmpty h1 h2 h3
    | cons x l => exact ReprK.list h1 h2 h3 hna (by simpa using hk.length_eq) (fun i y e => hk.item i y (by simpa using e))
  | _, _, .tuple (a := a) (xs := xs) h1 h2 h3 h4, hs, hz => by
    have hz' : (tupleText (PyData.shownAll xs)).length ≤ sizeLine := by simpa only [PyData.shown] using hz
    obtain ⟨bs, hb, hk⟩ := rdXs_k h4 (by simpa [PyData.showable] using hs) (fun t ht => Nat.le_trans (tupleText_mem_le ht) hz')
    obtain ⟨as, r⟩ := (RdX.tuple h1 h2 h3 h4).reads
    have hna : a ∉ bs := not_mem_of_deeper r (by simp only [PyData.depth]; omega) hb
    refine ⟨a :: bs, ReadAtMost.cons r (by simp only [PyData.depth]; omega) hb, ?_⟩
    simp only [PyData.depth, PyData.shown]
    exact ReprK.tuple h1 h2 h3 hna hk
  | _, _, .dict (a := a) (es := es) (kvs := kvs) h1 h2 h3 hsys h4 h5, hs, hz => by
    have hz' : (dictText (PyData.shownKv kvs)).length ≤ sizeLine := by simpa only [PyData.shown] using hz
    obtain ⟨hs1, hs2⟩ := PyData.showableKv_split kvs (by simpa [PyData.showable] using hs)
    obtain ⟨b1, hb1, k1⟩ := rdXs_k h4 hs1 (fun t ht => let ⟨p, hp, hl⟩ := PyData.shownKv_key_le kvs t ht; Nat.le_trans hl (Nat.le_trans (dictText_mem_le hp) hz'))
    obtain ⟨b2, hb2, k2⟩ := rdXs_k h5 hs2 (fun t ht => let ⟨p, hp, hl⟩ := PyData.shownKv_val_le kvs t ht; Nat.le_trans hl (Nat.le_trans (dictText_mem_le hp) hz'))
    obtain ⟨as, r⟩ := (RdX.dict h1 h2 h3 hsys h4 h5).reads
    have hb : ReadAtMost h₀ (PyData.depthKv kvs) (b1 ++ b2) := (hb1.mono (PyData.depthAll_keys_le kvs)).append (hb2.mono (PyData.depthAll_vals_le kvs))
    have hna : a ∉ b1 ++ b2 := not_mem_of_deeper r (by simp only [PyData.depth]; omega) hb
    refine ⟨a :: (b1 ++ b2), ReadAtMost.cons r (by simp only [PyData.depth]; omega) hb, ?_⟩
    simp only [PyData.depth, PyData.shown, PyData.shownKv_eq]
    exact ReprK.dict h1 h2 h3 hsys hna (ReprEntriesK.of_two es.toList _ _
      (k1.more_le (fun b hb => List.mem_append_left _ hb) (PyData.depthAll_keys_le kvs)) (k2.more_le (fun b hb => List.mem_append_right _ hb) (PyData.depthAll_vals_le kvs)))
theorem rdXs_k : ∀ {vs : List Value} {ds : List PyData}, RdXs h₀ vs ds → PyData.showableAll ds = true → (∀ t ∈ PyData.shownAll ds, t.length ≤ sizeLine) →
    ∃ bs, ReadAtMost h₀ (PyData.depthAll ds) bs ∧ ReprAllK prog w bs h₀ (PyData.depthAll ds) vs (PyData.shownAll ds)
  | _, _, .nil, _, _ => ⟨[], (fun _ h => nomatch h), by simp only [PyData.shownAll]; exact .nil⟩
  | _, _, .cons (d := d) (ds := ds) r rs, hs, hz => by
    have hs' : d.showable = true ∧ PyData.showableAll ds = true := by simpa [PyData.showableAll] using hs
    obtain ⟨b1, hb1, k1⟩ := rdX_k r hs'.1 (hz _ (by simp only [PyData.shownAll]; exact List.mem_cons_self ..))
    obtain ⟨b2, hb2, k2⟩ := rdXs_k rs hs'.2 (fun t ht => hz t (by simp only [PyData.shownAll]; exact List.mem_cons_of_mem _ ht))
    refine ⟨b1 ++ b2, fun b hm => ?_, ?_⟩
    · simp only [PyData.depthAll]
      rcases List.mem_append.mp hm with hm | hm
      · obtain ⟨d', as', r', hd'⟩ := hb1 b hm
        exact ⟨d', as', r', Nat.le_trans hd' (Nat.le_max_left _ _)⟩
      · obtain ⟨d', as', r', hd'⟩ := hb2 b hm
        exact ⟨d', as', r', Nat.le_trans hd' (Nat.le_max_right _ _)⟩
    · simp only [PyData.depthAll, PyData.shownAll]
      exact .cons ((k1.more fun b hb => List.mem_append_left _ hb).level_le (Nat.le_max_left _ _)) (k2.more_le (fun b hb => List.mem_append_right _ hb) (Nat.le_max_right _ _))
end
theorem rdX_shows {a : Addr} {d : PyData} (r : RdX h₀ (.ref a) d) (hs : d.showable = true) (hsz : d.shown.length ≤ sizeLine) : ∃ T idr, ShowsBy prog w h₀ a d T idr := by
  obtain ⟨as0, r0⟩ := r.reads
  cases r with
  | list h1 h2 h3 h4 =>
    rename_i o vs n xs
    have hz' : (listText (PyData.shownAll xs)).length ≤ sizeLine := by simpa only [PyData.shown] using hsz
    obtain ⟨bs, hb, hk⟩ := rdXs_k (prog := prog) (w := w) h4 (by simpa [PyData.showable] using hs) (fun t ht => Nat.le_trans (listText_mem_le ht) hz')
    have hna : a ∉ bs := not_mem_of_deeper r0 (by simp only [PyData.depth]; omega) hb
    refine ⟨"list", "list.__repr__", F.slot_list_repr.toG, F.slot_list_str, F.slot_list_format, fun s hk0 => ⟨o, hk0 _ _ h1, h2⟩, fun A E s Q hg hu hk0 hQ => ?_⟩
    simp only [PyData.depth] at hu
    simp only [PyData.shown] at hQ
    obtain ⟨l⟩ := vs
    cases l with
    | nil =>
      have h4' : RdXs h₀ [] xs := h4
      cases h4'
      simp only [PyData.shownAll, listText_nil] at hQ
      exact call_list_repr_empty ⟨o, hk0 _ _ h1, h2⟩ (hk0 _ _ h1) h3 (hQ s.heap _ _ fun _ _ e => e)
    | cons x l => exact call_list_reprK h1 h2 h3 hna (by simpa using hk.length_eq) (fun i y e => hk.item i y (by simpa using e)) hg (fun b _ => Clear.nil b) hu hk0 hQ hz'
  | tuple h1 h2 h3 h4 =>
    rename_i o vs n xs
    have hz' : (tupleText (PyData.shownAll xs)).length ≤ sizeLine := by simpa only [PyData.shown] using hsz
    obtain ⟨bs, hb, hk⟩ := rdXs_k (prog := prog) (w := w) h4 (by simpa [PyData.showable] using hs) (fun t ht => Nat.le_trans (tupleText_mem_le ht) hz')
    have hna : a ∉ bs := not_mem_of_deeper r0 (by simp only [PyData.depth]; omega) hb
    refine ⟨"tuple", "tuple.__repr__", F.slot_tuple_repr, F.slot_tuple_str, F.slot_tuple_format, fun s hk0 => ⟨o, hk0 _ _ h1, h2⟩, fun A E s Q hg hu hk0 hQ => ?_⟩
    simp only [PyData.depth] at hu
    simp only [PyData.shown] at hQ
    exact call_tuple_reprK h1 h2 h3 hna hk hg (fun b _ => Clear.nil b) hu hk0 hQ hz'
  | dict h1 h2 h3 hsys h4 h5 =>
    rename_i o es n kvs
    have hz' : (dictText (PyData.shownKv kvs)).length ≤ sizeLine := by simpa only [PyData.shown] using hsz
    obtain ⟨hs1, hs2⟩ := PyData.showableKv_split kvs (by simpa [PyData.showable] using hs)
    obtain ⟨b1, hb1, k1⟩ := rdXs_k (prog := prog) (w := w) h4 hs1 (fun t ht => let ⟨p, hp, hl⟩ := PyData.shownKv_key_le kvs t ht; Nat.le_trans hl (Nat.le_trans (dictText_mem_le hp) hz'))
    obtain ⟨b2, hb2, k2⟩ := rdXs_k (prog := prog) (w := w) h5 hs2 (fun t ht => let ⟨p, hp, hl⟩ := PyData.shownKv_val_le kvs t ht; Nat.le_trans hl (Nat.le_trans (dictText_mem_le hp) hz'))
    have hb : ReadAtMost h₀ (PyData.depthKv kvs) (b1 ++ b2) := (hb1.mono (PyData.depthAll_keys_le kvs)).append (hb2.mono (PyData.depthAll_vals_le kvs))
    have hna : a ∉ b1 ++ b2 := not_mem_of_deeper r0 (by simp only [PyData.depth]; omega) hb
    refine ⟨"dict", "dict.__repr__", F.slot_dict_repr, F.slot_dict_str, F.slot_dict_format, fun s hk0 => ⟨o, hk0 _ _ h1, h2⟩, fun A E s Q hg hu hk0 hQ => ?_⟩
    simp only [PyData.depth] at hu
    simp only [PyData.shown, PyData.shownKv_eq] at hQ
    exact call_dict_reprK h1 h2 h3 hsys hna (ReprEntriesK.of_two es.toList _ _
      (k1.more_le (fun b hb => List.mem_append_left _ hb) (PyData.depthAll_keys_le kvs)) (k2.more_le (fun b hb => List.mem_append_right _ hb) (PyData.depthAll_vals_le kvs))) hg (fun b _ => Clear.nil b) hu hk0 hQ (by rw [← PyData.shownKv_eq]; exact hz')
theorem repr_rdX {A : Around} {E : Value → Shared → Prop} {s : Shared} {Q : Value → Shared → Prop} {a : Addr} {d : PyData} (r : RdX h₀ (.ref a) d) (hs : d.showable = true) (hg : A.guards = some []) (hu : A.units + (d.depth + 1) < cLine) (hk0 : ∀ b o, h₀.get? b = some o → s.heap.get? b = some o)
    (hQ : ∀ h' u tk, (∀ b o, s.heap.get? b = some o → h'.get? b = some o) → Q (.str d.shown u) { s with heap := h', toks := tk })
    (hsz : d.shown.length ≤ sizeLine) : wpAny (model prog w) A (call (.builtin "repr") [.ref a]) Q E s := by
  obtain ⟨T, idr, S⟩ := rdX_shows (prog := prog) (w := w) r hs hsz
  exact call_repr_slot (by omega) (S.typeIs s hk0) S.slotRepr (S.call A.in1 E s _ hg (by show A.units + 1 + d.depth < cLine; omega) hk0 fun h' u tk hk => ⟨_, _, rfl, hQ h' u tk hk⟩)
end
end Mv

end
section
set_option Elab.async false
set_option linter.all false
set_option autoImplicit false
set_option maxRecDepth 100000
namespace Mv
open PySem PySem.Spec L2
variable [Tbs]

section
variable {X : Cx} {pins : List (Addr × Obj)} {σ : L2.St} {H : Hp} {s : Shared} {b : Nat} {F : FHp} {ι : List Addr} {S : Store}
theorem reads_key {k : Key} {u : Value} {d : PyData} {mk : MV} (hk : keyOf mk = some k) (h : keyIs k u = true) (e : toPD mk = some d) : RdX s.heap u d := by
  rcases keyIs_shape h with ⟨i, t, rfl, rfl⟩ | ⟨x, t, rfl, rfl⟩
  · cases mk <;> first | (cases hk; done) | (cases (Option.some.inj e); cases (Option.some.inj hk); exact .int _ _)
  · cases mk <;> first | (cases hk; done) | (cases (Option.some.inj e); cases (Option.some.inj hk); exact .str _ _)
mutual
theorem rv_reads (I : Inv X pins σ H s) (sm : Sim b F ι S H) : ∀ {v : MV} {x : V} {u : Value} {d : PyData}, RV F ι v x → RelV x u → toPD v = some d → RdX s.heap u d
  | _, _, _, _, .non, r, e => by cases (Option.some.inj e); cases r; exact .none
  | _, _, _, _, .bl b, r, e => by cases (Option.some.inj e); cases r; exact .bool b
  | _, _, _, _, .int i, r, e => by cases (Option.some.inj e); obtain ⟨t, rfl⟩ := r; exact .int i t
  | _, _, _, _, .str i, r, e => by cases (Option.some.inj e); obtain ⟨t, rfl⟩ := r; exact .str i t
  | _, _, _, _, .lst (xs := xs) hF rl, r, e => by
    obtain ⟨ds, e1, rfl⟩ := Option.map_eq_some_iff.mp (show (toPDs xs).map PyData.list = _ from e)
    cases r
    obtain ⟨its, rv, ⟨o, n, ho, hc, _, hd⟩, _⟩ := I.list (SqL.ofRV sm hF)
    exact .list ho hc hd (rvl_reads I sm rl rv e1)
  | _, _, _, _, .tup (xs := xs) hF rl, r, e => by
    obtain ⟨ds, e1, rfl⟩ := Option.map_eq_some_iff.mp (show (toPDs xs).map PyData.tuple = _ from e)
    cases r
    obtain ⟨its, rv, ⟨o, ho, hc, n, hd⟩, _⟩ := I.tuple (SqT.ofRV sm hF)
    exact .tuple ho hc hd (rvl_reads I sm rl rv e1)
  | _, _, _, _, .dK (kvs := kvs) hF rl, r, e => by
    obtain ⟨ds, e1, rfl⟩ := Option.map_eq_some_iff.mp (show (toPDd kvs).map PyData.dict = _ from e)
    cases r
    obtain ⟨hs, hd, hx, es, ep, vs, hdt, hsz, kv, hm⟩ := I.frzK (sm.fh _ _ _ hF)
    obtain ⟨o', es', ho', hx', hd', _, pr, _⟩ := hm
    rw [hd] at ho'
    cases ho'
    rw [hdt] at hd'
    cases hd'
    obtain ⟨h1, h2⟩ := rvk_reads I sm rl kv pr e1
    exact .dict hd hx.1 hdt hs h1 h2
  | _, _, _, _, .dT (kvs := kvs) hF rl, r, e => by
    exact nomatch (show (none : Option PyData) = _ from e)
  | _, _, _, _, .ptr _, _, e => by cases e
  | _, _, _, _, .scr _ _, _, e => by cases e
theorem rvl_reads (I : Inv X pins σ H s) (sm : Sim b F ι S H) : ∀ {xs : List MV} {vs : List V} {us : List Value} {ds : List PyData}, RVL F ι xs vs → Vals vs us → toPDs xs = some ds → RdXs s.heap us ds
  | _, _, _, _, .nil, r, e => by cases (Option.some.inj e); cases r; exact .nil
  | _, _, _, ds, .cons (x := x) (xs := xs) h t, r, e => by
    have e' : (match toPD x, toPDs xs with
      | some d, some ds => some (d :: ds)
      | _, _ => none) = some ds := e
    cases e1 : toPD x with
    | none => rw [e1] at e'; cases e'
    | some d =>
      cases e2 : toPDs xs with
      | none => rw [e1, e2] at e'; cases e'
      | some ds' =>
        rw [e1, e2] at e'
        cases (Option.some.inj e')
        cases r with | cons r1 r2 =>
        exact .cons (rv_reads I sm h r1 e1) (rvl_reads I sm t r2 e2)
theorem rvk_reads (I : Inv X pins σ H s) (sm : Sim b F ι S H) : ∀ {kvs : List (MV × MV)} {vs : List (Key × V)} {us : List (Key × Value)} {es : List DictEntry} {ds : List (PyData × PyData)}, RVK F ι kvs vs → KV vs us → Pairs (mixKind X.prog X.w) es us → toPDd kvs = some ds →
    RdXs s.heap (es.map (·.key)) (ds.map (·.1)) ∧ RdXs s.heap (es.map (·.val)) (ds.map (·.2))
  | _, _, _, _, _, .nil, kv, pr, e => by
    cases (Option.some.inj e)
    cases kv
    cases pr
    exact ⟨.nil, .nil⟩
  | _, _, _, _, ds, .cons (k := k) (x := x) (q := q) (v := v) (r := r) hk h t, kv, pr, e => by
    have e' : (match toPDp (k, x), toPDd r with
      | some d, some ds => some (d :: ds)
      | _, _ => none) = some ds := e
    cases e1 : toPDp (k, x) with
    | none => rw [e1] at e'; cases e'
    | some d =>
      cases e2 : toPDd r with
      | none => rw [e1, e2] at e'; cases e'
      | some ds' =>
        rw [e1, e2] at e'
        cases (Option.some.inj e')
        have e3 : (match toPD k, toPD x with
          | some a, some b => some (a, b)
          | _, _ => none) = some d := e1
        cases e4 : toPD k with
        | none => rw [e4] at e3; cases e3
        | some dk =>
          cases e5 : toPD x with
          | none => rw [e4, e5] at e3; cases e3
          | some dx =>
            rw [e4, e5] at e3
            cases (Option.some.inj e3)
            cases kv with | @cons _ q2 _ _ kr kt =>
            cases pr with | cons p1 p2 p3 =>
            obtain ⟨z1, z2⟩ := kr
            have h1 := rv_reads I sm h z2 e5
            obtain ⟨h3, h4⟩ := rvk_reads I sm t kt p3 e2
            refine ⟨?_, ?_⟩
            · have z3 : keyIs q2.1 _ = true := p1
              rw [← z1] at z3
              exact .cons (reads_key (s := s) hk z3 e4) h3
            · rw [List.map_cons, List.map_cons]
              refine .cons ?_ h4
              rw [p2]
              exact h1
end
end

section
variable {X : Cx} {ex : ExT} {W : WX} {C : Cfg} {a a' a2 : Expr} {m m' m2 : ME} {pos p apos : Pos} {b : Nat} {rs : Es}
def RdsOk (x : V) (d : PyData) (H : Hp) : Prop := ∀ (X : Cx) (pins : List (Addr × Obj)) (σ : L2.St) (s : Shared) (u : Value), Inv X pins σ H s → RelV x u → RdX s.heap u d
def rRepr : List V → Hp → VK → Prop := fun xs H Q => ∃ (x : V) (d : PyData), xs = [x] ∧ RdsOk x d H ∧ d.showable = true ∧ d.shown.length ≤ sizeLine ∧ d.depth ≤ 64 ∧ Q (.str d.shown) H
theorem lk_rds {F : FHp} {ι : List Addr} {S : Store} {H : Hp} {v : MV} {x : V} {d : PyData} (s : Sim b F ι S H) (l : Lk H F ι v x) (e : toPD v = some d) : RdsOk x d H := fun X pins σ t u I r => by
  cases l with
  | rv rr => exact rv_reads I s rr r e
  | cell h1 h2 =>
    rename_i xs a vs
    obtain ⟨ds, e1, rfl⟩ := Option.map_eq_some_iff.mp (show (toPDs xs).map PyData.list = _ from e)
    cases r
    obtain ⟨its, rv, ⟨o, n, ho, hc, _, hd⟩, _⟩ := I.list (SqL.of h1)
    exact .list ho hc hd (rvl_reads I s h2 rv e1)
theorem call_reprA (hg : X.A.guards = some []) (hu : X.A.units + 66 < cLine) : CallR X (.builtin "repr") rRepr := by
  intro pins s σ H xs us Q I r h
  obtain ⟨x, d, rfl, rd, h1, h2, h3, q⟩ := h
  obtain ⟨u, rfl, ru⟩ := vals1 r
  have z1 := rd X pins σ s u I ru
  have refs : ∀ a, u = .ref a → wpAny (model X.prog X.w) X.A (call (.builtin "repr") [u]) (EP X pins σ Q) X.xe s := fun a hu' => by
    subst hu'
    exact repr_rdX z1 h1 hg (by omega) (fun _ _ e => e) (fun h' u tk hk => ⟨.str d.shown, H, I.kept hk, ⟨u, rfl⟩, q⟩) h2
  cases z1 with
  | none => exact P.repr_of_none ⟨.str _, H, I.tok _, ⟨_, rfl⟩, q⟩
  | bool b => exact P.repr_of_bool ⟨.str _, H, I.tok _, ⟨_, rfl⟩, q⟩
  | int i t => exact P.repr_of_int (of_decide_eq_true h1) ⟨.str _, H, I.tok _, ⟨_, rfl⟩, q⟩
  | str i t => exact P.repr_of_str ⟨.str _, H, I.tok _, ⟨_, rfl⟩, q⟩ h2
  | list => exact refs _ rfl
  | tuple => exact refs _ rfl
  | dict => exact refs _ rfl
theorem biok_repr : BiOk b .repr rRepr := by
  intro ex W σ F ι S H vs us z Q s r h k
  simp only [biF] at h
  split at h
  · rename_i v
    cases e : toPD v with
    | none => rw [e] at h; cases h
    | some d =>
      rw [e] at h
      simp only at h
      split at h
      · rename_i hc
        cases h
        rw [Bool.and_eq_true, Bool.and_eq_true] at hc
        obtain ⟨u, rfl, l⟩ := r.one
        exact ⟨u, d, rfl, lk_rds s l e, hc.1, of_decide_eq_true hc.2.1, of_decide_eq_true hc.2.2, k.now s (.str _)⟩
      · cases h
  · cases h
theorem e_dnew {tk : Bool} : PE X (.Dict [] [] pos) (tO ex W b (evO C (.dct tk .nil .nil))) := by
  cases tk with
  | false =>
    refine PE.imp pe_dnewK fun σ H Q ⟨env, S, F, ι, out, he, hs, q, k⟩ p hp => ?_
    cases (ok_some (show ok (OV.nd false []) S = some out from q))
    exact k F ι _ _ (Tr.new hs hp) (hs.new hp) ⟨p, [], rfl, not_nt hp, upd_same, hs.notF hp, fun n l => hs.notCell hp l, .nil⟩
  | true =>
    refine PE.imp pe_dnewT fun σ H Q ⟨env, S, F, ι, out, he, hs, q, k⟩ p hp => ?_
    cases (ok_some (show ok (OV.nd true []) S = some out from q))
    exact k F ι _ _ (Tr.new hs hp) (hs.new hp) ⟨p, [], rfl, not_nt hp, upd_same, hs.notF hp, fun n l => hs.notCell hp l, .nil⟩
theorem keyOf_inj {k k' : MV} {q : Key} (h : keyOf k = some q) : dkey k = some (.inl q) := by
  cases k <;> first | (cases h; done) | (cases (Option.some.inj h); rfl)
theorem rvk_any {F : FHp} {ι : List Addr} {q : Key} : ∀ {kvs : List (MV × MV)} {vs : List (Key × V)}, RVK F ι kvs vs → (kvs.any fun p => decide (dkey p.1 = some (.inl q))) = vs.any fun p => decide (p.1 = q)
  | _, _, .nil => rfl
  | _, _, .cons (q := q0) hk hx t => by
    rw [List.any_cons, List.any_cons, rvk_any t]
    congr 1
    have := keyOf_inj (k' := .non) hk
    by_cases e : q0 = q
    · subst e; simp [this]
    · rw [this]; simp [e]
theorem rvk_map {F : FHp} {ι : List Addr} {q : Key} {v : MV} {w : V} (r : RV F ι v w) : ∀ {kvs : List (MV × MV)} {vs : List (Key × V)}, RVK F ι kvs vs →
    RVK F ι (kvs.map fun p => if dkey p.1 = some (.inl q) then (p.1, v) else p) (vs.map fun p => if p.1 = q then (p.1, w) else p)
  | _, _, .nil => .nil
  | _, _, .cons (k := k) (q := q0) hk hx t => by
    rw [List.map_cons, List.map_cons]
    have := keyOf_inj (k' := .non) hk
    by_cases e : q0 = q
    · subst e
      simp only [this, if_true]
      exact .cons hk r (rvk_map r t)
    · have ne : ¬ dkey k = some (.inl q) := by rw [this]; intro z; cases z; exact e rfl
      simp only [ne, e, if_false]
      exact .cons hk hx (rvk_map r t)
theorem rvk_app {F : FHp} {ι : List Addr} {k : MV} {q : Key} {v : MV} {w : V} (hk : keyOf k = some q) (r : RV F ι v w) : ∀ {kvs : List (MV × MV)} {vs : List (Key × V)}, RVK F ι kvs vs → RVK F ι (kvs ++ [(k, v)]) (vs ++ [(q, w)])
  | _, _, .nil => .cons hk r .nil
  | _, _, .cons hk' hx t => .cons hk' hx (rvk_app hk r t)
theorem rvk_put {F : FHp} {ι : List Addr} {k : MV} {q : Key} {v : MV} {w : V} (hk : keyOf k = some q) (r : RV F ι v w) {kvs : List (MV × MV)} {vs : List (Key × V)} (h : RVK F ι kvs vs) : RVK F ι (dput kvs k (.inl q) v) (putK vs q w) := by
  unfold dput putK
  rw [rvk_any h]
  by_cases c : (vs.any fun p => decide (p.1 = q)) = true
  · rw [if_pos c, if_pos c]
    exact rvk_map r h
  · rw [if_neg c, if_neg c]
    exact rvk_app hk r h
/-- pairs as the layer has them -/
inductive PrL (F : FHp) (ι : List Addr) : List (MV × MV) → List (Key × V) → Prop
  | nil : PrL F ι [] []
  | cons {k v : MV} {q : Key} {w : V} {r : List (MV × MV)} {s : List (Key × V)} : keyOf k = some q → RV F ι v w → PrL F ι r s → PrL F ι ((k, v) :: r) ((q, w) :: s)
theorem dictOf_rel {F : FHp} {ι : List Addr} : ∀ {ps : List (MV × MV)} {qs : List (Key × V)} {acc out : List (MV × MV)} {vs : List (Key × V)}, PrL F ι ps qs → RVK F ι acc vs → dictOf false acc ps = some out → RVK F ι out (mergeK vs qs)
  | _, _, acc, out, vs, .nil, h, e => by
    cases (Option.some.inj e)
    exact h
  | _, _, acc, out, vs, .cons (k := k) (v := v) (q := q) (r := r) hk hv t, h, e => by
    have e' : (match dkey k with
      | some q => if (kindOk false q && decide (acc.length < sizeLine)) = true then dictOf false (dput acc k q v) r else none
      | none => none) = some out := e
    rw [keyOf_inj (k' := .non) hk] at e'
    simp only at e'
    split at e'
    · exact dictOf_rel (vs := putK vs q _) t (rvk_put hk hv h) e'
    · cases e'
/-- what a list of pairs is -/
theorem pairs_rel {F : FHp} {ι : List Addr} {S : Store} {H : Hp} {K : PySem.W.Frag} (s : Sim b F ι S H) : ∀ {xs : List MV} {vs : List V} {ps : List (MV × MV)}, pairUp xs = some ps → RVL F ι xs vs → (∀ p ∈ ps, ∃ q, keyOf p.1 = some q) →
    ∃ (as : List Addr) (qs : List (Key × V)), vs = as.map V.ref ∧ Paired (fun p kv => SqT K H p [kV kv.1, kv.2]) as qs ∧ PrL F ι ps qs
  | [], _, ps, h, .nil, hk => by
    cases (Option.some.inj h)
    exact ⟨[], [], rfl, .nil, .nil⟩
  | x :: xs, _, ps, h, .cons r t, hk => by
    have sh : ∃ k v qs, x = .tup [k, v] ∧ pairUp xs = some qs ∧ ps = (k, v) :: qs := by
      unfold pairUp at h
      split at h
      · rename_i heq; cases heq
      · rename_i k v r' heq
        cases heq
        obtain ⟨qs, e1, rfl⟩ := Option.map_eq_some_iff.mp h
        exact ⟨k, v, qs, rfl, e1, rfl⟩
      · cases h
    obtain ⟨k, v, qs, rfl, e1, rfl⟩ := sh
    obtain ⟨q, e2⟩ := hk (k, v) List.mem_cons_self
    obtain ⟨as, rs, rfl, h1, h2⟩ := pairs_rel (K := K) s e1 t fun p hp => hk p (List.mem_cons_of_mem _ hp)
    cases r with | tup hF rl =>
    cases rl with | cons rk rl =>
    cases rl with | cons rv rl =>
    cases rl
    have ek : ∀ {w : V}, RV F ι k w → w = kV q := fun {w} r => by
      cases k <;> first | (cases e2; done) | (cases (Option.some.inj e2); cases r; rfl)
    have := ek rk
    subst this
    exact ⟨_ :: as, (q, _) :: rs, rfl, .cons (SqT.ofRV s hF) h1, .cons e2 rv h2⟩
theorem dictOf_keys : ∀ {ps acc out : List (MV × MV)}, dictOf false acc ps = some out → ∀ p ∈ ps, ∃ q, keyOf p.1 = some q
  | [], _, _, _, p, h => by cases h
  | (k, v) :: r, acc, out, e, p, hp => by
    have e' : (match dkey k with
      | some q => if (kindOk false q && decide (acc.length < sizeLine)) = true then dictOf false (dput acc k q v) r else none
      | none => none) = some out := e
    cases h1 : dkey k with
    | none => rw [h1] at e'; cases e'
    | some q =>
      rw [h1] at e'
      simp only at e'
      split at e'
      · rename_i hc
        rcases List.mem_cons.mp hp with rfl | hp
        · rw [Bool.and_eq_true] at hc
          cases q with
          | inl q =>
            cases k with
            | int i => exact ⟨_, rfl⟩
            | str i => exact ⟨_, rfl⟩
            | tup xs =>
              obtain ⟨_, _, z⟩ := Option.map_eq_some_iff.mp (show (keysOf xs).map Sum.inr = _ from h1)
              cases z
            | _ => cases h1
          | inr q => exact absurd hc.1 Bool.false_ne_true
        · exact dictOf_keys e' p hp
      · cases e'
def rDictP (K : PySem.W.Frag) : List V → Hp → VK → Prop := fun xs H Q => ∃ (a : Addr) (ps : List Addr) (kvs : List (Key × V)), xs = [.ref a] ∧ SqL K H a (ps.map V.ref) ∧ Paired (fun p kv => SqT K H p [kV kv.1, kv.2]) ps kvs ∧
    ∀ p, H p = none → Q (.ref p) (upd H p (.dK (mergeK [] kvs)))
theorem biok_dict {K : PySem.W.Frag} : BiOk b (.dict false) (rDictP K) := by
  intro ex W σ F ι S H vs us z Q s r h k
  simp only [biF] at h
  split at h
  · rename_i c xs
    cases e : pairUp xs with
    | none => rw [e] at h; cases h
    | some ps =>
      rw [e] at h
      obtain ⟨out, e1, rfl⟩ := Option.map_eq_some_iff.mp (show (dictOf false [] ps).map (OV.nd false) = some z from h)
      obtain ⟨u, rfl, l⟩ := r.one
      obtain ⟨a, ws, rfl, h1, h2⟩ := l.lst s
      obtain ⟨as, qs, rfl, h3, h4⟩ := pairs_rel (K := K) s e h2 (dictOf_keys e1)
      refine ⟨a, as, qs, rfl, SqL.of h1, h3, fun p hp => ?_⟩
      exact k F ι _ _ (Tr.new s hp) (s.new hp) ⟨p, _, rfl, not_nt hp, upd_same, s.notF hp, fun n l => s.notCell hp l, dictOf_rel h4 .nil e1⟩
  · cases h
def rItemsF : V → Hp → VK → Prop := fun x H Q => ∃ (d : Addr) (o : Obj) (kvs : List (Key × V)), x = .ref d ∧ H d = some (.frz o (.dK kvs)) ∧
  ∀ (H' : Hp) (p : Addr) (ts : List Addr), (∀ b o, H b = some o → H' b = some o) → H p = none → (∀ t ∈ ts, H t = none) → ts.Nodup → p ∉ ts → H' p = some (.lst (ts.map V.ref)) → Paired (fun (t : Addr) (q : Key × V) => H' t = some (.tup [kV q.1, q.2])) ts kvs → Q (.ref p) H'
open PySem PyProof.Rows in
theorem pe_itemsF {e : Expr} {te : TE} {cpos : Pos} (hc : X.calm = true) (he : PE X e te) (hg : Gl X "list") (hm : X.mg "list" = none) (hv : bootBuiltins "list" = some (.type "list")) (hbase : attributeBase e "items" X.env (eval e X.env) = eval e X.env) (hline : (apos.endLine == cpos.line) = true) :
    PE X (.Call (.Name "list" p) [.Call (.Attribute e "items" apos) [] [] cpos] [] pos) (fun σ H Q => te σ H fun x H1 => rItemsF x H1 Q) := by
  have hs : starEach [.Call (.Attribute e "items" apos) [] [] cpos] X.env = (false, eval (.Call (.Attribute e "items" apos) [] [] cpos) X.env) :: starEach [] X.env := rfl
  refine ⟨fun pins s σ H Q I hq => ?_⟩
  refine wpAny_Call_Name_kw (ld_blt I hg hm hv ?_)
  refine PyProof.Rows.callWith_type1 ?_ hs rfl
  rw [hs]
  show wpAny _ _ (spliced ((false, eval (.Call (.Attribute e "items" apos) [] [] cpos) X.env) :: backTo pos (starEach [] X.env))) _ _ s
  refine Calls.spliced_cons ?_
  refine wpAny_Call_method (T := "dict") (id := "dict.items") hbase rfl hline F.plainAttrs_dict F.slot_dict_items F.type_dict_items (thn (he.run pins s σ H _ I hq) fun u s1 ⟨x, H1, I1, rx, d, o, kvs, ex, hd, q⟩ => ?_)
  subst ex
  obtain rfl : u = Value.ref d := rx
  obtain ⟨_, hz, hs0, vs, kv, hdo⟩ := I1.hok d _ hd
  obtain ⟨ep, hat⟩ := hdo.dictAt
  have lk : kvs.length = vs.length := Paired.length kv
  have I2 : Inv X pins σ H1 { s1 with heap := s1.heap.push { cls := .type "dict_items", data := .fields #[.ref d] } } := I1.kept (t' := s1.toks) fun b ob q => Heap.get?_push_of_some _ q
  refine ⟨hdo.typeIs, hdo.mapOf.noDict, ?_⟩
  show wpAny _ _ (callWith cpos (.builtin "dict.items") [.ref d] [] []) _ X.xe s1
  refine method_meetsIn F.slot_dict_items F.entry_dict_items rfl (PySem.evalArgs_none ⟨rfl, hdo.typeIs, F.args_dict_items_1 _, _, meets_dict_items (mixKind X.prog X.w) d hs0, ⟨vs, hdo⟩, ?_⟩)
  refine Calls.spliced_nil ?_
  refine PySem.W.kdx_call (knd := mixKind X.prog X.w) (kvs := vs) (ep := ep) (I1.ok.hd hc) ⟨_, Heap.get?_push_size _ rfl, rfl, rfl⟩ (hat.push _) (by omega) fun h' tk acc c as hk hS hl hG hacc => ?_
  obtain ⟨H', k1, k2, k3, k4, k5, k6, J⟩ := LiI.items_laid (tk := tk) I2 hz kv hk hS hl hG hacc
  exact ⟨.ref _, H', J, rfl, q H' _ as k1 k2 k3 (List.Pairwise.imp (fun {a b} (h : a < b) => Nat.ne_of_lt h) hG.rise) k4 k5 k6⟩
theorem Sim.ext {F : FHp} {ι : List Addr} {S : Store} {H H' : Hp} (s : Sim b F ι S H) (h : ∀ b o, H b = some o → H' b = some o) : Sim b F ι S H' where
  fh := fun a c o e => h _ _ (s.fh a c o e)
  fc := s.fc
  len := s.len
  cell := fun n xs e => by
    obtain ⟨a, vs, e1, e2, e3, e4, e5⟩ := s.cell n xs e
    exact ⟨a, vs, e1, h _ _ e2, e3, e4, e5⟩
  apart := s.apart
  pl := s.pl
  tabs := s.tabs.ext h
theorem Tr.ext' {F : FHp} {ι : List Addr} {S : Store} {H H' : Hp} (h : ∀ b o, H b = some o → H' b = some o) : Tr b F ι S H F ι S H' where
  keep := fun _ _ _ e _ => e
  ext := ⟨[], by simp⟩
  priv := fun a q => by
    have : H' a = H a := by
      cases e : H a with
      | none => exact absurd e q.1.1
      | some o => exact h _ _ e
    exact ⟨this, by rw [this]; exact q.1, q.2⟩
  dom := fun a q => by
    have : H' a = H a := by
      cases e : H a with
      | none => exact absurd e q.1
      | some o => exact h _ _ e
    rw [this]
    exact q
/-- new tuples are frozen one after another -/
theorem frz_items {F0 : FHp} {ι0 : List Addr} {S0 : Store} {H0 : Hp} {ι : List Addr} {S : Store} {H' : Hp} (hb : 0 < b) : ∀ {kvs : List (MV × MV)} {ts : List Addr} {vs : List (Key × V)} {F : FHp}, (∀ t ∈ ts, H0 t = none) → (∀ t ∈ ts, F t = none ∧ ∀ n, liveC S n → ι[n]? ≠ some t) → ts.Nodup →
    Paired (fun (t : Addr) (q : Key × V) => H' t = some (HO.tup [kV q.1, q.2])) ts vs → RVK F ι kvs vs → Sim b F ι S H' → Tr b F0 ι0 S0 H0 F ι S H' → ∃ F', (∀ a p, F a = some p → F' a = some p) ∧ (∀ a, a ∉ ts → F' a = F a) ∧ Sim b F' ι S H' ∧ Tr b F0 ι0 S0 H0 F' ι S H' ∧ RVL F' ι (kvs.map fun p => .tup [p.1, p.2]) (ts.map V.ref)
  | _, [], _, F, hn, hf, nd, pr, rl, s, t => by
    cases pr
    cases rl
    exact ⟨F, fun _ _ h => h, fun _ _ => rfl, s, t, .nil⟩
  | _, tt :: ts, _, F, hn, hf, nd, pr, rl, s, t => by
    cases pr with | cons h pr =>
    cases rl with | @cons k x q v _ _ hk hx rl =>
    obtain ⟨hF, hc⟩ := hf tt List.mem_cons_self
    have kp := updF_keep (c := 0) (o := HO.tup [kV q, v]) hF
    have nd' := List.nodup_cons.mp nd
    have s1 := s.freeze h hF hb hc
    have t1 := t.freeze (c := 0) (o := HO.tup [kV q, v]) hF (not_nt (hn tt List.mem_cons_self))
    obtain ⟨F', k1, k2, k3, k4, k5⟩ := frz_items hb (fun x hx => hn x (List.mem_cons_of_mem _ hx)) (fun x hx => ⟨by rw [updF_ne (fun z => nd'.1 (by rw [← z]; exact hx))]; exact (hf x (List.mem_cons_of_mem _ hx)).1, (hf x (List.mem_cons_of_mem _ hx)).2⟩) nd'.2 pr (rl.mono kp ⟨[], by simp⟩) s1 t1
    refine ⟨F', fun a p e => k1 _ _ (kp _ _ e), fun a ha => ?_, k3, k4, ?_⟩
    · rw [k2 a (fun z => ha (List.mem_cons_of_mem _ z)), updF_ne (fun z => ha (by rw [z]; exact List.mem_cons_self))]
    · rw [List.map_cons, List.map_cons]
      exact .cons (.tup (k1 _ _ updF_same) (.cons (key_rvv hk) (.cons (hx.mono (fun a p e => k1 _ _ (kp _ _ e)) ⟨[], by simp⟩) .nil))) k5
theorem e_items {cpos : Pos} (hb : 0 < b) (hc : X.calm = true) (ha : PE X a (tV ex W b (ev C m))) (hg : Gl X "list") (hm : X.mg "list" = none) (hab : abOk a = true) (hline : (apos.endLine == cpos.line) = true) :
    PE X (.Call (.Name "list" p) [.Call (.Attribute a "items" apos) [] [] cpos] [] pos) (tO ex W b (evO C (.bi .listItems (.cons false m .nil)))) := by
  refine PE.imp (pe_itemsF hc ha hg hm (by decide +kernel) (abase hab) hline) fun σ H Q ⟨env, S, F, ι, out, he, hs, q, k⟩ => ?_
  have q' : (((ev C m env S).bind fun x S1 => (ok ([] : List MV) S1).bind fun xs S2 => ok (x :: xs) S2).bind fun vs S1 => match lkL S1 vs with
    | some vs' => lift (biF .listItems vs') S1
    | none => none) = some out := q
  rcases bind_some q' with ⟨xs, S2, h1, q1⟩ | ⟨c', v, S1, h1, rfl⟩
  · rcases bind_some h1 with ⟨x, S3, h2, q2⟩ | ⟨c', v, S3, h2, z⟩
    · cases (ok_some (show ok [x] S3 = _ from q2))
      refine tG.ok he hs h2 fun F1 ι1 H1 u t1 s1 ru => ?_
      have ru : RV F1 ι1 x u := ru
      cases el : lkL S2 [x] with
      | none => rw [el] at q1; cases q1
      | some vs' =>
        rw [el] at q1
        obtain ⟨z, e, rfl⟩ := lift_some q1
        simp only [biF] at e
        split at e
        · rename_i c kvs
          have lx : look S2 x = some (.dct c false kvs) := by
            have el' : (match look S2 x, lkL S2 [] with
              | some x, some xs => some (x :: xs)
              | _, _ => none) = some [MV.dct c false kvs] := el
            cases e3 : look S2 x with
            | none => rw [e3] at el'; cases el'
            | some y =>
              rw [e3] at el'
              have : [y] = [MV.dct c false kvs] := Option.some.inj el'
              cases this
              rfl
          obtain rfl := look_dct lx
          cases e
          cases ru with
          | dK hF rl =>
            refine ⟨_, _, _, rfl, s1.fh _ _ _ hF, fun H' p ts k1 k2 k3 k4 k5 k6 k7 => ?_⟩
            have s2 := s1.ext k1
            obtain ⟨F', j1, j2, j3, j4, j5⟩ := frz_items (F0 := F1) (ι0 := ι1) (S0 := S2) hb k3 (fun t ht => ⟨s1.notF (k3 t ht), fun n l => s1.notCell (k3 t ht) l⟩) k4 k7 rl s2 (Tr.ext' k1)
            refine (k.tr t1) F' ι1 H' (.ref p) j4 j3 ⟨p, _, rfl, not_nt k2, k6, ?_, fun n l => s1.notCell k2 l, j5⟩
            rw [j2 p k5]
            exact s1.notF k2
        · cases e
    · cases z
  · rcases bind_some h1 with ⟨x, S2, h2, q2⟩ | ⟨c'', v', S2, h2, z⟩
    · cases (ok_some (show ok [x] S2 = _ from q2))
    · cases z
      exact tG.exc he hs h2 k
end
end Mv

end
section
set_option Elab.async false
set_option linter.all false
set_option autoImplicit false
set_option maxRecDepth 100000
namespace Mv
open PySem PySem.Spec PyProof.Rows L2

structure RoomG (k : Nat) (A : Around) : Prop where
  rm : Room k A
  gd : A.guards = some []
theorem RoomG.deeper {k : Nat} {A : Around} (r : RoomG (k + 1) A) (env : PySem.Env) : RoomG k (A.deeper env) := ⟨r.rm.deeper env, r.gd⟩
theorem RoomG.mono {j k : Nat} {A : Around} (r : RoomG k A) (h : j ≤ k) : RoomG j A := ⟨r.rm.mono h, r.gd⟩
theorem RoomG.u66 {k : Nat} {A : Around} (r : RoomG k A) : A.units + 66 < cLine := by have := r.rm.un; omega
/-- a def's promise under RoomG -/
structure FnG (P : Program) (w : World) (K : PySem.W.Frag) (mg : Str → Option Value) (base : Heap) (CX : CXT) (k : Nat) (f : Addr) (fd : FuncData) (ps : List Str) (sp : Sp) : Prop where
  len : ∀ vs H Q E, sp vs H Q E → vs.length = ps.length
  run : ∀ (A : Around) (outer : List PySem.Env) (s : Shared) (H : Hp) (args : Args) (us : List Value) (vs : List V) (Q : VK) (E : XK), RoomG k A → Env0 P w K mg base A outer s H → BindsTo s fd args (ps.zip us) → Vals vs us → sp vs H Q E →
    codeAny (model P w) A (.call (.ref f) args) (CR CX outer P w H s Q E) s
section
variable {P : Program} {w : World} {K : PySem.W.Frag} {mg : Str → Option Value} {base : Heap} {CX : CXT} {k : Nat} {f : Addr} {fd : FuncData} {ps : List Str} {sp : Sp}
/-- a def by its body: HandS's rule, its rooms with guards -/
theorem fnG_of {name qual : Str} {params : Arguments} {body : List Stmt} {scope : Scope} {dV kV doc pm cdv ct oc : Value} {an od : Option Addr}
    {osl : Array (Option Value)} {N : List Str} (lk : K.lookup f = some ⟨oc, od, .func (PySem.W.fnOf name qual params body scope dV kV doc pm an cdv ct), osl⟩) (hcd : PySem.W.codeIn K cdv qual = true) (S : FnScope N ps scope)
    (len : ∀ vs H Q E, sp vs H Q E → vs.length = ps.length)
    (hbody : ∀ (A : Around) (outer : List PySem.Env) (s : Shared) (H : Hp) (vs : List V) (Q : VK) (E : XK), RoomG k (A.deeper (envOfC qual scope s.heap.objs.size f cdv)) → sp vs H Q E →
      ∃ t, PSs (cxOf CX P w K mg base N qual scope f cdv A outer s H E) body t ∧ t { nx := fun _ H' => Q .non H', rt := Q } (start N vs) H) :
    FnG P w K mg base CX (k + 1) f (PySem.W.fnOf name qual params body scope dV kV doc pm an cdv ct) ps sp :=
  ⟨len, fun A outer s H args us vs Q E hr e0 hb r hsp => LamX.run_ofS lk hcd S hr.rm e0 hb r (len _ _ _ _ hsp) fun _ => hbody A outer s H vs Q E (hr.deeper _) hsp⟩
end
section
variable {X : Cx} {CX : CXT} {k : Nat} {f : Addr} {fd : FuncData} {ps : List Str} {sp : Sp}
/-- the callee runs, its arguments bound -/
theorem run_fnG {pins : List (Addr × Obj)} {σ : L2.St} {H : Hp} {s : Shared} {Q : VK} {E : XK} {args : Args} {us : List Value} {vs : List V} (F : FnG X.prog X.w X.K X.mg X.base CX k f fd ps sp) (hr : RoomG k X.A) (hb : BindsTo s fd args (ps.zip us)) (hx : PassesAt CX X σ E)
    (I : Inv X pins σ H s) (r : Vals vs us) (h : sp vs H Q E) : wpAny (model X.prog X.w) X.A (call (.ref f) args.pos args.kw) (EP X pins σ Q) X.xe s := by
  refine wpAny_call (codeAny_mono (F.run X.A X.stack s H args us vs Q E hr I.env0 hb r h) fun r s' hq => ?_)
  cases r with
  | error e => exact hx pins H s e s' I hq
  | ok fl =>
    cases fl with
    | ret u => exact I.after hq
    | next => exact False.elim hq
    | brk => exact False.elim hq
    | cont => exact False.elim hq
end

variable [Tbs]
abbrev WX0 (E : XK) : WX := fun cls d _ H => E cls d H
def spM (p : Pg) (fuel k : Nat) (ex : ExT) (f : Str) : Sp := fun us H Q E => ∃ (F : FHp) (ι : List Addr) (S : Store) (vs : List MV) (col cm : Nat) (out : Out MV), col < cm ∧ Sim cm F ι S H ∧ RVL F ι vs us ∧ callN p fuel k f vs col cm S = some out ∧ Kt ex (WX0 E) cm relV [] F ι S H Q out
theorem callN_len {p : Pg} {fuel k : Nat} {f : Str} {vs : List MV} {col cm : Nat} {S : Store} {out : Out MV} {d : Df} (hd : p.get f = some d) (h : callN p fuel k f vs col cm S = some out) : vs.length = d.ps.length := by
  cases k with
  | zero => cases h
  | succ k =>
    unfold callN at h
    rw [hd] at h
    have h' : runDf p fuel (callN p fuel k) d vs col cm S = some out := h
    unfold runDf at h'
    split at h'
    · assumption
    · cases h'
theorem spM_len {p : Pg} {fuel k : Nat} {ex : ExT} {f : Str} {d : Df} (hd : p.get f = some d) : ∀ vs H Q E, spM p fuel k ex f vs H Q E → vs.length = d.ps.length := fun vs H Q E ⟨F, ι, S, ws, col, cm, out, h1, h2, h3, h4, _⟩ => by
  rw [← h3.length]
  exact callN_len hd h4

def Es.app : Es → Es → Es
  | .nil, t => t
  | .cons s e r, t => .cons s e (r.app t)
def Es.split : Nat → Es → Es × Es
  | 0, r => (.nil, r)
  | _ + 1, .nil => (.nil, .nil)
  | n + 1, .cons s e r => let p := Es.split n r; (.cons s e p.1, p.2)
theorem Es.split_app : ∀ {n : Nat} {r : Es}, (Es.split n r).1.app (Es.split n r).2 = r
  | 0, r => rfl
  | _ + 1, .nil => rfl
  | n + 1, .cons s e r => by
    show Es.cons s e ((Es.split n r).1.app (Es.split n r).2) = _
    rw [Es.split_app]
section
variable {C : Cfg}
theorem bindA {α β γ : Type} (r : R α) (f : α → Store → R β) (g : β → Store → R γ) : (r.bind f).bind g = r.bind fun a S => (f a S).bind g := by
  cases r with
  | none => rfl
  | some o => cases o <;> rfl
theorem bindOk {α : Type} {r : R α} : (r.bind fun a S => ok a S) = r := by
  cases r with
  | none => rfl
  | some o => cases o <;> rfl
theorem evs_app : ∀ {r t : Es} {env : Env} {S : Store}, evs C (r.app t) env S = (evs C r env S).bind fun xs S1 => (evs C t env S1).bind fun ys S2 => ok (xs ++ ys) S2
  | .nil, t, env, S => by
    show evs C t env S = (ok [] S).bind _
    show evs C t env S = (evs C t env S).bind fun ys S2 => ok ([] ++ ys) S2
    rw [show (fun (ys : List MV) (S2 : Store) => ok ([] ++ ys) S2) = fun a S => ok a S from rfl, bindOk]
  | .cons false e r, t, env, S => by
    show ((ev C e env S).bind fun x S1 => (evs C (r.app t) env S1).bind fun xs S2 => ok (x :: xs) S2) = ((ev C e env S).bind fun x S1 => (evs C r env S1).bind fun xs S2 => ok (x :: xs) S2).bind _
    rw [bindA]
    congr 1
    funext x S1
    rw [evs_app, bindA, bindA]
    congr 1
    funext xs S2
    rw [bindA]
    show _ = (ok (x :: xs) S2).bind _
    rfl
  | .cons true e r, t, env, S => by
    show ((ev C e env S).bind fun x S1 => match starV x with
      | some ys => (evs C (r.app t) env S1).bind fun xs S2 => ok (ys ++ xs) S2
      | none => none) = ((ev C e env S).bind fun x S1 => match starV x with
      | some ys => (evs C r env S1).bind fun xs S2 => ok (ys ++ xs) S2
      | none => none).bind _
    rw [bindA]
    congr 1
    funext x S1
    cases starV x with
    | none => rfl
    | some zs =>
      show ((evs C (r.app t) env S1).bind fun xs S2 => ok (zs ++ xs) S2) = ((evs C r env S1).bind fun xs S2 => ok (zs ++ xs) S2).bind _
      rw [evs_app, bindA, bindA]
      congr 1
      funext xs S2
      rw [bindA]
      show _ = (ok (zs ++ xs) S2).bind _
      show ((evs C t env S2).bind fun a S => (ok (xs ++ a) S).bind fun xs S2 => ok (zs ++ xs) S2) = (evs C t env S2).bind fun ys S2 => ok (zs ++ xs ++ ys) S2
      congr 1
      funext a S3
      show ok (zs ++ (xs ++ a)) S3 = _
      rw [List.append_assoc]
end

def permA {α : Type} (pm : List Nat) (vs : List α) : List α := if pm.isEmpty then vs else pm.filterMap fun i => vs[i]?
theorem permA_rvl {F : FHp} {ι : List Addr} {vs : List MV} {us : List V} (r : RVL F ι vs us) (pm : List Nat) : RVL F ι (perm pm vs) (permA pm us) := by
  unfold perm permA
  by_cases h : pm.isEmpty = true
  · rw [if_pos h, if_pos h]
    exact r
  · rw [if_neg h, if_neg h]
    clear h
    induction pm with
    | nil => exact .nil
    | cons i pm ih =>
      rw [List.filterMap_cons, List.filterMap_cons]
      cases e : vs[i]? with
      | none =>
        have : us[i]? = none := by
          rw [List.getElem?_eq_none_iff, ← r.length]
          exact List.getElem?_eq_none_iff.mp e
        rw [this]
        exact ih
      | some v =>
        obtain ⟨u, e2, rv⟩ := r.get e
        rw [e2]
        exact .cons rv ih
theorem permA_vals {vs : List V} {us : List Value} (r : Vals vs us) (pm : List Nat) : Vals (permA pm vs) (permA pm us) := by
  unfold permA
  by_cases h : pm.isEmpty = true
  · rw [if_pos h, if_pos h]
    exact r
  · rw [if_neg h, if_neg h]
    clear h
    induction pm with
    | nil => exact .nil
    | cons i pm ih =>
      rw [List.filterMap_cons, List.filterMap_cons]
      cases e : vs[i]? with
      | none =>
        rw [r.none_of e]
        exact ih
      | some v =>
        obtain ⟨u, e2, rv⟩ := r.get e
        rw [e2]
        exact .cons rv ih
/-- the keywords ks behind n positional values are bound in the order pm -/
def KB (fd : FuncData) (ps ks : List Str) (n : Nat) (pm : List Nat) : Prop := ∀ (us ws : List Value), us.length = n → ws.length = ks.length → bindArgs fd ⟨us, ks.zip ws⟩ = pure (ps.zip (permA pm (us ++ ws)))
inductive KwOk (P : ME → Expr → Prop) : Es → List Keyword → Prop
  | nil : KwOk P .nil []
  | cons {m : ME} {e : Expr} {r : Es} {nm : Str} {pos : Pos} {ks : List Keyword} : P m e → KwOk P r ks → KwOk P (.cons false m r) (⟨some nm, e, pos⟩ :: ks)
def kwNames : List Keyword → List Str
  | [] => []
  | ⟨some nm, _, _⟩ :: r => nm :: kwNames r
  | ⟨none, _, _⟩ :: r => kwNames r
theorem PK.imp {X : Cx} {ks : List Keyword} {t t' : TA} (h : PK X ks t) (w : ∀ σ H Q, t' σ H Q → t σ H Q) : PK X ks t' := ⟨fun pos pins s σ H Q I q => h.run pos pins s σ H Q I (w σ H Q q)⟩
section
variable {X : Cx} {ex : ExT} {W : WX} {C : Cfg} {b : Nat}
theorem k_es : ∀ {r : Es} {ks : List Keyword}, KwOk (fun m e => PE X e (tV ex W b (ev C m))) r ks → PK X ks (tL ex W b (evs C r))
  | _, _, .nil => by
    refine PK.imp pk_nil fun σ H Q ⟨env, S, F, ι, out, he, hs, q, k⟩ => ?_
    obtain rfl := ok_some q
    exact k.now hs .nil
  | _, _, .cons (m := m) (e := e) (r := r) p t => by
    refine PK.imp (pk_cons p (k_es t)) fun σ H Q h => ?_
    obtain ⟨env, S, F, ι, out, he, hs, q, k⟩ := h
    have q' : (ev C m env S).bind (fun x S1 => (evs C r env S1).bind fun xs S2 => ok (x :: xs) S2) = some out := q
    rcases bind_some q' with ⟨x, S1, h1, q1⟩ | ⟨c', v, S1, h1, rfl⟩
    · refine tG.ok he hs h1 fun F1 ι1 H1 u t1 s1 ru => ?_
      rcases bind_some q1 with ⟨xs, S2, h2, q2⟩ | ⟨c', v, S2, h2, rfl⟩
      · obtain rfl := ok_some q2
        refine tG.ok (he.tr t1 hs) s1 h2 fun F2 ι2 H2 v t2 s2 rv => ?_
        exact k F2 ι2 H2 _ (t1.trans t2) s2 (.cons (t2.rv s1 ru) rv)
      · exact tG.exc (he.tr t1 hs) s1 h2 (ExK.tr k t1)
    · exact tG.exc he hs h1 k
theorem kw_all {P : ME → Expr → Prop} {pos : Pos} {env : PySem.Env} : ∀ {r : Es} {ks : List Keyword}, KwOk P r ks → (backToKw pos (keywordEach ks env)).all (·.1.isSome) = true ∧ (backToKw pos (keywordEach ks env)).filterMap (·.1) = kwNames ks ∧ (backToKw pos (keywordEach ks env)).any (·.1.isNone) = false
  | _, _, .nil => ⟨rfl, rfl, rfl⟩
  | _, _, .cons (e := e) (nm := nm) (ks := ks) (pos := pos') _ t => by
    obtain ⟨h1, h2, h3⟩ := kw_all (pos := pos) (env := env) t
    have e1 : backToKw pos (keywordEach (⟨some nm, e, pos'⟩ :: ks) env) = (some nm, do let v ← eval e env; standAt pos; pure v) :: backToKw pos (keywordEach ks env) := rfl
    rw [e1]
    refine ⟨?_, ?_, ?_⟩
    · rw [List.all_cons, h1]
      rfl
    · rw [List.filterMap_cons]
      show nm :: (backToKw pos (keywordEach ks env)).filterMap (·.1) = _
      rw [h2]
      rfl
    · rw [List.any_cons, h3]
      rfl
variable {k : Nat} {fa : Addr} {fd : FuncData} {ps : List Str} {f : Str} {p : Pg} {fuel : Nat} {p0 pos : Pos}
theorem EsOk.num {P : ME → Expr → Prop} : ∀ {r : Es} {es : List Expr}, EsOk P r es → esNum r = some es.length
  | _, _, .nil => rfl
  | _, _, .cons _ _ t => by
    show (esNum _).map (· + 1) = _
    rw [EsOk.num t]
    rfl
theorem KwOk.num {P : ME → Expr → Prop} : ∀ {r : Es} {ks : List Keyword}, KwOk P r ks → esNum r = some (kwNames ks).length
  | _, _, .nil => rfl
  | _, _, .cons _ t => by
    show (esNum _).map (· + 1) = _
    rw [KwOk.num t]
    rfl
/-- the call, its arguments' values known -/
theorem call_core {pm : List Nat} {σ : L2.St} {H : Hp} {Q : VK} (hC : C.call = callN p fuel k) (hcol : C.col < C.cm) {us : List V} {F : FHp} {ι : List Addr} {S : Store} {H1 : Hp} {F1 : FHp} {ι1 : List Addr} {S1 : Store} {vs : List MV} {out : Out OV}
    (t1 : Tr C.cm F ι S H F1 ι1 S1 H1) (s1 : Sim C.cm F1 ι1 S1 H1) (rv : RVL F1 ι1 vs us) (q : ((C.call f (perm pm vs) C.col C.cm S1).bind fun v S2 => ok (OV.val v) S2) = some out) (kk : Kt ex W C.cm RelO σ F ι S H Q out) :
    spM p fuel k ex f (permA pm us) H1 Q (WE W σ) := by
  rcases bind_some q with ⟨v, S2, h1, q1⟩ | ⟨c', v, S2, h1, rfl⟩
  · obtain rfl := ok_some q1
    refine ⟨F1, ι1, S1, perm pm vs, C.col, C.cm, .ok v S2, hcol, s1, permA_rvl rv pm, by rw [← hC]; exact h1, fun F' ι' H' y t s r => ?_⟩
    exact kk.tr t1 F' ι' H' y t s r
  · refine ⟨F1, ι1, S1, perm pm vs, C.col, C.cm, .exc c' v S2, hcol, s1, permA_rvl rv pm, by rw [← hC]; exact h1, ?_⟩
    exact ExK.tr kk t1
/-- f(e, .., k = v, ..) -/
theorem e_callK {j : Nat} {rs ws : Es} {es : List Expr} {ks : List Keyword} {pm : List Nat} (F : FnG X.prog X.w X.K X.mg X.base (L2.CX X.prog X.w) j fa fd ps (spM p fuel k ex f)) (hr : RoomG j X.A) (hg : Gl X f) (hm : X.mg f = some (.ref fa)) (hk : PySem.W.keepIn X.K (.ref fa) = true)
    (hb : KB fd ps (kwNames ks) es.length pm) (tk : Takes X W) (hC : C.call = callN p fuel k) (hcol : C.col < C.cm) (ha : EsOk (fun m e => PE X e (tV ex W C.cm (ev C m))) rs es) (hks : KwOk (fun m e => PE X e (tV ex W C.cm (ev C m))) ws ks) (hdb : (f == ("__debug__" : Str)) = false) :
    PE X (.Call (.Name f p0) es ks pos) (tO ex W C.cm (evO C (.call f (rs.app ws) pm))) := by
  obtain ⟨a1, a2, a3⟩ := kw_all (pos := pos) (env := X.env) hks
  have hst : (backTo pos (starEach es X.env)).any (·.1) = false := by rw [backTo_any]; exact starEach_plain ha.plain
  refine ⟨fun pins s σ H Q I ⟨env, S, Fh, ι, out, he, hs, q, k0⟩ => ?_⟩
  have q' : (((evs C rs env S).bind fun xs S1 => (evs C ws env S1).bind fun ys S2 => ok (xs ++ ys) S2).bind fun vs S1 => (C.call f (perm pm vs) C.col C.cm S1).bind fun v S2 => ok (OV.val v) S2) = some out := by
    rw [← evs_app]
    exact q
  rw [bindA] at q'
  refine wpAny_Call_Name_kw (ld_glob I hg hm ?_ hdb)
  -- behind the values
  have go : ∀ (us zs : List V) (uv zv : List Value) (s2 : Shared) (H2 : Hp) (F2 : FHp) (ι2 : List Addr) (S2 : Store) (vs ys : List MV), Inv X pins σ H2 s2 → Vals us uv → Vals zs zv → uv.length = es.length → zv.length = (kwNames ks).length → Tr C.cm Fh ι S H F2 ι2 S2 H2 → Sim C.cm F2 ι2 S2 H2 →
      RVL F2 ι2 (vs ++ ys) (us ++ zs) → ((C.call f (perm pm (vs ++ ys)) C.col C.cm S2).bind fun v S2 => ok (OV.val v) S2) = some out →
      wpAny (model X.prog X.w) X.A (call (.ref fa) uv ((kwNames ks).zip zv)) (EP X pins σ Q) X.xe s2 := fun us zs uv zv s2 H2 F2 ι2 S2 vs ys I2 r1 r2 l1 l2 t2 s2' rv qq =>
    run_fnG (args := ⟨uv, (kwNames ks).zip zv⟩) F hr (BindsTo.of_eq (hb uv zv l1 l2)) (passAt tk σ) I2 (permA_vals (r1.append r2) pm) (call_core hC hcol t2 s2' rv qq k0)
  have hA : tL ex W C.cm (evs C rs) σ H (fun us H1 => ∃ F1 ι1 S1 xs, Tr C.cm Fh ι S H F1 ι1 S1 H1 ∧ Sim C.cm F1 ι1 S1 H1 ∧ RVL F1 ι1 xs us ∧ xs.length = es.length ∧ EnvOk F1 ι1 env σ ∧
      (((evs C ws env S1).bind fun ys S2 => ok (xs ++ ys) S2).bind fun vs S1 => (C.call f (perm pm vs) C.col C.cm S1).bind fun v S2 => ok (OV.val v) S2) = some out) := by
    rcases bind_some q' with ⟨xs, S1, h1, q1⟩ | ⟨c', v, S1, h1, rfl⟩
    · exact ⟨env, S, Fh, ι, _, he, hs, h1, fun F1 ι1 H1 us t1 s1 r => ⟨F1, ι1, S1, xs, t1, s1, r, evs_num ha.num h1, he.tr t1 hs, q1⟩⟩
    · exact ⟨env, S, Fh, ι, _, he, hs, h1, k0⟩
  have hW : ∀ (us : List V) (H1 : Hp) (F1 : FHp) (ι1 : List Addr) (S1 : Store) (xs : List MV), Tr C.cm Fh ι S H F1 ι1 S1 H1 → Sim C.cm F1 ι1 S1 H1 → RVL F1 ι1 xs us → EnvOk F1 ι1 env σ →
      (((evs C ws env S1).bind fun ys S2 => ok (xs ++ ys) S2).bind fun vs S1 => (C.call f (perm pm vs) C.col C.cm S1).bind fun v S2 => ok (OV.val v) S2) = some out →
      tL ex W C.cm (evs C ws) σ H1 (fun zs H2 => ∃ F2 ι2 S2 ys, Tr C.cm Fh ι S H F2 ι2 S2 H2 ∧ Sim C.cm F2 ι2 S2 H2 ∧ RVL F2 ι2 (xs ++ ys) (us ++ zs) ∧ ys.length = (kwNames ks).length ∧ ys.length = zs.length ∧
        ((C.call f (perm pm (xs ++ ys)) C.col C.cm S2).bind fun v S2 => ok (OV.val v) S2) = some out) := by
    intro us H1 F1 ι1 S1 xs t1 s1 r he1 q1
    rw [bindA] at q1
    rcases bind_some q1 with ⟨ys, S2, h2, q2⟩ | ⟨c', v, S2, h2, rfl⟩
    · exact ⟨env, S1, F1, ι1, _, he1, s1, h2, fun F2 ι2 H2 zs t2 s2 r2 => ⟨F2, ι2, S2, ys, t1.trans t2, s2, (t2.rvl s1 r).append r2, evs_num hks.num h2, RVL.length r2, q2⟩⟩
    · exact ⟨env, S1, F1, ι1, _, he1, s1, h2, ExK.tr k0 t1⟩
  cases es with
  | nil =>
    have hA' := (a_es ha).run pos pins s σ H _ I hA
    have e1 : rs = .nil := by cases ha; rfl
    subst e1
    refine PySem.W.callWith_KW0 (h₀ := X.base) I.ok.mod.kin hk a1 ?_ (by rw [a3]; rfl)
    rw [a2]
    obtain ⟨env', S', F', ι', out', he', hs', h1, k1⟩ := hA
    obtain rfl := ok_some h1
    obtain ⟨F1, ι1, S1, xs, t1, s1, r, _, he1, q1⟩ := k1 F' ι' H [] Tr.refl hs' .nil
    have e2 : xs = [] := by cases r; rfl
    subst e2
    refine thn ((k_es hks).run pos pins s σ H _ I (hW [] H F1 ι1 S1 [] t1 s1 r he1 q1)) fun zv s2 ⟨zs, H2, I2, rz, F2, ι2, S2, ys, t2, s2', rv, l2, l3, q2⟩ => ⟨I2.kIn, ?_⟩
    have l4 := rz.length
    exact go [] zs [] zv s2 H2 F2 ι2 S2 [] ys I2 .nil rz rfl (by omega) t2 s2' rv q2
  | cons e0 es =>
    have hA' := (a_es ha).run pos pins s σ H _ I hA
    refine PySem.W.callWith_KW (h₀ := X.base) I.ok.mod.kin hk a1 (thn hA' fun uv s1 ⟨us, H1, I1, ru, F1, ι1, S1, xs, t1, s1', r, l1, he1, q1⟩ => ?_) (by rw [hst, a3]; rfl) (starEach_ns (ha.plain _ List.mem_cons_self))
    refine thn ((k_es hks).run pos pins s1 σ H1 _ I1 (hW us H1 F1 ι1 S1 xs t1 s1' r he1 q1)) fun zv s2 ⟨zs, H2, I2, rz, F2, ι2, S2, ys, t2, s2', rv, l2, l3, q2⟩ => ⟨I2.kIn, ?_⟩
    rw [a2]
    have l4 := rz.length
    have l5 := ru.length
    have l6 := r.length
    exact go us zs uv zv s2 H2 F2 ι2 S2 xs ys I2 ru rz (by omega) (by omega) t2 s2' rv q2
end
end Mv

end
section
set_option Elab.async false
set_option linter.all false
set_option autoImplicit false
set_option maxRecDepth 100000
namespace PySem
namespace OwnX
open PySem.W PySem.Calls PyProof.Rows PySem.HandSPX
def iA (fl : Str) (p1 p2 : Pos) : Arguments := { posonlyargs := [], args := [{ arg := "self", annotation := none, pos := p1 }, { arg := fl, annotation := none, pos := p2 }], vararg := none, kwonlyargs := [], kw_defaults := [], kwarg := none, defaults := [] }
def iB (fl : Str) (q1 q2 q3 q4 : Pos) : List Stmt := [.Assign [.Attribute (.Name "self" q1) fl q2] (.Name fl q3) q4]
def iS (fl : Str) : Scope := { kind := .function, names := [(PySem.Str.ofString "self", .local), (fl, .local)], isGenerator := false, isCoroutine := false, more := [] }
/-- what the written part says of the class cn, at C, with the one field fl, and of its __init__, at fI -/
structure ClsTxt (K : Frag) (mg : Str → Option Value) (cn fl : Str) (C fI : Addr) : Prop where
  gC : mg cn = some (.ref C)
  cls : ∃ nm q N bs bm sn sub ab col dd k0 k1 k2 k3 k5, K.lookup C = some (excClassObj nm q C N bs bm true sn sub ab col dd k0 k1 k2 k3 k5 "ValueError.__new__") ∧ refsVE bm = true
  sa : findIn K (.ref C) "__setattr__" = some (some (.builtin "object.__setattr__"))
  xf : L2.XfC K C
  noN : findIn K (.ref C) fl = some none
  iC : findIn K (.ref C) "__init__" = some (some (.ref fI))
  tC : typeIn K (.ref fI) = some (.type "function")
  kC : keepIn K (.ref C) = true
  tyC : typeIn K (.ref C) = some (.type "type")
  fn : ∃ (oc : Value) (od : Option Addr) (doc pm : Value) (an : Option Addr) (cdv ct : Value) (osl : Array (Option Value)) (qn : Str) (p1 p2 q1 q2 q3 q4 : Pos),
    K.lookup fI = some ⟨oc, od, .func (fnOf "__init__" qn (iA fl p1 p2) (iB fl q1 q2 q3 q4) (iS fl) .none .none doc pm an cdv ct), osl⟩ ∧ codeIn K cdv qn = true ∧
    ∀ x v : Value, bindArgs (fnOf "__init__" qn (iA fl p1 p2) (iB fl q1 q2 q3 q4) (iS fl) .none .none doc pm an cdv ct) ⟨[x, v], []⟩ = pure [(("self" : Str), x), (fl, v)]
  ns : (fl == ("self" : Str)) = false
  nd : (fl == ("__debug__" : Str)) = false
theorem ldC {M : Model} {s : Shared} {name : Str} {scope : Scope} {L a : Addr} {cd : Value} {m : Str → Option Value} {x : Str} {pos : Pos} {v : Value} {Q : Value → Shared → Prop} {A : Around} {E : Value → Shared → Prop} (hn : s.heap.Ns L m) (hv : m x = some v) (h : Q v s)
    (hk : scope.kind = .function) (hl : (envOfC name scope L a cd).kindOf x = some .local) (hd : (x == ("__debug__" : Str)) = false) :
    wpAny M A (eval (.Name x pos) (envOfC name scope L a cd)) Q E s := wpAny_Name (wpAny_loadName_local hk hl hn hv h) hd
/-- a made one -/
structure OwnMade (fl : Str) (h h' : Heap) (e C d : Addr) (v : Value) : Prop where
  keep : ∀ b o, h.get? b = some o → h'.get? b = some o
  new : h.objs.size ≤ e
  obj : ∃ oe vs, h'.get? e = some oe ∧ oe.cls = .ref C ∧ oe.dict = some d ∧ oe.data = .fields vs ∧ vs[1]? = some .none
  dbig : h.objs.size ≤ d
  dne : d ≠ e
  ns : h'.Ns1 d (fun y => if y = fl then some v else none)
structure InitEnd (fl : Str) (h h' : Heap) (x C dx t1 : Addr) (v : Value) : Prop where
  keep : ∀ b o, b ≠ x → h.get? b = some o → h'.get? b = some o
  obj : h'.get? x = some { cls := .ref C, dict := some dx, data := .fields #[.ref t1, .none, .none, .none, .bool false, .none] }
  dbig : h.objs.size ≤ dx
  dne : dx ≠ x
  ns : h'.Ns1 dx (fun y => if y = fl then some v else none)
section
variable {prog : Program} {w : World} {A : Around} {E : Value → Shared → Prop} {R : Result → Shared → Prop} {s : Shared} {K : Frag} {mg : Str → Option Value} {cn fl : Str} {C fI : Addr}
theorem own_init (T : ClsTxt K mg cn fl C fI) {x t0 : Addr} {v : Value} (X : K.In s.heap) (hlim : s.heap.NoLimit) (hx : s.heap.get? x = some (excO C t0)) (hnx : K.lookup x = none) (hroom : A.depth < recursionLimit)
    (hq : ∀ h' tk dx, InitEnd fl s.heap h' x C dx t0 v → R (.ok (.ret .none)) { s with heap := h', toks := tk }) :
    codeAny (model prog w) A (.call (.ref fI) ⟨[.ref x, v], []⟩) R s := by
  obtain ⟨oc, od, doc, pm, an, cdv, ct, osl, qn, p1, p2, q1, q2, q3, q4, ho, hcd, hbd⟩ := T.fn
  obtain ⟨nm, q, N, bs, bm, sn, sub, ab, col, dd, k0, k1, k2, k3, k5, hC, hbm⟩ := T.cls
  have hns := T.ns
  have hcl : clsIn K C = some { name := nm, bases := bs, mro := .ref C :: bm, ns := N, qualname := q, hasDict := true, slotNames := sn, subclasses := sub, abstract := ab, collection := col, hasDel := false } := by unfold clsIn; rw [hC] <;> rfl
  have lS : (iS fl).names.lookup ("self" : Str) = some .local := by first | rfl | simp [iS, List.lookup]
  have lF : (iS fl).names.lookup fl = some .local := by
    show List.lookup fl [(PySem.Str.ofString "self", NameKind.local), (fl, .local)] = _
    unfold List.lookup
    rw [show (fl == PySem.Str.ofString "self") = false from hns]
    simp [List.lookup]
  refine Att.call_fn (binds := [(("self" : Str), .ref x), (fl, v)]) X hlim ho hcd hroom (BindsTo.of_eq (hbd _ _)) ?_ (fun s₁ IC => ?_) rfl rfl rfl
  · simp only [List.all_cons, List.all_nil, lS, lF]
    rfl
  obtain ⟨h₁, tk₁, rfl⟩ := IC.toInCall.same
  have k : ∀ b o, s.heap.get? b = some o → h₁.get? b = some o := IC.toInCall.keep
  have hn := IC.toInCall.ns
  have hxL : s.heap.objs.size ≠ x := Nat.ne_of_gt (Heap.lt_size hx)
  have X₁ : K.In h₁ := X.keeps k
  have hx₁ := k _ _ hx
  have bS : bindL (envOfC qn (iS fl) s.heap.objs.size fI cdv).kindOf [(("self" : Str), .ref x), (fl, v)] (fun _ => none) ("self" : Str) = some (.ref x) := by
    have n1 : ("self" : Str) ≠ fl := fun z => by rw [← z] at hns; simp at hns
    have q1 : (envOfC qn (iS fl) s.heap.objs.size fI cdv).kindOf "self" = some .local := lS
    have q2 : (envOfC qn (iS fl) s.heap.objs.size fI cdv).kindOf fl = some .local := lF
    simp [bindL, q1, q2, n1]
  have bF : bindL (envOfC qn (iS fl) s.heap.objs.size fI cdv).kindOf [(("self" : Str), .ref x), (fl, v)] (fun _ => none) fl = some v := by
    have n1 : ("self" : Str) ≠ fl := fun z => by rw [← z] at hns; simp at hns
    have q1 : (envOfC qn (iS fl) s.heap.objs.size fI cdv).kindOf "self" = some .local := lS
    have q2 : (envOfC qn (iS fl) s.heap.objs.size fI cdv).kindOf fl = some .local := lF
    simp [bindL, q1, q2, n1]
  show wpAny _ _ (execs _ _) _ _ _
  refine wpAny_execs_cons (plainObj_wpAny_Assign_Attribute ?_)
  refine ldC (v := v) hn bF (ldC (v := .ref x) hn bS ?_ rfl lS (by decide)) rfl lF T.nd
  refine set_plain X₁ (ox := excO C t0) (od := none) ⟨hx₁, rfl, rfl, trivial⟩ T.sa ?_
  refine exc_osa X₁ hx₁ hcl (show refsVE (.ref C :: bm) = true from hbm) rfl T.noN (fun h₃ tk₃ dx k₃ dn dne hx₃ hn₃ => ?_)
  show wpAny _ _ (execs _ _) _ _ _
  have z : s.heap.objs.size < h₁.objs.size := hn.lt
  exact wpAny_execs_nil (hq h₃ tk₃ dx ⟨fun b o hb e => k₃ b o hb (k b o e), hx₃, Nat.le_of_lt (Nat.lt_of_lt_of_le z dn), dne, hn₃⟩)
theorem own_made (T : ClsTxt K mg cn fl C fI) {v : Value} (X : K.In s.heap) (hlim : s.heap.NoLimit) (hroom : A.depth + 1 < recursionLimit)
    (hq : ∀ h' tk e d, OwnMade fl s.heap h' e C d v → R (.ok (.ret (.ref e))) { s with heap := h', toks := tk }) :
    codeAny (model prog w) A (.call (.ref C) ⟨[v], []⟩) R s := by
  obtain ⟨nm, q, N, bs, bm, sn, sub, ab, col, dd, k0, k1, k2, k3, k5, hC, hbm⟩ := T.cls
  obtain ⟨hp, g, dr, tk, os⟩ := s
  have k : ∀ b o, hp.get? b = some o → ((hp.push (kdv_tup [v])).push (excO C hp.objs.size)).get? b = some o := fun b o e => Heap.get?_push_of_some _ (Heap.get?_push_of_some _ e)
  have hget : ((hp.push (kdv_tup [v])).push (excO C hp.objs.size)).get? (hp.objs.size + 1) = some (excO C hp.objs.size) := by heap_get
  have hnx : K.lookup (hp.objs.size + 1) = none := by
    cases e : K.lookup (hp.objs.size + 1) with
    | none => rfl
    | some o =>
      have z : hp.get? (hp.objs.size + 1) = some o := X _ _ e
      exact absurd (Nat.lt_of_succ_lt (Heap.lt_size z)) (Nat.lt_irrefl _)
  refine call_own F.excBase_ValueError (fun X => refsVE_contains X bm hbm) (X _ _ hC) (looks_findIn X T.iC) (fun self => bind_fn X self T.tC) (by show 1 ≤ sizeLine; rw [sizeLine_eq]; decide) ?_
  refine own_init (s := ⟨(hp.push (kdv_tup [v])).push (excO C hp.objs.size), g, dr, tk, os⟩) T (X.keeps k) (hlim.keeps k) hget hnx ?_ fun h' tk' dx ⟨k', hx, dn, dne, hns⟩ => ?_
  · show A.depth + 1 < recursionLimit
    exact hroom
  · have old : ∀ b o, hp.get? b = some o → h'.get? b = some o := fun b o e => k' b o (Nat.ne_of_lt (Nat.lt_succ_of_lt (Heap.lt_size e))) (k b o e)
    have z : hp.objs.size + 1 + 1 ≤ dx := by
      first
        | (simpa only [Heap.size_push] using dn)
        | exact dn
        | (have q := dn; rw [Heap.size_push, Heap.size_push] at q; exact q)
    exact ⟨rfl, hq h' tk' (hp.objs.size + 1) dx ⟨old, Nat.le_succ _, ⟨_, _, hx, rfl, rfl, rfl, rfl⟩, Nat.le_trans (Nat.le_trans (Nat.le_succ _) (Nat.le_succ _)) z, dne, hns⟩⟩
end
end OwnX
end PySem

end
section
set_option Elab.async false
set_option linter.all false
set_option autoImplicit false
set_option maxRecDepth 100000
namespace Mv
open PySem PySem.Spec L2
variable [Tbs]

/-- the state at a def's entry -/
structure E0 where
  F : FHp
  ι : List Addr
  S : Store
  H : Hp
  /-- what is known to stay (of a loop's start) -/
  kF : FHp
  kι : List Addr
inductive SvOk (F : FHp) (ι : List Addr) (S : Store) (H : Hp) : SV → Option V → Prop
  | un {o : Option V} : SvOk F ι S H .un o
  | val {v : MV} {x : V} : RV F ι v x → SvOk F ι S H (.val v) (some x)
  | ol {xs : List MV} {a : Addr} {vs : List V} : H a = some (.lst vs) → F a = none → (∀ n, liveC S n → ι[n]? ≠ some a) → RVL F ι xs vs → SvOk F ι S H (.ol xs) (some (.ref a))
/-- an owned list of the slots -/
def ownd (sl : Sl) (σ : L2.St) (a : Addr) : Prop := ∃ (i : Nat) (xs : List MV), sl[i]? = some (.ol xs) ∧ σ[i]? = some (some (.ref a))
structure SlOk (e : E0) (F : FHp) (ι : List Addr) (S : Store) (H : Hp) (sl : Sl) (σ : L2.St) : Prop where
  len : sl.length = σ.length
  at_ : ∀ (i : Nat) (s : SV) (o : Option V), sl[i]? = some s → σ[i]? = some o → SvOk F ι S H s o
  new : ∀ a, ownd sl σ a → ¬ NT (e.H a)
  apart : ∀ (i j : Nat) (xs ys : List MV) (a : Addr), sl[i]? = some (.ol xs) → sl[j]? = some (.ol ys) → σ[i]? = some (some (.ref a)) → σ[j]? = some (some (.ref a)) → i = j
structure StOk (be : Nat) (e : E0) (F : FHp) (ι : List Addr) (S : Store) (H : Hp) (sl : Sl) (σ : L2.St) : Prop where
  sim : Sim be F ι S H
  tr : Tr be e.F e.ι e.S e.H F ι S H
  sl : SlOk e F ι S H sl σ
  kf : ∀ a p, e.kF a = some p → F a = some p
  ki : ∃ r, ι = e.kι ++ r
theorem ext2 {l l' : List Addr} {e : List Addr} (h : ∃ r, l = e ++ r) (h' : ∃ r, l' = l ++ r) : ∃ r, l' = e ++ r := by
  obtain ⟨r, rfl⟩ := h
  obtain ⟨r', rfl⟩ := h'
  exact ⟨r ++ r', by rw [List.append_assoc]⟩

section
variable {be : Nat} {e : E0} {F F' F1 : FHp} {ι ι' ι1 : List Addr} {S S' S1 : Store} {H H' H1 : Hp} {sl : Sl} {σ : L2.St}
theorem SlOk.own (k : SlOk e F ι S H sl σ) {a : Addr} (h : ownd sl σ a) : ∃ vs, H a = some (.lst vs) ∧ F a = none ∧ (∀ n, liveC S n → ι[n]? ≠ some a) := by
  obtain ⟨i, xs, h1, h2⟩ := h
  cases k.at_ i _ _ h1 h2 with
  | ol a1 a2 a3 a4 => exact ⟨_, a1, a2, a3⟩
theorem anyOwn_no (h : anyOwn sl = false) (a : Addr) : ¬ ownd sl σ a := fun ⟨i, xs, h1, h2⟩ => by
  unfold anyOwn at h
  rw [List.any_eq_false] at h
  exact absurd rfl (h _ (List.mem_of_getElem? h1))
/-- what stands behind, where nothing owned changes -/
theorem SlOk.keep (k : SlOk e F ι S H sl σ) (hF : ∀ a p, F a = some p → F' a = some p) (hι : ∃ r, ι' = ι ++ r) (hH : ∀ a, ownd sl σ a → H' a = H a ∧ F' a = none ∧ ∀ n, liveC S' n → ι'[n]? ≠ some a) : SlOk e F' ι' S' H' sl σ where
  len := k.len
  at_ := fun i s o h1 h2 => by
    cases k.at_ i s o h1 h2 with
    | un => exact .un
    | val r => exact .val (r.mono hF hι)
    | ol a1 a2 a3 a4 =>
      obtain ⟨b1, b2, b3⟩ := hH _ ⟨i, _, h1, h2⟩
      exact .ol (b1.trans a1) b2 b3 (a4.mono hF hι)
  new := k.new
  apart := k.apart
open Classical in
noncomputable def viewF (c : Nat) (F : FHp) (H : Hp) (sl : Sl) (σ : L2.St) : FHp := fun a => if ownd sl σ a then (H a).map fun o => (c, o) else F a
theorem viewF_own {c : Nat} {a : Addr} {o : HO} (h : ownd sl σ a) (e : H a = some o) : viewF c F H sl σ a = some (c, o) := by
  unfold viewF
  rw [if_pos h, e]
  rfl
theorem viewF_not {c : Nat} {a : Addr} (h : ¬ ownd sl σ a) : viewF c F H sl σ a = F a := by
  unfold viewF
  rw [if_neg h]
theorem viewF_mono {c : Nat} (k : SlOk e F ι S H sl σ) : ∀ a p, F a = some p → viewF c F H sl σ a = some p := fun a p h => by
  by_cases q : ownd sl σ a
  · obtain ⟨vs, _, h2, _⟩ := k.own q
    rw [h2] at h
    cases h
  · rw [viewF_not q]
    exact h
theorem view_sim {c b : Nat} (k : StOk be e F ι S H sl σ) (hc : c < b) (hb : be ≤ b) : Sim b (viewF c F H sl σ) ι S H where
  fh := fun a c' o h => by
    by_cases q : ownd sl σ a
    · obtain ⟨vs, h1, _⟩ := k.sl.own q
      rw [viewF_own q h1] at h
      cases h
      exact h1
    · rw [viewF_not q] at h
      exact k.sim.fh a c' o h
  fc := fun a c' o h => by
    by_cases q : ownd sl σ a
    · obtain ⟨vs, h1, _⟩ := k.sl.own q
      rw [viewF_own q h1] at h
      cases h
      exact hc
    · rw [viewF_not q] at h
      exact Nat.lt_of_lt_of_le (k.sim.fc a c' o h) hb
  len := k.sim.len
  cell := fun n xs h => by
    obtain ⟨a, vs, e1, e2, e3, e4, e5⟩ := k.sim.cell n xs h
    have nq : ¬ ownd sl σ a := fun q => (k.sl.own q).choose_spec.2.2 n ⟨xs, h⟩ e1
    exact ⟨a, vs, e1, e2, by rw [viewF_not nq]; exact e3, e4.mono (viewF_mono k.sl) ⟨[], by simp⟩, e5⟩
  apart := k.sim.apart
  pl := fun a c' o h => by
    by_cases q : ownd sl σ a
    · obtain ⟨vs, h1, _⟩ := k.sl.own q
      rw [viewF_own q h1] at h
      cases h
      rfl
    · rw [viewF_not q] at h
      exact k.sim.pl a c' o h
  tabs := k.sim.tabs
theorem view_env {c : Nat} (k : StOk be e F ι S H sl σ) : EnvOk (viewF c F H sl σ) ι (view c sl) σ where
  len := by unfold view; rw [List.length_map]; exact k.sl.len
  at_ := fun i v h => by
    unfold view at h
    rw [List.getElem?_map] at h
    obtain ⟨s, h1, h2⟩ := Option.map_eq_some_iff.mp h
    have hl : i < σ.length := by rw [← k.sl.len]; exact (List.getElem?_eq_some_iff.mp h1).1
    obtain ⟨o, ho⟩ : ∃ o, σ[i]? = some o := ⟨σ[i], List.getElem?_eq_getElem hl⟩
    cases k.sl.at_ i s o h1 ho with
    | un => cases h2
    | val r =>
      cases (Option.some.inj h2)
      exact ⟨_, ho, r.mono (viewF_mono k.sl) ⟨[], by simp⟩⟩
    | ol a1 a2 a3 a4 =>
      cases (Option.some.inj h2)
      exact ⟨_, ho, .lst (viewF_own ⟨i, _, h1, ho⟩ a1) (a4.mono (viewF_mono k.sl) ⟨[], by simp⟩)⟩
def dropF (c : Nat) (F : FHp) : FHp := fun a => match F a with
  | some (d, o) => if d < c then some (d, o) else none
  | none => none
theorem dropF_some {c : Nat} {a : Addr} {p : Nat × HO} (h : dropF c F a = some p) : F a = some p ∧ p.1 < c := by
  unfold dropF at h
  split at h
  · rename_i d o e
    split at h
    · cases h
      exact ⟨e, by assumption⟩
    · cases h
  · cases h
theorem dropF_of {c d : Nat} {a : Addr} {o : HO} (h : F a = some (d, o)) (hd : d < c) : dropF c F a = some (d, o) := by
  unfold dropF
  rw [h]
  exact if_pos hd
theorem dropF_none {c : Nat} {a : Addr} (h : F a = none ∨ ∃ d o, F a = some (d, o) ∧ c ≤ d) : dropF c F a = none := by
  unfold dropF
  rcases h with h | ⟨d, o, h, hd⟩
  · rw [h]
  · rw [h]
    exact if_neg (by omega)
mutual
theorem RV.drop {c : Nat} (hc : 0 < c) : ∀ {v : MV} {x : V}, RV F ι v x → colsLt c v = true → RV (dropF c F) ι v x
  | _, _, .non, _ => .non
  | _, _, .bl b, _ => .bl b
  | _, _, .int i, _ => .int i
  | _, _, .str i, _ => .str i
  | _, _, .lst h r, q => by
    have q' := Bool.and_eq_true_iff.mp (show (decide (_ < c) && colsLtL c _) = true from q)
    exact .lst (dropF_of h (of_decide_eq_true q'.1)) (RVL.dropC hc r q'.2)
  | _, _, .tup h r, q => .tup (dropF_of h hc) (RVL.dropC hc r q)
  | _, _, .dK h r, q => by
    have q' := Bool.and_eq_true_iff.mp (show (decide (_ < c) && colsLtD c _) = true from q)
    exact .dK (dropF_of h (of_decide_eq_true q'.1)) (RVK.dropC hc r q'.2)
  | _, _, .dT h r, q => by
    have q' := Bool.and_eq_true_iff.mp (show (decide (_ < c) && colsLtD c _) = true from q)
    exact .dT (dropF_of h (of_decide_eq_true q'.1)) (RVT.dropC hc r q'.2)
  | _, _, .ptr h, _ => .ptr h
  | _, _, .scr h r, q => .scr (dropF_of h hc) (RVL.dropC hc r q)
theorem RVL.dropC {c : Nat} (hc : 0 < c) : ∀ {v : List MV} {x : List V}, RVL F ι v x → colsLtL c v = true → RVL (dropF c F) ι v x
  | _, _, .nil, _ => .nil
  | _, _, .cons h r, q => by
    have q' := Bool.and_eq_true_iff.mp (show (colsLt c _ && colsLtL c _) = true from q)
    exact .cons (RV.drop hc h q'.1) (RVL.dropC hc r q'.2)
theorem RVK.dropC {c : Nat} (hc : 0 < c) : ∀ {v : List (MV × MV)} {x : List (Key × V)}, RVK F ι v x → colsLtD c v = true → RVK (dropF c F) ι v x
  | _, _, .nil, _ => .nil
  | _, _, .cons k h r, q => by
    have q' := Bool.and_eq_true_iff.mp (show (colsLtP c (_, _) && colsLtD c _) = true from q)
    have q2 := Bool.and_eq_true_iff.mp (show (colsLt c _ && colsLt c _) = true from q'.1)
    exact .cons k (RV.drop hc h q2.2) (RVK.dropC hc r q'.2)
theorem RVT.dropC {c : Nat} (hc : 0 < c) : ∀ {v : List (MV × MV)} {x : List (List Key × V)}, RVT F ι v x → colsLtD c v = true → RVT (dropF c F) ι v x
  | _, _, .nil, _ => .nil
  | _, _, .cons k h r, q => by
    have q' := Bool.and_eq_true_iff.mp (show (colsLtP c (_, _) && colsLtD c _) = true from q)
    have q2 := Bool.and_eq_true_iff.mp (show (colsLt c _ && colsLt c _) = true from q'.1)
    exact .cons k (RV.drop hc h q2.2) (RVT.dropC hc r q'.2)
end
mutual
theorem colsLt_mono {c d : Nat} (h : c ≤ d) : ∀ (v : MV), colsLt c v = true → colsLt d v = true
  | .lst k xs, q => by
    have q' := Bool.and_eq_true_iff.mp (show (decide (k < c) && colsLtL c xs) = true from q)
    exact Bool.and_eq_true_iff.mpr ⟨decide_eq_true (Nat.lt_of_lt_of_le (of_decide_eq_true q'.1) h), colsLtL_mono h xs q'.2⟩
  | .tup xs, q => colsLtL_mono h xs q
  | .dct k _ kvs, q => by
    have q' := Bool.and_eq_true_iff.mp (show (decide (k < c) && colsLtD c kvs) = true from q)
    exact Bool.and_eq_true_iff.mpr ⟨decide_eq_true (Nat.lt_of_lt_of_le (of_decide_eq_true q'.1) h), colsLtD_mono h kvs q'.2⟩
  | .scr xs, q => colsLtL_mono h xs q
  | .non, _ => rfl
  | .bl _, _ => rfl
  | .int _, _ => rfl
  | .str _, _ => rfl
  | .ptr _, _ => rfl
  | .fn _, _ => rfl
theorem colsLtL_mono {c d : Nat} (h : c ≤ d) : ∀ (v : List MV), colsLtL c v = true → colsLtL d v = true
  | [], _ => rfl
  | x :: xs, q => by
    have q' := Bool.and_eq_true_iff.mp (show (colsLt c x && colsLtL c xs) = true from q)
    exact Bool.and_eq_true_iff.mpr ⟨colsLt_mono h x q'.1, colsLtL_mono h xs q'.2⟩
theorem colsLtD_mono {c d : Nat} (h : c ≤ d) : ∀ (v : List (MV × MV)), colsLtD c v = true → colsLtD d v = true
  | [], _ => rfl
  | (k, x) :: xs, q => by
    have q' := Bool.and_eq_true_iff.mp (show ((colsLt c k && colsLt c x) && colsLtD c xs) = true from q)
    have q2 := Bool.and_eq_true_iff.mp q'.1
    exact Bool.and_eq_true_iff.mpr ⟨Bool.and_eq_true_iff.mpr ⟨colsLt_mono h k q2.1, colsLt_mono h x q2.2⟩, colsLtD_mono h xs q'.2⟩
end
theorem Sim.drop {b : Nat} (s : Sim b F ι S H) (hc : 0 < be) : Sim be (dropF be F) ι S H where
  fh := fun a c o h => s.fh a c o (dropF_some h).1
  fc := fun a c o h => (dropF_some h).2
  len := s.len
  cell := fun n xs h => by
    obtain ⟨a, vs, e1, e2, e3, e4, e5⟩ := s.cell n xs h
    exact ⟨a, vs, e1, e2, dropF_none (.inl e3), e4.dropC hc (colsLtL_mono hc _ e5), e5⟩
  apart := s.apart
  pl := fun a c o h => s.pl a c o (dropF_some h).1
  tabs := s.tabs
theorem Sim.dropMid {b c : Nat} (s : Sim b F ι S H) (hc : 0 < c) : Sim b (dropF c F) ι S H where
  fh := fun a c o h => s.fh a c o (dropF_some h).1
  fc := fun a c o h => s.fc a c o (dropF_some h).1
  len := s.len
  cell := fun n xs h => by
    obtain ⟨a, vs, e1, e2, e3, e4, e5⟩ := s.cell n xs h
    exact ⟨a, vs, e1, e2, dropF_none (.inl e3), e4.dropC hc (colsLtL_mono hc _ e5), e5⟩
  apart := s.apart
  pl := fun a c o h => s.pl a c o (dropF_some h).1
  tabs := s.tabs
theorem dropF_all {b c : Nat} (s : Sim b F ι S H) (h : b ≤ c) : dropF c F = F := funext fun a => by
  cases e : F a with
  | none => exact dropF_none (.inl e)
  | some p => exact dropF_of e (Nat.lt_of_lt_of_le (s.fc a p.1 p.2 e) h)
theorem old_rv {f : Fr} (hlo : 0 < f.lo) (s : Sim f.be F ι S H) {v : MV} {x : V} (r : RV F ι v x) (ho : f.old v = true) : RV (dropF f.lo F) ι v x := by
  rcases Bool.or_eq_true_iff.mp (show (decide (f.be ≤ f.lo) || colsLt f.lo v) = true from ho) with h | h
  · rw [dropF_all s (of_decide_eq_true h)]
    exact r
  · exact r.drop hlo h
theorem oldL_rv {f : Fr} (hlo : 0 < f.lo) (s : Sim f.be F ι S H) {v : List MV} {x : List V} (r : RVL F ι v x) (ho : f.oldL v = true) : RVL (dropF f.lo F) ι v x := by
  rcases Bool.or_eq_true_iff.mp (show (decide (f.be ≤ f.lo) || colsLtL f.lo v) = true from ho) with h | h
  · rw [dropF_all s (of_decide_eq_true h)]
    exact r
  · exact r.dropC hlo h
theorem if_some {α : Type} {c : Prop} [Decidable c] {x : Option α} {y : α} (h : (if c then x else none) = some y) : c ∧ x = some y := by
  by_cases q : c
  · rw [if_pos q] at h
    exact ⟨q, h⟩
  · rw [if_neg q] at h
    cases h
/-- behind an expression: the view is taken back -/
theorem StOk.back {b : Nat} (k : StOk be e F ι S H sl σ) (hc : 0 < be) (hb : be < b) (t : Tr b (viewF be F H sl σ) ι S H F1 ι1 S1 H1) (s : Sim b F1 ι1 S1 H1) : StOk be e (dropF be F1) ι1 S1 H1 sl σ := by
  have ownAt : ∀ a, ownd sl σ a → ∃ vs, F1 a = some (be, .lst vs) ∧ H a = some (.lst vs) ∧ H1 a = some (.lst vs) := fun a q => by
    obtain ⟨vs, h1, _⟩ := k.sl.own q
    have h2 := t.keep a be (.lst vs) (viewF_own q h1) hb
    exact ⟨vs, h2, h1, s.fh _ _ _ h2⟩
  have keepF : ∀ a p, F a = some p → dropF be F1 a = some p := fun a p h => dropF_of (t.keep a p.1 p.2 (viewF_mono k.sl a p h) (Nat.lt_trans (k.sim.fc a p.1 p.2 h) hb)) (k.sim.fc a p.1 p.2 h)
  refine ⟨s.drop hc, ⟨fun a c o h hcb => keepF a (c, o) (k.tr.keep a c o h hcb), ?_, fun a q => ?_, fun a q => t.dom a (k.tr.dom a q)⟩, k.sl.keep keepF t.ext fun a q => ?_, fun a p h => keepF a p (k.kf a p h), ext2 k.ki t.ext⟩
  · obtain ⟨r1, z1⟩ := k.tr.ext
    obtain ⟨r2, z2⟩ := t.ext
    exact ⟨r1 ++ r2, by rw [z2, z1, List.append_assoc]⟩
  · obtain ⟨z1, p1⟩ := k.tr.priv a q
    have nq : ¬ ownd sl σ a := fun z => k.sl.new a z q.1
    obtain ⟨z2, p2⟩ := t.priv a ⟨p1.1, by rw [viewF_not nq]; exact p1.2.1, p1.2.2⟩
    exact ⟨z2.trans z1, p2.1, dropF_none (.inl p2.2.1), p2.2.2⟩
  · obtain ⟨vs, h1, h2, h3⟩ := ownAt a q
    refine ⟨h3.trans h2.symm, dropF_none (.inr ⟨be, _, h1, Nat.le_refl _⟩), fun n l z => ?_⟩
    obtain ⟨xs, hx⟩ := l
    obtain ⟨a', vs', e1, e2, e3, _⟩ := s.cell n xs hx
    rw [z] at e1
    cases e1
    rw [h1] at e3
    cases e3
/-- a step that leaves alone what is nobody's -/
theorem StOk.step (k : StOk be e F ι S H sl σ) (t : Tr be F ι S H F1 ι1 S1 H1) (s : Sim be F1 ι1 S1 H1) : StOk be e F1 ι1 S1 H1 sl σ :=
  have kp : ∀ a p, F a = some p → F1 a = some p := fun a p h => t.keep a p.1 p.2 h (k.sim.fc a p.1 p.2 h)
  ⟨s, k.tr.trans t, k.sl.keep kp t.ext fun a q => by
    obtain ⟨vs, h1, h2, h3⟩ := k.sl.own q
    obtain ⟨z, p1, p2, p3⟩ := t.priv a ⟨⟨(by rw [h1]; intro z; cases z), fun ps => by rw [h1]; intro z; cases z⟩, h2, h3⟩
    exact ⟨z, p2, p3⟩, fun a p h => kp a p (k.kf a p h), ext2 k.ki t.ext⟩
/-- .. where nothing is owned -/
theorem StOk.plain (k : StOk be e F ι S H sl σ) (hn : anyOwn sl = false) (t : Tr be F ι S H F1 ι1 S1 H1) (s : Sim be F1 ι1 S1 H1) : StOk be e F1 ι1 S1 H1 sl σ := k.step t s
theorem viewF_plain {c : Nat} (hn : anyOwn sl = false) : viewF c F H sl σ = F := funext fun a => viewF_not (anyOwn_no hn a)
/-- what it gives: a value, or a list that is nobody's yet -/
def RelS (e : E0) (sl : Sl) (σ : L2.St) (F : FHp) (ι : List Addr) (S : Store) (H : Hp) : OV → V → Prop
  | .val v, x => RV F ι v x
  | .nl xs, x => ∃ a vs, x = .ref a ∧ ¬ NT (e.H a) ∧ ¬ ownd sl σ a ∧ H a = some (.lst vs) ∧ F a = none ∧ (∀ n, liveC S n → ι[n]? ≠ some a) ∧ RVL F ι xs vs
  | .nd _ _, _ => False
end
/-- what is wanted behind an error -/
def ExS (ex : ExT) (W : WX) (be : Nat) (e : E0) (c : Str) (v : MV) (S' : Store) : Prop :=
  ∀ F' ι' H' d C f y σ, Tr be e.F e.ι e.S e.H F' ι' S' H' → Sim be F' ι' S' H' → RV F' ι' v y → ex c = some (C, f) → H' d = some (.xd [(f, y)]) → W (.ref C) (some d) σ H'
/-- what is wanted behind an outcome -/
def KtS {α β : Type} (ex : ExT) (W : WX) (be : Nat) (e : E0) (rel : Sl → L2.St → FHp → List Addr → Store → Hp → α → β → Prop) (sl : Sl) (σ : L2.St) (Q : β → Hp → Prop) : Out α → Prop
  | .ok v S' => ∀ F' ι' H' y, StOk be e F' ι' S' H' sl σ → rel sl σ F' ι' S' H' v y → Q y H'
  | .exc c v S' => ExS ex W be e c v S'
def tS {α β : Type} (ex : ExT) (W : WX) (be : Nat) (e : E0) (rel : Sl → L2.St → FHp → List Addr → Store → Hp → α → β → Prop) (r : Sl → Store → R α) : L2.St → Hp → (β → Hp → Prop) → Prop := fun σ H Q =>
  ∃ sl S F ι out, StOk be e F ι S H sl σ ∧ r sl S = some out ∧ KtS ex W be e rel sl σ Q out
abbrev tSO (ex : ExT) (W : WX) (be : Nat) (e : E0) (r : Sl → Store → R OV) : TE := tS ex W be e (RelS e) r
def RelSV : Sl → L2.St → FHp → List Addr → Store → Hp → MV → V → Prop := fun _ _ F ι _ _ v x => RV F ι v x
abbrev tSV (ex : ExT) (W : WX) (be : Nat) (e : E0) (r : Sl → Store → R MV) : TE := tS ex W be e RelSV r
section
variable {X : Cx} {ex : ExT} {W : WX} {f : Fr} {a : Expr} {m : ME} {e : E0}
theorem guardR_ok {α : Type} {b : Nat} {sl : Sl} {p : α → Bool} {r : R α} {v : α} {S : Store} (h : guardR b sl p r = some (.ok v S)) : r = some (.ok v S) ∧ p v = true := by
  unfold guardR at h
  split at h
  · split at h
    · cases h
      exact ⟨rfl, by assumption⟩
    · cases h
  · split at h <;> cases h
  · cases h
theorem guardR_exc {α : Type} {b : Nat} {sl : Sl} {p : α → Bool} {r : R α} {c : Str} {v : MV} {S : Store} (h : guardR b sl p r = some (.exc c v S)) : r = some (.exc c v S) ∧ (!anyOwn sl || colsLt b v) = true := by
  unfold guardR at h
  split at h
  · split at h <;> cases h
  · split at h
    · cases h
      exact ⟨rfl, by assumption⟩
    · cases h
  · cases h
/-- what comes of something in the view, of the state -/
theorem view_run {α β : Type} {rel : Store → Hp → FHp → List Addr → Hp → α → β → Prop} {relS : Sl → L2.St → FHp → List Addr → Store → Hp → α → β → Prop} {p : α → Bool} {r : Env → Store → R α} {sl : Sl} {σ : L2.St} {F : FHp} {ι : List Addr} {S : Store} {H : Hp} {out : Out α} {Q : β → Hp → Prop} (hbe : 0 < f.be)
    (hpl : ∀ (F1 : FHp) (ι1 : List Addr) (S1 : Store) (H1 : Hp) (v : α) (y : β), anyOwn sl = false → p v = true → StOk f.be e F ι S H sl σ → rel S1 H F1 ι1 H1 v y → relS sl σ F1 ι1 S1 H1 v y)
    (hbk : ∀ (F1 : FHp) (ι1 : List Addr) (S1 : Store) (H1 : Hp) (v : α) (y : β), anyOwn sl = true → p v = true → StOk f.be e F ι S H sl σ → rel S1 H F1 ι1 H1 v y → relS sl σ (dropF f.be F1) ι1 S1 H1 v y)
    (k : StOk f.be e F ι S H sl σ) (hr : guardR f.be sl p (r (view f.be sl) S) = some out)
    (kk : KtS ex W f.be e relS sl σ Q out) : tG ex W (f.cfg sl).cm rel r σ H Q := by
  cases ho : anyOwn sl with
  | false =>
    have hcm : (f.cfg sl).cm = f.be := by unfold Fr.cfg; rw [ho]; rfl
    rw [hcm]
    refine ⟨view f.be sl, S, F, ι, out, ?_, k.sim, ?_, ?_⟩
    · have := view_env (c := f.be) k
      rw [viewF_plain ho] at this
      exact this
    · cases out with
      | ok v S1 => exact (guardR_ok hr).1
      | exc c v S1 => exact (guardR_exc hr).1
    · cases out with
      | ok v S1 => exact fun F1 ι1 H1 y t s rl => kk F1 ι1 H1 y (k.plain ho t s) (hpl F1 ι1 S1 H1 v y ho (guardR_ok hr).2 k rl)
      | exc c v S1 => exact fun F' ι' H' d C ff y t s rv e1 e2 => kk F' ι' H' d C ff y σ (k.tr.trans t) s rv e1 e2
  | true =>
    have hcm : (f.cfg sl).cm = f.be + 1 := by unfold Fr.cfg; rw [ho]; rfl
    rw [hcm]
    refine ⟨view f.be sl, S, viewF f.be F H sl σ, ι, out, view_env k, view_sim k (Nat.lt_succ_self _) (Nat.le_succ _), ?_, ?_⟩
    · cases out with
      | ok v S1 => exact (guardR_ok hr).1
      | exc c v S1 => exact (guardR_exc hr).1
    · cases out with
      | ok v S1 => exact fun F1 ι1 H1 y t s rl => kk (dropF f.be F1) ι1 H1 y (k.back hbe (Nat.lt_succ_self _) t s) (hbk F1 ι1 S1 H1 v y ho (guardR_ok hr).2 k rl)
      | exc c v S1 =>
        intro F' ι' H' d C ff y t s rv e1 e2
        have kb := k.back hbe (Nat.lt_succ_self _) t s
        have hc := (guardR_exc hr).2
        rw [ho] at hc
        exact kk (dropF f.be F') ι' H' d C ff y σ kb.tr kb.sim (rv.drop hbe hc) e1 e2
theorem new_e {F : FHp} {ι : List Addr} {S : Store} {H : Hp} {sl : Sl} {σ : L2.St} {b : Nat} (k : StOk b e F ι S H sl σ) {a : Addr} (h : ¬ NT (H a)) : ¬ NT (e.H a) ∧ ¬ ownd sl σ a :=
  ⟨fun z => h (k.tr.dom a z), fun q => by
    obtain ⟨vs, h1, _⟩ := k.sl.own q
    exact h (nt_of h1 fun _ z => nomatch z)⟩
/-- from an expression to an expression of a statement -/
theorem s_e (hbe : 0 < f.be) (hcol : f.col < f.be) (h : ∀ sl, PE X a (tO ex W (f.cfg sl).cm (evO (f.cfg sl) m))) : PE X a (tSO ex W f.be e (seO f m)) := by
  refine ⟨fun pins s σ H Q I ⟨sl, S, F, ι, out, k, hr, kk⟩ => ?_⟩
  have hc : f.col < (f.cfg sl).cm := by
    show f.col < if anyOwn sl then f.be + 1 else f.be
    split <;> omega
  refine (pe_fzd hc (h sl)).run pins s σ H Q I (view_run (r := fun env S => (evO (f.cfg sl) m env S).bind fun o S1 => ok (o.fzd f.col) S1) (relS := RelS e) hbe ?_ ?_ k hr kk)
  · intro F1 ι1 S1 H1 v y ho hp k rl
    cases v with
    | val v => exact rl
    | nl xs =>
      obtain ⟨p, vs, rfl, h0, h1, h2, h3, h4⟩ := rl
      obtain ⟨n1, n2⟩ := new_e k h0
      exact ⟨p, vs, rfl, n1, n2, h1, h2, h3, h4⟩
    | nd tk kvs => cases hp
  · intro F1 ι1 S1 H1 v y ho hp k rl
    cases v with
    | val v =>
      have hp' : (!anyOwn sl || colsLt f.be v) = true := hp
      rw [ho] at hp'
      exact RV.drop hbe rl hp'
    | nl xs =>
      have hp' : (!anyOwn sl || colsLtL f.be xs) = true := hp
      rw [ho] at hp'
      obtain ⟨p, vs, rfl, h0, h1, h2, h3, h4⟩ := rl
      obtain ⟨n1, n2⟩ := new_e k h0
      exact ⟨p, vs, rfl, n1, n2, h1, dropF_none (.inl h2), h3, h4.dropC hbe hp'⟩
    | nd tk kvs => cases hp
end
end Mv

end
section
set_option Elab.async false
set_option linter.all false
set_option autoImplicit false
set_option maxRecDepth 100000
namespace Mv
open PySem PySem.Spec L2
variable [Tbs]
section
variable {be : Nat} {e : E0} {F F' F1 : FHp} {ι ι' ι1 : List Addr} {S S' S1 : Store} {H H' H1 : Hp} {sl : Sl} {σ : L2.St}
/-- a list that is nobody's is frozen -/
theorem StOk.freeze (k : StOk be e F ι S H sl σ) {a : Addr} {o : HO} {c : Nat} (h : H a = some o) (hF : F a = none) (hc : c < be) (hn : ∀ n, liveC S n → ι[n]? ≠ some a) (h0 : ¬ NT (e.H a)) (nq : ¬ ownd sl σ a) (hp : plO o = true := by rfl) : StOk be e (updF F a c o) ι S H sl σ :=
  ⟨k.sim.freeze h hF hc hn hp, k.tr.freeze hF h0, k.sl.keep (updF_keep hF) ⟨[], by simp⟩ fun b q => by
    obtain ⟨vs, h1, h2, h3⟩ := k.sl.own q
    exact ⟨rfl, by rw [updF_ne (fun z => nq (by rw [← z]; exact q))]; exact h2, h3⟩, fun b p h => updF_keep hF b p (k.kf b p h), k.ki⟩
end
section
variable {X : Cx} {ex : ExT} {W : WX} {f : Fr} {a : Expr} {m : ME} {e : E0}
def RelSB : Sl → L2.St → FHp → List Addr → Store → Hp → Bool → Bool → Prop := fun _ _ _ _ _ _ v x => v = x
def RelSL : Sl → L2.St → FHp → List Addr → Store → Hp → List MV → List V → Prop := fun _ _ F ι _ _ v x => RVL F ι v x
def RelSW (be lo : Nat) : Sl → L2.St → FHp → List Addr → Store → Hp → List MV → It → Prop := fun _ _ F ι _ _ v x => Wlk be x v (dropF lo F) ι
abbrev tST (ex : ExT) (W : WX) (be : Nat) (e : E0) (r : Sl → Store → R Bool) : TT := tS ex W be e RelSB r
abbrev tSL (ex : ExT) (W : WX) (be : Nat) (e : E0) (r : Sl → Store → R (List MV)) : TA := tS ex W be e RelSL r
abbrev tSI (ex : ExT) (W : WX) (f : Fr) (e : E0) (r : Sl → Store → R (List MV)) : TI := tS ex W f.be e (RelSW f.be f.lo) r
/-- a value -/
theorem s_v (hcol : f.col < f.be) (h : PE X a (tSO ex W f.be e (seO f m))) : PE X a (tSV ex W f.be e (se f m)) := by
  refine PE.imp h fun σ H Q ⟨sl, S, F, ι, out, k, hr, kk⟩ => ?_
  rcases fz_some hr with ⟨o, S1, h1, rfl⟩ | ⟨c', v, S1, h1, rfl⟩
  · refine ⟨sl, S, F, ι, _, k, h1, fun F' ι' H' y k1 rl => ?_⟩
    cases o with
    | val v => exact kk F' ι' H' y k1 rl
    | nl xs =>
      obtain ⟨p, vs, rfl, n1, n2, h1, h2, h3, h4⟩ := rl
      exact kk (updF F' p f.col (.lst vs)) ι' H' _ (k1.freeze h1 h2 hcol h3 n1 n2) (.lst updF_same (h4.mono (updF_keep h2) ⟨[], by simp⟩))
    | nd tk kvs => exact False.elim rl
  · exact ⟨sl, S, F, ι, _, k, h1, kk⟩
/-- a test -/
theorem s_t (hbe : 0 < f.be) (h : ∀ sl, PT X a (tT ex W (f.cfg sl).cm (evT (f.cfg sl) m))) : PT X a (tST ex W f.be e (tst f m)) := by
  refine ⟨fun pins s σ H Q I ⟨sl, S, F, ι, out, k, hr, kk⟩ => ?_⟩
  exact (h sl).run pins s σ H Q I (view_run (r := evT (f.cfg sl) m) (relS := RelSB) hbe (fun F1 ι1 S1 H1 v y ho hp k rl => rl) (fun F1 ι1 S1 H1 v y ho hp k rl => rl) k hr kk)
/-- several values -/
theorem s_l {rs : Es} {es : List Expr} (hbe : 0 < f.be) (h : ∀ sl, PA X es (tL ex W (f.cfg sl).cm (evs (f.cfg sl) rs))) : PA X es (tSL ex W f.be e (seL f rs)) := by
  refine ⟨fun pos pins s σ H Q I ⟨sl, S, F, ι, out, k, hr, kk⟩ => ?_⟩
  refine (h sl).run pos pins s σ H Q I (view_run (r := evs (f.cfg sl) rs) (relS := RelSL) hbe (fun F1 ι1 S1 H1 v y ho hp k rl => rl) (fun F1 ι1 S1 H1 v y ho hp k rl => ?_) k hr kk)
  have hp' : (!anyOwn sl || colsLtL f.be v) = true := hp
  rw [ho] at hp'
  exact RVL.dropC hbe rl hp'
/-- one after the other, by values -/
theorem one_s {α : Type} {r1 : Sl → Store → R MV} {g : MV → Store → R α} {β : Type} {rel : Sl → L2.St → FHp → List Addr → Store → Hp → α → β → Prop} {σ : L2.St} {H : Hp} {Q : β → Hp → Prop} {be : Nat}
    (h : tS ex W be e rel (fun sl S => (r1 sl S).bind fun x S1 => g x S1) σ H Q) {R1 : V → Hp → Prop}
    (hk : ∀ sl F ι S H2 x u out, StOk be e F ι S H2 sl σ → RV F ι x u → g x S = some out → KtS ex W be e rel sl σ Q out → R1 u H2) : tSV ex W be e r1 σ H fun u H1 => R1 u H1 := by
  obtain ⟨sl, S, F, ι, out, k, hr, kk⟩ := h
  rcases bind_some hr with ⟨x, S1, h1, q1⟩ | ⟨c', v, S1, h1, rfl⟩
  · exact ⟨sl, S, F, ι, _, k, h1, fun F1 ι1 H1 u k1 ru => hk sl F1 ι1 S1 H1 x u out k1 ru q1 kk⟩
  · exact ⟨sl, S, F, ι, _, k, h1, kk⟩
theorem oneL_s {α : Type} {r1 : Sl → Store → R (List MV)} {g : List MV → Store → R α} {β : Type} {rel : Sl → L2.St → FHp → List Addr → Store → Hp → α → β → Prop} {σ : L2.St} {H : Hp} {Q : β → Hp → Prop} {be : Nat}
    (h : tS ex W be e rel (fun sl S => (r1 sl S).bind fun x S1 => g x S1) σ H Q) {R1 : List V → Hp → Prop}
    (hk : ∀ sl F ι S S0 H2 x u out, StOk be e F ι S H2 sl σ → RVL F ι x u → r1 sl S0 = some (.ok x S) → g x S = some out → KtS ex W be e rel sl σ Q out → R1 u H2) : tSL ex W be e r1 σ H fun u H1 => R1 u H1 := by
  obtain ⟨sl, S, F, ι, out, k, hr, kk⟩ := h
  rcases bind_some hr with ⟨x, S1, h1, q1⟩ | ⟨c', v, S1, h1, rfl⟩
  · exact ⟨sl, S, F, ι, _, k, h1, fun F1 ι1 H1 u k1 ru => hk sl F1 ι1 S1 S H1 x u out k1 ru h1 q1 kk⟩
  · exact ⟨sl, S, F, ι, _, k, h1, kk⟩
theorem w_val {tg : Expr} (hlo : 0 < f.lo) (h : PE X a (tSV ex W f.be e (se f m))) : PI X tg a (tSI ex W f e (seW f (.val m))) := by
  refine PI.imp (pi_any h) fun σ H R h => ?_
  refine one_s (g := fun v S1 => if f.old v = true then lift (walkV v) S1 else none) h fun sl F ι S H2 x u out k ru q kk => ?_
  obtain ⟨ho, q⟩ := if_some q
  obtain ⟨z, e1, rfl⟩ := lift_some q
  exact v_val (k.sim.dropMid hlo) (old_rv hlo k.sim ru ho) e1 fun J w => kk F ι H2 J k w
theorem seL_num {rs : Es} {n : Nat} {sl : Sl} {S S1 : Store} {vs : List MV} (hn : esNum rs = some n) (h : seL f rs sl S = some (.ok vs S1)) : vs.length = n := evs_num hn (guardR_ok h).1
variable {rs : Es} {tg e1 e2 e3 : Expr} {p pos : Pos}
theorem w_rng1 (hlo : 0 < f.lo) (hg : Gl X "range") (hm : X.mg "range" = none) (hn : esNum rs = some 1) (ha : PA X [e1] (tSL ex W f.be e (seL f rs))) (hp : isStar e1 = false) : PI X tg (.Call (.Name "range" p) [e1] [] pos) (tSI ex W f e (seW f (.by_ .range rs))) := by
  refine PI.imp (pi_range1 hg hm ha (starEach_one hp)) fun σ H R h => oneL_s (g := fun vs S1 => if f.oldL vs = true then lift (walkF .range vs) S1 else none) h fun sl F ι S S0 H2 x u out k ru h1 q kk => ?_
  obtain ⟨ho, q⟩ := if_some q
  obtain ⟨z, e1, rfl⟩ := lift_some q
  exact v_rng1 (seL_num hn h1) (k.sim.dropMid hlo) (oldL_rv hlo k.sim ru ho) e1 fun J w => kk F ι H2 J k w
theorem w_rng2 (hlo : 0 < f.lo) (hg : Gl X "range") (hm : X.mg "range" = none) (hn : esNum rs = some 2) (ha : PA X [e1, e2] (tSL ex W f.be e (seL f rs))) (hp : isStar e1 = false) (hp2 : isStar e2 = false) : PI X tg (.Call (.Name "range" p) [e1, e2] [] pos) (tSI ex W f e (seW f (.by_ .range rs))) := by
  refine PI.imp (pi_range2 hg hm ha (by rw [starEach_ns hp, starEach_one hp2]) (starEach_one hp2)) fun σ H R h => oneL_s (g := fun vs S1 => if f.oldL vs = true then lift (walkF .range vs) S1 else none) h fun sl F ι S S0 H2 x u out k ru h1 q kk => ?_
  obtain ⟨ho, q⟩ := if_some q
  obtain ⟨z, e1, rfl⟩ := lift_some q
  exact v_rng2 (seL_num hn h1) (k.sim.dropMid hlo) (oldL_rv hlo k.sim ru ho) e1 fun J w => kk F ι H2 J k w
theorem w_rng3 (hlo : 0 < f.lo) (hg : Gl X "range") (hm : X.mg "range" = none) (hn : esNum rs = some 3) (ha : PA X [e1, e2, e3] (tSL ex W f.be e (seL f rs))) (hp : isStar e1 = false) (hp2 : isStar e2 = false) (hp3 : isStar e3 = false) : PI X tg (.Call (.Name "range" p) [e1, e2, e3] [] pos) (tSI ex W f e (seW f (.by_ .range rs))) := by
  refine PI.imp (pi_range3 hg hm ha (starEach_ns hp) (by rw [backTo_any]; exact starEach_plain (pl2 hp2 hp3))) fun σ H R h => oneL_s (g := fun vs S1 => if f.oldL vs = true then lift (walkF .range vs) S1 else none) h fun sl F ι S S0 H2 x u out k ru h1 q kk => ?_
  obtain ⟨ho, q⟩ := if_some q
  obtain ⟨z, e1, rfl⟩ := lift_some q
  exact v_rng3 (seL_num hn h1) (k.sim.dropMid hlo) (oldL_rv hlo k.sim ru ho) e1 fun J w => kk F ι H2 J k w
theorem w_zip {elts : List Expr} {kk : Nat} {tpos : Pos} (hlo : 0 < f.lo) (hb : 0 < f.be) (hg : Gl X "zip") (hm : X.mg "zip" = none) (ha : PA X [e1, e2] (tSL ex W f.be e (seL f rs))) (hp : isStar e1 = false) (hp2 : isStar e2 = false) : PI X (.Tuple elts kk tpos) (.Call (.Name "zip" p) [e1, e2] [] pos) (tSI ex W f e (seW f (.by_ .zip rs))) := by
  refine PI.imp (RZ.pi_zipA hg hm ha (starEach_ns hp) (by rw [backTo_any]; exact starEach_plain (pl1 hp2))) fun σ H R h => oneL_s (g := fun vs S1 => if f.oldL vs = true then lift (walkF .zip vs) S1 else none) h fun sl F ι S S0 H2 x u out k ru h1 q kk => ?_
  obtain ⟨ho, q⟩ := if_some q
  obtain ⟨z, e1, rfl⟩ := lift_some q
  exact v_zip hb (k.sim.dropMid hlo) (oldL_rv hlo k.sim ru ho) e1 fun J w => kk F ι H2 J k w
theorem w_items {elts : List Expr} {kk : Nat} {tpos apos : Pos} (hlo : 0 < f.lo) (hb : 0 < f.be) (h : PE X a (tSV ex W f.be e (se f m))) (hab : abOk a = true) (hline : (apos.endLine == pos.line) = true) : PI X (.Tuple elts kk tpos) (.Call (.Attribute a "items" apos) [] [] pos) (tSI ex W f e (seW f (.items m))) := by
  refine PI.imp (pi_items h (abase hab) hline) fun σ H R h => ?_
  refine one_s (g := fun v S1 => if f.old v = true then lift (walkM v) S1 else none) h fun sl F ι S H2 x u out k ru q kk => ?_
  obtain ⟨ho, q⟩ := if_some q
  obtain ⟨z, e1, rfl⟩ := lift_some q
  exact v_items hb (k.sim.dropMid hlo) (old_rv hlo k.sim ru ho) e1 fun J w => kk F ι H2 J k w
end
end Mv

end
section
set_option Elab.async false
set_option linter.all false
set_option autoImplicit false
set_option maxRecDepth 100000
namespace Mv
open PySem PySem.Spec L2
variable [Tbs]
section
variable {be : Nat} {e : E0} {F F' F1 : FHp} {ι ι' ι1 : List Addr} {S S' S1 : Store} {H H' H1 : Hp} {sl : Sl} {σ : L2.St}
theorem own_set {i : Nat} {s : SV} {o : Option V} {a : Addr} (h : ownd (sl.set i s) (σ.set i o) a) : ownd sl σ a ∨ ((∃ xs, s = .ol xs) ∧ o = some (.ref a)) := by
  obtain ⟨j, xs, h1, h2⟩ := h
  by_cases hj : i = j
  · subst hj
    refine .inr ⟨?_, ?_⟩
    · by_cases hl : i < sl.length
      · rw [List.getElem?_set_self hl] at h1
        exact ⟨xs, Option.some.inj h1⟩
      · rw [List.getElem?_eq_none (by rw [List.length_set]; omega)] at h1
        cases h1
    · by_cases hl : i < σ.length
      · rw [List.getElem?_set_self hl] at h2
        exact Option.some.inj h2
      · rw [List.getElem?_eq_none (by rw [List.length_set]; omega)] at h2
        cases h2
  · rw [List.getElem?_set_ne hj] at h1 h2
    exact .inl ⟨j, xs, h1, h2⟩
theorem StOk.setVal (k : StOk be e F ι S H sl σ) {i : Nat} {v : MV} {x : V} (r : RV F ι v x) : StOk be e F ι S H (sl.set i (.val v)) (σ.set i (some x)) := by
  refine ⟨k.sim, k.tr, ⟨by rw [List.length_set, List.length_set]; exact k.sl.len, fun j s o h1 h2 => ?_, fun a q => ?_, fun j l xs ys a h1 h2 h3 h4 => ?_⟩, k.kf, k.ki⟩
  · by_cases hj : i = j
    · subst hj
      have hl : i < sl.length := by
        by_cases hl : i < sl.length
        · exact hl
        · rw [List.getElem?_eq_none (by rw [List.length_set]; omega)] at h1
          cases h1
      rw [List.getElem?_set_self hl] at h1
      rw [List.getElem?_set_self (by rw [← k.sl.len]; exact hl)] at h2
      cases h1
      cases h2
      exact .val r
    · rw [List.getElem?_set_ne hj] at h1 h2
      exact k.sl.at_ j s o h1 h2
  · rcases own_set q with q | ⟨⟨xs, q⟩, _⟩
    · exact k.sl.new a q
    · cases q
  · have nj : i ≠ j := fun z => by
      subst z
      by_cases hl : i < sl.length
      · rw [List.getElem?_set_self hl] at h1
        cases h1
      · rw [List.getElem?_eq_none (by rw [List.length_set]; omega)] at h1
        cases h1
    have nl : i ≠ l := fun z => by
      subst z
      by_cases hl : i < sl.length
      · rw [List.getElem?_set_self hl] at h2
        cases h2
      · rw [List.getElem?_eq_none (by rw [List.length_set]; omega)] at h2
        cases h2
    rw [List.getElem?_set_ne nj] at h1 h3
    rw [List.getElem?_set_ne nl] at h2 h4
    exact k.sl.apart j l xs ys a h1 h2 h3 h4
theorem StOk.setOwn (k : StOk be e F ι S H sl σ) {i : Nat} {xs : List MV} {a : Addr} {vs : List V} (h : H a = some (.lst vs)) (hF : F a = none) (hn : ∀ n, liveC S n → ι[n]? ≠ some a) (h0 : ¬ NT (e.H a)) (nq : ¬ ownd sl σ a) (r : RVL F ι xs vs) :
    StOk be e F ι S H (sl.set i (.ol xs)) (σ.set i (some (.ref a))) := by
  have at' : ∀ {j : Nat} {zs : List MV} {c : Addr}, (sl.set i (.ol xs))[j]? = some (.ol zs) → (σ.set i (some (.ref a)))[j]? = some (some (.ref c)) → (i = j ∧ c = a) ∨ (i ≠ j ∧ sl[j]? = some (.ol zs) ∧ σ[j]? = some (some (.ref c))) := fun {j zs c} h1 h2 => by
    by_cases hj : i = j
    · subst hj
      refine .inl ⟨rfl, ?_⟩
      by_cases hl : i < σ.length
      · rw [List.getElem?_set_self hl] at h2
        cases h2
        rfl
      · rw [List.getElem?_eq_none (by rw [List.length_set]; omega)] at h2
        cases h2
    · rw [List.getElem?_set_ne hj] at h1 h2
      exact .inr ⟨hj, h1, h2⟩
  refine ⟨k.sim, k.tr, ⟨by rw [List.length_set, List.length_set]; exact k.sl.len, fun j s o h1 h2 => ?_, fun c q => ?_, fun j l zs ys c h1 h2 h3 h4 => ?_⟩, k.kf, k.ki⟩
  · by_cases hj : i = j
    · subst hj
      have hl : i < sl.length := by
        by_cases hl : i < sl.length
        · exact hl
        · rw [List.getElem?_eq_none (by rw [List.length_set]; omega)] at h1
          cases h1
      rw [List.getElem?_set_self hl] at h1
      rw [List.getElem?_set_self (by rw [← k.sl.len]; exact hl)] at h2
      cases h1
      cases h2
      exact .ol h hF hn r
    · rw [List.getElem?_set_ne hj] at h1 h2
      exact k.sl.at_ j s o h1 h2
  · rcases own_set q with q | ⟨_, q⟩
    · exact k.sl.new c q
    · cases q
      exact h0
  · rcases at' h1 h3 with ⟨z1, z2⟩ | ⟨z1, z2, z3⟩
    · rcases at' h2 h4 with ⟨y1, y2⟩ | ⟨y1, y2, y3⟩
      · omega
      · subst z2
        exact absurd ⟨l, ys, y2, y3⟩ nq
    · rcases at' h2 h4 with ⟨y1, y2⟩ | ⟨y1, y2, y3⟩
      · subst y2
        exact absurd ⟨j, zs, z2, z3⟩ nq
      · exact k.sl.apart j l zs ys c z2 y2 z3 y3
/-- what an expression gave is put into a slot -/
theorem StOk.put {col : Nat} (hcol : col < be) (k : StOk be e F ι S H sl σ) {i : Nat} {own : Bool} {o : OV} {y : V} (r : RelS e sl σ F ι S H o y) : ∃ F', StOk be e F' ι S H (sl.set i (putO col own o)) (σ.set i (some y)) ∧ ∀ a p, F a = some p → F' a = some p := by
  cases o with
  | val v => exact ⟨F, by cases own <;> exact k.setVal r, fun _ _ h => h⟩
  | nl xs =>
    obtain ⟨p, vs, rfl, n1, n2, h1, h2, h3, h4⟩ := r
    cases own with
    | true => exact ⟨F, k.setOwn h1 h2 h3 n1 n2 h4, fun _ _ h => h⟩
    | false => exact ⟨updF F p col (.lst vs), (k.freeze h1 h2 hcol h3 n1 n2).setVal (.lst updF_same (h4.mono (updF_keep h2) ⟨[], by simp⟩)), updF_keep h2⟩
  | nd tk kvs => exact False.elim r
/-- an owned list is changed -/
theorem StOk.write (k : StOk be e F ι S H sl σ) {i : Nat} {xs ys : List MV} {a : Addr} {ws : List V} (h1 : sl[i]? = some (.ol xs)) (h2 : σ[i]? = some (some (.ref a))) (r : RVL F ι ys ws) : StOk be e F ι S (upd H a (.lst ws)) (sl.set i (.ol ys)) σ := by
  have q : ownd sl σ a := ⟨i, xs, h1, h2⟩
  obtain ⟨vs, a1, a2, a3⟩ := k.sl.own q
  have hl : i < sl.length := (List.getElem?_eq_some_iff.mp h1).1
  have oset : ∀ c, ownd (sl.set i (.ol ys)) σ c → ownd sl σ c := fun c ⟨j, zs, e1, e2⟩ => by
    by_cases hj : i = j
    · subst hj
      rw [h2] at e2
      cases e2
      exact q
    · rw [List.getElem?_set_ne hj] at e1
      exact ⟨j, zs, e1, e2⟩
  refine ⟨k.sim.updP a1 a2 a3, ?_, ⟨by rw [List.length_set]; exact k.sl.len, fun j s o e1 e2 => ?_, fun c z => k.sl.new c (oset c z), fun j l zs us c e1 e2 e3 e4 => ?_⟩, k.kf, k.ki⟩
  · have t := k.tr
    have n0 := k.sl.new a q
    exact t.updP n0
  · by_cases hj : i = j
    · subst hj
      rw [List.getElem?_set_self hl] at e1
      rw [h2] at e2
      cases e1
      cases e2
      exact .ol upd_same a2 a3 r
    · rw [List.getElem?_set_ne hj] at e1
      cases k.sl.at_ j s o e1 e2 with
      | un => exact .un
      | val r => exact .val r
      | ol b1 b2 b3 b4 =>
        refine .ol ?_ b2 b3 b4
        rw [upd_ne (fun z => hj ?_)]
        · exact b1
        · subst z
          exact k.sl.apart i j xs _ _ h1 e1 h2 e2
  · have g : ∀ {j : Nat} {zs : List MV}, (sl.set i (.ol ys))[j]? = some (.ol zs) → ∃ zs', sl[j]? = some (.ol zs') := fun {j zs} e => by
      by_cases hj : i = j
      · subst hj
        exact ⟨_, h1⟩
      · rw [List.getElem?_set_ne hj] at e
        exact ⟨_, e⟩
    obtain ⟨z1, y1⟩ := g e1
    obtain ⟨z2, y2⟩ := g e2
    exact k.sl.apart j l z1 z2 c y1 y2 e3 e4
end

def KtF (ex : ExT) (W : WX) (be : Nat) (e : E0) (D : Ends) : Out Fl → Prop
  | .ok (.nx sl') S' => ∀ F' ι' σ' H', StOk be e F' ι' S' H' sl' σ' → D.nx σ' H'
  | .ok (.rt v) S' => ∀ F' ι' H' y, Tr be e.F e.ι e.S e.H F' ι' S' H' → Sim be F' ι' S' H' → RV F' ι' v y → D.rt y H'
  | .exc c v S' => ExS ex W be e c v S'
def tSt (ex : ExT) (W : WX) (be : Nat) (e : E0) (r : Sl → Store → R Fl) : TS := fun D σ H =>
  ∃ sl S F ι out, StOk be e F ι S H sl σ ∧ r sl S = some out ∧ KtF ex W be e D out
theorem PS.imp {X : Cx} {st : Stmt} {t t' : TS} (h : PS X st t) (w : ∀ D σ H, t' D σ H → t D σ H) : PS X st t' := ⟨fun pins s σ H D I q => h.run pins s σ H D I (w D σ H q)⟩
theorem PSs.imp {X : Cx} {st : List Stmt} {t t' : TS} (h : PSs X st t) (w : ∀ D σ H, t' D σ H → t D σ H) : PSs X st t' := ⟨fun pins s σ H D I q => h.run pins s σ H D I (w D σ H q)⟩
section
variable {X : Cx} {ex : ExT} {W : WX} {f : Fr} {a : Expr} {m : ME} {e : E0} {pos : Pos}
theorem st_expr (h : PE X a (tSV ex W f.be e (se f m))) (hs : swapsWith a none pos.line X.env = pure false) : PS X (.Expr a pos) (tSt ex W f.be e (Mv.ex f (.expr m))) := by
  refine PS.imp (ps_expr h hs) fun D σ H ⟨sl, S, F, ι, out, k, hr, kk⟩ => ?_
  have hr' : ((se f m sl S).bind fun _ S1 => ok (Fl.nx sl) S1) = some out := hr
  rcases bind_some hr' with ⟨v, S1, h1, q1⟩ | ⟨c', v, S1, h1, rfl⟩
  · obtain rfl := ok_some q1
    exact ⟨sl, S, F, ι, _, k, h1, fun F' ι' H' y k1 rl => kk F' ι' σ H' k1⟩
  · exact ⟨sl, S, F, ι, _, k, h1, kk⟩
/-- what a fresh or other value stored in a slot reads as -/
theorem set_core {i : Nat} {own : Bool} (hcol : f.col < f.be) {D : Ends} {σ : L2.St} {H : Hp} (h : tSt ex W f.be e (Mv.ex f (.set i own m)) D σ H) : tSO ex W f.be e (seO f m) σ H fun x H1 => D.nx (σ.set i (some x)) H1 := by
  obtain ⟨sl, S, F, ι, out, k, hr, kk⟩ := h
  have hr' : ((seO f m sl S).bind fun o S1 => if i < sl.length then ok (Fl.nx (sl.set i (putO f.col own o))) S1 else none) = some out := hr
  rcases bind_some hr' with ⟨o, S1, h1, q1⟩ | ⟨c', v, S1, h1, rfl⟩
  · split at q1
    · obtain rfl := ok_some q1
      refine ⟨sl, S, F, ι, _, k, h1, fun F' ι' H' y k1 rl => ?_⟩
      obtain ⟨F2, k2, _⟩ := k1.put (i := i) (own := own) hcol rl
      exact kk F2 ι' _ H' k2
    · cases q1
  · exact ⟨sl, S, F, ι, _, k, h1, kk⟩
theorem st_set {i : Nat} {own : Bool} {x : Str} {pos' : Pos} (hcol : f.col < f.be) (h : PE X a (tSO ex W f.be e (seO f m))) (hN : X.N.Nodup) (hi : X.N[i]? = some x) (hx : Loc X.env.scope x) (hs : swapsWith a (some (.Name x pos')) pos.line X.env = pure false) (hf : X.fn x = true ∨ X.env.scope.names.lookup x = some .local) :
    PS X (.Assign [.Name x pos'] a pos) (tSt ex W f.be e (Mv.ex f (.set i own m))) :=
  PS.imp (ps_set hN hi hx h hs hf) fun D σ H h => set_core hcol h
/-- .. a list comprehension, its name stored by the swap -/
theorem st_setLc {i : Nat} {own : Bool} {y : Str} {py : Pos} {elt tg iter : Expr} {ifs : List Expr} {scope : Scope} {ow : List (Str × Nat)} {lpos spos : Pos} {wi : Cfg → TI} {g : TG} {tt : Cfg → TT} {te : Cfg → TE} (hbe : 0 < f.be) (hcol : f.col < f.be) (hc : X.calm = true) (hN : X.N.Nodup) (hy : X.N[i]? = some y) (hyl : X.env.scope.names.lookup y = some .local)
    (hsw : swapsWith (.ListComp elt [⟨tg, iter, ifs, 0⟩] scope lpos) (some (.Name y py)) spos.line X.env = pure true) (hi : ∀ sl, PI X tg iter (wi (f.cfg sl))) (ok' : BlkOk X.N X.env.scope scope ow)
    (hg : ∀ (s : Shared) (H : Hp) (C : Addr) (cl : List (Str × Addr)) (fp : List Addr), PG (X.blk s H scope (compEnvC scope cl C X.env) fp) tg g) (ht : ∀ (sl : Sl) (s : Shared) (H : Hp) (C : Addr) (cl : List (Str × Addr)) (fp : List Addr), PTs (X.blk s H scope (compEnvC scope cl C X.env) fp) ifs (tt (f.cfg sl)))
    (he : ∀ (sl : Sl) (s : Shared) (H : Hp) (C : Addr) (cl : List (Str × Addr)) (fp : List Addr), PE (X.blk s H scope (compEnvC scope cl C X.env) fp) elt (te (f.cfg sl))) (hs : ∀ x, foldedSetIterable iter X.env x = pure x)
    (hrd : ∀ (sl : Sl) (σ : L2.St) (H : Hp) (Q : VK), tO ex W (f.cfg sl).cm (evO (f.cfg sl) m) σ H Q → tLc (wi (f.cfg sl)) g (tt (f.cfg sl)) (te (f.cfg sl)) (ow.map (·.2)) σ H Q)
    (hnd : ∀ (C : Cfg) (env : Env) (S S1 : Store) (o : OV), evO C m env S = some (.ok o S1) → o.fzd C.col = o) :
    PS X (.Assign [.Name y py] (.ListComp elt [⟨tg, iter, ifs, 0⟩] scope lpos) spos) (tSt ex W f.be e (Mv.ex f (.set i own m))) := by
  refine ⟨fun pins s σ H D I h => ?_⟩
  obtain ⟨sl, S, F, ι, out, k, hr, kk⟩ := set_core hcol h
  refine (ps_setLc hc hN hy hyl hsw (hi sl) ok' hg (ht sl) (he sl) hs).run pins s σ H D I ?_
  refine hrd sl σ H _ ?_
  refine view_run (r := evO (f.cfg sl) m) (p := okO f.be sl) (relS := RelS e) hbe ?_ ?_ k ?_ kk
  · intro F1 ι1 S1 H1 v y ho hp k rl
    cases v with
    | val v => exact rl
    | nl xs =>
      obtain ⟨p, vs, rfl, h0, h1, h2, h3, h4⟩ := rl
      obtain ⟨n1, n2⟩ := new_e k h0
      exact ⟨p, vs, rfl, n1, n2, h1, h2, h3, h4⟩
    | nd tk kvs => cases hp
  · intro F1 ι1 S1 H1 v y ho hp k rl
    cases v with
    | val v =>
      have hp' : (!anyOwn sl || colsLt f.be v) = true := hp
      rw [ho] at hp'
      exact RV.drop hbe rl hp'
    | nl xs =>
      have hp' : (!anyOwn sl || colsLtL f.be xs) = true := hp
      rw [ho] at hp'
      obtain ⟨p, vs, rfl, h0, h1, h2, h3, h4⟩ := rl
      obtain ⟨n1, n2⟩ := new_e k h0
      exact ⟨p, vs, rfl, n1, n2, h1, dropF_none (.inl h2), h3, h4.dropC hbe hp'⟩
    | nd tk kvs => cases hp
  · have e1 : ((evO (f.cfg sl) m (view f.be sl) S).bind fun o S1 => ok (o.fzd f.col) S1) = evO (f.cfg sl) m (view f.be sl) S := by
      cases h2 : evO (f.cfg sl) m (view f.be sl) S with
      | none => rfl
      | some q =>
        cases q with
        | exc c v S1 => rfl
        | ok o S1 =>
          have := hnd (f.cfg sl) _ _ _ _ h2
          show ok (o.fzd f.col) S1 = _
          rw [show o.fzd f.col = o from this]
          rfl
    have hr' : guardR f.be sl (okO f.be sl) ((evO (f.cfg sl) m (view f.be sl) S).bind fun o S1 => ok (o.fzd f.col) S1) = some out := hr
    rw [e1] at hr'
    exact hr'
theorem st_if {c : ME} {ca : Expr} {A B : Ss} {as bs : List Stmt} (hc : PT X ca (tST ex W f.be e (tst f c))) (ha : PSs X as (tSt ex W f.be e (exs f A))) (hb : PSs X bs (tSt ex W f.be e (exs f B))) : PS X (.If ca as bs pos) (tSt ex W f.be e (Mv.ex f (.ifS c A B))) := by
  refine PS.imp (ps_if hc ha hb) fun D σ H ⟨sl, S, F, ι, out, k, hr, kk⟩ => ?_
  have hr' : ((tst f c sl S).bind fun k S1 => match k with
    | true => exs f A sl S1
    | false => exs f B sl S1) = some out := hr
  rcases bind_some hr' with ⟨v, S1, h1, q1⟩ | ⟨c', v, S1, h1, rfl⟩
  · refine ⟨sl, S, F, ι, _, k, h1, fun F' ι' H' y k1 rl => ?_⟩
    have rl : v = y := rl
    subst rl
    cases v with
    | true =>
      dsimp only
      rw [if_pos rfl]
      exact ⟨sl, S1, F', ι', out, k1, q1, kk⟩
    | false =>
      dsimp only
      rw [if_neg Bool.false_ne_true]
      exact ⟨sl, S1, F', ι', out, k1, q1, kk⟩
  · exact ⟨sl, S, F, ι, _, k, h1, kk⟩
/-- an expression with the owned lists frozen for good -/
theorem fin_run {σ : L2.St} {H : Hp} {Q : VK} {sl : Sl} {F : FHp} {ι : List Addr} {S : Store} {out : Out OV} (hcol : f.col < f.be) (k : StOk f.be e F ι S H sl σ) (hr : evO f.cfg1 m (view f.col sl) S = some out)
    (kk : match out with
      | .ok o S' => ∀ F' ι' H' y, Tr f.be e.F e.ι e.S e.H F' ι' S' H' → Sim f.be F' ι' S' H' → RV F' ι' (o.fz f.col) y → Q y H'
      | .exc c v S' => ExS ex W f.be e c v S') : tV ex W f.be (fun env S => fzR f.col (evO f.cfg1 m env S)) σ H Q := by
  have tv : Tr f.be e.F e.ι e.S e.H (viewF f.col F H sl σ) ι S H := ⟨fun a c o h hc => viewF_mono k.sl a _ (k.tr.keep a c o h hc), k.tr.ext, fun a q => by
    obtain ⟨z1, p1⟩ := k.tr.priv a q
    have nq : ¬ ownd sl σ a := fun z => k.sl.new a z q.1
    exact ⟨z1, p1.1, by rw [viewF_not nq]; exact p1.2.1, p1.2.2⟩, k.tr.dom⟩
  cases out with
  | ok o S1 => exact ⟨view f.col sl, S, viewF f.col F H sl σ, ι, .ok (o.fz f.col) S1, view_env k, view_sim k hcol (Nat.le_refl _), by show fzR f.col (evO f.cfg1 m _ S) = _; rw [hr]; rfl, fun F1 ι1 H1 y t s rl => kk F1 ι1 H1 y (tv.trans t) s rl⟩
  | exc c v S1 => exact ⟨view f.col sl, S, viewF f.col F H sl σ, ι, .exc c v S1, view_env k, view_sim k hcol (Nat.le_refl _), by show fzR f.col (evO f.cfg1 m _ S) = _; rw [hr]; rfl, fun F' ι' H' d C ff y t s rv e1 e2 => kk F' ι' H' d C ff y σ (tv.trans t) s rv e1 e2⟩
theorem st_ret (hcol : f.col < f.be) (h : PE X a (tO ex W f.be (evO f.cfg1 m))) : PS X (.Return (some a) pos) (tSt ex W f.be e (Mv.ex f (.ret (some m)))) := by
  refine PS.imp (ps_ret (pe_fz hcol h)) fun D σ H ⟨sl, S, F, ι, out, k, hr, kk⟩ => ?_
  have hr' : ((evO f.cfg1 m (view f.col sl) S).bind fun o S1 => ok (Fl.rt (o.fz f.col)) S1) = some out := hr
  rcases bind_some hr' with ⟨v, S1, h1, q1⟩ | ⟨c', v, S1, h1, rfl⟩
  · obtain rfl := ok_some q1
    exact fin_run (out := .ok v S1) hcol k h1 kk
  · exact fin_run (out := .exc c' v S1) hcol k h1 kk
theorem st_retN : PS X (.Return none pos) (tSt ex W f.be e (Mv.ex f (.ret none))) := by
  refine PS.imp ps_retN fun D σ H ⟨sl, S, F, ι, out, k, hr, kk⟩ => ?_
  obtain rfl := ok_some hr
  exact kk F ι H .non k.tr k.sim .non
theorem st_pass : PS X (.Pass pos) (tSt ex W f.be e (Mv.ex f .pass)) := by
  refine PS.imp ps_pass fun D σ H ⟨sl, S, F, ι, out, k, hr, kk⟩ => ?_
  obtain rfl := ok_some hr
  exact kk F ι σ H k
theorem sts_nil : PSs X [] (tSt ex W f.be e (exs f .nil)) := by
  refine PSs.imp pss_nil fun D σ H ⟨sl, S, F, ι, out, k, hr, kk⟩ => ?_
  obtain rfl := ok_some hr
  exact kk F ι σ H k
theorem seq_core {r : Ss} {D : Ends} {σ : L2.St} {H : Hp} {r1 : Sl → Store → R Fl} (h : tSt ex W f.be e (fun sl S => (r1 sl S).bind fun k S1 => match k with
    | .nx sl' => exs f r sl' S1
    | .rt v => ok (.rt v) S1) D σ H) : tSt ex W f.be e r1 { D with nx := tSt ex W f.be e (exs f r) D } σ H := by
  obtain ⟨sl, S, F, ι, out, k, hr, kk⟩ := h
  rcases bind_some hr with ⟨v, S1, h1, q1⟩ | ⟨c', v, S1, h1, rfl⟩
  · refine ⟨sl, S, F, ι, _, k, h1, ?_⟩
    cases v with
    | nx sl' => exact fun F' ι' σ' H' k1 => ⟨sl', S1, F', ι', out, k1, q1, kk⟩
    | rt v =>
      obtain rfl := ok_some q1
      exact kk
  · exact ⟨sl, S, F, ι, _, k, h1, kk⟩
theorem sts_cons {st : Stmt} {rest : List Stmt} {s : MS} {r : Ss} (h1 : PS X st (tSt ex W f.be e (Mv.ex f s))) (h2 : PSs X rest (tSt ex W f.be e (exs f r))) : PSs X (st :: rest) (tSt ex W f.be e (exs f (.cons s r))) :=
  PSs.imp (pss_cons h1 h2) fun D σ H h => seq_core (r1 := Mv.ex f s) h
end
end Mv

end
section
set_option Elab.async false
set_option linter.all false
set_option autoImplicit false
set_option maxRecDepth 100000
namespace Mv
open PySem PySem.Spec L2
variable [Tbs]
section
variable {X : Cx} {ex : ExT} {W : WX} {f : Fr} {a : Expr} {m : ME} {e : E0} {pos : Pos} {be : Nat}
def sTg (be : Nat) (e : E0) (t : Tg) : TG := fun v σ H Q => ∃ sl sl' F ι S mv, StOk be e F ι S H sl σ ∧ RV F ι mv v ∧ bindS t mv sl = some sl' ∧ ∀ σ', StOk be e F ι S H sl' σ' → Q σ' H
def sTgs (be : Nat) (e : E0) (t : Tg) : TGs := fun vs σ H Q => ∃ sl sl' F ι S xs, StOk be e F ι S H sl σ ∧ RVL F ι xs vs ∧ (bindS t (.tup xs) sl = some sl' ∨ ∃ c, bindS t (.lst c xs) sl = some sl') ∧ ∀ σ', StOk be e F ι S H sl' σ' → Q σ' H
theorem bindS_cons {t r : Tg} {x : MV} {xs : List MV} {sl sl' : Sl} (h : bindS (.cons t r) (.tup (x :: xs)) sl = some sl' ∨ ∃ c, bindS (.cons t r) (.lst c (x :: xs)) sl = some sl') : ∃ sl1, bindS t x sl = some sl1 ∧ (bindS r (.tup xs) sl1 = some sl' ∨ ∃ c, bindS r (.lst c xs) sl1 = some sl') := by
  rcases h with h | ⟨c, h⟩
  · have h' : (match bindS t x sl with
      | some sl' => bindS r (.tup xs) sl'
      | none => none) = some sl' := h
    cases e : bindS t x sl with
    | none => rw [e] at h'; cases h'
    | some e1 => rw [e] at h'; exact ⟨e1, rfl, .inl h'⟩
  · have h' : (match bindS t x sl with
      | some sl' => bindS r (.lst c xs) sl'
      | none => none) = some sl' := h
    cases e : bindS t x sl with
    | none => rw [e] at h'; cases h'
    | some e1 => rw [e] at h'; exact ⟨e1, rfl, .inr ⟨c, h'⟩⟩
theorem bindS_nil {xs : List MV} {sl sl' : Sl} (h : bindS .nil (.tup xs) sl = some sl' ∨ ∃ c, bindS .nil (.lst c xs) sl = some sl') : xs = [] ∧ sl = sl' := by
  cases xs with
  | nil => rcases h with h | ⟨c, h⟩ <;> exact ⟨rfl, Option.some.inj h⟩
  | cons x xs => rcases h with h | ⟨c, h⟩ <;> cases h
theorem bindS_ne {t r : Tg} {sl sl' : Sl} (h : bindS (.cons t r) (.tup []) sl = some sl' ∨ ∃ c, bindS (.cons t r) (.lst c []) sl = some sl') : False := by
  rcases h with h | ⟨c, h⟩ <;> cases h
theorem TgsOk.lenS : ∀ {t : Tg} {es : List Expr} {xs : List MV} {sl sl' : Sl}, TgsOk X t es → (bindS t (.tup xs) sl = some sl' ∨ ∃ c, bindS t (.lst c xs) sl = some sl') → xs.length = es.length
  | _, _, xs, sl, sl', .nil, h => by rw [(bindS_nil h).1]; rfl
  | _, _, xs, sl, sl', .cons p q w, h => by
    cases xs with
    | nil => exact (bindS_ne h).elim
    | cons x xs =>
      obtain ⟨sl1, _, h2⟩ := bindS_cons h
      rw [List.length_cons, List.length_cons, TgsOk.lenS w h2]
mutual
theorem sg_tg (hc : X.calm = true) (hN : X.N.Nodup) : ∀ {t : Tg} {ex : Expr}, TgOk X t ex → PG X ex (sTg be e t)
  | _, _, .nm (i := i) h1 h2 h3 => by
    refine PG.imp (pg_name hN h1 h2 h3) fun v σ H Q ⟨sl, sl', F, ι, S, mv, k, r, hb, kk⟩ => ?_
    have hb' : (if i < sl.length then some (sl.set i (SV.val mv)) else none) = some sl' := hb
    split at hb'
    · cases hb'
      exact kk _ (k.setVal r)
    · cases hb'
  | t, _, .tup (es := es) h => by
    have hp := sgs_tg hc hN h
    refine ⟨fun pins s σ H v u Q I r q => ?_⟩
    obtain ⟨sl, sl', F, ι, S, mv, k, rv, hb, kk⟩ := q
    have tl : (∃ xs, mv = .tup xs) ∨ ∃ c xs, mv = .lst c xs := by
      cases h with
      | nil =>
        have hb' : (match items mv with
          | some [] => some sl
          | _ => none) = some sl' := hb
        cases mv with
        | tup xs => exact .inl ⟨_, rfl⟩
        | lst c xs => exact .inr ⟨_, _, rfl⟩
        | _ => cases hb'
      | cons p q w =>
        cases mv with
        | tup xs => exact .inl ⟨_, rfl⟩
        | lst c xs => exact .inr ⟨_, _, rfl⟩
        | _ => cases hb
    rcases tl with ⟨xs, rfl⟩ | ⟨c, xs, rfl⟩
    · cases rv with | tup hF rl =>
      exact (pg_tup hc hp assignEach_len (assignEach_find h.plain)).run pins s σ H _ u Q I r ⟨_, _, rfl, SqT.ofRV k.sim hF, by rw [← rl.length]; exact h.lenS (.inl hb), sl, sl', F, ι, S, xs, k, rl, .inl hb, kk⟩
    · cases rv with | lst hF rl =>
      exact (pg_unl hc hp assignEach_len (assignEach_find h.plain)).run pins s σ H _ u Q I r ⟨_, _, rfl, SqL.ofRV k.sim hF, by rw [← rl.length]; exact h.lenS (.inr ⟨c, hb⟩), sl, sl', F, ι, S, xs, k, rl, .inr ⟨c, hb⟩, kk⟩
theorem sgs_tg (hc : X.calm = true) (hN : X.N.Nodup) : ∀ {t : Tg} {es : List Expr}, TgsOk X t es → PGs X es (sTgs be e t)
  | _, _, .nil => by
    refine PGs.imp pgs_nil fun vs σ H Q ⟨sl, sl', F, ι, S, xs, k, rl, hb, kk⟩ => ?_
    obtain ⟨rfl, rfl⟩ := bindS_nil hb
    cases rl
    exact ⟨rfl, kk σ k⟩
  | _, _, .cons (t := t) (r := r) p q w => by
    refine PGs.imp (pgs_cons (sg_tg hc hN q) (sgs_tg hc hN w) (by rw [assignEach_ns p]; rfl)) fun vs σ H Q ⟨sl, sl', F, ι, S, xs, k, rl, hb, kk⟩ => ?_
    cases rl with
    | nil => exact (bindS_ne hb).elim
    | @cons x v xs vs rx rl =>
      obtain ⟨sl1, z1, z2⟩ := bindS_cons hb
      exact ⟨v, vs, rfl, sl, sl1, F, ι, S, x, k, rx, z1, fun σ1 k1 => ⟨sl1, sl', F, ι, S, xs, k1, rl, z2, kk⟩⟩
end
theorem st_setT {t : Tg} {tg : Expr} (hc : X.calm = true) (hN : X.N.Nodup) (ht : TgOk X t tg) (h : PE X a (tSV ex W f.be e (se f m))) (hs : swapsWithSole [tg] a pos.line X.env = pure false) (hw : swappedStores [tg] a X.env = pure none) (h1 : (assignEach [tg] X.env).map (·.2) = [assign tg X.env]) :
    PS X (.Assign [tg] a pos) (tSt ex W f.be e (Mv.ex f (.setT t m))) := by
  refine PS.imp (ps_asg h (sg_tg (be := f.be) (e := e) hc hN ht) hs hw h1) fun D σ H ⟨sl, S, F, ι, out, k, hr, kk⟩ => ?_
  have hr' : ((se f m sl S).bind fun v S1 => match bindS t v sl with
    | some sl' => ok (Fl.nx sl') S1
    | none => none) = some out := hr
  rcases bind_some hr' with ⟨v, S1, h1, q1⟩ | ⟨c', v, S1, h1, rfl⟩
  · refine ⟨sl, S, F, ι, _, k, h1, fun F' ι' H' y k1 rl => ?_⟩
    cases hb : bindS t v sl with
    | none => rw [hb] at q1; cases q1
    | some sl' =>
      rw [hb] at q1
      obtain rfl := ok_some q1
      exact ⟨sl, sl', F', ι', S1, v, k1, rl, hb, fun σ' k2 => kk F' ι' σ' H' k2⟩
  · exact ⟨sl, S, F, ι, _, k, h1, kk⟩
/-- a later base: what is known to stay -/
theorem StOk.base {F F0 : FHp} {ι ι0 : List Addr} {S : Store} {H : Hp} {sl : Sl} {σ : L2.St} (k : StOk be e F ι S H sl σ) (hF : ∀ a p, F0 a = some p → F a = some p) (hι : ∃ r, ι = ι0 ++ r) : StOk be { e with kF := F0, kι := ι0 } F ι S H sl σ :=
  ⟨k.sim, k.tr, ⟨k.sl.len, k.sl.at_, k.sl.new, k.sl.apart⟩, hF, hι⟩
theorem StOk.unbase {F F0 : FHp} {ι ι0 : List Addr} {S : Store} {H : Hp} {sl : Sl} {σ : L2.St} (k : StOk be { e with kF := F0, kι := ι0 } F ι S H sl σ) (hF : ∀ a p, e.kF a = some p → F0 a = some p) (hι : ∃ r, ι0 = e.kι ++ r) : StOk be e F ι S H sl σ :=
  ⟨k.sim, k.tr, ⟨k.sl.len, k.sl.at_, k.sl.new, k.sl.apart⟩, fun a p h => k.kf a p (hF a p h), ext2 hι k.ki⟩
/-- what is known to stay is none of the def's own regions -/
def KOk (f : Fr) (e : E0) : Prop := (∀ a p, e.kF a = some p → p.1 < f.lo) ∧ ∀ a p, e.F a = some p → p.1 < f.lo
theorem st_for {t : Tg} {it : IT} {B : Ss} {tg iter : Expr} {body : List Stmt} (hp : PassesOwn (model X.prog X.w) X.A X.env X.xe) (hc : X.calm = true) (hN : X.N.Nodup) (hi : PI X tg iter (tSI ex W f e (seW f it))) (ht : TgOk X t tg) (he : KOk f e) (hb : ∀ e, KOk f e → PSs X body (tSt ex W f.be e (exs f B)))
    (hs : ∀ x, foldedSetIterable iter X.env x = pure x) : PS X (.For tg iter body [] pos) (tSt ex W f.be e (Mv.ex f (.for_ t it B))) := by
  have hg : ∀ e, PG X tg (sTg f.be e t) := fun e => sg_tg hc hN ht
  have hg' : PG X tg (fun v σ H Q => ∃ e, sTg f.be e t v σ H Q) := ⟨fun pins s σ H v u Q I r ⟨e, q⟩ => (hg e).run pins s σ H v u Q I r q⟩
  have hb' : PSs X body (fun D σ H => ∃ e, KOk f e ∧ tSt ex W f.be e (exs f B) D σ H) := ⟨fun pins s σ H D I ⟨e, hk, q⟩ => (hb e hk).run pins s σ H D I q⟩
  refine PS.imp (ps_for hp hc hi hg' hb' hs) fun D σ H ⟨sl, S, F, ι, out, k, hr, kk⟩ => ?_
  have hr' : ((seW f it sl S).bind fun xs S1 => forL t (fun sl S => exs f B sl S) xs sl S1) = some out := hr
  rcases bind_some hr' with ⟨xs, S1, h1, q1⟩ | ⟨c', v, S1, h1, rfl⟩
  rotate_left
  · exact ⟨sl, S, F, ι, _, k, h1, kk⟩
  refine ⟨sl, S, F, ι, _, k, h1, fun F0' ι0 H0 J k0 w => ?_⟩
  obtain ⟨F0, hF0, hF1⟩ : ∃ F0, F0 = dropF f.lo F0' ∧ ∀ a p, F0 a = some p → F0' a = some p := ⟨_, rfl, fun a p h => (dropF_some h).1⟩
  have w : Wlk f.be J xs F0 ι0 := by
    rw [hF0]
    exact w
  have kk0 : ∀ a p, e.kF a = some p → F0 a = some p := fun a p h => by
    rw [hF0]
    exact dropF_of (k0.kf a p h) (he.1 a p h)
  have hk : KOk f { e with kF := F0, kι := ι0 } := ⟨fun a p h => by
    rw [hF0] at h
    exact (dropF_some h).2, he.2⟩
  have un : ∀ {F : FHp} {ι : List Addr} {S : Store} {H : Hp} {sl : Sl} {σ : L2.St}, StOk f.be { e with kF := F0, kι := ι0 } F ι S H sl σ → StOk f.be e F ι S H sl σ := fun k => k.unbase kk0 k0.ki
  refine ⟨fun i n σ H => n = xs.length - i ∧ i ≤ xs.length ∧ ∃ sl S F ι, StOk f.be { e with kF := F0, kι := ι0 } F ι S H sl σ ∧ forL t (fun sl S => exs f B sl S) (xs.drop i) sl S = some out,
    ⟨xs.length, rfl, Nat.zero_le _, sl, S1, F0', ι0, k0.base hF1 ⟨[], by simp⟩, q1⟩, ?_⟩
  rintro i n σ H ⟨rfl, hi, sl, S, F, ι, k, hl⟩
  obtain ⟨w1, w2⟩ := w F ι S H k.kf k.ki k.sim
  by_cases hlt : i < xs.length
  · obtain ⟨v, hv⟩ : ∃ v, xs[i]? = some v := ⟨xs[i], List.getElem?_eq_getElem hlt⟩
    have hdrop : xs.drop i = v :: xs.drop (i + 1) := by
      rw [List.drop_eq_getElem_cons hlt]
      have : xs[i] = v := by
        rw [List.getElem?_eq_getElem hlt] at hv
        exact Option.some.inj hv
      rw [this]
    rw [hdrop] at hl
    obtain ⟨g1, g2⟩ := w2 i v hv
    refine .inr ⟨g1, fun σ' H' => i + 1 ≤ xs.length ∧ ∃ sl S F ι, StOk f.be { e with kF := F0, kι := ι0 } F ι S H' sl σ' ∧ forL t (fun sl S => exs f B sl S) (xs.drop (i + 1)) sl S = some out, fun σ' H' h => ⟨xs.length - (i + 1), by omega, rfl, h⟩, fun x H' hy => ?_⟩
    obtain ⟨F1, t1, s1, rx⟩ := g2 x H' hy
    have hl' : (match bindS t v sl with
      | none => none
      | some sl' => (exs f B sl' S).bind fun r S2 => match r with
        | .nx sl2 => forL t (fun sl S => exs f B sl S) (xs.drop (i + 1)) sl2 S2
        | .rt v => ok (Fl.rt v) S2) = some out := hl
    cases hb2 : bindS t v sl with
    | none => rw [hb2] at hl'; cases hl'
    | some sl' =>
      rw [hb2] at hl'
      refine ⟨{ e with kF := F0, kι := ι0 }, sl, sl', F1, ι, S, v, k.step t1 s1, rx, hb2, fun σ2 k2 => ?_⟩
      rcases bind_some hl' with ⟨r, S2, e2, q2⟩ | ⟨c', v', S2, e2, rfl⟩
      · refine ⟨{ e with kF := F0, kι := ι0 }, hk, sl', S, F1, ι, .ok r S2, k2, e2, ?_⟩
        cases r with
        | nx sl2 => exact fun F' ι' σ' H' k3 => ⟨hlt, sl2, S2, F', ι', k3, q2⟩
        | rt v =>
          obtain rfl := ok_some q2
          exact kk
      · exact ⟨{ e with kF := F0, kι := ι0 }, hk, sl', S, F1, ι, .exc c' v' S2, k2, e2, kk⟩
  · have hi' : i = xs.length := by omega
    subst hi'
    rw [List.drop_length] at hl
    obtain rfl := ok_some hl
    exact .inl ⟨w1, kk F ι σ H (un k)⟩
theorem st_whl {c : ME} {ca : Expr} {B : Ss} {body : List Stmt} (hp : PassesOwn (model X.prog X.w) X.A X.env X.xe) (hc : PT X ca (tST ex W f.be e (tst f c))) (hb : PSs X body (tSt ex W f.be e (exs f B))) : PS X (.While ca body [] pos) (tSt ex W f.be e (Mv.ex f (.whl c B))) := by
  refine PS.imp (ps_while hp hc hb) fun D σ H ⟨sl, S, F, ι, out, k, hr, kk⟩ => ?_
  have hr' : whileL (fun sl S => tst f c sl S) (fun sl S => exs f B sl S) f.fuel sl S = some out := hr
  refine ⟨fun n σ H => ∃ sl S F ι, StOk f.be e F ι S H sl σ ∧ whileL (fun sl S => tst f c sl S) (fun sl S => exs f B sl S) n sl S = some out, ⟨f.fuel, sl, S, F, ι, k, hr'⟩, ?_⟩
  rintro n σ H ⟨sl, S, F, ι, k, hw⟩
  cases n with
  | zero => cases hw
  | succ n =>
    have hw' : ((tst f c sl S).bind fun k S1 => match k with
      | false => ok (Fl.nx sl) S1
      | true => (exs f B sl S1).bind fun r S2 => match r with
        | .nx sl' => whileL (fun sl S => tst f c sl S) (fun sl S => exs f B sl S) n sl' S2
        | .rt v => ok (Fl.rt v) S2) = some out := hw
    rcases bind_some hw' with ⟨v, S1, h1, q1⟩ | ⟨c', v, S1, h1, rfl⟩
    · refine ⟨sl, S, F, ι, _, k, h1, fun F1 ι1 H1 y k1 rl => ?_⟩
      have rl : v = y := rl
      subst rl
      dsimp only
      cases v with
      | false =>
        rw [if_neg Bool.false_ne_true]
        obtain rfl := ok_some q1
        exact kk F1 ι1 σ H1 k1
      | true =>
        rw [if_pos rfl]
        refine ⟨fun σ' H' => ∃ sl S F ι, StOk f.be e F ι S H' sl σ' ∧ whileL (fun sl S => tst f c sl S) (fun sl S => exs f B sl S) n sl S = some out, fun σ' H' h => ⟨n, Nat.lt_succ_self _, h⟩, ?_⟩
        rcases bind_some q1 with ⟨r, S2, e2, q2⟩ | ⟨c', v', S2, e2, rfl⟩
        · refine ⟨sl, S1, F1, ι1, .ok r S2, k1, e2, ?_⟩
          cases r with
          | nx sl2 => exact fun F' ι' σ' H' k3 => ⟨sl2, S2, F', ι', k3, q2⟩
          | rt v =>
            obtain rfl := ok_some q2
            exact kk
        · exact ⟨sl, S1, F1, ι1, .exc c' v' S2, k1, e2, kk⟩
    · exact ⟨sl, S, F, ι, _, k, h1, kk⟩
end
end Mv

end
section
set_option Elab.async false
set_option linter.all false
set_option autoImplicit false
set_option maxRecDepth 100000
namespace Mv
open PySem PySem.Spec L2
variable [Tbs]
section
variable {X : Cx} {ex : ExT} {W : WX} {f : Fr} {a a2 : Expr} {m m2 : ME} {e : E0} {pos apos tpos p0 : Pos} {be : Nat} {i : Nat} {x : Str}
theorem ixN_setlen {n : Nat} {k : Int} {j : Nat} (h : ixN n k = some j) : j < n := (ixN_seq h).2.1
theorem len1 {α : Type} {a : α} : [a].length < 30 := by rw [List.length_singleton]; decide
/-- an owned slot -/
theorem ol_at {F : FHp} {ι : List Addr} {S : Store} {H : Hp} {sl : Sl} {σ : L2.St} (k : StOk be e F ι S H sl σ) {i : Nat} {xs : List MV} (h : sl[i]? = some (.ol xs)) : ∃ a vs, σ[i]? = some (some (.ref a)) ∧ H a = some (.lst vs) ∧ RVL F ι xs vs := by
  have hl : i < σ.length := by rw [← k.sl.len]; exact (List.getElem?_eq_some_iff.mp h).1
  have ho : σ[i]? = some σ[i] := List.getElem?_eq_getElem hl
  generalize σ[i] = o at ho
  cases k.sl.at_ i _ o h ho with
  | ol a1 a2 a3 a4 => exact ⟨_, _, ho, a1, a4⟩
theorem st_append (hN : X.N[i]? = some x) (hv : Vis X.env.scope x) (hd : (x == ("__debug__" : Str)) = false) (hcd : (x == ("__classdict__" : Str)) = false) (hns : isStar a = false) (h : PE X a (tSV ex W f.be e (se f m))) (hline : (apos.endLine == pos.line) = true)
    (hs : swapsWith (.Call (.Attribute (.Name x p0) "append" apos) [a] [] pos) none tpos.line X.env = pure false) :
    PS X (.Expr (.Call (.Attribute (.Name x p0) "append" apos) [a] [] pos) tpos) (tSt ex W f.be e (Mv.ex f (.append i m))) := by
  refine PS.imp (ps_expr (pe_bm PySem.F.plainAttrs_list PySem.F.slot_list_append PySem.F.type_list_append (show MtR X _ rAppend from mt_append) (pe_var hN hv hd hcd) (pa_cons h pa_nil (starEach_ns hns)) (abase rfl) (fewOk (pl1 hns) len1) hline (starEach_ns hns) rfl) hs) fun D σ H ⟨sl, S, F, ι, out, k, hr, kk⟩ => ?_
  have hr' : (match sl[i]? with
    | some (.ol xs) => (se f m sl S).bind fun v S1 => if xs.length < sizeLine then ok (Fl.nx (sl.set i (.ol (xs ++ [v])))) S1 else none
    | _ => none) = some out := hr
  split at hr'
  rotate_left
  · cases hr'
  rename_i xs hsl
  obtain ⟨p, vs, h1, h2, h3⟩ := ol_at k hsl
  refine ⟨.ref p, h1, .inl ⟨rfl, _, SqL.of h2⟩, ?_⟩
  rcases bind_some hr' with ⟨v, S1, e1, q1⟩ | ⟨c', v, S1, e1, rfl⟩
  · refine ⟨sl, S, F, ι, _, k, e1, fun F' ι' H' y k1 rl => ?_⟩
    obtain ⟨p', vs', g1, g2, g3⟩ := ol_at k1 hsl
    rw [h1] at g1
    cases g1
    split at q1
    · rename_i hz
      obtain rfl := ok_some q1
      exact ⟨p, vs', y, rfl, rfl, g2, by rw [← g3.length]; exact hz, kk F' ι' σ _ (k1.write hsl h1 (g3.append (.one rl)))⟩
    · cases q1
  · exact ⟨sl, S, F, ι, _, k, e1, kk⟩
theorem st_extend (hN : X.N[i]? = some x) (hv : Vis X.env.scope x) (hd : (x == ("__debug__" : Str)) = false) (hcd : (x == ("__classdict__" : Str)) = false) (hns : isStar a = false) (h : PE X a (tSV ex W f.be e (se f m))) (hline : (apos.endLine == pos.line) = true)
    (hs : swapsWith (.Call (.Attribute (.Name x p0) "extend" apos) [a] [] pos) none tpos.line X.env = pure false) :
    PS X (.Expr (.Call (.Attribute (.Name x p0) "extend" apos) [a] [] pos) tpos) (tSt ex W f.be e (Mv.ex f (.extend i m))) := by
  refine PS.imp (ps_expr (pe_bm PySem.F.plainAttrs_list PySem.F.slot_list_extend PySem.F.type_list_extend (show MtR X _ rExtend from mt_extend) (pe_var hN hv hd hcd) (pa_cons h pa_nil (starEach_ns hns)) (abase rfl) (fewOk (pl1 hns) len1) hline (starEach_ns hns) rfl) hs) fun D σ H ⟨sl, S, F, ι, out, k, hr, kk⟩ => ?_
  have hr' : (match sl[i]? with
    | some (.ol xs) => (se f m sl S).bind fun v S1 => match v with
      | .lst _ ys => if xs.length + ys.length ≤ sizeLine then ok (Fl.nx (sl.set i (.ol (xs ++ ys)))) S1 else none
      | _ => none
    | _ => none) = some out := hr
  split at hr'
  rotate_left
  · cases hr'
  rename_i xs hsl
  obtain ⟨p, vs, h1, h2, h3⟩ := ol_at k hsl
  refine ⟨.ref p, h1, .inl ⟨rfl, _, SqL.of h2⟩, ?_⟩
  rcases bind_some hr' with ⟨v, S1, e1, q1⟩ | ⟨c', v, S1, e1, rfl⟩
  · refine ⟨sl, S, F, ι, _, k, e1, fun F' ι' H' y k1 rl => ?_⟩
    obtain ⟨p', vs', g1, g2, g3⟩ := ol_at k1 hsl
    rw [h1] at g1
    cases g1
    have rl : RV F' ι' v y := rl
    cases rl <;> try (cases q1; done)
    rename_i c ys b ws hF hr2
    have q1' : (if xs.length + ys.length ≤ sizeLine then ok (Fl.nx (sl.set i (.ol (xs ++ ys)))) S1 else none) = some out := q1
    split at q1'
    · rename_i hz
      obtain rfl := ok_some q1'
      exact ⟨p, b, vs', ws, rfl, rfl, g2, k1.sim.fh _ _ _ hF, by rw [← g3.length, ← hr2.length]; exact hz, kk F' ι' σ _ (k1.write hsl h1 (g3.append hr2))⟩
    · cases q1'
  · exact ⟨sl, S, F, ι, _, k, e1, kk⟩
/-- whatever the base -/
theorem any_e {t : E0 → TE} (h : ∀ e, PE X a (t e)) : PE X a (fun σ H Q => ∃ e, t e σ H Q) := ⟨fun pins s σ H Q I ⟨e, q⟩ => (h e).run pins s σ H Q I q⟩
theorem st_setSub {tp sp : Pos} (hN : X.N[i]? = some x) (hv : Vis X.env.scope x) (hd : (x == ("__debug__" : Str)) = false) (hcd : (x == ("__classdict__" : Str)) = false) (h : PE X a (tSV ex W f.be e (se f m))) (h2 : ∀ e, PE X a2 (tSV ex W f.be e (se f m2)))
    (ha : ∀ v, assign (.Subscript (.Name x p0) a2 sp) X.env v = (do
      let ov ← holding [v] (eval (.Name x p0) X.env)
      let iv ← holding [v, ov] (eval a2 X.env)
      standAt sp
      holding [v, ov, iv] (setItem ov iv v)
      release [v, ov, iv] [])) (hs : swapsWithSole [.Subscript (.Name x p0) a2 sp] a tp.line X.env = pure false) :
    PS X (.Assign [.Subscript (.Name x p0) a2 sp] a tp) (tSt ex W f.be e (Mv.ex f (.setSub i m2 m))) := by
  refine PS.imp (ps_asg h (pg_sub (pe_var hN hv hd hcd) (any_e h2) set_list ha) hs rfl rfl) fun D σ H ⟨sl, S, F, ι, out, k, hr, kk⟩ => ?_
  have hr' : (match sl[i]? with
    | some (.ol xs) => (se f m sl S).bind fun v S1 => (se f m2 sl S1).bind fun k S2 => match k with
      | .int j => match L2.ixN xs.length j with
        | some n => ok (Fl.nx (sl.set i (.ol (xs.set n v)))) S2
        | none => none
      | _ => none
    | _ => none) = some out := hr
  split at hr'
  rotate_left
  · cases hr'
  rename_i xs hsl
  rcases bind_some hr' with ⟨v, S1, e1, q1⟩ | ⟨c', v, S1, e1, rfl⟩
  rotate_left
  · exact ⟨sl, S, F, ι, _, k, e1, kk⟩
  refine ⟨sl, S, F, ι, _, k, e1, fun F1 ι1 H1 y k1 ry => ?_⟩
  have ry : RV F1 ι1 v y := ry
  obtain ⟨p, vs, h1, h2, h3⟩ := ol_at k1 hsl
  refine ⟨.ref p, h1, { e with kF := F1, kι := ι1 }, ?_⟩
  rcases bind_some q1 with ⟨w, S2, e2, q2⟩ | ⟨c', v', S2, e2, rfl⟩
  rotate_left
  · exact ⟨sl, S1, F1, ι1, _, k1.base (fun _ _ h => h) ⟨[], by simp⟩, e2, kk⟩
  refine ⟨sl, S1, F1, ι1, _, k1.base (fun _ _ h => h) ⟨[], by simp⟩, e2, fun F2 ι2 H2 z k2 rz => ?_⟩
  have rz : RV F2 ι2 w z := rz
  obtain ⟨p', vs', g1, g2, g3⟩ := ol_at k2 hsl
  rw [h1] at g1
  cases g1
  have ry2 := ry.mono k2.kf k2.ki
  cases rz <;> try (cases q2; done)
  rename_i j
  have q2' : (match L2.ixN xs.length j with
    | some n => ok (Fl.nx (sl.set i (.ol (xs.set n v)))) S2
    | none => none) = some out := q2
  cases hj : ixN xs.length j with
  | none => rw [hj] at q2'; cases q2'
  | some n =>
    rw [hj] at q2'
    obtain rfl := ok_some q2'
    exact ⟨p, vs', j, n, rfl, rfl, g2, by rw [← g3.length]; exact hj, kk F2 ι2 σ _ ((k2.unbase k1.kf k1.ki).write hsl h1 (g3.set ry2 n))⟩
theorem st_setCell {a3 : Expr} {m3 : ME} {tp sp : Pos} (h : PE X a (tSV ex W f.be e (se f m))) (h2 : ∀ e, PE X a2 (tSV ex W f.be e (se f m2))) (h3 : ∀ e, PE X a3 (tSV ex W f.be e (se f m3)))
    (ha : ∀ v, assign (.Subscript a2 a3 sp) X.env v = (do
      let ov ← holding [v] (eval a2 X.env)
      let iv ← holding [v, ov] (eval a3 X.env)
      standAt sp
      holding [v, ov, iv] (setItem ov iv v)
      release [v, ov, iv] [])) (hs : swapsWithSole [.Subscript a2 a3 sp] a tp.line X.env = pure false) :
    PS X (.Assign [.Subscript a2 a3 sp] a tp) (tSt ex W f.be e (Mv.ex f (.setCell m2 m3 m))) := by
  refine PS.imp (ps_asg h (pg_sub (any_e h2) (any_e h3) set_list ha) hs rfl rfl) fun D σ H ⟨sl, S, F, ι, out, k, hr, kk⟩ => ?_
  have hr' : ((se f m sl S).bind fun v S1 => (se f m2 sl S1).bind fun p S2 => (se f m3 sl S2).bind fun k S3 => match p with
    | .ptr n => match S3[n]?, k with
      | some (.lst xs), .int j => match L2.ixN xs.length j with
        | some m => if cellOK v = true then ok (Fl.nx sl) (S3.set n (.lst (xs.set m v))) else none
        | none => none
      | _, _ => none
    | _ => none) = some out := hr
  rcases bind_some hr' with ⟨v, S1, e1, q1⟩ | ⟨c', v, S1, e1, rfl⟩
  rotate_left
  · exact ⟨sl, S, F, ι, _, k, e1, kk⟩
  refine ⟨sl, S, F, ι, _, k, e1, fun F1 ι1 H1 y k1 ry => ?_⟩
  have ry : RV F1 ι1 v y := ry
  refine ⟨{ e with kF := F1, kι := ι1 }, ?_⟩
  rcases bind_some q1 with ⟨p, S2, e2, q2⟩ | ⟨c', v', S2, e2, rfl⟩
  rotate_left
  · exact ⟨sl, S1, F1, ι1, _, k1.base (fun _ _ h => h) ⟨[], by simp⟩, e2, kk⟩
  refine ⟨sl, S1, F1, ι1, _, k1.base (fun _ _ h => h) ⟨[], by simp⟩, e2, fun F2 ι2 H2 z k2 rz => ?_⟩
  have rz : RV F2 ι2 p z := rz
  refine ⟨{ e with kF := F2, kι := ι2 }, ?_⟩
  have k2' := k2.unbase k1.kf k1.ki
  rcases bind_some q2 with ⟨w, S3, e3, q3⟩ | ⟨c', v', S3, e3, rfl⟩
  rotate_left
  · exact ⟨sl, S2, F2, ι2, _, k2'.base (fun _ _ h => h) ⟨[], by simp⟩, e3, kk⟩
  refine ⟨sl, S2, F2, ι2, _, k2'.base (fun _ _ h => h) ⟨[], by simp⟩, e3, fun F3 ι3 H3 t k3 rt => ?_⟩
  have rt : RV F3 ι3 w t := rt
  have ry3 := (ry.mono k2.kf k2.ki).mono k3.kf k3.ki
  have rz3 := rz.mono k3.kf k3.ki
  have k3' := k3.unbase k2'.kf k2'.ki
  obtain ⟨n, p0, rfl, rfl, hn⟩ : ∃ n p0, p = .ptr n ∧ z = .ref p0 ∧ ι3[n]? = some p0 := by
    cases rz3 with
    | ptr hn => exact ⟨_, _, rfl, rfl, hn⟩
    | _ => cases q3
  dsimp only at q3
  cases hS : S3[n]? with
  | none => rw [hS] at q3; cases q3
  | some cc =>
  cases cc with
  | dead => rw [hS] at q3; cases q3
  | dct _ => rw [hS] at q3; cases q3
  | lst xs =>
  cases rt <;> try (rw [hS] at q3; cases q3; done)
  rename_i j
  rw [hS] at q3
  dsimp only at q3
  split at q3
  rotate_left
  · cases q3
  rename_i m0 hj
  split at q3
  rotate_left
  · cases q3
  rename_i hc
  obtain rfl := ok_some q3
  obtain ⟨p1, vs, f1, f2, f3, f4, f5⟩ := k3'.sim.cell n xs hS
  rw [hn] at f1
  cases f1
  refine ⟨p0, vs, j, m0, rfl, rfl, f2, by rw [← f4.length]; exact hj, kk F3 ι3 σ _ ?_⟩
  have s1 := k3'.sim.setCell (ys := xs.set m0 v) hS hn (f4.set ry3 m0) (colsLtL_set (xs := xs) f5 hc)
  exact k3'.step (Tr.setCell k3'.sim hS hn) s1
theorem set_self {α : Type} {l : List α} {i : Nat} {v : α} (h : l[i]? = some v) : l.set i v = l := List.ext_getElem? fun j => by
  by_cases hj : i = j
  · subst hj
    rw [List.getElem?_set_self (List.getElem?_eq_some_iff.mp h).1, h]
  · rw [List.getElem?_set_ne hj]
/-- a slot is forgotten -/
theorem StOk.unset {F : FHp} {ι : List Addr} {S : Store} {H : Hp} {sl : Sl} {σ : L2.St} (k : StOk be e F ι S H sl σ) (i : Nat) : StOk be e F ι S H (sl.set i .un) σ := by
  have g : ∀ {j : Nat} {zs : List MV}, (sl.set i SV.un)[j]? = some (.ol zs) → sl[j]? = some (.ol zs) ∧ j ≠ i := fun {j zs} h => by
    by_cases hj : i = j
    · subst hj
      by_cases hl : i < sl.length
      · rw [List.getElem?_set_self hl] at h
        cases h
      · rw [List.getElem?_eq_none (by rw [List.length_set]; omega)] at h
        cases h
    · rw [List.getElem?_set_ne hj] at h
      exact ⟨h, fun z => hj z.symm⟩
  refine ⟨k.sim, k.tr, ⟨by rw [List.length_set]; exact k.sl.len, fun j s o h1 h2 => ?_, fun a ⟨j, xs, h1, h2⟩ => k.sl.new a ⟨j, xs, (g h1).1, h2⟩, fun j l xs ys a h1 h2 h3 h4 => k.sl.apart j l xs ys a (g h1).1 (g h2).1 h3 h4⟩, k.kf, k.ki⟩
  by_cases hj : i = j
  · subst hj
    by_cases hl : i < sl.length
    · rw [List.getElem?_set_self hl] at h1
      cases h1
      exact .un
    · rw [List.getElem?_eq_none (by rw [List.length_set]; omega)] at h1
      cases h1
  · rw [List.getElem?_set_ne hj] at h1
    exact k.sl.at_ j s o h1 h2
/-- an owned list is frozen -/
theorem StOk.frzOl {F : FHp} {ι : List Addr} {S : Store} {H : Hp} {sl : Sl} {σ : L2.St} {c : Nat} (hc : c < be) (k : StOk be e F ι S H sl σ) {i : Nat} {xs : List MV} (h : sl[i]? = some (.ol xs)) : ∃ F', StOk be e F' ι S H (sl.set i (.val (.lst c xs))) σ := by
  obtain ⟨p, vs, h1, h2, h3⟩ := ol_at k h
  have q : ownd sl σ p := ⟨i, xs, h, h1⟩
  obtain ⟨vs', a1, a2, a3⟩ := k.sl.own q
  rw [h2] at a1
  cases a1
  have k1 := k.unset i
  have hl : i < sl.length := (List.getElem?_eq_some_iff.mp h).1
  have nq : ¬ ownd (sl.set i .un) σ p := fun ⟨j, ys, e1, e2⟩ => by
    by_cases hj : i = j
    · subst hj
      rw [List.getElem?_set_self hl] at e1
      cases e1
    · rw [List.getElem?_set_ne hj] at e1
      exact hj (k.sl.apart i j xs ys p h e1 h1 e2)
  have k2 := k1.freeze (c := c) h2 a2 hc a3 (k.sl.new p q) nq
  have k3 := k2.setVal (i := i) (v := .lst c xs) (x := .ref p) (.lst updF_same (h3.mono (updF_keep a2) ⟨[], by simp⟩))
  rw [List.set_set, set_self h1] at k3
  exact ⟨_, k3⟩
theorem st_frz {is : List Nat} {D : Ends} {σ : L2.St} {H : Hp} (hcol : f.col < f.be) (h : tSt ex W f.be e (Mv.ex f (.frz is)) D σ H) : D.nx σ H := by
  obtain ⟨sl, S, F, ι, out, k, hr, kk⟩ := h
  obtain rfl := ok_some (show ok (Fl.nx (frzAt f.col is sl)) S = some out from hr)
  suffices hsu : ∀ (is : List Nat) (sl : Sl) (F : FHp), StOk f.be e F ι S H sl σ → ∃ F', StOk f.be e F' ι S H (frzAt f.col is sl) σ by
    obtain ⟨F', k'⟩ := hsu is sl F k
    exact kk F' ι σ H k'
  intro is
  induction is with
  | nil => exact fun sl F k => ⟨F, k⟩
  | cons i is ih =>
    intro sl F k
    cases hs : sl[i]? with
    | none =>
      have := ih sl F k
      show ∃ F', StOk f.be e F' ι S H (frzAt f.col is (match sl[i]? with
        | some s => sl.set i (s.frz f.col)
        | none => sl)) σ
      rw [hs]
      exact this
    | some s =>
      show ∃ F', StOk f.be e F' ι S H (frzAt f.col is (match sl[i]? with
        | some s => sl.set i (s.frz f.col)
        | none => sl)) σ
      rw [hs]
      dsimp only
      cases s with
      | un => exact ih _ F (by rw [show sl.set i (SV.un.frz f.col) = sl from ?_]; exact k; exact set_self hs)
      | val v => exact ih _ F (by rw [show sl.set i ((SV.val v).frz f.col) = sl from ?_]; exact k; exact set_self hs)
      | od tk kvs =>
        have hl : i < σ.length := by rw [← k.sl.len]; exact (List.getElem?_eq_some_iff.mp hs).1
        cases k.sl.at_ i _ _ hs (List.getElem?_eq_getElem hl)
      | ol xs =>
        obtain ⟨F', k'⟩ := k.frzOl hcol hs
        exact ih _ F' k'
end
end Mv

end
section
set_option Elab.async false
set_option linter.all false
set_option autoImplicit false
set_option maxRecDepth 100000
namespace Mv
open PySem PySem.Spec PyProof.Rows L2
variable [Tbs]
theorem relO_fl {fl : Str} {v : V} {v' : Value} (r : RelV v v') (f : Str) : L2.RelO (List.lookup f [(fl, v)]) (if f = fl then some v' else none) := by
  by_cases hw : f = fl
  · subst hw
    rw [if_pos rfl]
    have q : List.lookup f [(f, v)] = some v := by simp [List.lookup]
    rw [q]
    exact r
  · rw [if_neg hw]
    have qw : (f == fl) = false := by simpa using hw
    have q2 : List.lookup f [(fl, v)] = none := by simp [List.lookup, qw]
    rw [q2]
    trivial
section
variable {X : Cx} {C fI : Addr} {cn fl : Str}
def tMk (C : Addr) (fl : Str) (ta : TA) : L2.St → Hp → XK → Prop := fun σ H Q => ta σ H fun vs H1 => ∃ v, vs = [v] ∧ ∀ d, H1 d = none → Q (.ref C) (some d) (upd H1 d (.xd [(fl, v)]))
theorem pmk_own {a : Expr} {ta : TA} {p pos : Pos} {k : Nat} (T : PySem.OwnX.ClsTxt X.K X.mg cn fl C fI) (hr : Room k X.A) (ha : PA X [a] ta) (hg : Gl X cn) (hns : isStar a = false) (hdb : (cn == ("__debug__" : Str)) = false) : PMk X (.Call (.Name cn p) [a] [] pos) (tMk C fl ta) := by
  intro pins s σ H Q I h
  refine wpAny_Call_Name_kw (ld_glob I hg T.gC ?_ hdb)
  refine PySem.W.callWith_K (h₀ := X.base) I.ok.mod.kin T.kC (thn (ha.run pos pins s σ H _ I h) fun us s1 hh => ?_) (starEach_ns hns) rfl
  obtain ⟨vs, H1, I1, r1, v, ev, q1⟩ := hh
  subst ev
  refine ⟨I1.kIn, ?_⟩
  cases r1 with
  | cons rv rn =>
    rename_i v' us'
    cases rn
    show wpAny _ _ (call (.ref C) [v']) _ _ _
    have hlim := I1.nolimit
    obtain ⟨hp, g, dr, tk, os⟩ := s1
    refine wpAny_call (PySem.OwnX.own_made T I1.kIn hlim (by have := hr.dp; omega) fun h' tk' e d M => ?_)
    show MkP X pins σ Q (.ref e) ⟨h', g, dr, tk', os⟩
    obtain ⟨oe, fv, hoe, hc, hd, hdat, h1⟩ := M.obj
    have hns := M.ns
    obtain ⟨G', g1, g2⟩ := restrict h' fun b => decide (b ≠ e)
    have gk : ∀ b, b ≠ e → G'.get? b = h'.get? b := fun b hb => g1 b (decide_eq_true hb)
    have ge : G'.get? e = none := g2 e (by simp)
    have old : ∀ b o, hp.get? b = some o → G'.get? b = some o := fun b o q => (gk b (Nat.ne_of_lt (Nat.lt_of_lt_of_le (Heap.lt_size q) M.new))).trans (M.keep b o q)
    have ob : ObjOk X.prog X.w (upd H1 d (.xd [(fl, v)])) G' d (.xd [(fl, v)]) :=
      ⟨_, hns.at (fun o q => (gk d M.dne).trans q), fun f => relO_fl rv f⟩
    have J : Inv X pins σ (upd H1 d (.xd [(fl, v)])) ⟨G', g, dr, tk', os⟩ := I1.laid (t' := tk') old M.dbig ob
    refine ⟨e, oe, fv, ⟨G', g, dr, tk', os⟩, _, .ref C, some d, rfl, J, fun b o q => ?_, ge, hoe, ⟨hc, hd⟩, hdat, h1, ?_, rfl, I1.bare, raises_own T.xf.exC T.tyC, q1 d (I1.hok.fresh M.dbig)⟩
    · by_cases hb : b = e
      · have q' : G'.get? b = some o := q
        rw [hb, ge] at q'; cases q'
      · exact (gk b hb).symm.trans q
    · rw [upd_ne (Ne.symm M.dne)]
      exact I1.hok.fresh M.new
end
section
variable {X : Cx} {ex : ExT} {W : WX} {f : Fr} {a : Expr} {m : ME} {e : E0} {p pos pos2 : Pos} {C fI : Addr} {cn fl : Str}
theorem st_raise {k : Nat} (hcol : f.col < f.be) (hc : X.calm = true) (T : PySem.OwnX.ClsTxt X.K X.mg cn fl C fI) (hex : ex cn = some (C, fl)) (hr : Room k X.A) (tk : Takes X W) (h : PE X a (tO ex W f.be (evO f.cfg1 m))) (hg : Gl X cn) (hns : isStar a = false) (hdb : (cn == ("__debug__" : Str)) = false) :
    PS X (.Raise (some (.Call (.Name cn p) [a] [] pos)) none pos2) (tSt ex W f.be e (Mv.ex f (.raise cn m))) := by
  refine PS.imp (ps_raise hc tk (pmk_own T hr (pa_cons (pe_fz hcol h) pa_nil (starEach_ns hns)) hg hns hdb)) fun D σ H ⟨sl, S, F, ι, out, k, hr, kk⟩ => ?_
  have hr' : ((evO f.cfg1 m (view f.col sl) S).bind fun o S1 => (some (.exc cn (o.fz f.col) S1) : R Fl)) = some out := hr
  rcases bind_some hr' with ⟨o, S1, h1, q1⟩ | ⟨c', v, S1, h1, rfl⟩
  · have e1 : out = .exc cn (o.fz f.col) S1 := (Option.some.inj q1).symm
    subst e1
    refine fin_run (out := .ok o S1) hcol k h1 fun F' ι' H' y t s r => ⟨y, rfl, fun d hd => ?_⟩
    exact kk F' ι' _ d C fl y σ (t.trans (Tr.new s hd)) (s.new hd) r hex upd_same
  · exact fin_run (out := .exc c' v S1) hcol k h1 kk
end
end Mv

end
section
set_option Elab.async false
set_option linter.all false
set_option autoImplicit false
set_option maxRecDepth 100000
namespace Mv
open PySem PySem.Spec L2
variable [Tbs]
section
variable {X : Cx} {ex : ExT} {W : WX} {f : Fr} {e : E0} {pos : Pos}
theorem any_ea {es : List Expr} {t : E0 → TA} (h : ∀ e, PA X es (t e)) : PA X es (fun σ H Q => ∃ e, t e σ H Q) := ⟨fun pos pins s σ H Q I ⟨e, q⟩ => (h e).run pos pins s σ H Q I q⟩
/-- several values, one after the other -/
theorem s_es : ∀ {r : Es} {es : List Expr}, EsOk (fun m a => ∀ e, PE X a (tSV ex W f.be e (se f m))) r es → ∀ e, PA X es (tSL ex W f.be e (fun sl S => ses f sl r S))
  | _, _, .nil, e => by
    refine PA.imp pa_nil fun σ H Q ⟨sl, S, F, ι, out, k, hr, kk⟩ => ?_
    obtain rfl := ok_some hr
    exact kk F ι H [] k .nil
  | _, _, .cons (m := m) (r := r) n p t, e => by
    refine PA.imp (pa_cons (p e) (any_ea (s_es t)) (starEach_ns n)) fun σ H Q ⟨sl, S, F, ι, out, k, hr, kk⟩ => ?_
    have hr' : ((se f m sl S).bind fun v S1 => (ses f sl r S1).bind fun vs S2 => ok (v :: vs) S2) = some out := hr
    rcases bind_some hr' with ⟨v, S1, e1, q1⟩ | ⟨c', v, S1, e1, rfl⟩
    rotate_left
    · exact ⟨sl, S, F, ι, _, k, e1, kk⟩
    refine ⟨sl, S, F, ι, _, k, e1, fun F1 ι1 H1 y k1 ry => ⟨{ e with kF := F1, kι := ι1 }, ?_⟩⟩
    have ry : RV F1 ι1 v y := ry
    rcases bind_some q1 with ⟨vs, S2, e2, q2⟩ | ⟨c', v', S2, e2, rfl⟩
    · obtain rfl := ok_some q2
      exact ⟨sl, S1, F1, ι1, _, k1.base (fun _ _ h => h) ⟨[], by simp⟩, e2, fun F2 ι2 H2 zs k2 rz => kk F2 ι2 H2 (y :: zs) (k2.unbase k1.kf k1.ki) (.cons (ry.mono k2.kf k2.ki) rz)⟩
    · exact ⟨sl, S1, F1, ι1, _, k1.base (fun _ _ h => h) ⟨[], by simp⟩, e2, kk⟩
theorem par_core {is : List (Nat × Bool)} {r : Es} {D : Ends} {σ : L2.St} {H : Hp} (h : tSt ex W f.be e (Mv.ex f (.par is r)) D σ H) {R1 : List V → Hp → Prop}
    (hk : ∀ sl sl' F ι S H1 vs us, StOk f.be e F ι S H1 sl σ → RVL F ι vs us → putV is vs sl = some sl' → (∀ F' ι' σ' H', StOk f.be e F' ι' S H' sl' σ' → D.nx σ' H') → R1 us H1) : tSL ex W f.be e (fun sl S => ses f sl r S) σ H fun us H1 => R1 us H1 := by
  obtain ⟨sl, S, F, ι, out, k, hr, kk⟩ := h
  have hr' : ((ses f sl r S).bind fun vs S1 => match putV is vs sl with
    | some sl' => ok (Fl.nx sl') S1
    | none => none) = some out := hr
  rcases bind_some hr' with ⟨vs, S1, e1, q1⟩ | ⟨c', v, S1, e1, rfl⟩
  · refine ⟨sl, S, F, ι, _, k, e1, fun F1 ι1 H1 us k1 ru => ?_⟩
    cases hp : putV is vs sl with
    | none => rw [hp] at q1; cases q1
    | some sl' =>
      rw [hp] at q1
      obtain rfl := ok_some q1
      exact hk sl sl' F1 ι1 S1 H1 vs us k1 ru hp kk
  · exact ⟨sl, S, F, ι, _, k, e1, kk⟩
theorem putV_cons {i : Nat} {w : Bool} {is : List (Nat × Bool)} {vs : List MV} {sl sl' : Sl} (h : putV ((i, w) :: is) vs sl = some sl') : ∃ v r, vs = v :: r ∧ putV is r (sl.set i (.val v)) = some sl' := by
  cases vs with
  | nil => cases w <;> cases h
  | cons v r =>
    cases w with
    | true => cases h
    | false =>
      have h' : (if i < sl.length then putV is r (sl.set i (.val v)) else none) = some sl' := h
      split at h'
      · exact ⟨v, r, rfl, h'⟩
      · cases h'
theorem putV_nil {vs : List MV} {sl sl' : Sl} (h : putV [] vs sl = some sl') : vs = [] ∧ sl = sl' := by
  cases vs with
  | nil => exact ⟨rfl, Option.some.inj h⟩
  | cons v r => cases h
variable {i j l : Nat} {x y z : Str} {a b c : Expr} {px py pz pt : Pos} {kt k2 : Nat} {pt2 : Pos} {r : Es} {w1 w2 w3 : Bool}
theorem st_par2 (hc : X.calm = true) (hN : X.N.Nodup) (hi : X.N[i]? = some x) (hj : X.N[j]? = some y) (hij : i ≠ j) (hx : X.env.scope.names.lookup x = some .local) (hy : X.env.scope.names.lookup y = some .local)
    (ha : EsOk (fun m a => ∀ e, PE X a (tSV ex W f.be e (se f m))) r [a, b]) (hw : swappedStores [.Tuple [.Name x px, .Name y py] kt pt] (.Tuple [a, b] k2 pt2) X.env = pure (some [x, y])) :
    PS X (.Assign [.Tuple [.Name x px, .Name y py] kt pt] (.Tuple [a, b] k2 pt2) pos) (tSt ex W f.be e (Mv.ex f (.par [(i, w1), (j, w2)] r))) := by
  refine PS.imp (ps_par hc hN hi hj hij hx hy (s_es ha e) hw rfl) fun D σ H h => par_core h fun sl sl' F ι S H1 vs us k ru hp kk => ?_
  obtain ⟨v1, r1, rfl, hp1⟩ := putV_cons hp
  obtain ⟨v2, r2, rfl, hp2⟩ := putV_cons hp1
  obtain ⟨rfl, rfl⟩ := putV_nil hp2
  cases ru with | cons ru1 ru =>
  cases ru with | cons ru2 ru =>
  cases ru
  exact ⟨_, _, rfl, kk F ι _ H1 ((k.setVal ru1).setVal ru2)⟩
theorem st_par3 (hc : X.calm = true) (hN : X.N.Nodup) (hi : X.N[i]? = some x) (hj : X.N[j]? = some y) (hl : X.N[l]? = some z) (hij : i ≠ j) (hil : i ≠ l) (hjl : j ≠ l) (hx : X.env.scope.names.lookup x = some .local) (hy : X.env.scope.names.lookup y = some .local) (hz : X.env.scope.names.lookup z = some .local)
    (ha : EsOk (fun m a => ∀ e, PE X a (tSV ex W f.be e (se f m))) r [a, b, c]) (hw : swappedStores [.Tuple [.Name x px, .Name y py, .Name z pz] kt pt] (.Tuple [a, b, c] k2 pt2) X.env = pure (some [x, y, z])) :
    PS X (.Assign [.Tuple [.Name x px, .Name y py, .Name z pz] kt pt] (.Tuple [a, b, c] k2 pt2) pos) (tSt ex W f.be e (Mv.ex f (.par [(i, w1), (j, w2), (l, w3)] r))) := by
  refine PS.imp (ps_par3 hc hN hi hj hl hij hil hjl hx hy hz (s_es ha e) hw rfl) fun D σ H h => par_core h fun sl sl' F ι S H1 vs us k ru hp kk => ?_
  obtain ⟨v1, r1, rfl, hp1⟩ := putV_cons hp
  obtain ⟨v2, r2, rfl, hp2⟩ := putV_cons hp1
  obtain ⟨v3, r3, rfl, hp3⟩ := putV_cons hp2
  obtain ⟨rfl, rfl⟩ := putV_nil hp3
  cases ru with | cons ru1 ru =>
  cases ru with | cons ru2 ru =>
  cases ru with | cons ru3 ru =>
  cases ru
  exact ⟨_, _, _, rfl, kk F ι _ H1 (((k.setVal ru1).setVal ru2).setVal ru3)⟩
/-- names to slots -/
def tgOf : List (Nat × Bool) → Tg
  | [] => .nil
  | (i, _) :: r => .cons (.nm i) (tgOf r)
theorem putV_bind : ∀ {is : List (Nat × Bool)} {vs : List MV} {sl sl' : Sl}, putV is vs sl = some sl' → bindS (tgOf is) (.tup vs) sl = some sl'
  | [], vs, sl, sl', h => by
    obtain ⟨rfl, rfl⟩ := putV_nil h
    rfl
  | (i, w) :: is, vs, sl, sl', h => by
    obtain ⟨v, r, rfl, h2⟩ := putV_cons h
    have hl : i < sl.length := by
      cases w with
      | true => cases h
      | false =>
        have h' : (if i < sl.length then putV is r (sl.set i (.val v)) else none) = some sl' := h
        split at h'
        · assumption
        · cases h'
    show (match (if i < sl.length then some (sl.set i (SV.val v)) else none) with
      | some sl' => bindS (tgOf is) (.tup r) sl'
      | none => none) = some sl'
    rw [if_pos hl]
    exact putV_bind h2
theorem putV_len : ∀ {is : List (Nat × Bool)} {vs : List MV} {sl sl' : Sl}, putV is vs sl = some sl' → vs.length = is.length
  | [], vs, sl, sl', h => by rw [(putV_nil h).1]; rfl
  | (i, w) :: is, vs, sl, sl', h => by
    obtain ⟨v, r, rfl, h2⟩ := putV_cons h
    rw [List.length_cons, List.length_cons, putV_len h2]
/-- .. as a tuple that is made and taken apart -/
theorem st_parT {is : List (Nat × Bool)} {es ts : List Expr} (hbe : 0 < f.be) (hc : X.calm = true) (hN : X.N.Nodup) (ht : TgOk X (tgOf is) (.Tuple ts kt pt)) (ha : EsOk (fun m a => ∀ e, PE X a (tSV ex W f.be e (se f m))) r es) (hlen : is.length ≤ sizeLine)
    (hw : swappedStores [.Tuple ts kt pt] (.Tuple es k2 pt2) X.env = pure none) :
    PS X (.Assign [.Tuple ts kt pt] (.Tuple es k2 pt2) pos) (tSt ex W f.be e (Mv.ex f (.par is r))) := by
  refine PS.imp (ps_asg (pe_tup (s_es ha e)) (sg_tg (be := f.be) (e := e) hc hN ht) rfl hw rfl) fun D σ H h => par_core h fun sl sl' F ι S H1 vs us k ru hp kk => ⟨by rw [← ru.length, putV_len hp]; exact hlen, fun p hp' => ?_⟩
  obtain ⟨F', t, s, rv⟩ := newTup hbe k.sim hp' ru
  exact ⟨sl, sl', F', ι, S, .tup vs, k.step t s, rv, putV_bind hp, fun σ' k2 => kk F' ι σ' _ k2⟩
end
end Mv

end
section
set_option Elab.async false
set_option linter.all false
set_option autoImplicit false
set_option maxRecDepth 100000
namespace PySem
section
set_option maxHeartbeats 1000000
theorem meets_enumerate_newT (l : Addr) (items : Array Value) (n : Nat) (dct : Option Addr) (sl : Array (Option Value)) :
    Meets (Builtin.«enumerate.__new__» ⟨[.type "enumerate", .ref l], []⟩) (fun _ R s => s.heap.get? l = some { cls := .type "tuple", dict := dct, data := .seq items n, slots := sl } ∧
      R (.ok (.ret (.ref (s.heap.push { cls := .type "tuple_iterator", data := .fields #[.ref l, .int 0 0] }).objs.size)))
        { s with heap := (s.heap.push { cls := .type "tuple_iterator", data := .fields #[.ref l, .int 0 0] }).push { cls := .type "enumerate", data := .fields #[.none, .bool false, .ref s.heap.objs.size, rawInt 0, .none, .none] } }) :=
  .of_wp fun prog w A R s h => by
    obtain ⟨hp, g, d, tk, os⟩ := s; obtain ⟨hl, h⟩ := h
    have hsub := sub_enumerate
    have hL : Heap.IsTuple (Shared.heap ⟨hp, g, d, tk, os⟩) l items := ⟨_, hl, rfl, n, rfl⟩
    wp_walk using wpAny_loadPart' hl
    refine wpAny_stack_any fun st => wpAny_pure ?_
    split
    · rename_i c _ _ _ _ _
      cases (c == Value.type "enumerate")
      · wp_walk using wpAny_loadPart' hl, wpAny_pyIter_tuple hL
        exact ⟨_, rfl, h⟩
      · wp_walk using wpAny_loadPart' hl, wpAny_pyIter_tuple hL
        exact ⟨_, rfl, h⟩
    · wp_walk using wpAny_loadPart' hl, wpAny_pyIter_tuple hL
      exact ⟨_, rfl, h⟩
end
section
variable {prog : Program} {w : World} {A : Around} {E : Value → Shared → Prop} {s : Shared}
theorem call_enumerate_tup {l : Addr} {items : Array Value} {Q : Value → Shared → Prop} (hL : s.heap.IsTuple l items)
    (h : ∀ h', IsEnum h' (s.heap.objs.size + 1) s.heap.objs.size 0 .none → h'.IsTupleIter s.heap.objs.size l 0 → h'.objs.size = s.heap.objs.size + 2 →
      (∀ b o, s.heap.get? b = some o → h'.get? b = some o) → Q (.ref (s.heap.objs.size + 1)) { s with heap := h' }) :
    wpAny (model prog w) A (call (.type "enumerate") [.ref l]) Q E s := by
  obtain ⟨⟨c, dct, dt, sl⟩, hl, hc, n, hd⟩ := hL
  replace hc : c = .type "tuple" := hc
  replace hd : dt = .seq items n := hd
  subst hc hd
  refine callType_new F.called_enumerate (by decide) (F.typeCall_enumerate_1 _) (F.newCall_enumerate_1 _) (fun obj => F.args_object_init_2 obj _) F.entry_enumerate_new
    (meets_enumerate_newT l items n dct sl) ⟨hl, ?_⟩
  have hz : (s.heap.push { cls := .type "tuple_iterator", data := .fields #[.ref l, .int 0 0] }).objs.size = s.heap.objs.size + 1 := Heap.size_push ..
  show _ ∧ _
  rw [hz]
  have he : IsEnum ((s.heap.push { cls := .type "tuple_iterator", data := .fields #[.ref l, .int 0 0] }).push
      { cls := .type "enumerate", data := .fields #[.none, .bool false, .ref s.heap.objs.size, rawInt 0, .none, .none] }) (s.heap.objs.size + 1) s.heap.objs.size 0 .none := by
    have := Heap.get?_push_size (s.heap.push { cls := .type "tuple_iterator", data := .fields #[.ref l, .int 0 0] })
      (o := { cls := .type "enumerate", data := .fields #[.none, .bool false, .ref s.heap.objs.size, rawInt 0, .none, .none] }) rfl
    rw [hz] at this; exact this
  refine ⟨⟨_, he, rfl⟩, h _ he ⟨_, Heap.get?_push_of_some _ (Heap.get?_push_size _ rfl), rfl, rfl⟩ (by rw [Heap.size_push, hz]) fun b o x => Heap.get?_push_of_some _ (Heap.get?_push_of_some _ x)⟩
end
end PySem
namespace Mv
open PySem PySem.Spec PyProof.Rows L2
/-- the tuple at a, each item in a new pair -/
def IteT (K : PySem.W.Frag) (a : Addr) : It :=
  ⟨fun i H => ∃ (xs : List V) (x : V), SqT K H a xs ∧ xs[i]? = some x, fun i H v H' => ∃ T x, v = .ref T ∧ H T = none ∧ H' = upd H T (.tup [.int (i : Nat), x]) ∧ ∀ xs, SqT K H a xs → xs[i]? = some x, fun i H => ∃ xs : List V, SqT K H a xs ∧ xs.length = i⟩
theorem turn_enumT {P : Program} {w : World} {K : PySem.W.Frag} {elts : List Expr} {kk : Nat} {tpos : Pos} (a e it : Addr) (hae : a ≠ it) :
    Turn P w K (.Tuple elts kk tpos) (IteT K a) [e, it] e (fun i h => (∃ old, IsEnum h e it ((i : Nat) : Int) old) ∧ h.IsTupleIter it a i ∧ e ≠ it ∧ e ≠ a) where
  mem := by simp
  obj := fun i h st b hb => by
    obtain ⟨⟨old, he⟩, ⟨o, ho, hc, hd⟩, _⟩ := st
    have e' : b = e ∨ b = it := by simpa using hb
    rcases e' with z | z
    · rw [z]; exact ⟨_, he, fun v q => nomatch q⟩
    · rw [z]; exact ⟨o, ho, fun v q => by rw [hd] at q; cases q⟩
  keep := fun i h h' st k => let ⟨⟨old, he⟩, hi, hne⟩ := st; ⟨⟨old, k e (by simp) _ he⟩, hi.at fun o q => k it (by simp) o q, hne⟩
  item := by
    intro X hP hw hK hc i pins s σ H E I hf st hg
    subst hP hw hK
    obtain ⟨⟨old, he⟩, hit, hne, hnea⟩ := st
    obtain ⟨xs, x, hq, hx⟩ := hg
    obtain ⟨its, rv, p, hz⟩ := I.tuple hq
    obtain ⟨u, hu, ru⟩ := rv.get hx
    have hel : e < s.heap.objs.size := Heap.lt_size he
    have hil : it < s.heap.objs.size := by obtain ⟨_, q, _⟩ := hit; exact Heap.lt_size q
    have D := Draws.tuple (prog := X.prog) (w := X.w) (A := X.A.in1) (I.ok.hd hc) it a hae its.toArray
    refine wpAny_pyNext_enum_itemD D he ⟨hit, p⟩ (by simp; exact (List.getElem?_eq_some_iff.mp hu).1) hne (by simp [hne, hnea]) fun x' h' tk hPx ho hst' hT hsz hk => ?_
    have ex : u = x' := by
      have z : its.toArray[i]? = some x' := hPx
      rw [show its.toArray[i]? = some u by simpa using hu] at z
      exact Option.some.inj z
    subst ex
    refine ⟨_, rfl, wpAny_letOwnedTupleGo_enum (s := { s with heap := h', toks := tk + 1 }) ho fun h'' he' sb => ?_⟩
    have hT2 : h''.get? s.heap.objs.size = some { cls := .type "tuple", data := .seq #[.int i tk, u] } := (sb.2 _ (Nat.ne_of_gt hel)).trans hT
    have new : ObjOk X.prog X.w (upd H s.heap.objs.size (.tup [.int (i : Nat), x])) h'' s.heap.objs.size (.tup [.int (i : Nat), x]) :=
      ⟨by show 2 ≤ sizeLine; decide, [.int i tk, u], .cons ⟨_, rfl⟩ (.cons ru .nil), ⟨_, hT2, rfl, _, rfl⟩⟩
    have I1 : Inv X pins σ (upd H s.heap.objs.size (.tup [.int (i : Nat), x])) { s with heap := h'', toks := tk + 1 } :=
      I.turnedNew (ch := [e, it]) (fun b ob hb q => (sb.2 b (fun z => hb (by simp [z]))).trans (hk b ob (fun z => hb (by simp [z])) (fun z => hb (by simp [z])) q)) hf (Nat.le_refl _) new
    refine ⟨.ref s.heap.objs.size, _, I1, rfl, ⟨_, x, rfl, I.hok.fresh (Nat.le_refl _), rfl, fun ys hy => by rw [I.tuple_inj hy hq]; exact hx⟩, ⟨⟨u, ?_⟩, hst'.1.at fun o q => (sb.2 it (Ne.symm hne)).trans q, hne, hnea⟩, fun b hb => ?_⟩
    · have e1 : ((i + 1 : Nat) : Int) = (i : Int) + 1 := by omega
      rw [e1]; exact he'
    · have hb' : b < s.heap.objs.size := by
        have e' : b = e ∨ b = it := by simpa using hb
        rcases e' with z | z
        · rw [z]; exact hel
        · rw [z]; exact hil
      rw [upd_ne (Nat.ne_of_lt hb')]
      exact (hf b hb).1
  done := by
    intro X hP hw hK hc i pins s σ H E I hf st hg
    subst hP hw hK
    obtain ⟨⟨old, he⟩, hit, hne, hnea⟩ := st
    obtain ⟨xs, hq, hx⟩ := hg
    obtain ⟨its, rv, p, hz⟩ := I.tuple hq
    obtain ⟨f0, f1, f2, f3, f4, f5⟩ := hf it (by simp)
    have hl := rv.length
    have D := Draws.tuple (prog := X.prog) (w := X.w) (A := X.A.in1) (I.ok.hd hc) it a hae its.toArray
    have hsz : i = its.toArray.size := by simp; omega
    refine wpAny_pyNext_enum_endD D he (by rw [← hsz]; exact ⟨hit, p⟩) fun h' eb => ⟨rfl, I.turned (t' := s.toks) (fun b o hb q => eb b o hb q) f0 f1 f3 f4 f5⟩
  self := fun A i s Q E st h => let ⟨⟨_, he⟩, _⟩ := st; wpAny_pyIter_enum he h
/-- enumerate(x), x a list or a tuple -/
def iEnumA (K : PySem.W.Frag) (ta : TA) : TI := fun σ H R => ta σ H fun vs H1 => ∃ a, vs = [.ref a] ∧ ((∃ xs, SqL K H1 a xs ∧ R (Ite K a) H1) ∨ ∃ xs, SqT K H1 a xs ∧ R (IteT K a) H1)
theorem pi_enumA {X : Cx} {e : Expr} {ta : TA} {p pos tpos : Pos} {elts : List Expr} {kk : Nat} (hg : Gl X "enumerate") (hm : X.mg "enumerate" = none) (ha : PA X [e] ta) (hs : starEach [e] X.env = [(false, eval e X.env)]) :
    PI X (.Tuple elts kk tpos) (.Call (.Name "enumerate" p) [e] [] pos) (iEnumA X.K ta) := by
  refine ⟨fun pins s σ H R I h => ?_⟩
  refine Call_ (ld_blt I hg hm boot_enumerate (PyProof.Rows.callWith_type1 (thn (ha.run pos pins s σ H _ I h) fun us s1 ⟨vs, H1, I1, r1, q1⟩ => ?_) hs rfl))
  obtain ⟨a, ex, q1⟩ := q1
  subst ex
  cases r1 with
  | cons r rr =>
    cases rr
    cases r
    have fresh2 : ∀ c, c ∈ [s1.heap.objs.size + 1, s1.heap.objs.size] → FpOk X pins H1 c := fun c hcm => by
      have e' : c = s1.heap.objs.size + 1 ∨ c = s1.heap.objs.size := by simpa using hcm
      have hle : s1.heap.objs.size ≤ c := by
        rcases e' with z | z
        · rw [z]; exact Nat.le_succ _
        · rw [z]; exact Nat.le_refl _
      exact I1.fpOk hle (I1.hok.fresh hle)
    rcases q1 with ⟨xs, hq, q⟩ | ⟨xs, hq, q⟩
    · obtain ⟨its, rv, p1, _⟩ := I1.list hq
      refine call_enumerate_list p1.isList fun h' he hit hsz hk => wpAny_pyIter_enum he ?_
      have I2 : Inv X pins σ H1 { s1 with heap := h' } := I1.kept (t' := s1.toks) hk
      exact ⟨s1.heap.objs.size + 1, [s1.heap.objs.size + 1, s1.heap.objs.size], _, _, H1, rfl, I2, turn_enum a _ _, ⟨⟨_, he⟩, hit, Nat.succ_ne_self _⟩, fresh2, q⟩
    · obtain ⟨its, rv, p1, _⟩ := I1.tuple hq
      obtain ⟨o1, ho1, _⟩ := id p1
      have hlt := Heap.lt_size ho1
      refine call_enumerate_tup (show s1.heap.IsTuple a its.toArray from p1) fun h' he hit hsz hk => wpAny_pyIter_enum he ?_
      have I2 : Inv X pins σ H1 { s1 with heap := h' } := I1.kept (t' := s1.toks) hk
      exact ⟨s1.heap.objs.size + 1, [s1.heap.objs.size + 1, s1.heap.objs.size], _, _, H1, rfl, I2, turn_enumT a _ _ (Nat.ne_of_lt hlt), ⟨⟨_, he⟩, hit, Nat.succ_ne_self _, Nat.ne_of_gt (Nat.lt_succ_of_lt hlt)⟩, fresh2, q⟩
variable [Tbs]
section
variable {b : Nat} {F : FHp} {ι : List Addr} {S : Store} {H : Hp} {K : PySem.W.Frag}
theorem wlk_enumT (hb : 0 < b) {c : Nat} {a : Addr} {vs : List V} {xs : List MV} (h : F a = some (c, .tup vs)) (r : RVL F ι xs vs) : Wlk b (IteT K a) (enumL 0 xs) F ι := by
  intro F' ι' S' H' hF hι s
  have sq : SqT K H' a vs := SqT.ofRV s (hF _ _ h)
  have r' := r.mono hF hι
  refine ⟨⟨vs, sq, by rw [enumL_len, r.length]⟩, fun i v e => ?_⟩
  obtain ⟨x, e1, rfl⟩ := enumL_get e
  obtain ⟨u, hu, ru⟩ := r'.get e1
  refine ⟨⟨vs, u, sq, hu⟩, ?_⟩
  rintro x' H'' ⟨T, u', rfl, hT, rfl, h1⟩
  have z1 := h1 vs sq
  rw [hu] at z1
  cases z1
  rw [Nat.zero_add]
  exact newTup hb s hT (.cons (.int _) (.cons ru .nil))
theorem v_enum {vs : List MV} {us : List V} {xs : List MV} {R : It → Hp → Prop} (hb : 0 < b) (s : Sim b F ι S H) (ru : RVL F ι vs us) (e : walkF .enumerate vs = some xs) (k : ∀ J, Wlk b J xs F ι → R J H) :
    ∃ a, us = [.ref a] ∧ ((∃ xs, SqL K H a xs ∧ R (Ite K a) H) ∨ ∃ xs, SqT K H a xs ∧ R (IteT K a) H) := by
  simp only [walkF] at e
  split at e
  · rename_i x
    obtain ⟨ys, e1, rfl⟩ := Option.map_eq_some_iff.mp e
    cases ru with | cons r t =>
    cases t
    cases x <;> try (cases e1; done)
    · cases e1
      cases r with | lst h1 h2 =>
      exact ⟨_, rfl, .inl ⟨_, SqL.ofRV s h1, k _ (wlk_enumL hb h1 h2)⟩⟩
    · cases e1
      cases r with | tup h1 h2 =>
      exact ⟨_, rfl, .inr ⟨_, SqT.ofRV s h1, k _ (wlk_enumT hb h1 h2)⟩⟩
  · cases e
end
section
variable {X : Cx} {ex : ExT} {W : WX} {C : Cfg} {f : Fr} {b : Nat} {e : E0} {rs : Es} {e1 : Expr} {p pos : Pos} {elts : List Expr} {kk : Nat} {tpos : Pos}
theorem i_enum (hb : 0 < b) (hg : Gl X "enumerate") (hm : X.mg "enumerate" = none) (hn : esNum rs = some 1) (ha : PA X [e1] (tL ex W b (evs C rs))) (hp : isStar e1 = false) : PI X (.Tuple elts kk tpos) (.Call (.Name "enumerate" p) [e1] [] pos) (tI ex W b (evW C (.by_ .enumerate rs))) :=
  PI.imp (pi_enumA hg hm ha (starEach_one hp)) fun σ H R h => iw_core hn h fun F ι S H2 vs us xs hl s ru e k => v_enum hb s ru e k
theorem w_enum (hlo : 0 < f.lo) (hb : 0 < f.be) (hg : Gl X "enumerate") (hm : X.mg "enumerate" = none) (ha : PA X [e1] (tSL ex W f.be e (seL f rs))) (hp : isStar e1 = false) : PI X (.Tuple elts kk tpos) (.Call (.Name "enumerate" p) [e1] [] pos) (tSI ex W f e (seW f (.by_ .enumerate rs))) := by
  refine PI.imp (pi_enumA hg hm ha (starEach_one hp)) fun σ H R h => oneL_s (g := fun vs S1 => if f.oldL vs = true then lift (walkF .enumerate vs) S1 else none) h fun sl F ι S S0 H2 x u out k ru h1 q kk => ?_
  obtain ⟨ho, q⟩ := if_some q
  obtain ⟨z, e1, rfl⟩ := lift_some q
  exact v_enum hb (k.sim.dropMid hlo) (oldL_rv hlo k.sim ru ho) e1 fun J w => kk F ι H2 J k w
end
end Mv

end
section
set_option Elab.async false
set_option linter.all false
set_option autoImplicit false
set_option maxRecDepth 100000
set_option maxHeartbeats 2000000
namespace Mv
open PySem PySem.Spec PyProof.Rows L2
/-- what the clauses wish of an exception of the body; slot i is the name's -/
def wManyAs (K : PySem.W.Frag) (i : Nat) (Wout : WX) (D : Ends) : List (Value × (Addr → Value → Option Addr → TS)) → WX
  | [] => Wout
  | (c, ts) :: r => fun cls d σ H => ∃ b, PySem.W.exmOne K cls c = some b ∧
    (b = true → ∀ a, H a = none → ts a cls d { nx := fun σ' H' => D.nx (σ'.set i none) H', rt := D.rt, bk := fun σ' H' => D.bk (σ'.set i none) H', ct := fun σ' H' => D.ct (σ'.set i none) H' } (σ.set i (some (.ref a))) H) ∧
    (b = false → wManyAs K i Wout D r cls d σ H)
inductive HdsAs (X : Cx) (n : Str) : List ExceptHandler → List (Value × (Addr → Value → Option Addr → TS)) → Prop
  | nil : HdsAs X n [] []
  | cons {x : Str} {c : Value} {ts : Addr → Value → Option Addr → TS} {b₀ : Stmt} {suite : List Stmt} {np pos' : Pos} {hds : List ExceptHandler} {l : List (Value × (Addr → Value → Option Addr → TS))} (hc : Names X x c)
      (hsu : ∀ (a : Addr) (oe : Obj) (cls : Value) (d : Option Addr) (pn : List (Addr × Obj)), Zc cls d oe → (∃ vs, oe.data = .fields vs) → PSs (X.suite a ((a, oe) :: pn)) (b₀ :: suite) (ts a cls d)) (r : HdsAs X n hds l) :
      HdsAs X n (.ExceptHandler (some (.Name x np)) (some n) (b₀ :: suite) pos' :: hds) ((c, ts) :: l)
section
variable {X : Cx} {body : List Stmt} {h₀ : ExceptHandler} {hds : List ExceptHandler} {l : List (Value × (Addr → Value → Option Addr → TS))} {pos : Pos} {tb : WX → TS} {Wout : WX} {n : Str} {i : Nat}
theorem ps_try_manyAs (hs : X.stack = X.env :: X.outer) (hf : X.env.frame = some X.env.locals) (hN : X.N.Nodup) (hi : X.N[i]? = some n) (hln : X.env.kindOf n = some .local) (tk : Takes X Wout)
    (hb : ∀ (W : WX) (pn : List (Addr × Obj)) (xe : Value → Shared → Prop), Takes (X.tr pn xe) W → PassesOwn (model X.prog X.w) X.A X.env xe → PSs (X.tr pn xe) body (tb W))
    (hh : HdsAs X n (h₀ :: hds) l) : PS X (.Try body (h₀ :: hds) [] [] pos) (fun D σ H => tb (wManyAs X.K i Wout D l) D σ H) := by
  refine ⟨fun pins s σ H D I h => ?_⟩
  have ok := I.ok
  have hfr : X.A.frames = some (X.env :: X.outer) := by rw [ok.frames, hs]
  have hloc : Loc X.env.scope n := .inl hln
  refine wpAny_Try_except ?_
  refine wpAny_mono ((hb (wManyAs X.K i Wout D l) (X.pn ++ pins) (fun e s₁ => wpAny (model X.prog X.w) X.A (noteFrame e X.env) (fun _ s₂ => wpAny (model X.prog X.w) X.A (setFlight e none) (fun _ s₃ =>
    wpAny (model X.prog X.w) X.A (handleBy e X.env (h₀ :: hds)) (SP X pins D) X.xe s₃) X.xe s₂) X.xe s₁) (fun u s' xx => ?_) PassesOwn.looking).run [] s σ H D (I.toTry _) h) (fun f s1 hsp => ?_) (fun e s1 he => he)
  · obtain ⟨a, B, sI, pins', σ', H', cls, d, rfl, J', nb, up, sky, na, os, ag, w⟩ := xx
    have J : Inv X pins σ' H' sI := J'.ofTry ok
    have sky' : Sky B (X.env :: X.outer) a (Zc cls d) X.env.locals s'.heap := by rw [← hs]; exact sky
    show wpAny (model X.prog X.w) X.A (noteFrame (.ref a) X.env) _ _ _
    refine Sky.land Zc.steady hfr hf sky' fun h3 fl3 up3 => ?_
    have J3 : Inv X pins σ' H' { s' with heap := h3 } := J.landed nb fl3.1 (up.trans up3) os ag
    obtain ⟨oe3, vs3, he3, hz3, hd3⟩ := fl3.there
    have notFr : ∀ {h : Heap} {o : Obj} {vs : Array Value}, h.FunFrames B (X.env :: X.outer) → h.get? a = some o → o.data = .fields vs → a ∉ frs (X.env :: X.outer) := fun {h o vs} ff e dd hm => by
      obtain ⟨_, o', e', hnf⟩ := ff.mem hm
      rw [e] at e'; cases e'
      exact hnf _ dd
    have nfr := notFr fl3.2.2.1 he3 hd3
    have nL : a ≠ X.env.locals := fun z => nfr (List.mem_filterMap.mpr ⟨X.env, List.mem_cons_self, by rw [hf, z]⟩)
    have nF : a ∉ X.fs := fun hm => by
      obtain ⟨e, he, q⟩ := List.mem_filterMap.mp hm
      exact nfr (List.mem_filterMap.mpr ⟨e, List.mem_cons_of_mem _ he, q⟩)
    have S3 := J3.suite he3 hd3 na nL nF
    have go : ∀ {hds' : List ExceptHandler} {l' : List (Value × (Addr → Value → Option Addr → TS))}, HdsAs X n hds' l' → wManyAs X.K i Wout D l' cls d σ' H' →
        wpAny (model X.prog X.w) X.A (handleBy (.ref a) X.env hds') (SP X pins D) X.xe { s' with heap := h3 } := by
      intro hds' l' hk
      induction hk with
      | nil =>
        intro w
        refine wpAny_handleBy_nil ?_
        obtain ⟨k1, k2, k3, oe, vs, T, oT, ts', he, hz, hd, h1, hr⟩ := id fl3
        unfold PySem.passOn
        refine wpAny_bind (wpAny_field he hd h1 ?_)
        rw [if_neg (show ¬ ((Value.ref T == Value.none) = true) from by simp)]
        have fin : wpAny (model X.prog X.w) X.A (setFlight (.ref a) X.env.frame) (fun _ s4 => wpAny (model X.prog X.w) X.A (throw (.ref a) : Sem Flow) (SP X pins D) X.xe s4) X.xe { s' with heap := h3 } := by
          rw [hf]
          refine HandSPX.setFlight_upZ fl3 fun h4 hh4 up4 => wpAny_throw (tk _ _ ?_)
          exact ⟨a, B, sI, pins, σ', H', cls, d, rfl, J, nb, (up.trans up3).trans up4, .inr (.inr (by rw [hs]; exact hh4)), na, os, ag, w⟩
        first
          | exact wpAny_bind (wpAny_pure (wpAny_bind fin))
          | exact wpAny_bind fin
      | @cons x c ts b₀ suite np pos' hds2 l2 hc hsu r ih =>
        intro w
        obtain ⟨b, hb1, hyes, hno⟩ := w
        refine wpAny_handleBy_cons (codeAny_handlers_test ?_) (by intro q; cases q)
        have LT : PySem.W.Looks (model X.prog X.w) h3 (typeOf (.ref a)) cls := fun A Q E s k q => wpAny_typeOf_ref (k _ _ he3) (by rw [hz3.1]; exact q)
        have LM := PySem.W.exm_one (M := model X.prog X.w) (J3.kIn) LT hb1
        have test : ∀ {Q : Value → Shared → Prop} {E : Value → Shared → Prop}, Q c { s' with heap := h3 } → wpAny (model X.prog X.w) (X.A.mark (some (.ref a))) (eval (.Name x np) X.env) Q E { s' with heap := h3 } := fun {Q E} q => by
          obtain ⟨hg, hdbg, hm | ⟨hm, hv, hnn⟩⟩ := hc
          · exact ld_glob (X := X.suite a ((a, oe3) :: (X.pn ++ pins))) S3 hg hm q hdbg
          · exact ld_blt (X := X.suite a ((a, oe3) :: (X.pn ++ pins))) S3 hg hm hv q hnn hdbg
        refine test (LM.here ?_)
        cases b with
        | true =>
          refine codeAny_handlers_suite_as ?_
          refine HandSPX.lands_againZ fl3 fun h4 fl4 up4 => ?_
          have J4 : Inv X pins σ' H' { s' with heap := h4 } := J.landed nb fl4.1 ((up.trans up3).trans up4) os ag
          obtain ⟨oe4, vs4, he4, hz4, hd4⟩ := fl4.there
          have S4 := J4.suite he4 hd4 na nL nF
          refine store_ok (X := X.suite a ((a, oe4) :: (X.pn ++ pins))) (v := .ref a) S4 hN hi hloc rfl (fun s5 S5 => ?_) (.inr hln)
          refine wpAny_mono ((hsu a oe4 cls d (X.pn ++ pins) hz4 ⟨_, hd4⟩).run [] s5 _ H' _ S5 (hyes rfl a na)) (fun f s6 hsp => ?_) (fun _ _ z => False.elim z)
          have end_ : ∀ {σ6 : L2.St} {H6 : Hp} {Q : Shared → Prop}, Inv (X.suite a ((a, oe4) :: (X.pn ++ pins))) [] σ6 H6 s6 → (∀ s7, Inv X pins (σ6.set i none) H6 s7 → Q s7) →
              wpAny (model X.prog X.w) X.A (do bindName X.env n .none; unbindBehindTheSuite X.env n pos') (fun _ s7 => Q s7) X.xe s6 := fun {σ6 H6 Q} S6 hq => gone_ok (S6.unsuite ok) hN hi hln hq
          cases f with
          | next =>
            obtain ⟨σ6, H6, S6, q6⟩ := hsp
            exact end_ S6 fun s7 J7 => ⟨_, _, J7, q6⟩
          | brk =>
            obtain ⟨σ6, H6, S6, q6⟩ := hsp
            exact end_ S6 fun s7 J7 => ⟨_, _, J7, q6⟩
          | cont =>
            obtain ⟨σ6, H6, S6, q6⟩ := hsp
            exact end_ S6 fun s7 J7 => ⟨_, _, J7, q6⟩
          | ret u =>
            obtain ⟨v6, σ6, H6, S6, r6, q6⟩ := hsp
            exact end_ S6 fun s7 J7 => ⟨_, _, _, J7, r6, q6⟩
        | false =>
          show wpAny _ X.A (handleBy (.ref a) X.env hds2) _ _ _
          exact ih (hno rfl)
    exact go hh w
  · cases f with
    | next =>
      obtain ⟨σ', H', J', q⟩ := hsp
      exact wpAny_execs_nil ⟨σ', H', J'.ofTry ok, q⟩
    | brk =>
      obtain ⟨σ', H', J', q⟩ := hsp
      exact ⟨σ', H', J'.ofTry ok, q⟩
    | cont =>
      obtain ⟨σ', H', J', q⟩ := hsp
      exact ⟨σ', H', J'.ofTry ok, q⟩
    | ret u =>
      obtain ⟨v, σ', H', J', r, q⟩ := hsp
      exact ⟨v, σ', H', J'.ofTry ok, r, q⟩
end
end Mv

end
section
set_option Elab.async false
set_option linter.all false
set_option autoImplicit false
set_option maxRecDepth 100000
set_option maxHeartbeats 2000000
namespace Mv
open PySem PySem.Spec PyProof.Rows L2 LamX
section
variable {X : Cx} {pins : List (Addr × Obj)} {σ : L2.St} {H HZ : Hp} {s s1 : Shared}
/-- x(), in the def that got the lambda -/
theorem pe_actG {CXg : CXT} {Eg : XK} {Ng : List Str} {qg : Str} {sg : Scope} {g f c' : Addr} {cdg pm ctv : Value} {params : Arguments} {body : Expr} {scope : Scope} {k i : Nat} {a : Str} {pn : List (Addr × Obj)} {xe : Value → Shared → Prop} {W : WX} {E : XK} {tb : TE} {p1 p2 : Pos}
    (I : Inv X pins σ H s) (L : LamS X.env.scope scope) (hf : s.heap.get? f = some (PySem.W.kla_obj "<lambda>" (X.env.qual ++ "<lambda>") params body scope (cloFrom X.env.cells scope.names []) pm c' ctv)) (hfn : H f = none) (hfr : f ∉ frs X.stack)
    (hbind : bindArgs (PySem.W.kla_fn "<lambda>" (X.env.qual ++ "<lambda>") params body scope (cloFrom X.env.cells scope.names []) pm (.ref c') ctv) ⟨[], []⟩ = pure [])
    (tk : Takes ((cxOf CXg X.prog X.w X.K X.mg X.base Ng qg sg g cdg X.A X.stack s H Eg).tr pn xe) W) (hW : ∀ cls d σ' H', σ'.length = Ng.length → E cls d H' → W cls d σ' H') (hr : RoomG (k + 1) (X.A.deeper (envOfC qg sg s.heap.objs.size g cdg)))
    (hbody : ∀ (A : Around) (outer : List PySem.Env) (s : Shared) (H : Hp), RoomG k (A.deeper (lamEnv X scope s.heap.objs.size f c')) → PE (lamCx X A outer s H E scope f c') body tb)
    (hN : Ng[i]? = some a) (hv : Vis sg a) (hd : (a == ("__debug__" : Str)) = false) (hcd : (a == ("__classdict__" : Str)) = false) :
    PE ((cxOf CXg X.prog X.w X.K X.mg X.base Ng qg sg g cdg X.A X.stack s H Eg).tr pn xe) (.Call (.Name a p1) [] [] p2)
      (fun σZ HZ Q => σZ[i]? = some (some (.ref f)) ∧ HZ c' = some (CodeO c' (X.env.qual ++ "<lambda>")) ∧ tb σ HZ Q) := by
  refine ⟨fun pinsZ sZ σZ HZ Q IZ h => ?_⟩
  obtain ⟨hs, hc, ht⟩ := h
  refine wpAny_Call_Name_kw (thn ((pe_var (pos := p1) (i := i) hN hv hd hcd).run pinsZ sZ σZ HZ (fun v H1 => v = .ref f ∧ H1 = HZ) IZ ⟨.ref f, hs, rfl, rfl⟩) fun u s1 ⟨v, H1, I1, r1, q1⟩ => ?_)
  obtain ⟨ev, eH⟩ := q1
  subst ev
  rw [eH] at I1
  obtain rfl : u = Value.ref f := r1
  have of1 : s1.heap.get? f = some (PySem.W.kla_obj "<lambda>" (X.env.qual ++ "<lambda>") params body scope (cloFrom X.env.cells scope.names []) pm c' ctv) := I1.base.keep f _ hf hfn hfr (fun z => nomatch (show f ∈ ([] : List Addr) from z))
  refine PySem.W.callWith_F0 ⟨_, _, _, _, of1⟩ ?_
  have un : Un (frs X.stack) [] H HZ s.heap s1.heap := I1.base
  obtain ⟨⟨oc, vs, t, hoc, hdc, hvc⟩, _, _⟩ := I1.hok c' _ hc
  have rc : codeAny (model X.prog X.w) (X.A.deeper (envOfC qg sg s.heap.objs.size g cdg)) (.call (.ref f) ⟨[], []⟩) (CR (L2.CX X.prog X.w) (envOfC qg sg s.heap.objs.size g cdg :: X.stack) X.prog X.w HZ s1 Q E) s1 := by
    refine PySem.W.kla_callFunE hr.rm.depth of1 rfl L.co L.gen rfl ⟨c', oc, vs, t, rfl, hoc, hdc, hvc⟩ ?_
    rw [hbind]
    refine wpAny_pure (wpAny_newFunctionEnv (fun y hy => (L.own y hy).2) (fun y hy => absurd hy (by simp)) (fun h₁ hns hsb => ⟨I1.nolimit.fresh _ hsb, ?_⟩) L.kind)
    show codeAny _ _ (.expr body (lamEnv X scope s1.heap.objs.size f c')) _ _
    have kp : ∀ b o, s1.heap.get? b = some o → h₁.get? b = some o := fun b o e => hsb.extBut b o (Nat.ne_of_lt (Heap.lt_size e)) (Heap.get?_push_of_some _ e)
    have J : Inv (lamCx X (X.A.deeper (envOfC qg sg s.heap.objs.size g cdg)) (envOfC qg sg s.heap.objs.size g cdg :: X.stack) s1 HZ E scope f c') [] σ HZ { s1 with heap := h₁, toks := s1.toks + ([] : List (Str × Value)).length } :=
      lam_start2 I L I1.env0 hr.rm.hd un hns kp
    refine PySem.W.kla_codeExpr (wpAny_mono ((hbody _ _ s1 HZ (hr.deeper _)).run [] _ _ HZ Q J ht) (fun v s' hq => ?_) fun e s' hq => hq)
    obtain ⟨w', H', J', rv, q⟩ := hq
    exact ⟨w', H', J'.os, J'.bare, J'.base, J'.hok, rv, q⟩
  have hx : Passes (L2.CX X.prog X.w) ((cxOf CXg X.prog X.w X.K X.mg X.base Ng qg sg g cdg X.A X.stack s H Eg).tr pn xe) E :=
    fun _ σ _ _ e s' I c => tk e s' (XE.of_call I (fun cls d H' h => hW cls d σ H' I.len h) c)
  refine wpAny_call (codeAny_mono rc fun r s' hq => ?_)
  cases r with
  | error e => exact hx pinsZ σZ HZ s1 e s' I1 hq
  | ok fl =>
    cases fl with
    | ret u => exact I1.after hq
    | next => exact False.elim hq
    | brk => exact False.elim hq
    | cont => exact False.elim hq
end
/-- the def that calls what it got: TT: what it makes of the lambda's reading -/
def GivesToG (X : Cx) (Ng : List Str) (x : Str) (sg : Scope) (g : Addr) (cdg : Value) (bg : List Stmt) (a : Str) (q : Str) (TT : (XK → Hp → VK → Prop) → Hp → VK → Prop) : Prop :=
  ∀ (f c' : Addr) (s : Shared) (H : Hp) (Q : VK) (tl : XK → Hp → VK → Prop),
    (∀ (W : WX) (pn : List (Addr × Obj)) (xe : Value → Shared → Prop) (E : XK) (p1 p2 : Pos), Takes ((cxOf C8.CX0 X.prog X.w X.K X.mg X.base Ng x sg g cdg X.A X.stack s H C8.E0).tr pn xe) W → (∀ cls d σ' H', σ'.length = Ng.length → E cls d H' → W cls d σ' H') →
      PE ((cxOf C8.CX0 X.prog X.w X.K X.mg X.base Ng x sg g cdg X.A X.stack s H C8.E0).tr pn xe) (.Call (.Name a p1) [] [] p2) (fun σZ HZ Q => σZ[0]? = some (some (.ref f)) ∧ HZ c' = some (CodeO c' q) ∧ tl E HZ Q)) →
    H c' = some (CodeO c' q) → TT tl H Q →
    ∃ t, PSs (cxOf C8.CX0 X.prog X.w X.K X.mg X.base Ng x sg g cdg X.A X.stack s H C8.E0).nox bg t ∧ t { nx := fun _ H' => Q .non H', rt := Q } (L2.start Ng [.ref f]) H
section
variable {X : Cx}
/-- x(lambda: body) -/
theorem pe_lamcallG {T : List (Addr × Str)} {TT : (XK → Hp → VK → Prop) → Hp → VK → Prop} {x a : Str} {g c P : Addr} {k : Nat} {pg : Arguments} {bg : List Stmt} {sg : Scope} {dV kV doc pm cdv ct oc : Value} {an od : Option Addr} {osl : Array (Option Value)} {Ng : List Str}
    {params : Arguments} {body : Expr} {scope : Scope} {t : XK → TE} {p lpos pos : Pos} (hg : Gl X x) (hm : X.mg x = some (.ref g)) (hk : PySem.W.keepIn X.K (.ref g) = true)
    (lk : X.K.lookup g = some ⟨oc, od, .func (PySem.W.fnOf x x pg bg sg dV kV doc pm an cdv ct), osl⟩) (hcg : PySem.W.codeIn X.K cdv x = true) (hb : L2.Binds X.K (PySem.W.fnOf x x pg bg sg dV kV doc pm an cdv ct) [a] []) (Sg : FnScope Ng [a] sg) (hNg : Ng[0]? = some a) (hva : Vis sg a)
    (hG : GivesToG X Ng x sg g cdv bg a (X.env.qual ++ "<lambda>") TT)
    (TB : TabB X.base X.mg c P) (hcode : X.env.code = .ref c) (hmT : (P, X.env.qual ++ "<lambda>") ∈ T) (hu : ∀ p ∈ T, p.1 = P → p.2 = X.env.qual ++ "<lambda>") (hr : RoomG (k + 2) X.A) (L : LamS X.env.scope scope) (hdef : defaultsOf params X.env = ([], []))
    (hbind : ∀ (q : Str) (cl : List (Str × Addr)) (pm cv ctv : Value), bindArgs (PySem.W.kla_fn "<lambda>" q params body scope cl pm cv ctv) ⟨[], []⟩ = pure [])
    (hbody : ∀ (A : Around) (outer : List PySem.Env) (s : Shared) (H : Hp) (E : XK) (f c' : Addr), RoomG k (A.deeper (lamEnv X scope s.heap.objs.size f c')) → PE (lamCx X A outer s H E scope f c') body (t E))
    (hdb : (x == ("__debug__" : Str)) = false) (hd : (a == ("__debug__" : Str)) = false) (hcd : (a == ("__classdict__" : Str)) = false) :
    PE X (.Call (.Name x p) [.Lambda params body scope lpos] [] pos) (tLam T TT t) := by
  refine ⟨fun pins s σ H Q I h => ?_⟩
  obtain ⟨hT, h⟩ := h
  refine wpAny_Call_Name_kw (ld_glob I hg hm ?_ hdb)
  refine PySem.W.callWith_K (h₀ := X.base) I.ok.mod.kin hk ?_ (by rfl) (by rfl)
  show wpAny _ _ (spliced ((false, eval (.Lambda params body scope lpos) X.env) :: backTo pos (starEach [] X.env))) _ _ s
  refine Calls.spliced_cons (lam_make2 I TB hcode hmT hu hT hdef (L.has I.ok) fun f c' pm' ctv H1 s' I1 eN T1 hf hfn hfr hco => ?_)
  refine Calls.spliced_nil ⟨I1.kIn, ?_⟩
  have rc : codeAny (model X.prog X.w) X.A (.call (.ref g) ⟨[.ref f], []⟩) (CR C8.CX0 X.stack X.prog X.w H1 s' Q C8.E0) s' := by
    refine run_ofS (N := Ng) (ps := [a]) (us := [.ref f]) (vs := [.ref f]) (k := k + 1) lk hcg Sg hr.rm I1.env0 (hb s' [.ref f] I1.kIn rfl) (.cons rfl .nil) rfl fun hr' => ?_
    obtain ⟨t', ht', hq'⟩ := hG f c' s' H1 Q (fun E H' Q' => t E σ H' Q') (fun W pn xe E p1 p2 tk hW => pe_actG (i := 0) I1 L hf hfn hfr (hbind _ _ _ _ _) tk hW (hr.deeper _) (fun A outer s H hr2 => hbody A outer s H E f c' hr2) hNg hva hd hcd) hco (h H1 eN T1)
    exact ⟨t', ht'.nox, hq'⟩
  refine wpAny_call (codeAny_mono rc fun r s2 hq => ?_)
  cases r with
  | error e => exact (show False from hq).elim
  | ok fl =>
    cases fl with
    | ret u => exact I1.after hq
    | next => exact False.elim hq
    | brk => exact False.elim hq
    | cont => exact False.elim hq
end
end Mv

end
section
set_option Elab.async false
set_option linter.all false
set_option autoImplicit false
set_option maxRecDepth 100000
set_option maxHeartbeats 2000000
namespace Mv
open PySem PySem.Spec PyProof.Rows L2 LamX
/-- a clause: the class's name, its address, the word, the field -/
structure MH where
  n : Str
  C : Addr
  w : Str
  fl : Str
/-- what the clauses make of an error -/
def metW (K : PySem.W.Frag) (Q : VK) : List MH → XK
  | [] => fun _ _ _ => False
  | h :: r => fun cls d H' => ∃ b, PySem.W.exmOne K cls (.ref h.C) = some b ∧
    (b = true → cls = .ref h.C ∧ ∃ (dd : Addr) (fs : List (Str × V)) (v : V), d = some dd ∧ H' dd = some (.xd fs) ∧ fs.lookup h.fl = some v ∧ ∀ p, H' p = none → Q (.ref p) (upd H' p (.tup [.str h.w, v]))) ∧ (b = false → metW K Q r cls d H')
def metTT (K : PySem.W.Frag) (hs : List MH) : (XK → Hp → VK → Prop) → Hp → VK → Prop := fun tl H Q => tl (metW K Q hs) H fun y H' => [V.str "told", y].length ≤ sizeLine ∧ ∀ p, H' p = none → Q (.ref p) (upd H' p (.tup [.str "told", y]))
/-- the clauses' text -/
inductive MetHds (K : PySem.W.Frag) (mg : Str → Option Value) (sg : Scope) (en : Str) : List ExceptHandler → List MH → Prop
  | nil : MetHds K mg sg en [] []
  | cons {h : MH} {hds : List ExceptHandler} {r : List MH} {np q1 q2 q3 q4 q5 q6 : Pos} {k1 k2 : Nat} : sg.names.lookup h.n = some .globalImplicit → mg h.n = some (.ref h.C) → (h.n == ("__debug__" : Str)) = false → XfC K h.C → PySem.W.findIn K (.ref h.C) h.fl = some none → MetHds K mg sg en hds r →
      MetHds K mg sg en (.ExceptHandler (some (.Name h.n np)) (some en) [.Return (some (.Tuple [.Constant (.str h.w) k1 q1, .Attribute (.Name en q2) h.fl q3] k2 q4)) q5] q6 :: hds) (h :: r)
def metTs (h : MH) : Addr → Value → Option Addr → TS := fun a cls d => tRet (tTup (tCons (tC (.str h.w)) (tCons (tXf a cls d h.C h.fl (tVar 1)) tNil)))
def metL (hs : List MH) : List (Value × (Addr → Value → Option Addr → TS)) := hs.map fun h => (.ref h.C, metTs h)
theorem met_wish {K : PySem.W.Frag} {Q : VK} {D : Ends} (hD : ∀ v H, Q v H → D.rt v H) {Wout : WX} {cls : Value} {d : Option Addr} {σ : L2.St} {H : Hp} (hl : 1 < σ.length) : ∀ {hs : List MH}, metW K Q hs cls d H → wManyAs K 1 Wout D (metL hs) cls d σ H
  | [], h => False.elim h
  | x :: r, h => by
    obtain ⟨b, h1, h2, h3⟩ := h
    refine ⟨b, h1, fun hb a na => ?_, fun hb => met_wish hD hl (h3 hb)⟩
    obtain ⟨ec, dd, fs, v, ed, e1, e2, q⟩ := h2 hb
    refine ⟨.ref a, List.getElem?_set_self hl, rfl, ec, dd, fs, v, ed, e1, e2, ?_⟩
    refine ⟨by show 2 ≤ sizeLine; decide, fun p hp => hD _ _ (q p hp)⟩
variable [Tbs]
theorem met_gives {X : Cx} {Ng : List Str} {x a en q : Str} {sg : Scope} {g : Addr} {cdg : Value} {hds : List ExceptHandler} {hs : List MH} {h0 : ExceptHandler} {j kt : Nat} {p0 p1 p2 p3 p8 pt : Pos} (hN : Ng = [a, en]) (hne : a ≠ en) (hen : sg.names.lookup en = some .local) (hd : (en == ("__debug__" : Str)) = false) (hcd : (en == ("__classdict__" : Str)) = false)
    (hh : MetHds X.K X.mg sg en (h0 :: hds) hs) :
    GivesToG X Ng x sg g cdg [.Try [.Return (some (.Tuple [.Constant (.str "told") j p0, .Call (.Name a p1) [] [] p2] kt pt)) p3] (h0 :: hds) [] [] p8] a q (metTT X.K hs) := by
  intro f c' s H Q tl act hc h
  have nodup : Ng.Nodup := by rw [hN]; simp [hne]
  have hi : Ng[1]? = some en := by rw [hN]; rfl
  have conv : ∀ {hds : List ExceptHandler} {hs : List MH}, MetHds X.K X.mg sg en hds hs → HdsAs (cxOf C8.CX0 X.prog X.w X.K X.mg X.base Ng x sg g cdg X.A X.stack s H C8.E0).nox en hds (metL hs) := by
    intro hds hs hh
    induction hh with
    | nil => exact .nil
    | @cons h hds r np q1 q2 q3 q4 q5 q6 k1 k2 g1 g2 g3 g4 g5 _ ih =>
      refine .cons ⟨g1, g3, .inl g2⟩ (fun a oe cls d pn hz hf => ?_) ih
      exact pss_one (ps_ret (pe_tup (pa_cons pe_str (pa_cons (pe_xf (X := (cxOf C8.CX0 X.prog X.w X.K X.mg X.base Ng x sg g cdg X.A X.stack s H C8.E0).nox) g4 g5 hz hf (pe_var (i := 1) hi (.inl hen) hd hcd) (abase rfl)) pa_nil))))
  refine ⟨_, pss_one (ps_try_manyAs (X := (cxOf C8.CX0 X.prog X.w X.K X.mg X.base Ng x sg g cdg X.A X.stack s H C8.E0).nox) (i := 1) (n := en) (l := metL hs) (Wout := fun _ _ _ _ => False)
      (tb := fun W D σ H => ∃ Ech : XK, (∀ cls d σ' H', σ'.length = Ng.length → Ech cls d H' → W cls d σ' H') ∧ σ[0]? = some (some (.ref f)) ∧ H c' = some (CodeO c' q) ∧ tl Ech H fun y H' => [V.str "told", y].length ≤ sizeLine ∧ ∀ p, H' p = none → D.rt (.ref p) (upd H' p (.tup [.str "told", y])))
      rfl rfl nodup hi hen takes0 (fun W pn xe tk _ => ?_) (conv hh)), ?_⟩
  · refine ⟨fun pins s' σ H' D I h' => ?_⟩
    obtain ⟨Ech, hW, h1, h2, h3⟩ := h'
    have hp := act W pn xe Ech p1 p2 tk hW
    have hq := pss_one (ps_ret (pos := p3) (pe_tup (x1 := kt) (pos := pt) (pa_cons (pe_str (j := j) (pos := p0) (x := ("told" : Str))) (pa_cons hp pa_nil))))
    refine hq.run pins s' σ H' D I ?_
    exact ⟨h1, h2, h3⟩
  · refine ⟨metW X.K Q hs, fun cls d σ' H' hl hm => met_wish (fun _ _ h => h) (by rw [hl, hN]; show 1 < 2; decide) hm, ?_, hc, h⟩
    rw [hN]
    rfl
end Mv

end
section
set_option Elab.async false
set_option linter.all false
set_option autoImplicit false
set_option maxRecDepth 100000
namespace Mv
open PySem PySem.Spec L2 LamX
variable [Tbs]
section
variable {b : Nat} {F : FHp} {ι : List Addr} {S : Store} {H H1 : Hp}
theorem Sim.extN (s : Sim b F ι S H) (h : ExtN H H1) (t : Tabs Tbs.T H1) : Sim b F ι S H1 where
  fh := fun a c o e => h a o (s.fh a c o e) fun ps z => by
    have := s.pl a c o e
    rw [z] at this
    cases this
  fc := s.fc
  len := s.len
  cell := fun n xs e => by
    obtain ⟨a, vs, e1, e2, e3, e4, e5⟩ := s.cell n xs e
    exact ⟨a, vs, e1, h a _ e2 (fun _ z => nomatch z), e3, e4, e5⟩
  apart := s.apart
  pl := s.pl
  tabs := t
theorem ExtN.at' (h : ExtN H H1) {a : Addr} (q : NT (H a)) : H1 a = H a := by
  cases e : H a with
  | none => exact absurd e q.1
  | some o => exact h a o e fun ps z => q.2 ps (by rw [e, z])
theorem Tr.extN (h : ExtN H H1) : Tr b F ι S H F ι S H1 where
  keep := fun _ _ _ e _ => e
  ext := ⟨[], by simp⟩
  priv := fun a q => ⟨ExtN.at' h q.1, by rw [ExtN.at' h q.1]; exact q.1, q.2⟩
  dom := fun a q => by rw [ExtN.at' h q]; exact q
end
/-- the clauses' classes are apart -/
structure MetOk (K : PySem.W.Frag) (ex : ExT) (hs : List MH) : Prop where
  test : ∀ c C f, ex c = some (C, f) → ∀ h ∈ hs, PySem.W.exmOne K (.ref C) (.ref h.C) = some (decide (h.n = c))
  own : ∀ h ∈ hs, ex h.n = some (h.C, h.fl)
def hsOf (hs : List MH) : List (Str × Str × Str) := hs.map fun h => (h.n, h.w, h.fl)
theorem met_core {K : PySem.W.Frag} {ex : ExT} {Q : VK} {c : Str} {C : Addr} {f : Str} {d : Addr} {H : Hp} {y : V} {w : Str} (he : ex c = some (C, f)) (hd : H d = some (.xd [(f, y)])) : ∀ {hs : List MH}, MetOk K ex hs → handled (hsOf hs) c = some w →
    (∀ p, H p = none → Q (.ref p) (upd H p (.tup [.str w, y]))) → metW K Q hs (.ref C) (some d) H
  | [], _, h, _ => by cases h
  | x :: r, M, h, k => by
    refine ⟨decide (x.n = c), M.test c C f he x List.mem_cons_self, fun hb => ?_, fun hb => ?_⟩
    · have e := of_decide_eq_true hb
      have e2 := M.own x List.mem_cons_self
      rw [e, he] at e2
      cases e2
      have hw : handled (hsOf (x :: r)) c = some x.w := by
        unfold handled hsOf
        rw [List.map_cons, List.find?_cons]
        simp [e]
      rw [hw] at h
      cases h
      exact ⟨rfl, d, _, y, rfl, hd, by simp [List.lookup], k⟩
    · have e := of_decide_eq_false hb
      refine met_core he hd ⟨fun c C f h x hx => M.test c C f h x (List.mem_cons_of_mem _ hx), fun x hx => M.own x (List.mem_cons_of_mem _ hx)⟩ ?_ k
      have : handled (hsOf (x :: r)) c = handled (hsOf r) c := by
        unfold handled hsOf
        rw [List.map_cons, List.find?_cons]
        simp [e]
      rw [← this]
      exact h
section
variable {X : Cx} {ex : ExT} {W : WX} {C : Cfg} {b : Nat} {m : ME}
theorem met_read {K : PySem.W.Frag} {hs : List MH} {σ : L2.St} {H : Hp} {Q : VK} (hb : 0 < b) (hh : C.hs = hsOf hs) (M : MetOk K ex hs) (h : tO ex W b (evO C (.met m)) σ H Q) :
    tLam Tbs.T (metTT K hs) (fun E => tV ex (WX0 E) b (ev C m)) σ H Q := by
  obtain ⟨env, S, F, ι, out, he, s, q, k⟩ := h
  refine ⟨s.tabs, fun H1 eN T1 => ?_⟩
  have s1 := s.extN eN T1
  have t1 : Tr b F ι S H F ι S H1 := Tr.extN eN
  have q' : (match ev C m env S with
    | some (.ok v S1) => ok (OV.val (.tup [.str "told", v])) S1
    | some (.exc c v S1) => match handled C.hs c with
      | some w => ok (OV.val (.tup [.str w, v])) S1
      | none => none
    | none => none) = some out := q
  cases hr : ev C m env S with
  | none => rw [hr] at q'; cases q'
  | some o =>
    rw [hr] at q'
    refine ⟨env, S, F, ι, o, he, s1, hr, ?_⟩
    cases o with
    | ok v S1 =>
      obtain rfl := ok_some q'
      intro F' ι' H' y t s' rv
      have rv : RV F' ι' v y := rv
      refine ⟨by show 2 ≤ sizeLine; decide, fun p hp => ?_⟩
      obtain ⟨F2, t2, s2, rv2⟩ := newTup hb s' hp (.cons (.str "told") (.cons rv .nil))
      exact k F2 ι' _ _ ((t1.trans t).trans t2) s2 rv2
    | exc c v S1 =>
      dsimp only at q'
      cases hw : handled C.hs c with
      | none => rw [hw] at q'; cases q'
      | some w =>
        rw [hw] at q'
        obtain rfl := ok_some q'
        intro F' ι' H' d Ca f y t s' rv e1 e2
        rw [hh] at hw
        refine met_core e1 e2 M hw fun p hp => ?_
        obtain ⟨F2, t2, s2, rv2⟩ := newTup hb s' hp (.cons (.str w) (.cons rv .nil))
        exact k F2 ι' _ _ ((t1.trans t).trans t2) s2 rv2
end
end Mv

end
section
set_option Elab.async false
set_option linter.all false
set_option autoImplicit false
set_option maxRecDepth 100000
namespace Mv
open PySem PySem.Spec PyProof.Rows L2
/-- tuples stay -/
def TK (H H' : Hp) : Prop := ∀ a xs, H a = some (.tup xs) → H' a = some (.tup xs)
theorem TK.upd {H H' : Hp} (t : TK H H') {D : Addr} {xs ys : List V} (h : H' D = some (.lst xs)) : TK H (L2.upd H' D (.lst ys)) := fun a zs e => by
  rw [upd_ne (fun z => by have := t a zs e; rw [z, h] at this; cases this)]
  exact t a zs e
theorem TK.new {H : Hp} {D : Addr} {o : HO} (h : H D = none) : TK H (L2.upd H D o) := fun a zs e => by
  rw [upd_ne (fun z => by rw [z, h] at e; cases e)]
  exact e
/-- an iterator whose state may know of tracked tuples -/
structure TurnH (P : Program) (w : World) (K : PySem.W.Frag) (tg : Expr) (J : It) (fp : List Addr) (it : Addr) (tn : Nat → Heap → Hp → Prop) : Prop where
  mem : it ∈ fp
  obj : ∀ i h H, tn i h H → ∀ b ∈ fp, ∃ o, h.get? b = some o ∧ ∀ v, o.data ≠ .cell v
  keep : ∀ i h h' H H', tn i h H → (∀ b ∈ fp, ∀ o, h.get? b = some o → h'.get? b = some o) → TK H H' → HOk P w H' h' → tn i h' H'
  item : ∀ (X : Cx), X.prog = P → X.w = w → X.K = K → X.calm = true → ∀ (i : Nat) (pins : List (Addr × Obj)) (s : Shared) (σ : L2.St) (H : Hp) (E : Value → Shared → Prop), Inv X pins σ H s → (∀ b ∈ fp, FpOk X pins H b) → tn i s.heap H → J.go i H →
    wpAny (model P w) X.A (pyNext (.ref it)) (fun r s1 => ∃ u, r = some u ∧
      wpAny (model P w) X.A (letOwnedTupleGo tg (.ref it) u) (fun _ s2 => ∃ x H', Inv X pins σ H' s2 ∧ RelV x u ∧ J.yld i H x H' ∧ tn (i + 1) s2.heap H' ∧ ∀ b ∈ fp, H' b = none) E s1) E s
  done : ∀ (X : Cx), X.prog = P → X.w = w → X.K = K → X.calm = true → ∀ (i : Nat) (pins : List (Addr × Obj)) (s : Shared) (σ : L2.St) (H : Hp) (E : Value → Shared → Prop), Inv X pins σ H s → (∀ b ∈ fp, FpOk X pins H b) → tn i s.heap H → J.stop i H →
    wpAny (model P w) X.A (pyNext (.ref it)) (fun r s1 => r = none ∧ Inv X pins σ H s1) E s
  self : ∀ (A : Around) (s : Shared) (H : Hp) (Q : Value → Shared → Prop) (E : Value → Shared → Prop), tn 0 s.heap H → Q (.ref it) s → wpAny (model P w) A (pyIter (.ref it)) Q E s
def PIEH (X : Cx) (pins : List (Addr × Obj)) (σ : L2.St) (tg : Expr) (R : It → Hp → Prop) (itv : Value) (s2 : Shared) : Prop :=
  ∃ (it : Addr) (fp : List Addr) (tn : Nat → Heap → Hp → Prop) (J : It) (H' : Hp), itv = .ref it ∧ Inv X pins σ H' s2 ∧ TurnH X.prog X.w X.K tg J fp it tn ∧ tn 0 s2.heap H' ∧ (∀ b ∈ fp, FpOk X pins H' b) ∧ R J H'
structure PIH (X : Cx) (tg iter : Expr) (wi : TI) : Prop where
  run : ∀ (pins : List (Addr × Obj)) (s : Shared) (σ : L2.St) (H : Hp) (R : It → Hp → Prop), Inv X pins σ H s → wi σ H R →
    wpAny (model X.prog X.w) X.A (eval iter X.env) (fun v s1 => wpAny (model X.prog X.w) X.A (pyIter v) (PIEH X pins σ tg R) X.xe s1) X.xe s
theorem PIH.imp {X : Cx} {tg e : Expr} {t t' : TI} (h : PIH X tg e t) (w : ∀ σ H R, t' σ H R → t σ H R) : PIH X tg e t' := ⟨fun pins s σ H R I q => h.run pins s σ H R I (w σ H R q)⟩
section
variable {X : Cx}
def tLcZ (wi : TI) (g : TG) (tt : TT) (te : TE) (vs : List Nat) : TE := fun σ H Q => wi σ H fun J H1 => ∀ D, H1 D = none → ∃ W : Nat → Nat → Hp → Prop, (∃ m, W 0 m (upd H1 D (.lst []))) ∧ ∀ i m H, W i m H →
  (J.stop i H ∧ Q (.ref D) H) ∨ (J.go i H ∧ ∃ Nx : Hp → Prop, (∀ H', Nx H' → ∃ m', m' < m ∧ W (i + 1) m' H') ∧ ∀ x H', J.yld i H x H' → g x (wipe σ vs) H' fun σ2 H2 => wipe σ2 vs = wipe σ vs ∧ tt σ2 H2 fun b H3 =>
    if b = true then te σ2 H3 fun y H4 => ∃ acc, H4 D = some (.lst acc) ∧ acc.length < sizeLine ∧ TK H' (upd H4 D (.lst (acc ++ [y]))) ∧ Nx (upd H4 D (.lst (acc ++ [y]))) else TK H' H3 ∧ Nx H3)
theorem lc_coreZ {pins : List (Addr × Obj)} {s : Shared} {σ : L2.St} {H : Hp} {Q : VK} {elt tg iter : Expr} {ifs : List Expr} {scope : Scope} {own : List (Str × Nat)} {pos pos' : Pos} {wi : TI} {g : TG} {tt : TT} {te : TE} {use : Option (Value → Sem Unit)} {Qf : Value → Shared → Prop}
    (hc : X.calm = true) (hN : X.N.Nodup) (I : Inv X pins σ H s) (hi : PIH X tg iter wi) (ok : BlkOk X.N X.env.scope scope own)
    (hg : ∀ (s : Shared) (H : Hp) (C : Addr) (cl : List (Str × Addr)) (fp : List Addr), PG (X.blk s H scope (compEnvC scope cl C X.env) fp) tg g) (ht : ∀ (s : Shared) (H : Hp) (C : Addr) (cl : List (Str × Addr)) (fp : List Addr), PTs (X.blk s H scope (compEnvC scope cl C X.env) fp) ifs tt)
    (he : ∀ (s : Shared) (H : Hp) (C : Addr) (cl : List (Str × Addr)) (fp : List Addr), PE (X.blk s H scope (compEnvC scope cl C X.env) fp) elt te) (hs : ∀ x, foldedSetIterable iter X.env x = pure x)
    (h : tLcZ wi g tt te (own.map (·.2)) σ H Q)
    (hRR : ∀ D C s' m H', Inv X pins σ H' s' → Q (.ref D) H' → s'.heap.Ns C m → FpOk X pins H' C → compPost (model X.prog X.w) X.A X.xe use Qf (.ref D) C (.ok .next) s') :
    wpAny (model X.prog X.w) X.A (comprehension (.ListComp elt [⟨tg, iter, ifs, 0⟩] scope pos) scope X.env pos' (newList []) false (eval iter X.env) use) Qf X.xe s := by
  have hfree : ∀ y ∈ scope.names, y.2 = .free → ∃ c, X.env.cells.lookup y.1 = some c := fun y hy e => by
    rcases ok.free y hy e with k | k
    · exact I.ok.has _ (.inl k)
    · exact I.ok.has _ (.inr k)
  refine wpAny_comprehension_free (use := use) rfl hs (closure_ok hfree) ok.kind (fun y hy e => by rw [ok.uniq y hy, e])
    (thn (hi.run pins s σ H _ I h) fun xv s1 hx => thn hx fun itv s2 h2 => ?_)
  obtain ⟨it, fp, tn, J, H2, e, I2, T, st2, f2, q⟩ := h2
  subst e
  refine wpAny_newObj_type (newEnv_comp ?_) (by show 0 ≤ sizeLine; decide)
  generalize hD : s2.heap.objs.size = D
  have hDn : H2 D = none := I2.hok.fresh (Nat.le_of_eq hD)
  obtain ⟨W, ⟨m0, w0⟩, turn⟩ := q D hDn
  generalize hs3 : ({ s2 with heap := s2.heap.push { cls := .type "list", data := .seq ([] : List Value).toArray } } : Shared) = s3
  have I3 : Inv X pins σ (upd H2 D (.lst [])) s3 := by
    rw [← hs3]
    refine I2.laid (t' := s2.toks) (fun b o e => Heap.get?_push_of_some _ e) (Nat.le_of_eq hD) ⟨Nat.zero_le _, [], 0, .nil, ?_⟩
    rw [← hD]
    exact Heap.get?_push_size _ rfl
  have h3 : s3.heap = s2.heap.push { cls := .type "list", data := .seq ([] : List Value).toArray } := by rw [← hs3]
  have sz : ∀ b ∈ fp, b < s2.heap.objs.size := fun b hb => by
    obtain ⟨o, e, _⟩ := T.obj _ _ _ st2 b hb
    exact Heap.lt_size e
  have f3 : ∀ b ∈ fp, FpOk X pins (upd H2 D (.lst [])) b ∧ b < s3.heap.objs.size := fun b hb => by
    have hlt := sz b hb
    refine ⟨⟨?_, (f2 b hb).2⟩, by rw [h3, Heap.size_push]; exact Nat.lt_succ_of_lt hlt⟩
    rw [upd_ne (by rw [← hD]; exact Nat.ne_of_lt hlt)]
    exact (f2 b hb).1
  have st3 : tn 0 s3.heap (upd H2 D (.lst [])) := T.keep _ _ _ _ _ st2 (fun b _ o e => by rw [h3]; exact Heap.get?_push_of_some _ e) (TK.new hDn) I3.hok
  have I4 := block_start I3 ok hN f3
  have pg := hg s3 (upd H2 D (.lst [])) s3.heap.objs.size (cellsFrom (s3.heap.objs.size + 1) scope.names (cloFrom X.env.cells scope.names [])) fp
  have pt := ht s3 (upd H2 D (.lst [])) s3.heap.objs.size (cellsFrom (s3.heap.objs.size + 1) scope.names (cloFrom X.env.cells scope.names [])) fp
  have pe := he s3 (upd H2 D (.lst [])) s3.heap.objs.size (cellsFrom (s3.heap.objs.size + 1) scope.names (cloFrom X.env.cells scope.names [])) fp
  show codeAny _ _ (.compStart (.ListComp elt [⟨tg, iter, ifs, 0⟩] scope pos) 0 (.ref it) (.ref D) (compEnvC scope (cellsFrom (s3.heap.objs.size + 1) scope.names (cloFrom X.env.cells scope.names [])) s3.heap.objs.size X.env)) (compPost (model X.prog X.w) X.A X.xe use Qf (.ref D) s3.heap.objs.size) { s3 with heap := pushCells (s3.heap.push { cls := .type "dict", data := .dict #[] }) scope.names }
  have nfp : ∀ b ∈ fp, (upd H2 D (.lst [])) b = none := fun b hb => (f3 b hb).1.1
  generalize hce : compEnvC scope (cellsFrom (s3.heap.objs.size + 1) scope.names (cloFrom X.env.cells scope.names [])) s3.heap.objs.size X.env = ce at I4 pg pt pe ⊢
  have cL : ce.locals = s3.heap.objs.size := by subst hce; rfl
  generalize hH3 : upd H2 D (.lst []) = H3 at I3 I4 pg pt pe w0 nfp f3 st3
  generalize hs4 : ({ s3 with heap := pushCells (s3.heap.push { cls := .type "dict", data := .dict #[] }) scope.names } : Shared) = s4 at I4 ⊢
  have st4 : tn 0 s4.heap H3 := T.keep _ _ _ _ _ st3 (fun b _ o e => by rw [← hs4]; exact pushCells_keeps _ _ _ _ (Heap.get?_push_of_some _ e)) (fun _ _ e => e) I4.hok
  have stat : ∀ {σ' : L2.St} {H' : Hp} {s' : Shared}, Inv (X.blk s3 H3 scope ce fp) [] σ' H' s' → (∀ b ∈ fp, H' b = none) → ∀ b ∈ fp, FpOk (X.blk s3 H3 scope ce fp) [] H' b := fun {σ' H' s'} I' hn b hb =>
    ⟨hn b hb, (I'.ok.exf b hb).1, I'.ok.exfs b hb, .inl hb, fun x c e => (I'.ok.exf b hb).2 x c e, fun p hp => absurd (show p ∈ ([] : List (Addr × Obj)) ++ [] from hp) (by simp)⟩
  have loop : codeAny (model X.prog X.w) X.A (.compLoop (.ListComp elt [⟨tg, iter, ifs, 0⟩] scope pos) 0 (.ref it) (.ref D) ce) (compPost (model X.prog X.w) X.A X.xe use Qf (.ref D) s3.heap.objs.size) s4 := by
    refine compLoop_any (fun n s' => ∃ i H', Inv (X.blk s3 H3 scope ce fp) [] (wipe σ (own.map (·.2))) H' s' ∧ tn i s'.heap H' ∧ (∀ b ∈ fp, H' b = none) ∧ W i n H') ?_ m0 ⟨0, H3, I4, st4, nfp, w0⟩
    rintro n s5 ⟨i, H5, I5, st5, n5, w5⟩
    rcases turn i n H5 w5 with ⟨stop, qq⟩ | ⟨go, Nx, hNx, step⟩
    · have td := T.done (X.blk s3 H3 scope ce fp) rfl rfl rfl hc i [] s5 _ H5 (fun _ _ => False) I5 (stat I5 n5) st5 stop
      refine thnF td fun r s6 ⟨hr, I6⟩ => ?_
      subst hr
      have I7 : Inv X pins σ H5 s6 := I3.call' (ch := fp) I6.os I6.base I6.hok I6.bare fun b hb => ⟨(f3 b hb).1.2.2.2.1, (f3 b hb).1.2.1, (f3 b hb).1.2.2.2.2.1, (f3 b hb).1.2.2.2.2.2⟩
      have nC : H5 s3.heap.objs.size = none := by
        have z : H5 ce.locals = none := I6.free
        rw [cL] at z
        exact z
      obtain ⟨m, hn, _⟩ := I6.loc
      have hn : s6.heap.Ns ce.locals m := hn
      rw [cL] at hn
      exact hRR D s3.heap.objs.size s6 m H5 I7 qq hn (I3.fpOk (Nat.le_refl _) nC)
    · have ti := T.item (X.blk s3 H3 scope ce fp) rfl rfl rfl hc i [] s5 _ H5 (fun _ _ => False) I5 (stat I5 n5) st5 go
      refine thnF ti fun r s6 ⟨u, hr, h6⟩ => ?_
      subst hr
      refine thnF h6 fun _ s7 ⟨x, H7, I7, r7, y7, st7, n7⟩ => ?_
      have I7' := I7.pinned (stat I7 n7) (T.obj _ _ _ st7)
      refine thnF (pg.run _ s7 _ H7 x u _ I7' r7 (step x H7 y7)) fun _ s8 ⟨σ8, H8, I8, hw8, q8⟩ => ?_
      refine thnF (pt.run _ s8 σ8 H8 _ I8 q8) fun b s9 ⟨H9, I9, q9⟩ => ?_
      have fin : ∀ {s' : Shared} {H' : Hp}, Inv (X.blk s3 H3 scope ce fp) ([] ++ pinsAt fp s7.heap) σ8 H' s' → TK H7 H' → Nx H' → ∃ m, m < n ∧ ∃ i H', Inv (X.blk s3 H3 scope ce fp) [] (wipe σ (own.map (·.2))) H' s' ∧ tn i s'.heap H' ∧ (∀ b ∈ fp, H' b = none) ∧ W i m H' := fun {s' H'} I' tk nx => by
        obtain ⟨m', hm, w'⟩ := hNx H' nx
        have pin' : ∀ b ∈ fp, ∀ o, s7.heap.get? b = some o → s'.heap.get? b = some o ∧ H' b = none := fun b hb o e =>
          let z := I'.pin (b, o) (List.mem_append_right _ (List.mem_append_right _ (mem_pinsAt hb e)))
          ⟨z.1, z.2.1⟩
        have hl : (wipe σ (own.map (·.2))).length = σ8.length := by rw [← hw8, wipe_length]
        refine ⟨m', hm, i + 1, H', (I'.unpinned (pins := [])).weak hl (fun j v e => ?_), T.keep _ _ _ _ _ st7 (fun b hb o e => (pin' b hb o e).1) tk I'.hok, fun b hb => ?_, w'⟩
        · rw [← hw8] at e
          exact (wipe_some e).1
        · obtain ⟨o, e, _⟩ := T.obj _ _ _ st7 b hb
          exact (pin' b hb o e).2
      cases b with
      | false =>
        simp only [Bool.false_eq_true, if_false] at q9 ⊢
        exact fin I9 q9.1 q9.2
      | true =>
        simp only [if_true] at q9 ⊢
        refine thnF (pe.run _ s9 σ8 H9 _ I9 q9) fun z s10 ⟨yv, H10, I10, r10, acc, hD10, hz10, tk, nx⟩ => ?_
        exact app_ok (X := X.blk s3 H3 scope ce fp) I10 hD10 hz10 r10 fun s11 I11 => fin I11 tk nx
  exact codeAny_compStart_list loop (T.self X.A _ _ _ _ st4 loop)
theorem pe_lcZ {elt tg iter : Expr} {ifs : List Expr} {scope : Scope} {own : List (Str × Nat)} {pos : Pos} {wi : TI} {g : TG} {tt : TT} {te : TE} (hc : X.calm = true) (hN : X.N.Nodup) (hi : PIH X tg iter wi) (ok : BlkOk X.N X.env.scope scope own)
    (hg : ∀ (s : Shared) (H : Hp) (C : Addr) (cl : List (Str × Addr)) (fp : List Addr), PG (X.blk s H scope (compEnvC scope cl C X.env) fp) tg g) (ht : ∀ (s : Shared) (H : Hp) (C : Addr) (cl : List (Str × Addr)) (fp : List Addr), PTs (X.blk s H scope (compEnvC scope cl C X.env) fp) ifs tt)
    (he : ∀ (s : Shared) (H : Hp) (C : Addr) (cl : List (Str × Addr)) (fp : List Addr), PE (X.blk s H scope (compEnvC scope cl C X.env) fp) elt te) (hs : ∀ x, foldedSetIterable iter X.env x = pure x) :
    PE X (.ListComp elt [⟨tg, iter, ifs, 0⟩] scope pos) (tLcZ wi g tt te (own.map (·.2))) := by
  refine ⟨fun pins s σ H Q I h => ?_⟩
  rw [eval_ListComp]
  refine lc_coreZ hc hN I hi ok hg ht he hs h fun D C s' m H' I' q hn f => ⟨m, hn, fun h'' sb => ?_⟩
  obtain ⟨f0, f1, f2, f3, f4, f5⟩ := f
  exact ⟨.ref D, H', I'.turned (t' := s'.toks) (fun b o hb e => (sb.2 b hb).trans e) f0 f1 f3 f4 f5, rfl, q⟩
end
def tnZ (z TI TO i1 i2 a b : Addr) (i : Nat) (h : Heap) (H : Hp) : Prop :=
  IsPair h TI (.ref i1) (.ref i2) ∧ (∃ x y, IsPair h TO x y) ∧ h.IsListIter i1 a i ∧ h.IsListIter i2 b i ∧ ((i = 0 ∧ IsZip h z TI TO .none) ∨ (0 < i ∧ ∃ T f xs oT, IsZipHeld h z TI TO T f ∧ H T = some (.tup xs) ∧ h.get? T = some oT))
theorem noTup {tg : Expr} (ht : (match tg with | .Name _ _ => true | _ => false) = true) {M : Model} {A : Around} {E : Value → Shared → Prop} {s : Shared} {it u : Value} {Q : Unit → Shared → Prop} (h : Q () s) : wpAny M A (letOwnedTupleGo tg it u) Q E s := by
  cases tg <;> first | (cases ht; done) | exact wpAny_pure h
theorem turn_zipN {P : Program} {w : World} {K : PySem.W.Frag} {tg : Expr} (ht : (match tg with | .Name _ _ => true | _ => false) = true) {a b z TI TO i1 i2 : Addr} (D : ZipApart z TI TO i1 i2 a b) :
    TurnH P w K tg (Itz K a b) [z, TI, TO, i1, i2] z (tnZ z TI TO i1 i2 a b) where
  mem := by simp
  obj := fun i h H st c hc => by
    obtain ⟨hTI, ⟨x, y, hTO⟩, ⟨o1, e1, _, d1⟩, ⟨o2, e2, _, d2⟩, hz⟩ := st
    have e' : c = z ∨ c = TI ∨ c = TO ∨ c = i1 ∨ c = i2 := by simpa using hc
    rcases e' with q | q | q | q | q
    · rw [q]
      rcases hz with ⟨_, hz⟩ | ⟨_, T, f, xs, oT, hz, _⟩
      · exact ⟨_, hz, fun v q => nomatch q⟩
      · exact ⟨_, hz, fun v q => nomatch q⟩
    · rw [q]; exact ⟨_, hTI, fun v q => nomatch q⟩
    · rw [q]; exact ⟨_, hTO, fun v q => nomatch q⟩
    · rw [q]; exact ⟨o1, e1, fun v q => by rw [d1] at q; cases q⟩
    · rw [q]; exact ⟨o2, e2, fun v q => by rw [d2] at q; cases q⟩
  keep := fun i h h' H H' st k tk ho => by
    obtain ⟨hTI, ⟨x, y, hTO⟩, h1, h2, hz⟩ := st
    refine ⟨k TI (by simp) _ hTI, ⟨x, y, k TO (by simp) _ hTO⟩, h1.at fun o q => k i1 (by simp) o q, h2.at fun o q => k i2 (by simp) o q, ?_⟩
    rcases hz with ⟨e, hz⟩ | ⟨i0, T, f, xs, oT, hz, hT, _⟩
    · exact .inl ⟨e, k z (by simp) _ hz⟩
    · have hT' := tk T xs hT
      obtain ⟨_, us, _, oT', hg, _⟩ := ho T _ hT'
      exact .inr ⟨i0, T, f, xs, _, k z (by simp) _ hz, hT', hg⟩
  item := by
    intro X hP hw hK hc i pins s σ H E I hf st hg
    subst hP hw hK
    obtain ⟨hTI, ⟨x0, y0, hTO⟩, h1, h2, hz⟩ := st
    obtain ⟨xs, ys, x, y, hqx, hqy, hx, hy⟩ := hg
    obtain ⟨its, rv, p, _⟩ := I.list hqx
    obtain ⟨its2, rv2, p2, _⟩ := I.list hqy
    obtain ⟨u, hu, ru⟩ := rv.get hx
    obtain ⟨u2, hu2, ru2⟩ := rv2.get hy
    have hzl : z < s.heap.objs.size := by
      rcases hz with ⟨_, hz⟩ | ⟨_, T, f, xs, oT, hz, _⟩ <;> exact Heap.lt_size hz
    -- the end of the turn
    have fin : ∀ (h' : Heap), IsPair h' TI (.ref i1) (.ref i2) → (∃ x y, IsPair h' TO x y) → h'.IsListIter i1 a (i + 1) → h'.IsListIter i2 b (i + 1) → IsPair h' s.heap.objs.size u u2 →
        (∃ T f, IsZipHeld h' z TI TO T f ∧ (T = s.heap.objs.size ∨ ∃ xs oT, H T = some (.tup xs) ∧ h'.get? T = some oT)) →
        (∀ c o, c ≠ z → c ≠ TI → c ≠ TO → c ≠ i1 → c ≠ i2 → s.heap.get? c = some o → h'.get? c = some o) →
        ∃ v, some (Value.ref s.heap.objs.size) = some v ∧ wpAny (model X.prog X.w) X.A (letOwnedTupleGo tg (.ref z) v) (fun _ s2 => ∃ x H', Inv X pins σ H' s2 ∧ RelV x v ∧ (Itz X.K a b).yld i H x H' ∧ tnZ z TI TO i1 i2 a b (i + 1) s2.heap H' ∧ ∀ b ∈ [z, TI, TO, i1, i2], H' b = none) E { s with heap := h' } := by
      intro h' q1 q2 q3 q4 q5 ⟨T, f, q6, q7⟩ hk
      refine ⟨_, rfl, noTup ht ?_⟩
      have hT2 : h'.get? s.heap.objs.size = some { cls := .type "tuple", data := .seq #[u, u2] } := q5
      have new : ObjOk X.prog X.w (upd H s.heap.objs.size (.tup [x, y])) h' s.heap.objs.size (.tup [x, y]) :=
        ⟨by show 2 ≤ sizeLine; decide, [u, u2], .cons ru (.cons ru2 .nil), ⟨_, hT2, rfl, _, rfl⟩⟩
      have I1 : Inv X pins σ (upd H s.heap.objs.size (.tup [x, y])) { s with heap := h' } :=
        I.turnedNew (t' := s.toks) (ch := [z, TI, TO, i1, i2]) (fun c o hb q => hk c o (fun q' => hb (by simp [q'])) (fun q' => hb (by simp [q'])) (fun q' => hb (by simp [q'])) (fun q' => hb (by simp [q'])) (fun q' => hb (by simp [q'])) q) hf (Nat.le_refl _) new
      refine ⟨.ref s.heap.objs.size, _, I1, rfl, ⟨_, x, y, rfl, I.hok.fresh (Nat.le_refl _), rfl, fun l hl => by rw [I.list_inj hl hqx]; exact hx, fun l hl => by rw [I.list_inj hl hqy]; exact hy⟩, ⟨q1, q2, q3, q4, .inr ⟨Nat.succ_pos _, ?_⟩⟩, fun c hcm => ?_⟩
      · rcases q7 with rfl | ⟨xs', oT, e1, e2⟩
        · exact ⟨_, f, _, _, q6, upd_same, q5⟩
        · refine ⟨T, f, xs', oT, q6, ?_, e2⟩
          rw [upd_ne (ne_of_none e1 (I.hok.fresh (Nat.le_refl _)))]
          exact e1
      · have hlt : c < s.heap.objs.size := by
          have e' : c = z ∨ c = TI ∨ c = TO ∨ c = i1 ∨ c = i2 := by simpa using hcm
          rcases e' with q | q | q | q | q
          · rw [q]; exact hzl
          · rw [q]; exact Heap.lt_size hTI
          · rw [q]; exact Heap.lt_size hTO
          · rw [q]; obtain ⟨_, e1, _⟩ := h1; exact Heap.lt_size e1
          · rw [q]; obtain ⟨_, e2, _⟩ := h2; exact Heap.lt_size e2
        rw [upd_ne (Nat.ne_of_lt hlt)]
        exact (hf c hcm).1
    rcases hz with ⟨e0, hz⟩ | ⟨_, T, f, zs, oT, hz, hT, hgT⟩
    · refine wpAny_pyNext_zip_item D hz hTI hTO h1 h2 p.isList p2.isList (x := u) (y := u2) (by simpa using hu) (by simpa using hu2) fun h' z' TO' h1' h2' hT hsz hk => ?_
      refine fin h' ?_ ⟨_, _, TO'⟩ h1' h2' hT ⟨_, false, z', .inl rfl⟩ (fun c o c1 c2 c3 c4 c5 e => hk c o c1 c3 c4 c5 e)
      exact hk _ _ D.TIz D.TITO D.TIi1 D.TIi2 hTI
    · refine wpAny_pyNext_zip_item_held D hz hgT hTI h1 h2 p.isList p2.isList (x := u) (y := u2) (by simpa using hu) (by simpa using hu2) fun h' z' h1' h2' hT' hsz hk => ?_
      have nT : ∀ c, c ∈ [z, TI, TO, i1, i2] → T ≠ c := fun c hc q => by
        have := (hf c hc).1
        rw [← q, hT] at this
        cases this
      refine fin h' ?_ ⟨x0, y0, ?_⟩ h1' h2' hT' ⟨T, true, z', .inr ⟨zs, oT, hT, hk T oT (nT z (by simp)) (nT i1 (by simp)) (nT i2 (by simp)) hgT⟩⟩ (fun c o c1 c2 c3 c4 c5 e => hk c o c1 c4 c5 e)
      · exact hk _ _ D.TIz D.TIi1 D.TIi2 hTI
      · exact hk _ _ D.TOz D.TOi1 D.TOi2 hTO
  done := by
    intro X hP hw hK hc i pins s σ H E I hf st hg
    subst hP hw hK
    obtain ⟨hTI, ⟨x0, y0, hTO⟩, h1, h2, hz⟩ := st
    obtain ⟨xs, ys, hqx, hqy, hend⟩ := hg
    obtain ⟨its, rv, p, _⟩ := I.list hqx
    obtain ⟨its2, rv2, p2, _⟩ := I.list hqy
    have l1 := rv.length
    have l2 := rv2.length
    have he : its.toArray[i]? = none ∨ its2.toArray[i]? = none := by
      rcases hend with q | q
      · exact .inl (by simp; omega)
      · exact .inr (by simp; omega)
    rcases hz with ⟨e0, hz⟩ | ⟨_, T, f, zs, oT, hz, hT, hgT⟩
    · exact wpAny_pyNext_zip_end (I.ok.hd hc) D hz hTI hTO h1 h2 p.isList p2.isList he fun h' hk => ⟨rfl, I.turnedL (t' := s.toks) (ch := [z, TI, TO, i1, i2]) (fun c o hb q =>
        hk c o (fun q' => hb (by simp [q'])) (fun q' => hb (by simp [q'])) (fun q' => hb (by simp [q'])) (fun q' => hb (by simp [q'])) q) hf⟩
    · exact wpAny_pyNext_zip_end_held (I.ok.hd hc) D hz hgT hTI h1 h2 p.isList p2.isList he fun h' hk => ⟨rfl, I.turnedL (t' := s.toks) (ch := [z, TI, TO, i1, i2]) (fun c o hb q =>
        hk c o (fun q' => hb (by simp [q'])) (fun q' => hb (by simp [q'])) (fun q' => hb (by simp [q'])) q) hf⟩
  self := fun A s H Q E st h => by
    rcases st.2.2.2.2 with ⟨e0, hz⟩ | ⟨i0, _⟩
    · exact wpAny_pyIter_zip hz h
    · exact absurd i0 (Nat.lt_irrefl _)
theorem pi_zipN {X : Cx} {e e2 tg : Expr} {ta : TA} {p pos : Pos} (ht : (match tg with | .Name _ _ => true | _ => false) = true) (hg : Gl X "zip") (hm : X.mg "zip" = none) (ha : PA X [e, e2] ta)
    (hs : starEach [e, e2] X.env = (false, eval e X.env) :: starEach [e2] X.env) (hpl : (backTo pos (starEach [e2] X.env)).any (·.1) = false) :
    PIH X tg (.Call (.Name "zip" p) [e, e2] [] pos) (iZip X.K ta) := by
  refine ⟨fun pins s σ H R I h => ?_⟩
  refine Call_ (ld_blt I hg hm PyProof.Rows.boot_zip (PyProof.Rows.callWith_type1 (thn (ha.run pos pins s σ H _ I h) fun us s1 ⟨vs, H1, I1, r1, q1⟩ => ?_) hs hpl))
  obtain ⟨a, b, xs, ys, ex, hqx, hqy, q⟩ := q1
  subst ex
  cases r1 with
  | cons r rr =>
    cases rr with
    | cons r' rr =>
      cases rr
      cases r
      cases r'
      obtain ⟨its, rv, p1, _⟩ := I1.list hqx
      obtain ⟨its2, rv2, p2, _⟩ := I1.list hqy
      have la : a < s1.heap.objs.size := p1.lt
      have lb : b < s1.heap.objs.size := p2.lt
      refine call_zip_2 p1.isList p2.isList fun h' hz hTI hTO h1 h2 hsz hk => wpAny_pyIter_zip hz ?_
      have I2 : Inv X pins σ H1 { s1 with heap := h' } := I1.kept (t' := s1.toks) hk
      refine ⟨s1.heap.objs.size + 4, [s1.heap.objs.size + 4, s1.heap.objs.size + 2, s1.heap.objs.size + 3, s1.heap.objs.size, s1.heap.objs.size + 1], _, _, H1, rfl, I2, turn_zipN ht (PySem.W.ktu_apart s1.heap.objs.size a b la lb), ⟨hTI, ⟨_, _, hTO⟩, h1, h2, .inl ⟨rfl, hz⟩⟩, fun c hcm => ?_, q⟩
      have e' : c = s1.heap.objs.size + 4 ∨ c = s1.heap.objs.size + 2 ∨ c = s1.heap.objs.size + 3 ∨ c = s1.heap.objs.size ∨ c = s1.heap.objs.size + 1 := by simpa using hcm
      have hle : s1.heap.objs.size ≤ c := by
        rcases e' with z | z | z | z | z
        · rw [z]; exact Nat.le_add_right _ _
        · rw [z]; exact Nat.le_add_right _ _
        · rw [z]; exact Nat.le_add_right _ _
        · rw [z]; exact Nat.le_refl _
        · rw [z]; exact Nat.le_add_right _ _
      exact I1.fpOk hle (I1.hok.fresh hle)
variable [Tbs]
theorem Tr.tk {b : Nat} {F F' : FHp} {ι ι' : List Addr} {S S' : Store} {H H' : Hp} (t : Tr b F ι S H F' ι' S' H') (s : Sim b F ι S H) (s' : Sim b F' ι' S' H') : TK H H' := fun a xs e => by
  cases hF : F a with
  | some p =>
    obtain ⟨c, o⟩ := p
    have h1 := s.fh a c o hF
    rw [e] at h1
    cases h1
    exact s'.fh a c _ (t.keep a c _ hF (s.fc a c _ hF))
  | none =>
    have pv : Pv F ι S H a := ⟨nt_of e fun _ z => (nomatch z), hF, fun n l z => by
      obtain ⟨ys, hy⟩ := l
      obtain ⟨a', vs, e1, e2, _⟩ := s.cell n ys hy
      rw [z] at e1
      cases e1
      rw [e] at e2
      cases e2⟩
    rw [(t.priv a pv).1]
    exact e
section
variable {X : Cx} {ex : ExT} {W : WX} {C : Cfg} {b : Nat}
theorem lc_loopZ {t : Tg} {tst : Env → Store → R Bool} {elt : Env → Store → R MV} {own : List Nat} {J : It} {xs : List MV} {env : Env} {D : Addr} {σ : L2.St} {Qd : Hp → Prop} {F0 : FHp} {ι0 : List Addr} {S0 : Store} {H0 : Hp} {ys : List MV} {Sn : Store}
    (ht : ∀ j ∈ t.ix, j ∈ own) (hz : ys.length ≤ sizeLine) (hJ : Wlk b J xs F0 ι0) (he : EnvOk F0 ι0 env σ) (hs : Sim b F0 ι0 S0 H0) (hD : H0 D = none)
    (hr : lcLoop t tst elt xs (wipeE own env) S0 = some (.ok ys Sn))
    (hq : ∀ F ι H vs, Tr b F0 ι0 S0 H0 F ι Sn H → Sim b F ι Sn H → Own F ι Sn H D vs → RVL F ι ys vs → Qd H) :
    ∃ Wn : Nat → Nat → Hp → Prop, (∃ m, Wn 0 m (upd H0 D (.lst []))) ∧ ∀ i m H, Wn i m H →
      (J.stop i H ∧ Qd H) ∨ (J.go i H ∧ ∃ Nx : Hp → Prop, (∀ H', Nx H' → ∃ m', m' < m ∧ Wn (i + 1) m' H') ∧ ∀ x H', J.yld i H x H' → tTg t x (wipe σ own) H' fun σ2 H2 => wipe σ2 own = wipe σ own ∧ tT ex W0 b tst σ2 H2 fun k H3 =>
        if k = true then tV ex W0 b elt σ2 H3 fun y H4 => ∃ acc, H4 D = some (.lst acc) ∧ acc.length < sizeLine ∧ TK H' (upd H4 D (.lst (acc ++ [y]))) ∧ Nx (upd H4 D (.lst (acc ++ [y]))) else TK H' H3 ∧ Nx H3) := by
  refine ⟨fun i m H => m = xs.length - i ∧ i ≤ xs.length ∧ ∃ F ι S acc vs zs, Tr b F0 ι0 S0 H0 F ι S H ∧ Sim b F ι S H ∧ Own F ι S H D vs ∧ RVL F ι acc vs ∧ lcLoop t tst elt (xs.drop i) (wipeE own env) S = some (.ok zs Sn) ∧ acc ++ zs = ys, ⟨xs.length, rfl, Nat.zero_le _, F0, ι0, S0, [], [], ys, ?_⟩, ?_⟩
  · have s1 := hs.new (o := .lst []) hD
    exact ⟨Tr.new hs hD, s1, ⟨upd_same, hs.notF hD, fun n l => hs.notCell hD l⟩, .nil, hr, rfl⟩
  · rintro i m H ⟨rfl, hi, F, ι, S, acc, vs, zs, tr, sm, ow, ra, hl, ea⟩
    have keepF : ∀ a p, F0 a = some p → F a = some p := fun a p e => tr.keep a p.1 p.2 e (hs.fc a p.1 p.2 e)
    obtain ⟨w1, w2⟩ := hJ F ι S H keepF tr.ext sm
    by_cases hlt : i < xs.length
    · obtain ⟨v, hv⟩ : ∃ v, xs[i]? = some v := ⟨xs[i], List.getElem?_eq_getElem hlt⟩
      have hdrop : xs.drop i = v :: xs.drop (i + 1) := by
        rw [List.drop_eq_getElem_cons hlt]
        have : xs[i] = v := by
          rw [List.getElem?_eq_getElem hlt] at hv
          exact Option.some.inj hv
        rw [this]
      rw [hdrop] at hl
      obtain ⟨g1, g2⟩ := w2 i v hv
      refine .inr ⟨g1, fun H' => i + 1 ≤ xs.length ∧ ∃ F ι S acc vs zs, Tr b F0 ι0 S0 H0 F ι S H' ∧ Sim b F ι S H' ∧ Own F ι S H' D vs ∧ RVL F ι acc vs ∧ lcLoop t tst elt (xs.drop (i + 1)) (wipeE own env) S = some (.ok zs Sn) ∧ acc ++ zs = ys, fun H' h => ⟨xs.length - (i + 1), by omega, rfl, h⟩, fun x H' hy => ?_⟩
      obtain ⟨F1, t1, s1, rx⟩ := g2 x H' hy
      have hl' : (match bind t v (wipeE own env) with
        | none => none
        | some env' => (tst env' S).bind fun b S1 =>
          match b with
          | true => (elt env' S1).bind fun y S2 => (lcLoop t tst elt (xs.drop (i + 1)) (wipeE own env) S2).bind fun ys S3 => ok (y :: ys) S3
          | false => lcLoop t tst elt (xs.drop (i + 1)) (wipeE own env) S1) = some (.ok zs Sn) := hl
      cases hb : bind t v (wipeE own env) with
      | none => rw [hb] at hl'; cases hl'
      | some env' =>
        rw [hb] at hl'
        have tr1 := tr.trans t1
        have he1 : EnvOk F1 ι (wipeE own env) (wipe σ own) := (he.tr tr1 hs).wipe own
        refine ⟨b, wipeE own env, F1, ι, S, v, env', he1, s1, rx, hb, fun σ2 he2 k2 => ⟨?_, ?_⟩⟩
        · have e1 : wipe (wipe σ own) own = wipe σ own := wipe_eq (wipe_length σ own) fun j hj => by rw [wipe_at, if_neg hj]
          rw [← e1]
          refine wipe_eq ?_ fun j hj => k2 j fun z => hj (ht j z)
          rw [← he2.len, ← he1.len]
          have : ∀ {t : Tg} {v : MV} {e e' : Env}, bind t v e = some e' → e'.length = e.length := by
            intro t
            induction t with
            | nm i => intro v e e' h; cases (Option.some.inj h); rw [List.length_set]
            | nil =>
              intro v e e' h
              have h' : (match items v with
                | some [] => some e
                | _ => none) = some e' := h
              split at h'
              · cases h'; rfl
              · cases h'
            | cons t r iht ihr =>
              intro v e e' h
              cases v with
              | tup xs =>
                cases xs with
                | nil => cases h
                | cons x xs =>
                  have h' : (match bind t x e with
                    | some env' => bind r (.tup xs) env'
                    | none => none) = some e' := h
                  cases e1 : bind t x e with
                  | none => rw [e1] at h'; cases h'
                  | some e2 => rw [e1] at h'; rw [ihr h', iht e1]
              | lst c xs =>
                cases xs with
                | nil => cases h
                | cons x xs =>
                  have h' : (match bind t x e with
                    | some env' => bind r (.lst c xs) env'
                    | none => none) = some e' := h
                  cases e1 : bind t x e with
                  | none => rw [e1] at h'; cases h'
                  | some e2 => rw [e1] at h'; rw [ihr h', iht e1]
              | _ => cases h
          exact this hb
        · rcases bind_some hl' with ⟨k, S1, e1, q1⟩ | ⟨c', v', S1, e1, z⟩
          rotate_left
          · cases z
          refine ⟨env', S, F1, ι, .ok k S1, he2, s1, e1, fun F2 ι2 H2 k' t2 s2 ek => ?_⟩
          have ek : k = k' := ek
          subst ek
          have tr2 := tr1.trans t2
          have ow2 := (ow.tr t1).tr t2
          have ra2 := t2.rvl s1 (t1.rvl sm ra)
          cases k with
          | false =>
            dsimp only
            rw [if_neg Bool.false_ne_true]
            exact ⟨t2.tk s1 s2, hlt, F2, ι2, S1, acc, vs, zs, tr2, s2, ow2, ra2, q1, ea⟩
          | true =>
            dsimp only
            rw [if_pos rfl]
            rcases bind_some q1 with ⟨y, S2, e2, q2⟩ | ⟨c', v', S2, e2, z⟩
            rotate_left
            · cases z
            refine ⟨env', S1, F2, ι2, .ok y S2, he2.tr t2 s1, s2, e2, fun F3 ι3 H3 y' t3 s3 ry => ?_⟩
            have ry : RV F3 ι3 y y' := ry
            rcases bind_some q2 with ⟨zs', S3, e3, q3⟩ | ⟨c', v', S3, e3, z⟩
            rotate_left
            · cases z
            cases (ok_some q3)
            have tr3 := tr2.trans t3
            have ow3 := ow2.tr t3
            have ra3 := t3.rvl s2 ra2
            refine ⟨vs, ow3.1, ?_, ((t2.trans t3).tk s1 s3).upd ow3.1, hlt, F3, ι3, S2, acc ++ [y], vs ++ [y'], zs', ?_⟩
            · rw [← ra.length]
              have : acc.length + (y :: zs').length = ys.length := by rw [← ea, List.length_append]
              simp at this
              omega
            · obtain ⟨o4, s4, t4⟩ := ow3.upd (vs ++ [y']) (not_nt hD) s3 tr3
              exact ⟨t4, s4, o4, ra3.append (.one ry), e3, by rw [List.append_assoc]; exact ea⟩
    · have hi' : i = xs.length := by omega
      subst hi'
      rw [List.drop_length] at hl
      cases (ok_some hl)
      refine .inl ⟨w1, hq F ι H vs tr sm ow ?_⟩
      rw [← ea, List.append_nil]
      exact ra
/-- [elt for t in it if ..] -/
theorem lc_readZ {t : Tg} {ifs : Es} {m : ME} {it : IT} {own : List Nat} {σ : L2.St} {H : Hp} {Q : VK} (ht : ∀ j ∈ t.ix, j ∈ own) (h : tO ex W b (evO C (.lc m t it ifs own)) σ H Q) :
    tLcZ (tI ex W b (evW C it)) (tTg t) (tT ex W0 b (evTs C ifs)) (tV ex W0 b (ev C m)) own σ H Q := by
  obtain ⟨env, S, F, ι, out, he, hs, q, k⟩ := h
  have q' : ((evW C it env S).bind fun xs S1 =>
      (noExc (lcLoop t (evTs C ifs) (fun e s => ev C m e s) xs (wipeE own env) S1)).bind fun ys S2 => if ys.length ≤ sizeLine then ok (OV.nl ys) S2 else none) = some out := q
  rcases bind_some q' with ⟨xs, S1, e1, q1⟩ | ⟨c', v, S1, e1, rfl⟩
  rotate_left
  · exact ⟨env, S, F, ι, _, he, hs, e1, k⟩
  refine ⟨env, S, F, ι, .ok xs S1, he, hs, e1, fun F1 ι1 H1 J t1 s1 w => ?_⟩
  have w : Wlk b J xs F1 ι1 := w
  intro D hD
  rcases bind_some q1 with ⟨ys, S2, e2, q2⟩ | ⟨c', v, S2, e2, rfl⟩
  rotate_left
  · obtain ⟨a, S, z, _⟩ := noExc_ok e2
    cases z
  obtain ⟨a, S', z, e3⟩ := noExc_ok e2
  cases z
  by_cases hz : ys.length ≤ sizeLine
  rotate_left
  · rw [if_neg hz] at q2
    cases q2
  rw [if_pos hz] at q2
  cases (ok_some q2)
  exact lc_loopZ ht hz w (he.tr t1 hs) s1 hD e3 fun F2 ι2 H2 vs t2 s2 o2 r2 => (k.tr t1) F2 ι2 H2 (.ref D) t2 s2 ⟨D, vs, rfl, not_nt hD, o2.1, o2.2.1, o2.2.2, r2⟩

variable {rs : Es} {e1 e2 tg : Expr} {p pos : Pos}
theorem i_zipN (ht : (match tg with | .Name _ _ => true | _ => false) = true) (hb : 0 < b) (hg : Gl X "zip") (hm : X.mg "zip" = none) (ha : PA X [e1, e2] (tL ex W b (evs C rs))) (hp : isStar e1 = false) (hp2 : isStar e2 = false) (hn : esNum rs = some 2) : PIH X tg (.Call (.Name "zip" p) [e1, e2] [] pos) (tI ex W b (evW C (.by_ .zipl rs))) := by
  refine PIH.imp (pi_zipN ht hg hm ha (starEach_ns hp) (by rw [backTo_any]; exact starEach_plain (pl1 hp2))) fun σ H R h => iw_core hn h fun F ι S H2 vs us xs hl s ru e k => ?_
  simp only [walkF] at e
  split at e
  · cases e
    cases ru with | cons r1 ru =>
    cases ru with | cons r2 ru =>
    cases ru
    cases r1 with | lst f1 q1 =>
    cases r2 with | lst f2 q2 =>
    exact ⟨_, _, _, _, rfl, SqL.ofRV s f1, SqL.ofRV s f2, k _ (wlk_zipL hb f1 f2 q1 q2)⟩
  · cases e
end
end Mv

end
section
set_option Elab.async false
set_option linter.all false
set_option autoImplicit false
set_option maxRecDepth 100000
namespace Mv
open PySem PySem.Spec L2

def opB : BOp → Operator → Bool
  | .add, .Add => true
  | .sub, .Sub => true
  | .mul, .Mult => true
  | .fdiv, .FloorDiv => true
  | .mod, .Mod => true
  | .pow, .Pow => true
  | _, _ => false
def copB : COp → CmpOp → Bool
  | .eq, .Eq => true
  | .ne, .NotEq => true
  | .lt, .Lt => true
  | .le, .LtE => true
  | .gt, .Gt => true
  | .ge, .GtE => true
  | .is_, .Is => true
  | .isnot, .IsNot => true
  | .in_, .In => true
  | .notin, .NotIn => true
  | _, _ => false
def isAnd : BoolOp → Bool
  | .And => true
  | _ => false
def isUSub : UnaryOp → Bool
  | .USub => true
  | _ => false
def isNot : UnaryOp → Bool
  | .Not => true
  | _ => false
def glB (sc : Scope) (x : Str) : Bool := match sc.names.lookup x with
  | some .globalImplicit => true
  | _ => false
def visB (sc : Scope) (x : Str) : Bool := match sc.names.lookup x with
  | some .local => true
  | some .cell => true
  | some .free => true
  | _ => false
def locB (sc : Scope) (x : Str) : Bool := match sc.names.lookup x with
  | some .local => true
  | some .cell => true
  | _ => false
def lclB (sc : Scope) (x : Str) : Bool := match sc.names.lookup x with
  | some .local => true
  | _ => false
def dunB (x : Str) : Bool := !(x == ("__debug__" : Str)) && !(x == ("__classdict__" : Str))
theorem opB_ok {o : BOp} {p : Operator} (h : opB o p = true) : p = opOf o := by
  cases o <;> cases p <;> first | rfl | cases h
theorem copB_ok {o : COp} {p : CmpOp} (h : copB o p = true) : p = copOf o := by
  cases o <;> cases p <;> first | rfl | cases h
theorem glB_ok {sc : Scope} {x : Str} (h : glB sc x = true) : sc.names.lookup x = some .globalImplicit := by
  unfold glB at h
  split at h
  · assumption
  · cases h
theorem visB_ok {sc : Scope} {x : Str} (h : visB sc x = true) : Vis sc x := by
  unfold visB at h
  split at h
  · exact .inl (by assumption)
  · exact .inr (.inl (by assumption))
  · exact .inr (.inr (by assumption))
  · cases h
theorem locB_ok {sc : Scope} {x : Str} (h : locB sc x = true) : Loc sc x := by
  unfold locB at h
  split at h
  · exact .inl (by assumption)
  · exact .inr (by assumption)
  · cases h
theorem lclB_ok {sc : Scope} {x : Str} (h : lclB sc x = true) : sc.names.lookup x = some .local := by
  unfold lclB at h
  split at h
  · assumption
  · cases h
theorem dunB_ok {x : Str} (h : dunB x = true) : (x == ("__debug__" : Str)) = false ∧ (x == ("__classdict__" : Str)) = false := by
  unfold dunB at h
  rw [Bool.and_eq_true, Bool.not_eq_true', Bool.not_eq_true'] at h
  exact h

def cnB : MV → Const → Bool
  | .non, .none => true
  | .bl a, .bool b => a == b
  | .int i, .int j => decide (i = j)
  | .str x, .str y => decide (x = y)
  | _, _ => false
def asName : Expr → Option Str
  | .Name x _ => some x
  | _ => none
theorem asName_ok {e : Expr} {x : Str} (h : asName e = some x) : ∃ p, e = .Name x p := by
  cases e <;> first | (cases h; done) | (cases h; exact ⟨_, rfl⟩)
def asConst : Expr → Option Const
  | .Constant c _ _ => some c
  | _ => none
theorem asConst_ok {e : Expr} {c : Const} (h : asConst e = some c) : ∃ j p, e = .Constant c j p := by
  cases e <;> first | (cases h; done) | (cases h; exact ⟨_, _, rfl⟩)
def asBin : Expr → Option (Expr × Operator × Expr)
  | .BinOp a o b _ => some (a, o, b)
  | _ => none
theorem asBin_ok {e a b : Expr} {o : Operator} (h : asBin e = some (a, o, b)) : ∃ p, e = .BinOp a o b p := by
  cases e <;> first | (cases h; done) | (cases h; exact ⟨_, rfl⟩)
def asUn : Expr → Option (UnaryOp × Expr)
  | .UnaryOp o a _ => some (o, a)
  | _ => none
theorem asUn_ok {e a : Expr} {o : UnaryOp} (h : asUn e = some (o, a)) : ∃ p, e = .UnaryOp o a p := by
  cases e <;> first | (cases h; done) | (cases h; exact ⟨_, rfl⟩)
def asCmp : Expr → Option (Expr × CmpOp × Expr)
  | .Compare a [o] [b] _ => some (a, o, b)
  | _ => none
theorem asCmp_ok {e a b : Expr} {o : CmpOp} (h : asCmp e = some (a, o, b)) : ∃ p, e = .Compare a [o] [b] p := by
  unfold asCmp at h
  split at h
  · cases h; exact ⟨_, rfl⟩
  · cases h
def asCmp2 : Expr → Option (Expr × CmpOp × Expr × CmpOp × Expr)
  | .Compare a [o, o2] [b, c] _ => some (a, o, b, o2, c)
  | _ => none
theorem asCmp2_ok {e a b c : Expr} {o o2 : CmpOp} (h : asCmp2 e = some (a, o, b, o2, c)) : ∃ p, e = .Compare a [o, o2] [b, c] p := by
  unfold asCmp2 at h
  split at h
  · cases h; exact ⟨_, rfl⟩
  · cases h
def asBool : Expr → Option (Bool × Expr × List Expr)
  | .BoolOp o (a :: es) _ => some (isAnd o, a, es)
  | _ => none
theorem asBool_ok {e a : Expr} {es : List Expr} {o : Bool} (h : asBool e = some (o, a, es)) : ∃ p, e = .BoolOp (if o then .And else .Or) (a :: es) p := by
  unfold asBool at h
  split at h
  · rename_i q a es p
    cases h
    cases q <;> exact ⟨_, rfl⟩
  · cases h
def asIte : Expr → Option (Expr × Expr × Expr)
  | .IfExp c a b _ => some (c, a, b)
  | _ => none
theorem asIte_ok {e c a b : Expr} (h : asIte e = some (c, a, b)) : ∃ p, e = .IfExp c a b p := by
  cases e <;> first | (cases h; done) | (cases h; exact ⟨_, rfl⟩)
def asCall : Expr → Option (Str × List Expr × List Keyword)
  | .Call (.Name f _) es ks _ => some (f, es, ks)
  | _ => none
theorem asCall_ok {e : Expr} {f : Str} {es : List Expr} {ks : List Keyword} (h : asCall e = some (f, es, ks)) : ∃ p0 p, e = .Call (.Name f p0) es ks p := by
  unfold asCall at h
  split at h
  · cases h; exact ⟨_, _, rfl⟩
  · cases h
/-- o.name(es), the dot where the closing bracket's line begins -/
def asMeth : Expr → Option (Expr × Str × List Expr)
  | .Call (.Attribute o nm apos) es [] pos => if (apos.endLine == pos.line) = true then some (o, nm, es) else none
  | _ => none
theorem asMeth_ok {e o : Expr} {nm : Str} {es : List Expr} (h : asMeth e = some (o, nm, es)) : ∃ apos pos, e = .Call (.Attribute o nm apos) es [] pos ∧ (apos.endLine == pos.line) = true := by
  unfold asMeth at h
  split at h
  · split at h
    · cases h; exact ⟨_, _, rfl, by assumption⟩
    · cases h
  · cases h
def asList : Expr → Option (List Expr)
  | .List es _ => some es
  | _ => none
theorem asList_ok {e : Expr} {es : List Expr} (h : asList e = some es) : ∃ p, e = .List es p := by
  cases e <;> first | (cases h; done) | (cases h; exact ⟨_, rfl⟩)
def asTup : Expr → Option (List Expr)
  | .Tuple es _ _ => some es
  | _ => none
theorem asTup_ok {e : Expr} {es : List Expr} (h : asTup e = some es) : ∃ k p, e = .Tuple es k p := by
  cases e <;> first | (cases h; done) | (cases h; exact ⟨_, _, rfl⟩)
def isDict0 : Expr → Bool
  | .Dict [] [] _ => true
  | _ => false
theorem isDict0_ok {e : Expr} (h : isDict0 e = true) : ∃ p, e = .Dict [] [] p := by
  unfold isDict0 at h
  split at h
  · exact ⟨_, rfl⟩
  · cases h
def asLc : Expr → Option (Expr × Expr × Expr × List Expr × Scope)
  | .ListComp elt [⟨tg, iter, ifs, 0⟩] scope _ => some (elt, tg, iter, ifs, scope)
  | _ => none
theorem asLc_ok {e elt tg iter : Expr} {ifs : List Expr} {scope : Scope} (h : asLc e = some (elt, tg, iter, ifs, scope)) : ∃ p, e = .ListComp elt [⟨tg, iter, ifs, 0⟩] scope p := by
  unfold asLc at h
  split at h
  · cases h; exact ⟨_, rfl⟩
  · cases h
def asSub : Expr → Option (Expr × Expr)
  | .Subscript a i _ => some (a, i)
  | _ => none
theorem asSub_ok {e a i : Expr} (h : asSub e = some (a, i)) : ∃ p, e = .Subscript a i p := by
  cases e <;> first | (cases h; done) | (cases h; exact ⟨_, rfl⟩)
def asSlice : Expr → Option (Option Expr × Option Expr)
  | .Slice lo hi none _ => some (lo, hi)
  | _ => none
theorem asSlice_ok {e : Expr} {lo hi : Option Expr} (h : asSlice e = some (lo, hi)) : ∃ p, e = .Slice lo hi none p := by
  unfold asSlice at h
  split at h
  · cases h; exact ⟨_, rfl⟩
  · cases h
def isBack : Expr → Bool
  | .Slice none none (some (.UnaryOp .USub (.Constant (.int 1) _ _) _)) _ => true
  | _ => false
theorem isBack_ok {e : Expr} (h : isBack e = true) : ∃ j p1 p2 p3, e = .Slice none none (some (.UnaryOp .USub (.Constant (.int 1) j p1) p2)) p3 := by
  unfold isBack at h
  split at h
  · exact ⟨_, _, _, _, rfl⟩
  · cases h
def noArgs : Arguments := ⟨[], [], none, [], [], none, []⟩
def isNoArgs (a : Arguments) : Bool := a.posonlyargs.isEmpty && a.args.isEmpty && a.vararg.isNone && a.kwonlyargs.isEmpty && a.kw_defaults.isEmpty && a.kwarg.isNone && a.defaults.isEmpty
theorem isNoArgs_ok {a : Arguments} (h : isNoArgs a = true) : a = noArgs := by
  obtain ⟨a1, a2, a3, a4, a5, a6, a7⟩ := a
  unfold isNoArgs at h
  simp only [Bool.and_eq_true, List.isEmpty_iff, Option.isNone_iff_eq_none] at h
  obtain ⟨⟨⟨⟨⟨⟨rfl, rfl⟩, rfl⟩, rfl⟩, rfl⟩, rfl⟩, rfl⟩ := h
  rfl
/-- a lambda without parameters, the one argument of a call -/
def asLam : List Expr → Option (Expr × Scope)
  | [.Lambda params body scope _] => if isNoArgs params = true then some (body, scope) else none
  | _ => none
theorem asLam_ok {es : List Expr} {body : Expr} {scope : Scope} (h : asLam es = some (body, scope)) : ∃ p, es = [.Lambda noArgs body scope p] := by
  unfold asLam at h
  split at h
  · split at h
    · rename_i hp
      rw [isNoArgs_ok hp]
      cases h
      exact ⟨_, rfl⟩
    · cases h
  · cases h
/-- the classes of an isinstance -/
def tyB (sc : Scope) (c : Ty) (e : Expr) : Bool := match asName e with
  | some x => decide (x = (tyName c : Str)) && glB sc x
  | none => false
def tysB (sc : Scope) : List Ty → List Expr → Bool
  | [], [] => true
  | c :: cs, e :: es => tyB sc c e && tysB sc cs es
  | _, _ => false
def biName : Bi → Str
  | .len => "len" | .abs => "abs" | .int => "int" | .max => "max" | .min => "min" | .sum => "sum" | .all => "all" | .any => "any" | .list => "list" | .tuple => "tuple"
  | .dict _ => "dict" | .repr => "repr" | .sorted => "sorted" | .listItems => "list" | .listValues => "list"
/-- which are served -/
def biSrv : Bi → Bool
  | .dict true => false
  | .sorted => false
  | .listItems => false
  | .listValues => false
  | _ => true
/-- targets -/
def cellB (sc : Scope) (x : Str) : Bool := sc.names.lookup x == some .cell
def tgB (N : List Str) (ib : Str → Bool) (sc : Scope) : Tg → Expr → Bool
  | .nm i, e => match asName e with
    | some x => decide (N[i]? = some x) && locB sc x && (ib x || lclB sc x)
    | none => false
  | .nil, e => match asTup e with
    | some es => es.isEmpty
    | none => false
  | .cons t r, e => match asTup e with
    | some es => match es with
      | e1 :: es' => !isStar e1 && tgB N ib sc t e1 && tgsB N ib sc r es'
      | [] => false
    | none => false
where tgsB (N : List Str) (ib : Str → Bool) (sc : Scope) : Tg → List Expr → Bool
  | .nil, es => es.isEmpty
  | .cons t r, es => match es with
    | e1 :: es' => !isStar e1 && tgB N ib sc t e1 && tgsB N ib sc r es'
    | [] => false
  | .nm _, _ => false
def ixB (own : List Nat) : Tg → Bool
  | .nm i => own.contains i
  | .nil => true
  | .cons t r => ixB own t && ixB own r
/-- the block's own names, by their slots -/
def ownOf (N : List Str) (own : List Nat) : List (Str × Nat) := own.map fun i => ((N[i]?).getD "", i)

/-- a test by the truth of its value, or put together of such -/
def tstM : ME → Bool
  | .ite _ _ _ => false
  | .chain _ _ _ _ _ => false
  | .cell _ => false
  | .melt _ => false
  | .nt a => tstM a
  | .andE a es => tstM a && tstMs es
  | .orE a es => tstM a && tstMs es
  | _ => true
where tstMs : Es → Bool
  | .nil => true
  | .cons _ a r => tstM a && tstMs r

def kq (f : Str) (ks : List Str) (n : Nat) (pm : List Nat) : Str × List Str × Nat × List Nat := (f, ks, n, pm)
def nq (f : Str) (N : List Str) : Str × List Str := (f, N)
def xq (f fl : Str) : Str × Str := (f, fl)
def mq (f : Str) (b : Bool) : Str × Bool := (f, b)
structure Dt where
  N : List Str
  p : Pg
  /-- the calls with what they bind -/
  kb : List (Str × List Str × Nat × List Nat)
  /-- what it may raise -/
  exs : List Str
  /-- whether the def that spoils stands in the text -/
  sp : Bool
/-- what the generator prints of a law -/
structure Gen where
  pg : Pg
  ns : List (Str × List Str)
  ml : List (Str × Bool)
  kb : List (Str × List Str × Nat × List Nat)
  exs : List (Str × Str)
  sp : Bool
end Mv

end
section
set_option Elab.async false
set_option linter.all false
set_option autoImplicit false
set_option maxRecDepth 100000
namespace Mv
open PySem PySem.Spec L2

def isSet : Expr → Bool
  | .Set _ _ _ => true
  | _ => false
mutual
/-- ml: lambdas may stand there; ib: within a comprehension's block or a lambda -/
def chkE (D : Dt) : ME → Bool → Bool → Scope → Expr → Bool
  | .nm i, _, _, sc, e => match asName e with
    | some x => decide (D.N[i]? = some x) && visB sc x && dunB x
    | none => false
  | .cn v, _, _, _, e => match asConst e with
    | some c => cnB v c
    | none => false
  | .bin o a b, ml, ib, sc, e => match asBin e with
    | some (x, p, y) => opB o p && chkE D a ml ib sc x && chkE D b ml ib sc y
    | none => false
  | .neg a, ml, ib, sc, e => match asUn e with
    | some (p, x) => isUSub p && chkE D a ml ib sc x
    | none => false
  | .nt a, ml, ib, sc, e => match asUn e with
    | some (p, x) => isNot p && chkE D a ml ib sc x
    | none => false
  | .cmp o a b, ml, ib, sc, e => match asCmp e with
    | some (x, p, y) => copB o p && !behindInMarks (copOf o) y && chkE D a ml ib sc x && chkE D b ml ib sc y
    | none => false
  | .chain o1 o2 a b c, ml, ib, sc, e => match asCmp2 e with
    | some (x, p, y, q, z) => copB o1 p && copB o2 q && ordOp o1 && ordOp o2 && !lastMarks [copOf o1, copOf o2] [y, z] && chkE D a ml ib sc x && chkE D b ml ib sc y && chkE D c ml ib sc z
    | none => false
  | .andE a es, ml, ib, sc, e => match asBool e with
    | some (o, x, xs) => o && chkE D a ml ib sc x && chkEs D es ml ib sc xs
    | none => false
  | .orE a es, ml, ib, sc, e => match asBool e with
    | some (o, x, xs) => !o && chkE D a ml ib sc x && chkEs D es ml ib sc xs
    | none => false
  | .ite c a b, ml, ib, sc, e => match asIte e with
    | some (x, y, z) => tstM c && chkE D c ml ib sc x && chkE D a ml ib sc y && chkE D b ml ib sc z
    | none => false
  | .call f es pm, ml, ib, sc, e => match asCall e with
    | some (g, xs, ks) => decide (g = f) && glB sc f && dunB f && (D.p.get f).isSome && decide ((f, kwNames ks, xs.length, pm) ∈ D.kb) && chkA D es ml ib sc xs ks
    | none => false
  | .bi b es, ml, ib, sc, e => match b with
    | .listItems => match asCall e with
      | some (g, xs, ks) => decide (g = ("list" : Str)) && ks.isEmpty && glB sc "list" && (match xs with
        | [y] => match asMeth y with
          | some (o, nm, zs) => decide (nm = ("items" : Str)) && zs.isEmpty && abOk o && (match es with
            | .cons false m .nil => chkE D m ml ib sc o
            | _ => false)
          | none => false
        | _ => false)
      | none => false
    | _ => match asCall e with
      | some (g, xs, ks) => biSrv b && decide (g = biName b) && ks.isEmpty && !xs.isEmpty && glB sc g && chkEs D es ml ib sc xs
      | none => false
  | .isi a tp cs, ml, ib, sc, e => match asCall e with
    | some (g, xs, ks) => decide (g = ("isinstance" : Str)) && ks.isEmpty && glB sc "isinstance" && (match xs with
      | [x, y] => !isStar x && chkE D a ml ib sc x && (match tp with
        | true => match asTup y with
          | some ys => tysB sc cs ys && !cs.isEmpty && decide (cs.length ≤ 30)
          | none => false
        | false => match cs with
          | [c] => tyB sc c y
          | _ => false)
      | _ => false)
    | none => false
  | .mth mt o es, ml, ib, sc, e => match asMeth e with
    | some (x, nm, xs) => (match mt with
      | .index => decide (nm = ("index" : Str))
      | .pop => decide (nm = ("pop" : Str))
      | _ => false) && abOk x && !xs.isEmpty && decide (xs.length < 30) && chkE D o ml ib sc x && chkEs D es ml ib sc xs
    | none => false
  | .lst es, ml, ib, sc, e => match asList e with
    | some xs => chkEs D es ml ib sc xs
    | none => false
  | .tup es, ml, ib, sc, e => match asTup e with
    | some xs => chkEs D es ml ib sc xs
    | none => false
  | .dct _ ks vs, _, _, _, e => isDict0 e && (match ks with
    | .nil => true
    | _ => false) && (match vs with
    | .nil => true
    | _ => false)
  | .lc m t it ifs own, ml, ib, sc, e => match asLc e with
    | some (elt, tg, iter, fs, bsc) => blkC D.N sc bsc (ownOf D.N own) && ixB own t && tgB D.N (cellB bsc) (relS bsc sc) t tg && (chkI D it ml ib sc tg iter || chkZ D it ml ib sc tg iter) && chkE D m ml true (relS bsc sc) elt && (match fs with
      | [] => match ifs with
        | .nil => true
        | _ => false
      | [f] => match ifs with
        | .cons false c .nil => tstM c && chkE D c ml true (relS bsc sc) f
        | _ => false
      | _ => false)
    | none => false
  | .dc _ _ _ _ _ _, _, _, _, _ => false
  | .sub o i, ml, ib, sc, e => match asSub e with
    | some (x, y) => !isSlice y && chkE D o ml ib sc x && chkE D i ml ib sc y
    | none => false
  | .slc o lo hi, ml, ib, sc, e => match asSub e with
    | some (x, y) => chkE D o ml ib sc x && (match asSlice y with
      | some (l, h) => chkO D lo ml ib sc l && chkO D hi ml ib sc h
      | none => false)
    | none => false
  | .rv o, ml, ib, sc, e => match asSub e with
    | some (x, y) => isBack y && chkE D o ml ib sc x
    | none => false
  | .met m, ml, ib, sc, e => match asCall e with
    | some (g, xs, ks) => ml && decide (g = ("_law_met" : Str)) && ks.isEmpty && glB sc "_law_met" && (match asLam xs with
      | some (body, lsc) => LamX.lamSB sc lsc && chkE D m false true lsc body
      | none => false)
    | none => false
  | .cell m, ml, ib, sc, e => chkE D m ml ib sc e
  | .melt m, ml, ib, sc, e => chkE D m ml ib sc e
def chkEs (D : Dt) : Es → Bool → Bool → Scope → List Expr → Bool
  | .nil, _, _, _, es => es.isEmpty
  | .cons s m r, ml, ib, sc, es => match es with
    | e :: es' => !s && !isStar e && chkE D m ml ib sc e && chkEs D r ml ib sc es'
    | [] => false
def chkA (D : Dt) : Es → Bool → Bool → Scope → List Expr → List Keyword → Bool
  | .nil, _, _, _, es, ks => es.isEmpty && ks.isEmpty
  | .cons s m r, ml, ib, sc, es, ks => match es with
    | e :: es' => !s && !isStar e && chkE D m ml ib sc e && chkA D r ml ib sc es' ks
    | [] => match ks with
      | ⟨nm, e, _⟩ :: ks' => !s && nm.isSome && chkE D m ml ib sc e && chkA D r ml ib sc [] ks'
      | [] => false
def chkO (D : Dt) : Option ME → Bool → Bool → Scope → Option Expr → Bool
  | none, _, _, _, e => e.isNone
  | some m, ml, ib, sc, e => match e with
    | some x => chkE D m ml ib sc x
    | none => false
def chkI (D : Dt) : IT → Bool → Bool → Scope → Expr → Expr → Bool
  | .val m, ml, ib, sc, _, e => !isSet e && chkE D m ml ib sc e
  | .by_ b es, ml, ib, sc, tg, e => match asCall e with
    | some (g, xs, ks) => ks.isEmpty && glB sc g && chkEs D es ml ib sc xs && (match b with
      | .range => decide (g = ("range" : Str)) && decide (0 < xs.length) && decide (xs.length ≤ 3)
      | .zip => decide (g = ("zip" : Str)) && decide (xs.length = 2) && (asTup tg).isSome
      | .enumerate => decide (g = ("enumerate" : Str)) && decide (xs.length = 1) && (asTup tg).isSome
      | .zipl => false)
    | none => false
  | .items o, ml, ib, sc, tg, e => match asMeth e with
    | some (x, nm, xs) => decide (nm = ("items" : Str)) && xs.isEmpty && abOk x && (asTup tg).isSome && chkE D o ml ib sc x
    | none => false
/-- zip(..) to one name -/
def chkZ (D : Dt) : IT → Bool → Bool → Scope → Expr → Expr → Bool
  | .val _, _, _, _, _, _ => false
  | .items _, _, _, _, _, _ => false
  | .by_ b es, ml, ib, sc, tg, e => match asCall e with
    | some (g, xs, ks) => decide (b = .zipl) && decide (g = ("zip" : Str)) && ks.isEmpty && glB sc g && decide (xs.length = 2) && (asName tg).isSome && chkEs D es ml ib sc xs
    | none => false
end
end Mv

end
section
set_option Elab.async false
set_option linter.all false
set_option autoImplicit false
set_option maxRecDepth 100000
namespace Mv
open PySem PySem.Spec L2
variable [Tbs]

/-- the room for a call of M's depth k: three frames a level, and what the def that spoils wants -/
def lv (k : Nat) : Nat := 3 * k + 24
/-- what M runs with -/
structure St0 where
  p : Pg
  fuel : Nat
  k : Nat
  ex : ExT
  hs : List MH
abbrev CfgOk (T : St0) (C : Cfg) : Prop := C.call = callN T.p T.fuel T.k ∧ C.col < C.cm ∧ C.hs = hsOf T.hs
/-- the def that catches, as the text has it -/
def MetD (ex : ExT) (hs : List MH) (K : PySem.W.Frag) (mg : Str → Option Value) : Prop :=
  ∃ (g : Addr) (a en : Str) (pg : Arguments) (sg : Scope) (hds : List ExceptHandler) (h0 : ExceptHandler) (j kt : Nat) (p0 p1 p2 p3 p8 pt : Pos) (dV kV doc pm cdv ct oc : Value) (an od : Option Addr) (osl : Array (Option Value)),
    mg "_law_met" = some (.ref g) ∧ PySem.W.keepIn K (.ref g) = true ∧
    K.lookup g = some ⟨oc, od, .func (PySem.W.fnOf "_law_met" "_law_met" pg [.Try [.Return (some (.Tuple [.Constant (.str "told") j p0, .Call (.Name a p1) [] [] p2] kt pt)) p3] (h0 :: hds) [] [] p8] sg dV kV doc pm an cdv ct), osl⟩ ∧
    PySem.W.codeIn K cdv "_law_met" = true ∧ L2.Binds K (PySem.W.fnOf "_law_met" "_law_met" pg [.Try [.Return (some (.Tuple [.Constant (.str "told") j p0, .Call (.Name a p1) [] [] p2] kt pt)) p3] (h0 :: hds) [] [] p8] sg dV kV doc pm an cdv ct) [a] [] ∧
    FnScope [a, en] [a] sg ∧ Vis sg a ∧ a ≠ en ∧ sg.names.lookup en = some .local ∧ dunB a = true ∧ dunB en = true ∧ MetHds K mg sg en (h0 :: hds) hs ∧ MetOk K ex hs
/-- where a lambda may be made -/
def MetS0 (base : Heap) (mg : Str → Option Value) (code : Value) (qual : Str) (A : Around) (j : Nat) : Prop := ∃ c P : Addr, LamX.TabB base mg c P ∧ code = .ref c ∧ (P, qual ++ ("<lambda>" : Str)) ∈ Tbs.T ∧ (∀ p ∈ Tbs.T, p.1 = P → p.2 = qual ++ ("<lambda>" : Str)) ∧ RoomG (j + 2) A
def MetS (X : Cx) (j : Nat) : Prop := MetS0 X.base X.mg X.env.code X.env.qual X.A j

def bnames : List Str := ["len", "abs", "int", "max", "min", "sum", "all", "any", "list", "tuple", "dict", "repr", "sorted", "isinstance", "bool", "str", "range", "zip", "enumerate"]
/-- the defs of the text, each keeps its promise -/
def FnsOk (T : St0) (D : Dt) (j : Nat) (X : Cx) : Prop := ∀ (f : Str) (d : Df), T.p.get f = some d → ∃ (fa : Addr) (fd : FuncData), X.mg f = some (.ref fa) ∧ PySem.W.keepIn X.K (.ref fa) = true ∧
  FnG X.prog X.w X.K X.mg X.base (L2.CX X.prog X.w) j fa fd d.ps (spM T.p T.fuel T.k T.ex f) ∧ ∀ (ks : List Str) (n : Nat) (pm : List Nat), (f, ks, n, pm) ∈ D.kb → KB fd d.ps ks n pm
structure XOk (T : St0) (D : Dt) (ml ib : Bool) (sc : Scope) (X : Cx) (W : WX) : Prop where
  sc : X.env.scope = sc
  kind : X.env.scope.kind = .function
  N : X.N = D.N
  nd : X.N.Nodup
  p : T.p = D.p
  calm : X.calm = true
  room : RoomG (lv T.k) X.A
  takes : Takes X W
  mgB : ∀ b ∈ bnames, X.mg b = none
  fns : FnsOk T D (lv T.k) X
  met : ml = true → MetD T.ex T.hs X.K X.mg ∧ MetS X (lv T.k)
  fn : ib = false → ∀ x, X.fn x = true
section
variable {T : St0} {D : Dt} {ml ib : Bool} {sc : Scope} {X : Cx} {W : WX}
theorem XOk.gl (h : XOk T D ml ib sc X W) {x : Str} (g : glB sc x = true) : Gl X x := by
  show X.env.scope.names.lookup x = _
  rw [h.sc]
  exact glB_ok g
theorem XOk.hu (h : XOk T D ml ib sc X W) : X.A.units + 66 < cLine := h.room.u66
theorem relS_kind {a b : Scope} : (relS a b).kind = a.kind := rfl
/-- within a comprehension -/
theorem XOk.blk (h : XOk T D ml ib sc X W) {scope : Scope} (hk : scope.kind = .function) (s : Shared) (H : Hp) (C : Addr) (cl : List (Str × Addr)) (fp : List Addr) : XOk T D ml true (relS scope sc) (X.blk s H scope (compEnvC scope cl C X.env) fp) W0 where
  sc := by
    rw [← h.sc]
    rfl
  kind := hk
  N := h.N
  nd := h.nd
  p := h.p
  calm := h.calm
  room := h.room
  takes := LamX.takes0
  mgB := h.mgB
  fns := h.fns
  met := h.met
  fn := fun z => nomatch z
/-- within a lambda -/
theorem XOk.lam (h : XOk T D ml ib sc X W) {scope : Scope} (hk : scope.kind = .function) {A : Around} {outer : List PySem.Env} {s : Shared} {H : Hp} {E : XK} {f c' : Addr} (hr : RoomG (lv T.k) (A.deeper (LamX.lamEnv X scope s.heap.objs.size f c'))) :
    XOk T D false true scope (LamX.lamCx X A outer s H E scope f c') (WX0 E) where
  sc := rfl
  kind := hk
  N := h.N
  nd := h.nd
  p := h.p
  calm := rfl
  room := hr
  takes := takes_of rfl rfl rfl rfl
  mgB := h.mgB
  fns := h.fns
  met := fun z => nomatch z
  fn := fun z => nomatch z

structure GE (T : St0) (X : Cx) (W : WX) (m : ME) (e : Expr) : Prop where
  pe : ∀ C, CfgOk T C → PE X e (tO T.ex W C.cm (evO C m))
  pt : ∀ C, CfgOk T C → tstM m = true → PT X e (tT T.ex W C.cm (evT C m))
def plainT : Expr → Bool
  | .UnaryOp .Not _ _ => false
  | .BoolOp _ _ _ => false
  | .IfExp _ _ _ _ => false
  | .Compare _ _ _ _ => false
  | _ => true
theorem plainT_ok {e : Expr} (h : plainT e = true) {env : PySem.Env} (whole : Sem Value) : isTrue e env whole = (do let v ← whole; standAt e.pos; holding [v] (truthy v)) := by
  cases e with
  | UnaryOp o a p =>
    cases o <;> first | rfl | cases h
  | BoolOp _ _ _ => cases h
  | IfExp _ _ _ _ => cases h
  | Compare _ _ _ _ => cases h
  | _ => rfl
theorem GE.v {m : ME} {e : Expr} (h : GE T X W m e) {C : Cfg} (hC : CfgOk T C) : PE X e (tV T.ex W C.cm (ev C m)) := pe_fz hC.2.1 (h.pe C hC)
theorem ge_plain {m : ME} {e : Expr} (hp : plainT e = true) (h : ∀ C, CfgOk T C → PE X e (tO T.ex W C.cm (evO C m))) : GE T X W m e :=
  ⟨h, fun C hC _ => t_truth (pe_fz hC.2.1 (h C hC)) fun whole => plainT_ok hp whole⟩
def GEs (T : St0) (X : Cx) (W : WX) (r : Es) (es : List Expr) : Prop := EsOk (fun m e => GE T X W m e) r es
theorem GEs.v {r : Es} {es : List Expr} (h : GEs T X W r es) {C : Cfg} (hC : CfgOk T C) : EsOk (fun m e => PE X e (tV T.ex W C.cm (ev C m))) r es := EsOk.imp (fun m e g => g.v hC) h
theorem GEs.t : ∀ {r : Es} {es : List Expr}, GEs T X W r es → ∀ {C : Cfg}, CfgOk T C → tstM.tstMs r = true → EsOk (fun m e => PT X e (tT T.ex W C.cm (evT C m))) r es
  | _, _, .nil, _, _, _ => .nil
  | _, _, .cons n g t, _, hC, q => by
    have q' := Bool.and_eq_true_iff.mp (show (tstM _ && tstM.tstMs _) = true from q)
    exact .cons n (g.pt _ hC q'.1) (GEs.t t hC q'.2)
end
theorem and3 {a b c : Bool} (h : (a && b && c) = true) : a = true ∧ b = true ∧ c = true := by
  rw [Bool.and_eq_true, Bool.and_eq_true] at h
  exact ⟨h.1.1, h.1.2, h.2⟩
theorem cn_ok {X : Cx} {v : MV} {c : Const} {j : Nat} {p : Pos} (h : cnB v c = true) : ∃ y, PE X (.Constant c j p) (tC y) ∧ ∀ F ι, RV F ι v y := by
  cases v <;> cases c <;> first | (cases h; done) | skip
  · exact ⟨.non, pe_non, fun _ _ => .non⟩
  · have h := eq_of_beq h
    subst h
    exact ⟨.bl _, pe_bl, fun _ _ => .bl _⟩
  · have h := of_decide_eq_true h
    subst h
    exact ⟨.int _, pe_int, fun _ _ => .int _⟩
  · have h := of_decide_eq_true h
    subst h
    exact ⟨.str _, pe_str, fun _ _ => .str _⟩
theorem cok_ex {X : Cx} {b : Nat} (o : COp) (hu : X.A.units + 66 < cLine) : ∃ r, COk X b o r := by
  cases o
  · exact ⟨_, cok_eq (by omega)⟩
  · exact ⟨_, cok_ne (by omega)⟩
  · exact ⟨_, cok_lt (by omega)⟩
  · exact ⟨_, cok_le⟩
  · exact ⟨_, cok_gt⟩
  · exact ⟨_, cok_ge⟩
  · exact ⟨_, cok_is⟩
  · exact ⟨_, cok_isnot⟩
  · exact ⟨_, cok_in (by omega)⟩
  · exact ⟨_, cok_notin (by omega)⟩
section
variable {T : St0} {D : Dt} {ml ib : Bool} {sc : Scope} {X : Cx} {W : WX}
/-- the built-in functions -/
theorem ge_bi {b : Bi} {rs : Es} {e0 : Expr} {es : List Expr} {p pos : Pos} (hX : XOk T D ml ib sc X W) (hs : biSrv b = true) (hg : glB sc (biName b) = true) (hes : GEs T X W rs (e0 :: es)) : GE T X W (.bi b rs) (.Call (.Name (biName b) p) (e0 :: es) [] pos) := by
  refine ge_plain rfl fun C hC => ?_
  have hb : 0 < C.cm := Nat.lt_of_le_of_lt (Nat.zero_le _) hC.2.1
  have ha := a_es (b := C.cm) (hes.v hC)
  have hpl := hes.plain
  have g := hX.gl hg
  have hc := hX.calm
  have hu := hX.hu
  cases b with
  | len => exact e_biB biok_len call_lenA g (hX.mgB _ (by simp [bnames, biName])) PySem.boot_len hpl ha (by decide) (by decide)
  | abs => exact e_biB biok_abs call_abs g (hX.mgB _ (by simp [bnames, biName])) (by decide +kernel) hpl ha (by decide) (by decide)
  | int => exact e_biT biok_int call_int1 g (hX.mgB _ (by simp [bnames, biName])) (by decide +kernel) hpl ha (by decide) (by decide)
  | max => exact e_biB biok_max (cr_max3 hc) g (hX.mgB _ (by simp [bnames, biName])) (by decide +kernel) hpl ha (by decide) (by decide)
  | min => exact e_biB biok_min (cr_min3 hc) g (hX.mgB _ (by simp [bnames, biName])) (by decide +kernel) hpl ha (by decide) (by decide)
  | sum => exact e_biB biok_sum (cr_sum hc) g (hX.mgB _ (by simp [bnames, biName])) (by decide +kernel) hpl ha (by decide) (by decide)
  | all => exact e_biB biok_all (cr_all hc) g (hX.mgB _ (by simp [bnames, biName])) (by decide +kernel) hpl ha (by decide) (by decide)
  | any => exact e_biB biok_any (cr_any hc) g (hX.mgB _ (by simp [bnames, biName])) (by decide +kernel) hpl ha (by decide) (by decide)
  | list => exact e_biT biok_list call_list_of g (hX.mgB _ (by simp [bnames, biName])) (by decide +kernel) hpl ha (by decide) (by decide)
  | tuple => exact e_biT (biok_tuple hb) call_tuple_of g (hX.mgB _ (by simp [bnames, biName])) (by decide +kernel) hpl ha (by decide) (by decide)
  | dict tk =>
    cases tk with
    | true => cases hs
    | false => exact e_biT biok_dict (call_dictP hc) g (hX.mgB _ (by simp [bnames, biName])) (by decide +kernel) hpl ha (by decide) (by decide)
  | repr => exact e_biB biok_repr (call_reprA hX.room.gd hu) g (hX.mgB _ (by simp [bnames, biName])) (by decide +kernel) hpl ha (by decide) (by decide)
  | sorted => cases hs
  | listItems => cases hs
  | listValues => cases hs
end
end Mv

end
section
set_option Elab.async false
set_option linter.all false
set_option autoImplicit false
set_option maxRecDepth 100000
namespace Mv
open PySem PySem.Spec L2
variable [Tbs]
section
variable {T : St0} {D : Dt} {X : Cx} {W : WX}
mutual
theorem tgB_ok {N : List Str} {ib : Str → Bool} {sc : Scope} (hN : X.N = N) (hs : X.env.scope = sc) (hf : ∀ x, ib x = true → X.fn x = true) : ∀ {t : Tg} {e : Expr}, tgB N ib sc t e = true → TgOk X t e
  | .nm i, e, h => by
    unfold tgB at h
    split at h
    · rename_i x hx
      obtain ⟨p, rfl⟩ := asName_ok hx
      obtain ⟨h1, h2, h3⟩ := and3 h
      have h1 := of_decide_eq_true h1
      refine .nm (by rw [hN]; exact h1) (by rw [hs]; exact locB_ok h2) ?_
      rcases Bool.or_eq_true_iff.mp h3 with h3 | h3
      · exact .inl (hf x h3)
      · exact .inr (by rw [hs]; exact lclB_ok h3)
    · cases h
  | .nil, e, h => by
    unfold tgB at h
    split at h
    · rename_i es hx
      obtain ⟨k, p, rfl⟩ := asTup_ok hx
      rw [List.isEmpty_iff] at h
      subst h
      exact .tup .nil
    · cases h
  | .cons t r, e, h => by
    unfold tgB at h
    split at h
    · rename_i es hx
      obtain ⟨k, p, rfl⟩ := asTup_ok hx
      split at h
      · rename_i e1 es'
        obtain ⟨h1, h2, h3⟩ := and3 h
        exact .tup (.cons (by simpa using h1) (tgB_ok hN hs hf h2) (tgsB_ok hN hs hf h3))
      · cases h
    · cases h
theorem tgsB_ok {N : List Str} {ib : Str → Bool} {sc : Scope} (hN : X.N = N) (hs : X.env.scope = sc) (hf : ∀ x, ib x = true → X.fn x = true) : ∀ {t : Tg} {es : List Expr}, tgB.tgsB N ib sc t es = true → TgsOk X t es
  | .nm i, es, h => by
    unfold tgB.tgsB at h
    cases h
  | .nil, es, h => by
    unfold tgB.tgsB at h
    rw [List.isEmpty_iff] at h
    subst h
    exact .nil
  | .cons t r, es, h => by
    unfold tgB.tgsB at h
    split at h
    · rename_i e1 es'
      obtain ⟨h1, h2, h3⟩ := and3 h
      exact .cons (by simpa using h1) (tgB_ok hN hs hf h2) (tgsB_ok hN hs hf h3)
    · cases h
end
theorem ixB_ok {own : List Nat} : ∀ {t : Tg}, ixB own t = true → ∀ j ∈ t.ix, j ∈ own
  | .nm i, h, j, hj => by
    have h' : own.contains i = true := h
    have e : j = i := by simpa [Tg.ix] using hj
    subst e
    simpa using h'
  | .nil, h, j, hj => by cases hj
  | .cons t r, h, j, hj => by
    have h' := Bool.and_eq_true_iff.mp (show (ixB own t && ixB own r) = true from h)
    have hj' : j ∈ t.ix ++ r.ix := hj
    rcases List.mem_append.mp hj' with q | q
    · exact ixB_ok h'.1 j q
    · exact ixB_ok h'.2 j q
theorem ownOf_snd {N : List Str} {own : List Nat} : (ownOf N own).map (·.2) = own := by
  unfold ownOf
  induction own with
  | nil => rfl
  | cons a r ih =>
    rw [List.map_cons, List.map_cons, ih]
theorem folded_ok {e : Expr} (h : isSet e = false) {env : PySem.Env} (x : Value) : foldedSetIterable e env x = pure x := by
  cases e <;> first | rfl | cases h
theorem asCall_set {e : Expr} {f : Str} {es : List Expr} {ks : List Keyword} (h : asCall e = some (f, es, ks)) : isSet e = false := by
  obtain ⟨p0, p, rfl⟩ := asCall_ok h
  rfl
theorem asMeth_set {e o : Expr} {nm : Str} {es : List Expr} (h : asMeth e = some (o, nm, es)) : isSet e = false := by
  obtain ⟨p0, p, rfl, _⟩ := asMeth_ok h
  rfl
theorem tysB_ok {sc : Scope} {ml ib : Bool} (hX : XOk T D ml ib sc X W) : ∀ {cs : List Ty} {es : List Expr}, tysB sc cs es = true → TysOk X cs es
  | [], [], _ => .nil
  | [], _ :: _, h => by cases h
  | _ :: _, [], h => by cases h
  | c :: cs, e :: es, h => by
    have h' := Bool.and_eq_true_iff.mp (show (tyB sc c e && tysB sc cs es) = true from h)
    have h1 := h'.1
    unfold tyB at h1
    split at h1
    · rename_i x hx
      obtain ⟨p, rfl⟩ := asName_ok hx
      rw [Bool.and_eq_true] at h1
      have e1 := of_decide_eq_true h1.1
      subst e1
      exact .cons (hX.gl h1.2) (hX.mgB _ (by cases c <;> simp [bnames, tyName])) (tysB_ok hX h'.2)
    · cases h1
theorem tyB_ok {sc : Scope} {ml ib : Bool} (hX : XOk T D ml ib sc X W) {c : Ty} {e : Expr} (h : tyB sc c e = true) : ∃ p, e = .Name (tyName c) p ∧ Gl X (tyName c) ∧ X.mg (tyName c) = none := by
  unfold tyB at h
  split at h
  · rename_i x hx
    obtain ⟨p, rfl⟩ := asName_ok hx
    rw [Bool.and_eq_true] at h
    have e1 := of_decide_eq_true h.1
    subst e1
    exact ⟨p, rfl, hX.gl h.2, hX.mgB _ (by cases c <;> simp [bnames, tyName])⟩
  · cases h
/-- a lambda handed to the def that catches -/
theorem ge_met {ml ib : Bool} {sc : Scope} {m : ME} {body : Expr} {lsc : Scope} {lp p0 p : Pos} (hX : XOk T D ml ib sc X W) (hm : ml = true) (hg : glB sc "_law_met" = true) (hl : LamX.lamSB sc lsc = true)
    (hb : ∀ (X' : Cx) (W' : WX), XOk T D false true lsc X' W' → GE T X' W' m body) : GE T X W (.met m) (.Call (.Name "_law_met" p0) [.Lambda noArgs body lsc lp] [] p) := by
  refine ge_plain rfl fun C hC => ?_
  obtain ⟨⟨g, a, en, pg, sg, hds, h0, j, kt, q0, q1, q2, q3, q8, qt, dV, kV, doc, pm, cdv, ct, oc, an, od, osl, m1, m2, m3, m4, m5, m6, m7, m8, m9, m10, m11, m12, m13⟩, c, P, s1, s2, s3, s4, s5⟩ := hX.met hm
  have L : LamX.LamS X.env.scope lsc := LamX.lamS_by (by rw [hX.sc]; exact hl)
  refine PE.imp (pe_lamcallG (t := fun E => tV T.ex (WX0 E) C.cm (ev C m)) (hX.gl hg) m1 m2 m3 m4 m5 m6 rfl m7 (met_gives rfl m8 m9 (dunB_ok m11).1 (dunB_ok m11).2 m12) s1 s2 s3 s4 s5 L rfl (fun _ _ _ _ _ => rfl) (fun A outer s H E f c' hr => ?_) (by decide) (dunB_ok m10).1 (dunB_ok m10).2) fun σ H Q h => met_read (Nat.lt_of_le_of_lt (Nat.zero_le _) hC.2.1) hC.2.2 m13 h
  exact (hb _ _ (hX.lam L.kind hr)).v hC
set_option maxHeartbeats 4000000 in
mutual
theorem chkE_ok (T : St0) (D : Dt) : ∀ (m : ME) (ml ib : Bool) (sc : Scope) (e : Expr) (X : Cx) (W : WX), chkE D m ml ib sc e = true → XOk T D ml ib sc X W → GE T X W m e
  | .nm i, ml, ib, sc, e, X, W, h, hX => by
    unfold chkE at h
    split at h
    · rename_i x hx
      obtain ⟨p, rfl⟩ := asName_ok hx
      obtain ⟨h1, h2, h3⟩ := and3 h
      refine ge_plain rfl fun C hC => e_nm (by rw [hX.N]; exact of_decide_eq_true h1) (by rw [hX.sc]; exact visB_ok h2) (dunB_ok h3).1 (dunB_ok h3).2
    · cases h
  | .cn v, ml, ib, sc, e, X, W, h, hX => by
    unfold chkE at h
    split at h
    · rename_i x hx
      obtain ⟨j, p, rfl⟩ := asConst_ok hx
      obtain ⟨y, h1, h2⟩ := cn_ok (X := X) (j := j) (p := p) h
      exact ge_plain rfl fun C hC => e_cn h1 h2
    · cases h
  | .bin o a b, ml, ib, sc, e, X, W, h, hX => by
    unfold chkE at h
    split at h
    · rename_i x p y hx
      obtain ⟨p, rfl⟩ := asBin_ok hx
      obtain ⟨h1, h2, h3⟩ := and3 h
      obtain rfl := opB_ok h1
      refine ge_plain rfl fun C hC => e_binop (Nat.lt_of_le_of_lt (Nat.zero_le _) hC.2.1) ((chkE_ok T D a ml ib sc x X W h2 hX).v hC) ((chkE_ok T D b ml ib sc y X W h3 hX).v hC)
    · cases h
  | .neg a, ml, ib, sc, e, X, W, h, hX => by
    unfold chkE at h
    split at h
    · rename_i o x hx
      obtain ⟨p, rfl⟩ := asUn_ok hx
      rw [Bool.and_eq_true] at h
      have g := chkE_ok T D a ml ib sc x X W h.2 hX
      cases o <;> first | (cases h.1; done) | exact ge_plain rfl fun C hC => e_neg (g.v hC)
    · cases h
  | .nt a, ml, ib, sc, e, X, W, h, hX => by
    unfold chkE at h
    split at h
    · rename_i o x hx
      obtain ⟨p, rfl⟩ := asUn_ok hx
      rw [Bool.and_eq_true] at h
      have g := chkE_ok T D a ml ib sc x X W h.2 hX
      cases o <;> first | (cases h.1; done) | exact ⟨fun C hC => e_nt (g.v hC), fun C hC ht => t_nt (g.pt C hC ht)⟩
    · cases h
  | .cmp o a b, ml, ib, sc, e, X, W, h, hX => by
    unfold chkE at h
    split at h
    · rename_i x p y hx
      obtain ⟨q, rfl⟩ := asCmp_ok hx
      simp only [Bool.and_eq_true, Bool.not_eq_true'] at h
      obtain ⟨⟨⟨h1, h2⟩, h3⟩, h4⟩ := h
      obtain rfl := copB_ok h1
      have g1 := chkE_ok T D a ml ib sc x X W h3 hX
      have g2 := chkE_ok T D b ml ib sc y X W h4 hX
      refine ⟨fun C hC => ?_, fun C hC _ => ?_⟩
      · obtain ⟨r, hr⟩ := cok_ex (X := X) (b := C.cm) o hX.hu
        exact e_cmpR hr h2 (g1.v hC) (g2.v hC)
      · obtain ⟨r, hr⟩ := cok_ex (X := X) (b := C.cm) o hX.hu
        exact t_cmpR hr h2 (g1.v hC) (g2.v hC)
    · cases h
  | .chain o1 o2 a b c, ml, ib, sc, e, X, W, h, hX => by
    unfold chkE at h
    split at h
    · rename_i x p y q z hx
      obtain ⟨q, rfl⟩ := asCmp2_ok hx
      simp only [Bool.and_eq_true, Bool.not_eq_true'] at h
      obtain ⟨⟨⟨⟨⟨⟨⟨h1, h2⟩, h3⟩, h4⟩, h5⟩, h6⟩, h7⟩, h8⟩ := h
      obtain rfl := copB_ok h1
      obtain rfl := copB_ok h2
      have g1 := chkE_ok T D a ml ib sc x X W h6 hX
      have g2 := chkE_ok T D b ml ib sc y X W h7 hX
      have g3 := chkE_ok T D c ml ib sc z X W h8 hX
      refine ⟨fun C hC => ?_, fun C hC ht => Bool.noConfusion (show false = true from ht)⟩
      obtain ⟨r1, hr1⟩ := cok_ex (X := X) (b := C.cm) o1 hX.hu
      obtain ⟨r2, hr2⟩ := cok_ex (X := X) (b := C.cm) o2 hX.hu
      exact e_chain hr1 hr2 h3 h4 h5 (g1.v hC) (g2.v hC) (g3.v hC)
    · cases h
  | .andE a es, ml, ib, sc, e, X, W, h, hX => by
    unfold chkE at h
    split at h
    · rename_i o x xs hx
      obtain ⟨p, rfl⟩ := asBool_ok hx
      obtain ⟨h1, h2, h3⟩ := and3 h
      obtain rfl : o = true := h1
      have g1 := chkE_ok T D a ml ib sc x X W h2 hX
      have g2 := chkEs_ok T D es ml ib sc xs X W h3 hX
      refine ⟨fun C hC => e_and (g1.v hC) (g2.v hC), fun C hC ht => ?_⟩
      have ht' := Bool.and_eq_true_iff.mp (show (tstM a && tstM.tstMs es) = true from ht)
      exact t_and (g1.pt C hC ht'.1) (g2.t hC ht'.2)
    · cases h
  | .orE a es, ml, ib, sc, e, X, W, h, hX => by
    unfold chkE at h
    split at h
    · rename_i o x xs hx
      obtain ⟨p, rfl⟩ := asBool_ok hx
      obtain ⟨h1, h2, h3⟩ := and3 h
      obtain rfl : o = false := by simpa using h1
      have g1 := chkE_ok T D a ml ib sc x X W h2 hX
      have g2 := chkEs_ok T D es ml ib sc xs X W h3 hX
      refine ⟨fun C hC => e_or (g1.v hC) (g2.v hC), fun C hC ht => ?_⟩
      have ht' := Bool.and_eq_true_iff.mp (show (tstM a && tstM.tstMs es) = true from ht)
      exact t_or (g1.pt C hC ht'.1) (g2.t hC ht'.2)
    · cases h
  | .ite c a b, ml, ib, sc, e, X, W, h, hX => by
    unfold chkE at h
    split at h
    · rename_i x y z hx
      obtain ⟨p, rfl⟩ := asIte_ok hx
      simp only [Bool.and_eq_true] at h
      obtain ⟨⟨⟨h1, h2⟩, h3⟩, h4⟩ := h
      have g1 := chkE_ok T D c ml ib sc x X W h2 hX
      have g2 := chkE_ok T D a ml ib sc y X W h3 hX
      have g3 := chkE_ok T D b ml ib sc z X W h4 hX
      exact ⟨fun C hC => e_ite (g1.pt C hC h1) (g2.pe C hC) (g3.pe C hC), fun C hC ht => Bool.noConfusion (show false = true from ht)⟩
    · cases h
  | .call f es pm, ml, ib, sc, e, X, W, h, hX => by
    unfold chkE at h
    split at h
    · rename_i g xs ks hx
      obtain ⟨p0, p, rfl⟩ := asCall_ok hx
      simp only [Bool.and_eq_true] at h
      obtain ⟨⟨⟨⟨⟨h1, h2⟩, h3⟩, h4⟩, h5⟩, h6⟩ := h
      obtain rfl := of_decide_eq_true h1
      obtain ⟨d, hd⟩ := Option.isSome_iff_exists.mp h4
      obtain ⟨rs, ws, rfl, g1, g2⟩ := chkA_ok T D es ml ib sc xs ks X W h6 hX
      refine ge_plain rfl fun C hC => ?_
      obtain ⟨fa, fd, f1, f2, f3, f4⟩ := hX.fns g d (by rw [hX.p]; exact hd)
      exact e_callK f3 hX.room (hX.gl h2) f1 f2 (f4 _ _ _ (of_decide_eq_true h5)) hX.takes hC.1 hC.2.1 (g1.v hC) (g2 C hC) (dunB_ok h3).1
    · cases h
  | .bi b es, ml, ib, sc, e, X, W, h, hX => by
    unfold chkE at h
    split at h
    · split at h
      · rename_i g xs ks hx
        obtain ⟨p0, p, rfl⟩ := asCall_ok hx
        simp only [Bool.and_eq_true] at h
        obtain ⟨⟨⟨h1, h2⟩, h3⟩, h4⟩ := h
        obtain rfl := of_decide_eq_true h1
        rw [List.isEmpty_iff] at h2
        subst h2
        split at h4
        · split at h4
          · rename_i o nm zs hy
            obtain ⟨apos, pos, rfl, hln⟩ := asMeth_ok hy
            simp only [Bool.and_eq_true] at h4
            obtain ⟨⟨⟨k1, k2⟩, k3⟩, k4⟩ := h4
            obtain rfl := of_decide_eq_true k1
            rw [List.isEmpty_iff] at k2
            subst k2
            split at k4
            · rename_i m
              have g := chkE_ok T D m ml ib sc o X W k4 hX
              exact ge_plain rfl fun C hC => e_items (Nat.lt_of_le_of_lt (Nat.zero_le _) hC.2.1) hX.calm (g.v hC) (hX.gl h3) (hX.mgB _ (by simp [bnames])) k3 hln
            · cases k4
          · cases h4
        · cases h4
      · cases h
    · split at h
      · rename_i g xs ks hx
        obtain ⟨p0, p, rfl⟩ := asCall_ok hx
        simp only [Bool.and_eq_true, Bool.not_eq_true'] at h
        obtain ⟨⟨⟨⟨⟨h1, h2⟩, h3⟩, h4⟩, h5⟩, h6⟩ := h
        obtain rfl := of_decide_eq_true h2
        rw [List.isEmpty_iff] at h3
        subst h3
        cases xs with
        | nil => cases h4
        | cons x xs => exact ge_bi hX h1 h5 (chkEs_ok T D es ml ib sc _ X W h6 hX)
      · cases h
  | .isi a tp cs, ml, ib, sc, e, X, W, h, hX => by
    unfold chkE at h
    split at h
    · rename_i g xs ks hx
      obtain ⟨p0, p, rfl⟩ := asCall_ok hx
      simp only [Bool.and_eq_true] at h
      obtain ⟨⟨⟨h1, h2⟩, h3⟩, h4⟩ := h
      obtain rfl := of_decide_eq_true h1
      rw [List.isEmpty_iff] at h2
      subst h2
      have gg := hX.gl h3
      have gm := hX.mgB "isinstance" (by simp [bnames])
      split at h4
      · rename_i x y
        simp only [Bool.and_eq_true, Bool.not_eq_true'] at h4
        obtain ⟨⟨k1, k2⟩, k3⟩ := h4
        have g := chkE_ok T D a ml ib sc x X W k2 hX
        split at k3
        · split at k3
          · rename_i ys hy
            obtain ⟨k, q, rfl⟩ := asTup_ok hy
            simp only [Bool.and_eq_true, Bool.not_eq_true'] at k3
            obtain ⟨⟨j1, j2⟩, j3⟩ := k3
            have j3 := of_decide_eq_true j3
            refine ge_plain rfl fun C hC => e_isiT gg gm (tysB_ok hX j1) (fun z => by rw [z] at j2; cases j2) (by rw [sizeLine_eq]; omega) k1 (g.v hC)
          · cases k3
        · split at k3
          · rename_i c
            obtain ⟨q, rfl, j1, j2⟩ := tyB_ok hX k3
            exact ge_plain rfl fun C hC => e_isi1 (ea := x) (p2 := p) gg gm j1 j2 k1 (g.v hC)
          · cases k3
      · cases h4
    · cases h
  | .mth mt o es, ml, ib, sc, e, X, W, h, hX => by
    unfold chkE at h
    split at h
    · rename_i x nm xs hx
      obtain ⟨apos, pos, rfl, hln⟩ := asMeth_ok hx
      simp only [Bool.and_eq_true, Bool.not_eq_true'] at h
      obtain ⟨⟨⟨⟨⟨h1, h2⟩, h3⟩, h4⟩, h5⟩, h6⟩ := h
      have h4 := of_decide_eq_true h4
      have g := chkE_ok T D o ml ib sc x X W h5 hX
      have gs := chkEs_ok T D es ml ib sc xs X W h6 hX
      cases xs with
      | nil => cases h3
      | cons x0 xs =>
        cases mt with
        | index =>
          obtain rfl := of_decide_eq_true h1
          exact ge_plain rfl fun C hC => e_index (by have := hX.hu; omega) (g.v hC) (a_es (gs.v hC)) h2 gs.plain h4 hln
        | pop =>
          obtain rfl := of_decide_eq_true h1
          exact ge_plain rfl fun C hC => e_popC (g.v hC) (a_es (gs.v hC)) h2 gs.plain h4 hln
        | get => cases h1
        | append => cases h1
        | count => cases h1
    · cases h
  | .lst es, ml, ib, sc, e, X, W, h, hX => by
    unfold chkE at h
    split at h
    · rename_i xs hx
      obtain ⟨p, rfl⟩ := asList_ok hx
      have gs := chkEs_ok T D es ml ib sc xs X W h hX
      exact ge_plain rfl fun C hC => e_lst (a_es (gs.v hC))
    · cases h
  | .tup es, ml, ib, sc, e, X, W, h, hX => by
    unfold chkE at h
    split at h
    · rename_i xs hx
      obtain ⟨k, p, rfl⟩ := asTup_ok hx
      have gs := chkEs_ok T D es ml ib sc xs X W h hX
      exact ge_plain rfl fun C hC => e_tup (Nat.lt_of_le_of_lt (Nat.zero_le _) hC.2.1) (a_es (gs.v hC))
    · cases h
  | .dct tk ks vs, ml, ib, sc, e, X, W, h, hX => by
    unfold chkE at h
    obtain ⟨h1, h2, h3⟩ := and3 h
    obtain ⟨p, rfl⟩ := isDict0_ok h1
    split at h2
    · split at h3
      · exact ge_plain rfl fun C hC => e_dnew
      · cases h3
    · cases h2
  | .lc m t it ifs own, ml, ib, sc, e, X, W, h, hX => by
    unfold chkE at h
    split at h
    · rename_i elt tg iter fs bsc hx
      obtain ⟨p, rfl⟩ := asLc_ok hx
      simp only [Bool.and_eq_true] at h
      obtain ⟨⟨⟨⟨⟨h1, h2⟩, h3⟩, h4⟩, h5⟩, h6⟩ := h
      have B : BlkOk X.N X.env.scope bsc (ownOf D.N own) := by
        rw [hX.N, hX.sc]
        exact blkOk_by h1
      have ge : ∀ s H C cl fp, GE T (X.blk s H bsc (compEnvC bsc cl C X.env) fp) W0 m elt := fun s H C cl fp => chkE_ok T D m ml true (relS bsc sc) elt _ W0 h5 (hX.blk B.kind s H C cl fp)
      refine ge_plain rfl fun C hC => ?_
      have gt : ∀ s H A cl fp, PTs (X.blk s H bsc (compEnvC bsc cl A X.env) fp) fs (tT T.ex W0 C.cm (evTs C ifs)) := by
        intro s H A cl fp
        split at h6
        · split at h6
          · exact ts_nil
          · cases h6
        · split at h6
          · rename_i f _ c
            rw [Bool.and_eq_true] at h6
            exact ts_one ((chkE_ok T D c ml true (relS bsc sc) f _ W0 h6.2 (hX.blk B.kind s H A cl fp)).pt C hC h6.1)
          · cases h6
        · cases h6
      have hg : ∀ (s : Shared) (H : Hp) (A : Addr) (cl : List (Str × Addr)) (fp : List Addr), PG (X.blk s H bsc (compEnvC bsc cl A X.env) fp) tg (tTg t) := fun s H A cl fp => pg_tg (X := X.blk s H bsc (compEnvC bsc cl A X.env) fp) (t := t) hX.calm hX.nd (tgB_ok (X := X.blk s H bsc (compEnvC bsc cl A X.env) fp) (ib := cellB bsc) (sc := relS bsc sc) hX.N (by rw [← hX.sc]; rfl) (fun x h => h) h3)
      rcases Bool.or_eq_true_iff.mp h4 with h4 | h4
      · have gi := chkI_ok T D it ml ib sc tg iter X W h4 hX
        have q := pe_lc (pos := p) hX.calm hX.nd (gi.1 C hC) B hg gt (fun s H A cl fp => (ge s H A cl fp).v hC) (folded_ok gi.2)
        rw [ownOf_snd] at q
        exact PE.imp q fun σ H Q h => lc_read (ixB_ok h2) h
      · have gi := chkZ_ok T D it ml ib sc tg iter X W h4 hX
        have q := pe_lcZ (pos := p) hX.calm hX.nd (gi.1 C hC) B hg gt (fun s H A cl fp => (ge s H A cl fp).v hC) (folded_ok gi.2)
        rw [ownOf_snd] at q
        exact PE.imp q fun σ H Q h => lc_readZ (ixB_ok h2) h
    · cases h
  | .dc _ _ _ _ _ _, ml, ib, sc, e, X, W, h, hX => by
    unfold chkE at h
    cases h
  | .sub o i, ml, ib, sc, e, X, W, h, hX => by
    unfold chkE at h
    split at h
    · rename_i x y hx
      obtain ⟨p, rfl⟩ := asSub_ok hx
      obtain ⟨h1, h2, h3⟩ := and3 h
      have g1 := chkE_ok T D o ml ib sc x X W h2 hX
      have g2 := chkE_ok T D i ml ib sc y X W h3 hX
      exact ge_plain rfl fun C hC => e_item (by have := hX.hu; omega) (by simpa using h1) (g1.v hC) (g2.v hC)
    · cases h
  | .slc o lo hi, ml, ib, sc, e, X, W, h, hX => by
    unfold chkE at h
    split at h
    · rename_i x y hx
      obtain ⟨p, rfl⟩ := asSub_ok hx
      rw [Bool.and_eq_true] at h
      obtain ⟨h1, h2⟩ := h
      split at h2
      · rename_i l u hy
        obtain ⟨q, rfl⟩ := asSlice_ok hy
        rw [Bool.and_eq_true] at h2
        have g1 := chkE_ok T D o ml ib sc x X W h1 hX
        have g2 := chkO_ok T D lo ml ib sc l X W h2.1 hX
        have g3 := chkO_ok T D hi ml ib sc u X W h2.2 hX
        exact ge_plain rfl fun C hC => e_slc (Nat.lt_of_le_of_lt (Nat.zero_le _) hC.2.1) (g1.v hC) (g2 C hC) (g3 C hC)
      · cases h2
    · cases h
  | .rv o, ml, ib, sc, e, X, W, h, hX => by
    unfold chkE at h
    split at h
    · rename_i x y hx
      obtain ⟨p, rfl⟩ := asSub_ok hx
      rw [Bool.and_eq_true] at h
      obtain ⟨j, p1, p2, p3, rfl⟩ := isBack_ok h.1
      have g1 := chkE_ok T D o ml ib sc x X W h.2 hX
      exact ge_plain rfl fun C hC => e_rv (g1.v hC)
    · cases h
  | .met m, ml, ib, sc, e, X, W, h, hX => by
    unfold chkE at h
    split at h
    · rename_i g xs ks hx
      obtain ⟨p0, p, rfl⟩ := asCall_ok hx
      simp only [Bool.and_eq_true] at h
      obtain ⟨⟨⟨⟨h1, h2⟩, h3⟩, h4⟩, h5⟩ := h
      obtain rfl := of_decide_eq_true h2
      rw [List.isEmpty_iff] at h3
      subst h3
      split at h5
      · rename_i body lsc hl
        obtain ⟨lp, rfl⟩ := asLam_ok hl
        rw [Bool.and_eq_true] at h5
        exact ge_met hX h1 h4 h5.1 fun X' W' hX' => chkE_ok T D m false true lsc body X' W' h5.2 hX'
      · cases h5
    · cases h
  | .cell m, ml, ib, sc, e, X, W, h, hX => by
    unfold chkE at h
    have g := chkE_ok T D m ml ib sc e X W h hX
    exact ⟨fun C hC => e_cell (g.pe C hC), fun C hC ht => Bool.noConfusion (show false = true from ht)⟩
  | .melt m, ml, ib, sc, e, X, W, h, hX => by
    unfold chkE at h
    have g := chkE_ok T D m ml ib sc e X W h hX
    exact ⟨fun C hC => e_melt hC.2.1 (g.v hC), fun C hC ht => Bool.noConfusion (show false = true from ht)⟩
theorem chkEs_ok (T : St0) (D : Dt) : ∀ (r : Es) (ml ib : Bool) (sc : Scope) (es : List Expr) (X : Cx) (W : WX), chkEs D r ml ib sc es = true → XOk T D ml ib sc X W → GEs T X W r es
  | .nil, ml, ib, sc, es, X, W, h, hX => by
    unfold chkEs at h
    rw [List.isEmpty_iff] at h
    subst h
    exact .nil
  | .cons s m r, ml, ib, sc, es, X, W, h, hX => by
    unfold chkEs at h
    split at h
    · rename_i e es'
      simp only [Bool.and_eq_true, Bool.not_eq_true'] at h
      obtain ⟨⟨⟨h1, h2⟩, h3⟩, h4⟩ := h
      subst h1
      exact .cons h2 (chkE_ok T D m ml ib sc e X W h3 hX) (chkEs_ok T D r ml ib sc es' X W h4 hX)
    · cases h
theorem chkA_ok (T : St0) (D : Dt) : ∀ (r : Es) (ml ib : Bool) (sc : Scope) (es : List Expr) (ks : List Keyword) (X : Cx) (W : WX), chkA D r ml ib sc es ks = true → XOk T D ml ib sc X W →
    ∃ rs ws, r = rs.app ws ∧ GEs T X W rs es ∧ ∀ C, CfgOk T C → KwOk (fun m e => PE X e (tV T.ex W C.cm (ev C m))) ws ks
  | .nil, ml, ib, sc, es, ks, X, W, h, hX => by
    unfold chkA at h
    rw [Bool.and_eq_true, List.isEmpty_iff, List.isEmpty_iff] at h
    obtain ⟨rfl, rfl⟩ := h
    exact ⟨.nil, .nil, rfl, .nil, fun C hC => .nil⟩
  | .cons s m r, ml, ib, sc, es, ks, X, W, h, hX => by
    unfold chkA at h
    split at h
    · rename_i e es'
      simp only [Bool.and_eq_true, Bool.not_eq_true'] at h
      obtain ⟨⟨⟨h1, h2⟩, h3⟩, h4⟩ := h
      subst h1
      obtain ⟨rs, ws, rfl, g1, g2⟩ := chkA_ok T D r ml ib sc es' ks X W h4 hX
      exact ⟨.cons false m rs, ws, rfl, .cons h2 (chkE_ok T D m ml ib sc e X W h3 hX) g1, g2⟩
    · split at h
      · rename_i nm e pos ks'
        simp only [Bool.and_eq_true, Bool.not_eq_true'] at h
        obtain ⟨⟨⟨h1, h2⟩, h3⟩, h4⟩ := h
        subst h1
        obtain ⟨rs, ws, rfl, g1, g2⟩ := chkA_ok T D r ml ib sc [] ks' X W h4 hX
        have g := chkE_ok T D m ml ib sc e X W h3 hX
        cases g1
        cases nm with
        | none => cases h2
        | some nm => exact ⟨.nil, .cons false m ws, rfl, .nil, fun C hC => .cons (g.v hC) (g2 C hC)⟩
      · cases h
theorem chkO_ok (T : St0) (D : Dt) : ∀ (m : Option ME) (ml ib : Bool) (sc : Scope) (e : Option Expr) (X : Cx) (W : WX), chkO D m ml ib sc e = true → XOk T D ml ib sc X W → ∀ C, CfgOk T C → PoOk (fun m e => PE X e (tV T.ex W C.cm (ev C m))) m e
  | none, ml, ib, sc, e, X, W, h, hX => by
    unfold chkO at h
    rw [Option.isNone_iff_eq_none] at h
    subst h
    exact fun _ _ => .none
  | some m, ml, ib, sc, e, X, W, h, hX => by
    unfold chkO at h
    split at h
    · rename_i x
      have g := chkE_ok T D m ml ib sc x X W h hX
      exact fun C hC => .some (g.v hC)
    · cases h
theorem chkI_ok (T : St0) (D : Dt) : ∀ (it : IT) (ml ib : Bool) (sc : Scope) (tg e : Expr) (X : Cx) (W : WX), chkI D it ml ib sc tg e = true → XOk T D ml ib sc X W → (∀ C, CfgOk T C → PI X tg e (tI T.ex W C.cm (evW C it))) ∧ isSet e = false
  | .val m, ml, ib, sc, tg, e, X, W, h, hX => by
    unfold chkI at h
    rw [Bool.and_eq_true, Bool.not_eq_true'] at h
    have g := chkE_ok T D m ml ib sc e X W h.2 hX
    exact ⟨fun C hC => i_val (g.v hC), h.1⟩
  | .by_ b es, ml, ib, sc, tg, e, X, W, h, hX => by
    unfold chkI at h
    split at h
    · rename_i g xs ks hx
      refine ⟨fun C hC => ?_, asCall_set hx⟩
      obtain ⟨p0, p, rfl⟩ := asCall_ok hx
      simp only [Bool.and_eq_true] at h
      obtain ⟨⟨⟨h1, h2⟩, h3⟩, h4⟩ := h
      rw [List.isEmpty_iff] at h1
      subst h1
      have gs := chkEs_ok T D es ml ib sc xs X W h3 hX
      have hb : 0 < C.cm := Nat.lt_of_le_of_lt (Nat.zero_le _) hC.2.1
      have ha := a_es (b := C.cm) (gs.v hC)
      have hpl := gs.plain
      have hn := gs.num
      have hg := hX.gl h2
      cases b with
      | range =>
        simp only [Bool.and_eq_true] at h4
        obtain ⟨⟨k1, k2⟩, k3⟩ := h4
        obtain rfl := of_decide_eq_true k1
        have k2 := of_decide_eq_true k2
        have k3 := of_decide_eq_true k3
        have hm := hX.mgB "range" (by simp [bnames])
        match xs, k2, k3, ha, hpl, hn with
        | [e1], _, _, ha, hpl, hn => exact i_rng1 hg hm hn ha (hpl _ (by simp))
        | [e1, e2], _, _, ha, hpl, hn => exact i_rng2 hg hm hn ha (hpl _ (by simp)) (hpl _ (by simp))
        | [e1, e2, e3], _, _, ha, hpl, hn => exact i_rng3 hg hm hn ha (hpl _ (by simp)) (hpl _ (by simp)) (hpl _ (by simp))
        | [], k2, _, _, _, _ => exact absurd k2 (by simp)
        | _ :: _ :: _ :: _ :: _, _, k3, _, _, _ => exact absurd k3 (by simp only [List.length_cons]; omega)
      | zip =>
        simp only [Bool.and_eq_true] at h4
        obtain ⟨⟨k1, k2⟩, k3⟩ := h4
        obtain rfl := of_decide_eq_true k1
        have k2 := of_decide_eq_true k2
        have hm := hX.mgB "zip" (by simp [bnames])
        obtain ⟨tes, ht⟩ := Option.isSome_iff_exists.mp k3
        obtain ⟨tk, tp, rfl⟩ := asTup_ok ht
        match xs, k2, ha, hpl, hn with
        | [e1, e2], _, ha, hpl, hn => exact i_zip hb hg hm ha (hpl _ (by simp)) (hpl _ (by simp)) hn
      | enumerate =>
        simp only [Bool.and_eq_true] at h4
        obtain ⟨⟨k1, k2⟩, k3⟩ := h4
        obtain rfl := of_decide_eq_true k1
        have k2 := of_decide_eq_true k2
        have hm := hX.mgB "enumerate" (by simp [bnames])
        obtain ⟨tes, ht⟩ := Option.isSome_iff_exists.mp k3
        obtain ⟨tk, tp, rfl⟩ := asTup_ok ht
        match xs, k2, ha, hpl, hn with
        | [e1], _, ha, hpl, hn => exact i_enum hb hg hm hn ha (hpl _ (by simp))
      | zipl => cases h4
    · cases h
  | .items o, ml, ib, sc, tg, e, X, W, h, hX => by
    unfold chkI at h
    split at h
    · rename_i x nm xs hx
      refine ⟨fun C hC => ?_, asMeth_set hx⟩
      obtain ⟨apos, pos, rfl, hln⟩ := asMeth_ok hx
      simp only [Bool.and_eq_true] at h
      obtain ⟨⟨⟨⟨h1, h2⟩, h3⟩, h4⟩, h5⟩ := h
      obtain rfl := of_decide_eq_true h1
      rw [List.isEmpty_iff] at h2
      subst h2
      obtain ⟨tes, ht⟩ := Option.isSome_iff_exists.mp h4
      obtain ⟨tk, tp, rfl⟩ := asTup_ok ht
      have g := chkE_ok T D o ml ib sc x X W h5 hX
      exact i_items (Nat.lt_of_le_of_lt (Nat.zero_le _) hC.2.1) (g.v hC) h3 hln
    · cases h
theorem chkZ_ok (T : St0) (D : Dt) : ∀ (it : IT) (ml ib : Bool) (sc : Scope) (tg e : Expr) (X : Cx) (W : WX), chkZ D it ml ib sc tg e = true → XOk T D ml ib sc X W → (∀ C, CfgOk T C → PIH X tg e (tI T.ex W C.cm (evW C it))) ∧ isSet e = false
  | .val m, ml, ib, sc, tg, e, X, W, h, hX => by
    unfold chkZ at h
    cases h
  | .items m, ml, ib, sc, tg, e, X, W, h, hX => by
    unfold chkZ at h
    cases h
  | .by_ b es, ml, ib, sc, tg, e, X, W, h, hX => by
    unfold chkZ at h
    split at h
    · rename_i g xs ks hx
      refine ⟨fun C hC => ?_, asCall_set hx⟩
      obtain ⟨p0, p, rfl⟩ := asCall_ok hx
      simp only [Bool.and_eq_true] at h
      obtain ⟨⟨⟨⟨⟨⟨h0, h1⟩, h2⟩, h3⟩, h4⟩, h5⟩, h6⟩ := h
      obtain rfl := of_decide_eq_true h0
      obtain rfl := of_decide_eq_true h1
      rw [List.isEmpty_iff] at h2
      subst h2
      have k2 := of_decide_eq_true h4
      have gs := chkEs_ok T D es ml ib sc xs X W h6 hX
      have hb : 0 < C.cm := Nat.lt_of_le_of_lt (Nat.zero_le _) hC.2.1
      have ha := a_es (b := C.cm) (gs.v hC)
      have hpl := gs.plain
      have hn := gs.num
      have hg := hX.gl h3
      have hm := hX.mgB "zip" (by simp [bnames])
      obtain ⟨tx, ht⟩ := Option.isSome_iff_exists.mp h5
      obtain ⟨tp, rfl⟩ := asName_ok ht
      match xs, k2, ha, hpl, hn with
      | [e1, e2], _, ha, hpl, hn => exact i_zipN rfl hb hg hm ha (hpl _ (by simp)) (hpl _ (by simp)) hn
    · cases h
end
end
end Mv

end
section
set_option Elab.async false
set_option linter.all false
set_option autoImplicit false
set_option maxRecDepth 100000
namespace Mv
open PySem PySem.Spec L2

/-- what an assignment of a comprehension does with the name's old thing -/
def swB (sc : Scope) (x : Str) (ln : Nat) : Expr → Bool
  | .ListComp _ _ s p => lclB sc x && (ln == p.line) && !(s.names.any fun (n, k) => n == x && (k == .local || k == .cell))
  | _ => false
def notComp : Expr → Bool
  | .ListComp _ _ _ _ => false
  | .SetComp _ _ _ _ => false
  | .DictComp _ _ _ _ _ => false
  | _ => true
def okComp : Expr → Bool
  | .SetComp _ _ _ _ => false
  | .DictComp _ _ _ _ _ => false
  | _ => true
theorem sw_no {a : Expr} {t : Option Expr} {l : Nat} {env : PySem.Env} (h : notComp a = true) : swapsWith a t l env = pure false := by
  cases a <;> first | rfl | cases h
theorem sw_tgt {a tg : Expr} {l : Nat} {env : PySem.Env} (h : asName tg = none) : swapsWith a (some tg) l env = pure false := by
  cases a <;> first | rfl | (cases tg <;> first | rfl | cases h)
theorem sw_name {a : Expr} {x : Str} {p : Pos} {l : Nat} {env : PySem.Env} {sc : Scope} (hs : env.scope = sc) (hk : env.scope.kind = .function) (h : okComp a = true) : swapsWith a (some (.Name x p)) l env = pure (swB sc x p.line a) := by
  cases a <;> first | rfl | (cases h; done) | skip
  rename_i elt gs scope pos
  have hb : env.blockKind = .function := by unfold PySem.Env.blockKind; rw [hk]; rfl
  unfold swapsWith swB
  have hl : lclB sc x = (env.kindOf x == some .local) := by
    unfold lclB PySem.Env.kindOf
    rw [hs]
    cases sc.names.lookup x with
    | none => rfl
    | some k => cases k <;> rfl
  rw [hl]
  simp only [hb, Expr.pos]
  rfl
def isStarred : Expr → Bool
  | .Starred .. => true
  | _ => false
/-- the names of an assignment of several to several, where the text's stores are swapped; none: not served -/
def swStB (sc : Scope) (ts vs : List Expr) : Option (Option (List Str)) :=
  if (!(ts.length == 2 || ts.length == 3) || vs.length != ts.length) = true then some none
  else if (vs.any isStarred) = true then some none
  else
    let line := (ts.head?.map (·.pos.line)).getD 0
    let names := ts.filterMap fun
      | .Name id pos => if (lclB sc id && pos.line == line) = true then some id else none
      | _ => none
    if (names.length != ts.length || names.eraseDups.length != names.length) = true then some none
    else if (vs.all (foldedForSure 8)) = true then some none
    else if (vs.all (constantsAlone 8)) = true then none
    else some (some names)
theorem swSt_ok {ts vs : List Expr} {k k2 : Nat} {p p2 : Pos} {env : PySem.Env} {sc : Scope} {r : Option (List Str)} (hs : env.scope = sc) (hk : env.scope.kind = .function) (h : swStB sc ts vs = some r) : swappedStores [.Tuple ts k p] (.Tuple vs k2 p2) env = pure r := by
  have hb : env.blockKind = .function := by unfold PySem.Env.blockKind; rw [hk]; rfl
  have hl : ∀ x, (env.kindOf x == some .local) = lclB sc x := fun x => by
    unfold lclB PySem.Env.kindOf
    rw [hs]
    cases sc.names.lookup x with
    | none => rfl
    | some k => cases k <;> rfl
  unfold swStB at h
  unfold swappedStores
  simp only [hb, hl]
  have hne : (ScopeKind.function != ScopeKind.function) = false := rfl
  rw [hne, Bool.or_false]
  by_cases c1 : (!(ts.length == 2 || ts.length == 3) || vs.length != ts.length) = true
  · rw [if_pos c1] at h
    rw [if_pos c1]
    cases h
    rfl
  rw [if_neg c1] at h
  rw [if_neg c1]
  by_cases c2 : (vs.any isStarred) = true
  · rw [if_pos c2] at h
    cases h
    refine (if_pos ?_).trans rfl
    refine Eq.trans ?_ c2
    congr 1
  rw [if_neg c2] at h
  refine (if_neg fun z => c2 ?_).trans ?_
  · refine Eq.trans ?_ z
    congr 1
  simp only [] at h
  split at h
  · rename_i c3
    cases h
    exact (if_pos c3).trans rfl
  rename_i c3
  refine (if_neg c3).trans ?_
  split at h
  · rename_i c4
    cases h
    exact (if_pos c4).trans rfl
  rename_i c4
  refine (if_neg c4).trans ?_
  split at h
  · cases h
  rename_i c5
  refine (if_neg c5).trans ?_
  cases h
  rfl
end Mv

end
section
set_option Elab.async false
set_option linter.all false
set_option autoImplicit false
set_option maxRecDepth 100000
namespace Mv
open PySem PySem.Spec L2

def asExprS : Stmt → Option (Expr × Pos)
  | .Expr a p => some (a, p)
  | _ => none
theorem asExprS_ok {st : Stmt} {a : Expr} {p : Pos} (h : asExprS st = some (a, p)) : st = .Expr a p := by
  cases st <;> first | (cases h; done) | (cases h; rfl)
def asAsg : Stmt → Option (Expr × Expr)
  | .Assign [t] a _ => some (t, a)
  | _ => none
theorem asAsg_ok {st : Stmt} {t a : Expr} (h : asAsg st = some (t, a)) : ∃ p, st = .Assign [t] a p := by
  unfold asAsg at h
  split at h
  · cases h; exact ⟨_, rfl⟩
  · cases h
def asIf : Stmt → Option (Expr × List Stmt × List Stmt)
  | .If c a b _ => some (c, a, b)
  | _ => none
theorem asIf_ok {st : Stmt} {c : Expr} {a b : List Stmt} (h : asIf st = some (c, a, b)) : ∃ p, st = .If c a b p := by
  cases st <;> first | (cases h; done) | (cases h; exact ⟨_, rfl⟩)
def asWhl : Stmt → Option (Expr × List Stmt)
  | .While c a [] _ => some (c, a)
  | _ => none
theorem asWhl_ok {st : Stmt} {c : Expr} {a : List Stmt} (h : asWhl st = some (c, a)) : ∃ p, st = .While c a [] p := by
  unfold asWhl at h
  split at h
  · cases h; exact ⟨_, rfl⟩
  · cases h
def asFor : Stmt → Option (Expr × Expr × List Stmt)
  | .For tg it b [] _ => some (tg, it, b)
  | _ => none
theorem asFor_ok {st : Stmt} {tg it : Expr} {a : List Stmt} (h : asFor st = some (tg, it, a)) : ∃ p, st = .For tg it a [] p := by
  unfold asFor at h
  split at h
  · cases h; exact ⟨_, rfl⟩
  · cases h
def asRet : Stmt → Option (Option Expr)
  | .Return e _ => some e
  | _ => none
theorem asRet_ok {st : Stmt} {e : Option Expr} (h : asRet st = some e) : ∃ p, st = .Return e p := by
  cases st <;> first | (cases h; done) | (cases h; exact ⟨_, rfl⟩)
def asRaise : Stmt → Option (Str × Expr)
  | .Raise (some (.Call (.Name cn _) [a] [] _)) none _ => some (cn, a)
  | _ => none
theorem asRaise_ok {st : Stmt} {cn : Str} {a : Expr} (h : asRaise st = some (cn, a)) : ∃ p p1 p2, st = .Raise (some (.Call (.Name cn p) [a] [] p1)) none p2 := by
  unfold asRaise at h
  split at h
  · cases h; exact ⟨_, _, _, rfl⟩
  · cases h
def isPass : Stmt → Bool
  | .Pass _ => true
  | _ => false
theorem isPass_ok {st : Stmt} (h : isPass st = true) : ∃ p, st = .Pass p := by
  cases st <;> first | (cases h; done) | (exact ⟨_, rfl⟩)
def nameP : Expr → Option (Str × Nat)
  | .Name x p => some (x, p.line)
  | _ => none
theorem nameP_ok {e : Expr} {x : Str} {l : Nat} (h : nameP e = some (x, l)) : ∃ p, e = .Name x p ∧ p.line = l := by
  cases e <;> first | (cases h; done) | (cases h; exact ⟨_, rfl, rfl⟩)
/-- name = e -/
def setB (D : Dt) (ml : Bool) (sc : Scope) (i : Nat) (m : ME) (t a : Expr) : Bool := match nameP t with
  | some (x, ln) => decide (D.N[i]? = some x) && locB sc x && okComp a && chkE D m ml false sc a && (!swB sc x ln a || (match m with
    | .lc _ _ (.by_ .zipl _) _ _ => false
    | .lc _ _ _ _ _ => true
    | _ => false))
  | none => false
/-- the two of a swapped assignment -/
def two? : List Expr → Option (Str × Str)
  | [.Name x _, .Name y _] => some (x, y)
  | _ => none
theorem two?_ok {ts : List Expr} {x y : Str} (h : two? ts = some (x, y)) : ∃ p q, ts = [.Name x p, .Name y q] := by
  unfold two? at h
  split at h
  · cases h; exact ⟨_, _, rfl⟩
  · cases h
def three? : List Expr → Option (Str × Str × Str)
  | [.Name x _, .Name y _, .Name z _] => some (x, y, z)
  | _ => none
theorem three?_ok {ts : List Expr} {x y z : Str} (h : three? ts = some (x, y, z)) : ∃ p q r, ts = [.Name x p, .Name y q, .Name z r] := by
  unfold three? at h
  split at h
  · cases h; exact ⟨_, _, _, rfl⟩
  · cases h
def parB (D : Dt) (ml : Bool) (sc : Scope) (is : List (Nat × Bool)) (es : Es) (t a : Expr) : Bool := match asTup t with
  | some ts => match asTup a with
    | some vs => chkEs D es ml false sc vs && (match swStB sc ts vs with
      | some none => tgB D.N (fun _ => true) sc (tgOf is) t && decide (is.length ≤ 30)
      | some (some names) => (match two? ts with
        | some (x, y) => (match is with
          | [(i, _), (j, _)] => decide (D.N[i]? = some x) && decide (D.N[j]? = some y) && decide (i ≠ j) && lclB sc x && lclB sc y && decide (names = [x, y])
          | _ => false)
        | none => match three? ts with
          | some (x, y, z) => (match is with
            | [(i, _), (j, _), (l, _)] => decide (D.N[i]? = some x) && decide (D.N[j]? = some y) && decide (D.N[l]? = some z) && decide (i ≠ j) && decide (i ≠ l) && decide (j ≠ l) && lclB sc x && lclB sc y && lclB sc z && decide (names = [x, y, z])
            | _ => false)
          | none => false)
      | none => false)
    | none => false
  | none => false
/-- x.nm(a), a statement -/
def methB (D : Dt) (ml : Bool) (sc : Scope) (i : Nat) (m : ME) (nm : Str) (a : Expr) : Bool := match asMeth a with
  | some (o, n, es) => decide (n = nm) && (match asName o with
    | some x => decide (D.N[i]? = some x) && visB sc x && dunB x
    | none => false) && (match es with
    | [e] => !isStar e && chkE D m ml false sc e
    | _ => false)
  | none => false
mutual
def chkS (D : Dt) : MS → Bool → Scope → Stmt → Bool
  | .expr m, ml, sc, st => match asExprS st with
    | some (a, _) => notComp a && chkE D m ml false sc a
    | none => false
  | .set i own m, ml, sc, st => match asAsg st with
    | some (t, a) => setB D ml sc i m t a
    | none => false
  | .setR i own m, ml, sc, st => match asAsg st with
    | some (t, a) => setB D ml sc i m t a
    | none => false
  | .setT t m, ml, sc, st => match asAsg st with
    | some (tg, a) => (asTup tg).isSome && (asTup a).isNone && tgB D.N (fun _ => true) sc t tg && chkE D m ml false sc a
    | none => false
  | .par is es, ml, sc, st => match asAsg st with
    | some (tg, a) => parB D ml sc is es tg a
    | none => false
  | .setSub i ix m, ml, sc, st => match asAsg st with
    | some (tg, a) => (match asSub tg with
      | some (o, j) => !isSlice j && (match asName o with
        | some x => decide (D.N[i]? = some x) && visB sc x && dunB x
        | none => false) && chkE D m ml false sc a && chkE D ix ml false sc j
      | none => false)
    | none => false
  | .setCell o ix m, ml, sc, st => match asAsg st with
    | some (tg, a) => (match asSub tg with
      | some (x, j) => !isSlice j && chkE D m ml false sc a && chkE D o ml false sc x && chkE D ix ml false sc j
      | none => false)
    | none => false
  | .append i m, ml, sc, st => match asExprS st with
    | some (a, _) => methB D ml sc i m "append" a
    | none => false
  | .extend i m, ml, sc, st => match asExprS st with
    | some (a, _) => methB D ml sc i m "extend" a
    | none => false
  | .pop _ _ _, _, _, _ => false
  | .ifS c A B, ml, sc, st => match asIf st with
    | some (x, as, bs) => tstM c && chkE D c ml false sc x && chkSs D A ml sc as && chkSs D B ml sc bs
    | none => false
  | .whl c B, ml, sc, st => match asWhl st with
    | some (x, as) => tstM c && chkE D c ml false sc x && chkSs D B ml sc as
    | none => false
  | .for_ t it B, ml, sc, st => match asFor st with
    | some (tg, iter, as) => tgB D.N (fun _ => true) sc t tg && chkI D it ml false sc tg iter && chkSs D B ml sc as
    | none => false
  | .ret m, ml, sc, st => match asRet st with
    | some e => chkO D m ml false sc e
    | none => false
  | .raise c m, ml, sc, st => match asRaise st with
    | some (cn, a) => decide (cn = c) && decide (cn ∈ D.exs) && glB sc cn && dunB cn && !isStar a && chkE D m ml false sc a
    | none => false
  | .pass, _, _, st => isPass st
  | .frz _, _, _, _ => false
  | .spoil m, ml, sc, st => match asExprS st with
    | some (a, _) => (match asCall a with
      | some (g, es, ks) => D.sp && decide (g = ("_law_spoilt" : Str)) && glB sc g && ks.isEmpty && (match es with
        | [e] => !isStar e && chkE D m ml false sc e
        | _ => false)
      | none => false)
    | none => false
  | .dead, _, _, _ => true
def chkSs (D : Dt) : Ss → Bool → Scope → List Stmt → Bool
  | .nil, _, _, sts => sts.isEmpty
  | .cons s r, ml, sc, sts => match s with
    | .frz _ => chkSs D r ml sc sts
    | _ => match sts with
      | st :: sts' => chkS D s ml sc st && chkSs D r ml sc sts'
      | [] => false
end
end Mv

end
section
set_option Elab.async false
set_option linter.all false
set_option autoImplicit false
set_option maxRecDepth 100000
namespace Mv
open PySem PySem.Spec L2
variable [Tbs]

abbrev lateV : V := .str "late"
/-- the frozen part, its lists of a colour from lo on with so many more behind -/
def SpH (F : FHp) (lo M : Nat) (H : Hp) : Prop := ∀ a c o, F a = some (c, o) → (c < lo → H a = some o) ∧ (lo ≤ c → ∀ vs, o = .lst vs → ∃ m, m ≤ M ∧ H a = some (.lst (vs ++ List.replicate m lateV)))
/-- what may have been changed: lists within things smaller than s -/
def SpT (F : FHp) (ι : List Addr) (lo s : Nat) (H H' : Hp) : Prop := ∀ a, H a ≠ none → H' a = H a ∨ ∃ v' c vs, dep v' < s ∧ spOk lo v' = true ∧ RV F ι v' (.ref a) ∧ F a = some (c, .lst vs) ∧ lo ≤ c
def spSpoil (n : Nat) : Sp := fun us H Q _ => ∃ (F : FHp) (ι : List Addr) (v : MV) (x : V) (lo M : Nat), us = [x] ∧ 0 < lo ∧ RV F ι v x ∧ spOk lo v = true ∧ dep v < n ∧ M + nodes v ≤ 4194304 ∧ SpH F lo M H ∧
  ∀ H', SpT F ι lo (dep v + 1) H H' → SpH F lo (M + nodes v) H' → Q .non H'
theorem SpT.refl {F : FHp} {ι : List Addr} {lo s : Nat} {H : Hp} : SpT F ι lo s H H := fun a h => .inl rfl
theorem SpH.dom {F : FHp} {lo M : Nat} {H : Hp} (h : SpH F lo M H) {a : Addr} {c : Nat} {vs : List V} (e : F a = some (c, .lst vs)) (hc : lo ≤ c) : H a ≠ none := by
  obtain ⟨m, _, q⟩ := (h a c _ e).2 hc vs rfl
  rw [q]
  exact fun z => nomatch z
theorem SpT.trans {F : FHp} {ι : List Addr} {lo s M : Nat} {H H1 H2 : Hp} (t : SpT F ι lo s H H1) (h1 : SpH F lo M H1) (u : SpT F ι lo s H1 H2) : SpT F ι lo s H H2 := fun a ha => by
  rcases t a ha with e | ⟨v', c, vs, e1, e2, e3, e4, e5⟩
  · rcases u a (by rw [e]; exact ha) with e' | q
    · exact .inl (e'.trans e)
    · exact .inr q
  · exact .inr ⟨v', c, vs, e1, e2, e3, e4, e5⟩
theorem SpT.mono {F : FHp} {ι : List Addr} {lo s s' : Nat} {H H1 : Hp} (t : SpT F ι lo s H H1) (h : s ≤ s') : SpT F ι lo s' H H1 := fun a ha => by
  rcases t a ha with e | ⟨v', c, vs, e1, e2, e3, e4, e5⟩
  · exact .inl e
  · exact .inr ⟨v', c, vs, Nat.lt_of_lt_of_le e1 h, e2, e3, e4, e5⟩
theorem SpT.new {F : FHp} {ι : List Addr} {lo s : Nat} {H : Hp} {p : Addr} {o : HO} (h : H p = none) : SpT F ι lo s H (L2.upd H p o) := fun a ha => .inl (upd_ne (fun z => ha (by rw [z]; exact h)))
theorem SpH.new {F : FHp} {lo M : Nat} {H : Hp} (k : SpH F lo M H) {p : Addr} {o : HO} (h : H p = none) : SpH F lo M (L2.upd H p o) := fun a c u e => by
  obtain ⟨k1, k2⟩ := k a c u e
  refine ⟨fun hc => ?_, fun hc vs e' => ?_⟩
  · have := k1 hc
    rw [upd_ne (ne_of_none this h)]
    exact this
  · obtain ⟨m, h1, h2⟩ := k2 hc vs e'
    exact ⟨m, h1, by rw [upd_ne (ne_of_none h2 h)]; exact h2⟩
theorem SpH.mono {F : FHp} {lo M M' : Nat} {H : Hp} (k : SpH F lo M H) (h : M ≤ M') : SpH F lo M' H := fun a c u e => by
  obtain ⟨k1, k2⟩ := k a c u e
  refine ⟨k1, fun hc vs e' => ?_⟩
  obtain ⟨m, h1, h2⟩ := k2 hc vs e'
  exact ⟨m, Nat.le_trans h1 h, h2⟩

theorem spOk_lst {lo c : Nat} {xs : List MV} (h : spOk lo (.lst c xs) = true) : lo ≤ c ∧ xs.length ≤ 4194304 ∧ spOkL lo xs = true := by
  have h' : (decide (lo ≤ c) && decide (xs.length ≤ 4194304) && spOkL lo xs) = true := h
  rw [Bool.and_eq_true, Bool.and_eq_true] at h'
  exact ⟨of_decide_eq_true h'.1.1, of_decide_eq_true h'.1.2, h'.2⟩
mutual
theorem rv_uniq {F : FHp} {ι : List Addr} {lo : Nat} : ∀ {v v' : MV} {x : V}, RV F ι v x → RV F ι v' x → spOk lo v = true → spOk lo v' = true → v = v'
  | _, _, _, .non, r, h1, h2 => by cases r; rfl
  | _, _, _, .bl b, r, h1, h2 => by cases r; rfl
  | _, _, _, .int i, r, h1, h2 => by cases r; rfl
  | _, _, _, .str i, r, h1, h2 => by cases r; rfl
  | _, _, _, .lst f1 r1, r, h1, h2 => by
    cases r with
    | lst f2 r2 =>
      rw [f1] at f2
      cases f2
      rw [rvl_uniq r1 r2 (spOk_lst h1).2.2 (spOk_lst h2).2.2]
    | tup f2 r2 => rw [f1] at f2; cases f2
    | dK f2 r2 => cases h2
    | dT f2 r2 => cases h2
    | ptr _ => cases h2
    | scr _ _ => cases h2
  | _, _, _, .tup f1 r1, r, h1, h2 => by
    cases r with
    | tup f2 r2 =>
      rw [f1] at f2
      cases f2
      rw [rvl_uniq r1 r2 h1 h2]
    | lst f2 r2 => rw [f1] at f2; cases f2
    | dK f2 r2 => cases h2
    | dT f2 r2 => cases h2
    | ptr _ => cases h2
    | scr _ _ => cases h2
  | _, _, _, .dK _ _, _, h1, _ => by cases h1
  | _, _, _, .dT _ _, _, h1, _ => by cases h1
  | _, _, _, .ptr _, _, h1, _ => by cases h1
  | _, _, _, .scr _ _, _, h1, _ => by cases h1
theorem rvl_uniq {F : FHp} {ι : List Addr} {lo : Nat} : ∀ {v v' : List MV} {x : List V}, RVL F ι v x → RVL F ι v' x → spOkL lo v = true → spOkL lo v' = true → v = v'
  | _, _, _, .nil, r, h1, h2 => by cases r; rfl
  | _, _, _, .cons a r, r', h1, h2 => by
    cases r' with
    | cons a' r' =>
      have h1' := Bool.and_eq_true_iff.mp (show (spOk lo _ && spOkL lo _) = true from h1)
      have h2' := Bool.and_eq_true_iff.mp (show (spOk lo _ && spOkL lo _) = true from h2)
      rw [rv_uniq a a' h1'.1 h2'.1, rvl_uniq r r' h1'.2 h2'.2]
end
theorem spOkL_get {lo : Nat} : ∀ {xs : List MV} {i : Nat} {x : MV}, spOkL lo xs = true → xs[i]? = some x → spOk lo x = true
  | [], i, x, h, e => by simp at e
  | y :: ys, 0, x, h, e => by
    simp at e; subst e
    exact (Bool.and_eq_true_iff.mp (show (spOk lo _ && spOkL lo _) = true from h)).1
  | y :: ys, i + 1, x, h, e => spOkL_get (i := i) (Bool.and_eq_true_iff.mp (show (spOk lo _ && spOkL lo _) = true from h)).2 (by simpa using e)
theorem depL_get : ∀ {xs : List MV} {i : Nat} {x : MV}, xs[i]? = some x → dep x ≤ depL xs
  | [], i, x, e => by simp at e
  | y :: ys, 0, x, e => by
    simp at e; subst e
    exact Nat.le_max_left _ _
  | y :: ys, i + 1, x, e => Nat.le_trans (depL_get (i := i) (by simpa using e)) (Nat.le_max_right _ _)
/-- of the first i of them -/
def nodesTo (xs : List MV) (i : Nat) : Nat := nodesL (xs.take i)
theorem nodesL_app : ∀ {xs ys : List MV}, nodesL (xs ++ ys) = nodesL xs + nodesL ys
  | [], ys => (Nat.zero_add _).symm
  | x :: xs, ys => by
    show nodes x + nodesL (xs ++ ys) = nodes x + nodesL xs + nodesL ys
    rw [nodesL_app]
    omega
theorem nodesTo_step {xs : List MV} {i : Nat} {x : MV} (e : xs[i]? = some x) : nodesTo xs (i + 1) = nodesTo xs i + nodes x := by
  unfold nodesTo
  rw [List.take_add_one, e, nodesL_app]
  rfl
theorem nodesTo_le {xs : List MV} {i : Nat} : nodesTo xs i ≤ nodesL xs := by
  have : nodesL (xs.take i ++ xs.drop i) = nodesL (xs.take i) + nodesL (xs.drop i) := nodesL_app
  rw [List.take_append_drop] at this
  unfold nodesTo
  omega
theorem nodesTo_all {xs : List MV} {i : Nat} (h : xs.length ≤ i) : nodesTo xs i = nodesL xs := by
  unfold nodesTo
  rw [List.take_of_length_le h]

section
variable {X : Cx} {W : WX} {j : Nat} {fa : Addr} {fd : FuncData} {p1 f : Str} {sp : Sp} {e : Expr} {te : TE} {p0 pos : Pos}
theorem pe_call1G (F : FnG X.prog X.w X.K X.mg X.base (L2.CX X.prog X.w) j fa fd [p1] sp) (hr : RoomG j X.A) (hg : Gl X f) (hm : X.mg f = some (.ref fa)) (hk : PySem.W.keepIn X.K (.ref fa) = true)
    (hb : KB fd [p1] [] 1 []) (tk : Takes X W) (he : PE X e te) (hns : isStar e = false) (hdb : (f == ("__debug__" : Str)) = false) :
    PE X (.Call (.Name f p0) [e] [] pos) (fun σ H Q => te σ H fun x H1 => sp [x] H1 Q (WE W σ)) := by
  refine ⟨fun pins s σ H Q I h => ?_⟩
  refine wpAny_Call_Name_kw (ld_glob I hg hm ?_ hdb)
  refine PySem.W.callWith_K (h₀ := X.base) I.ok.mod.kin hk (thn ((pa_cons he pa_nil (starEach_ns hns)).run pos pins s σ H (fun us H1 => ∃ x, us = [x] ∧ sp [x] H1 Q (WE W σ)) I ?_) fun us s1 ⟨vs, H1, I1, r1, x, e1, q1⟩ => ?_) (starEach_ns hns) rfl
  · have h' : te σ H fun x H1 => sp [x] H1 Q (WE W σ) := h
    refine show te σ H _ from ?_
    revert h'
    have : (fun x H1 => sp [x] H1 Q (WE W σ)) = (fun v H1 => ∃ x, [v] = [x] ∧ sp [x] H1 Q (WE W σ)) := by
      funext v H1
      apply propext
      constructor
      · exact fun h => ⟨v, rfl, h⟩
      · rintro ⟨x, e, h⟩
        cases e
        exact h
    rw [this]
    exact id
  · subst e1
    refine ⟨I1.kIn, ?_⟩
    cases r1 with
    | cons rv rn =>
      cases rn
      exact run_fnG (args := ⟨[_], []⟩) F hr (BindsTo.of_eq (hb [_] [] rfl rfl)) (passAt tk σ) I1 (.cons rv .nil) q1
end
def isi1B (sc : Scope) (x0 : Str) (c : Ty) (e : Expr) : Bool := match asCall e with
  | some (g, es, ks) => decide (g = ("isinstance" : Str)) && ks.isEmpty && glB sc "isinstance" && (match es with
    | [x, y] => decide (asName x = some x0) && tyB sc c y
    | _ => false)
  | none => false
def isiTB (sc : Scope) (x0 : Str) (cs : List Ty) (e : Expr) : Bool := match asCall e with
  | some (g, es, ks) => decide (g = ("isinstance" : Str)) && ks.isEmpty && glB sc "isinstance" && (match es with
    | [x, y] => decide (asName x = some x0) && (match asTup y with
      | some ys => tysB sc cs ys
      | none => false)
    | _ => false)
  | none => false
def spForB (sc : Scope) (st : Stmt) : Bool := match asFor st with
  | some (tg, it, [b]) => decide (asName tg = some "part") && decide (asName it = some "thing") && (match asExprS b with
    | some (a, _) => (match asCall a with
      | some (g, [x], []) => decide (g = ("_law_spoilt" : Str)) && decide (asName x = some "part")
      | _ => false)
    | none => false)
  | _ => false
def spAppB (sc : Scope) (st : Stmt) : Bool := match asExprS st with
  | some (a, _) => (match asMeth a with
    | some (o, nm, [c]) => decide (asName o = some "thing") && decide (nm = ("append" : Str)) && (match asConst c with
      | some (.str x) => decide (x = ("late" : Str))
      | _ => false)
    | _ => false)
  | none => false
def spB (sc : Scope) (body : List Stmt) : Bool := match body with
  | [s1, s2, s3] => (match asIf s1 with
    | some (c1, _, []) => isi1B sc "thing" .dict c1
    | _ => false) && (match asIf s2 with
    | some (c2, [b2], []) => isiTB sc "thing" [.list, .tuple] c2 && spForB sc b2
    | _ => false) && (match asIf s3 with
    | some (c3, [b3], []) => isi1B sc "thing" .list c3 && spAppB sc b3
    | _ => false) && visB sc "thing" && locB sc "part" && glB sc "_law_spoilt"
  | _ => false
section
variable {X : Cx} {i : Nat} {x0 : Str}
theorem pt_isi1 {c : Ty} {e : Expr} (hsc : isi1B X.env.scope x0 c e = true) (hN : X.N[i]? = some x0) (hv : Vis X.env.scope x0) (hd : dunB x0 = true) (hm : ∀ b ∈ bnames, X.mg b = none) : PT X e (fun σ H Q => ∃ x tn t, σ[i]? = some (some x) ∧ TyX X.K H x tn ∧ PySem.W.kitOne X.K tn (.type (tyName c)) = some t ∧ Q t H) := by
  unfold isi1B at hsc
  split at hsc
  · rename_i g es ks hx
    obtain ⟨p0, p, rfl⟩ := asCall_ok hx
    simp only [Bool.and_eq_true] at hsc
    obtain ⟨⟨⟨h1, h2⟩, h3⟩, h4⟩ := hsc
    obtain rfl := of_decide_eq_true h1
    rw [List.isEmpty_iff] at h2
    subst h2
    split at h4
    · rename_i x y
      rw [Bool.and_eq_true] at h4
      obtain ⟨q, rfl⟩ := asName_ok (of_decide_eq_true h4.1)
      have h5 := h4.2
      unfold tyB at h5
      split at h5
      · rename_i z hz
        obtain ⟨q2, rfl⟩ := asName_ok hz
        rw [Bool.and_eq_true] at h5
        obtain rfl := of_decide_eq_true h5.1
        have hmc : X.mg (tyName c) = none := hm _ (by cases c <;> simp [bnames, tyName])
        refine PT.imp (pt_truth (pe_callB call_isi (glB_ok h3) (hm _ (by simp [bnames])) (by decide +kernel) (pa_cons (pe_var hN hv (dunB_ok hd).1 (dunB_ok hd).2) (pa_cons (pe_ty (glB_ok h5.2) hmc) pa_nil rfl) rfl) (by decide) (by decide) rfl rfl) (fun _ => rfl)) fun σ H Q ⟨x, tn, t, e1, e2, e3, e4⟩ => ?_
        exact ⟨x, e1, x, .ty (tyName c), tn, .type (tyName c), t, rfl, .ty _, e2, e3, t, rfl, e4⟩
      · cases h5
    · cases h4
  · cases hsc
theorem pt_isiT {cs : List Ty} {e : Expr} (hsc : isiTB X.env.scope x0 cs e = true) (hN : X.N[i]? = some x0) (hv : Vis X.env.scope x0) (hd : dunB x0 = true) (hm : ∀ b ∈ bnames, X.mg b = none) (hl : cs.length ≤ sizeLine) :
    PT X e (fun σ H Q => ∃ x, σ[i]? = some (some x) ∧ ∀ tp, H tp = none → ∃ tn t, TyX X.K (L2.upd H tp (.tup (cs.map fun c => V.ty (tyName c)))) x tn ∧ PySem.W.kitAny X.K tn (cs.map fun c => Value.type (tyName c)) = some t ∧ Q t (L2.upd H tp (.tup (cs.map fun c => V.ty (tyName c))))) := by
  unfold isiTB at hsc
  split at hsc
  · rename_i g es ks hx
    obtain ⟨p0, p, rfl⟩ := asCall_ok hx
    simp only [Bool.and_eq_true] at hsc
    obtain ⟨⟨⟨h1, h2⟩, h3⟩, h4⟩ := hsc
    obtain rfl := of_decide_eq_true h1
    rw [List.isEmpty_iff] at h2
    subst h2
    split at h4
    · rename_i x y
      rw [Bool.and_eq_true] at h4
      obtain ⟨q, rfl⟩ := asName_ok (of_decide_eq_true h4.1)
      have h5 := h4.2
      split at h5
      · rename_i ys hz
        obtain ⟨k2, q2, rfl⟩ := asTup_ok hz
        have tys : ∀ {cs : List Ty} {es : List Expr}, tysB X.env.scope cs es = true → TysOk X cs es := by
          intro cs
          induction cs with
          | nil => intro es h; cases es with
            | nil => exact .nil
            | cons _ _ => cases h
          | cons c cs ih => intro es h; cases es with
            | nil => cases h
            | cons e es =>
              have h' := Bool.and_eq_true_iff.mp (show (tyB X.env.scope c e && tysB X.env.scope cs es) = true from h)
              have h1 := h'.1
              unfold tyB at h1
              split at h1
              · rename_i x hx
                obtain ⟨p, rfl⟩ := asName_ok hx
                rw [Bool.and_eq_true] at h1
                have e1 := of_decide_eq_true h1.1
                subst e1
                exact .cons (glB_ok h1.2) (hm _ (by cases c <;> simp [bnames, tyName])) (ih h'.2)
              · cases h1
        refine PT.imp (pt_truth (pe_callB call_isiT (glB_ok h3) (hm _ (by simp [bnames])) (by decide +kernel) (pa_cons (pe_var hN hv (dunB_ok hd).1 (dunB_ok hd).2) (pa_cons (pe_tup (pa_tys (tys h5))) pa_nil rfl) rfl) (by decide) (by decide) rfl rfl) (fun _ => rfl)) fun σ H Q ⟨x, e1, e2⟩ => ?_
        refine ⟨x, e1, by rw [List.length_map]; exact hl, fun tp hp => ?_⟩
        obtain ⟨tn, t, e3, e4, e5⟩ := e2 tp hp
        exact ⟨x, tp, _, tn, _, t, rfl, upd_same, clsv cs, e3, e4, t, rfl, e5⟩
      · cases h5
    · cases h4
  · cases hsc
end
theorem sp_ty {K : PySem.W.Frag} {F : FHp} {ι : List Addr} {lo M : Nat} {H : Hp} {v : MV} {x : V} (s : SpH F lo M H) (h0 : 0 < lo) (r : RV F ι v x) (ho : spOk lo v = true) : ∃ tn : Value, TyX K H x tn ∧ ∀ (c : Ty) (t : Bool), isTy v c = some t → PySem.W.kitOne K tn (.type (tyName c)) = some t := by
  cases r with
  | non => exact ⟨_, .base .non, fun c t h => by cases h; cases c <;> exact kit_ty (by decide +kernel)⟩
  | bl b => exact ⟨_, .base (.bl b), fun c t h => by cases h; cases c <;> exact kit_ty (by decide +kernel)⟩
  | int i => exact ⟨_, .base (.int i), fun c t h => by cases h; cases c <;> exact kit_ty (by decide +kernel)⟩
  | str i => exact ⟨_, .base (.str i), fun c t h => by cases h; cases c <;> exact kit_ty (by decide +kernel)⟩
  | lst hf _ =>
    obtain ⟨m, _, q⟩ := (s _ _ _ hf).2 (spOk_lst ho).1 _ rfl
    exact ⟨_, .base (.lst q), fun c t h => by cases h; cases c <;> exact kit_ty (by decide +kernel)⟩
  | tup hf _ => exact ⟨_, .base (.tup ((s _ _ _ hf).1 h0)), fun c t h => by cases h; cases c <;> exact kit_ty (by decide +kernel)⟩
  | dK hf _ => cases ho
  | dT hf _ => cases ho
  | ptr _ => cases ho
  | scr _ _ => cases ho
end Mv

end
section
set_option Elab.async false
set_option linter.all false
set_option autoImplicit false
set_option maxRecDepth 100000
namespace Mv
open PySem PySem.Spec PyProof.Rows L2
variable [Tbs]
theorem deadS {X : Cx} {sts : List Stmt} : PSs X sts (fun _ _ _ => False) := ⟨fun _ _ _ _ _ _ q => q.elim⟩
theorem dep_pos {F : FHp} {ι : List Addr} {lo c : Nat} {v : MV} {a : Addr} {vs : List V} (r : RV F ι v (.ref a)) (h : F a = some (c, .lst vs)) (ho : spOk lo v = true) : 0 < dep v := by
  cases r with
  | lst f _ => exact Nat.succ_pos _
  | tup f _ => exact Nat.succ_pos _
  | dK f _ => cases ho
  | dT f _ => cases ho
  | ptr _ => cases ho
  | scr _ _ => cases ho
/-- what is walked: things one after the other while P holds -/
def Seqs (J : It) (ws : List V) (P : Hp → Prop) : Prop := ∀ H, P H → (∀ i, i < ws.length → J.go i H ∧ ∀ x H', J.yld i H x H' → H' = H ∧ ws[i]? = some x) ∧ ∀ i, ws.length ≤ i → J.stop i H
theorem seqs_list {K : PySem.W.Frag} {a : Addr} {ws : List V} : Seqs (Itl K a) ws (fun H => H a = some (.lst ws)) := fun H h =>
  ⟨fun i hi => ⟨⟨ws, ws[i], SqL.of h, by simp [hi]⟩, fun x H' ⟨e, q⟩ => ⟨e, q ws (SqL.of h)⟩⟩, fun i hi => ⟨ws, SqL.of h, hi⟩⟩
theorem seqs_tup {K : PySem.W.Frag} {a : Addr} {ws : List V} : Seqs (Itt K a) ws (fun H => H a = some (.tup ws)) := fun H h =>
  ⟨fun i hi => ⟨⟨ws, ws[i], SqT.of h, by simp [hi]⟩, fun x H' ⟨e, q⟩ => ⟨e, q ws (SqT.of h)⟩⟩, fun i hi => ⟨ws, SqT.of h, hi⟩⟩
/-- the loop over the parts -/
theorem sp_loop {F : FHp} {ι : List Addr} {lo M n s : Nat} {J : It} {ws : List V} {P : Hp → Prop} {xs : List MV} {σ : L2.St} {H : Hp} {D : Ends} {x : V} {E : L2.St → XK} (h0 : 0 < lo) (hJ : Seqs J ws P) (r : RVL F ι xs ws) (ho : spOkL lo xs = true) (hd : depL xs < n) (hs : depL xs + 1 ≤ s) (hM : M + nodesL xs ≤ 4194304)
    (hP : ∀ H H', P H → SpT F ι lo s H H' → P H') (hσ : σ[0]? = some (some x)) (hl : σ.length = 3) (hH : SpH F lo M H) (p : P H)
    (fin : ∀ σ' H', σ'[0]? = some (some x) → SpT F ι lo s H H' → SpH F lo (M + nodesL xs) H' → P H' → D.nx σ' H') :
    ∃ W : Nat → Nat → L2.St → Hp → Prop, (∃ m, W 0 m σ H) ∧ ∀ i m σ H, W i m σ H → (J.stop i H ∧ D.nx σ H) ∨ (J.go i H ∧ ∃ N : L2.St → Hp → Prop, (∀ σ' H', N σ' H' → ∃ m', m' < m ∧ W (i + 1) m' σ' H') ∧
      ∀ y H', J.yld i H y H' → gName 2 y σ H' fun σ2 H2 => tDrop (fun σ H Q => tVar 2 σ H fun x H1 => spSpoil n [x] H1 Q (E σ)) { D with nx := N, ct := N, bk := D.nx } σ2 H2) := by
  have hlen := r.length
  refine ⟨fun i m σ' H' => m = ws.length - i ∧ i ≤ ws.length ∧ σ'[0]? = some (some x) ∧ σ'.length = 3 ∧ SpT F ι lo s H H' ∧ SpH F lo (M + nodesTo xs i) H' ∧ P H', ⟨ws.length, rfl, Nat.zero_le _, hσ, hl, SpT.refl, hH, p⟩, ?_⟩
  rintro i m σ1 H1 ⟨rfl, hi, k1, k2, k3, k4, k5⟩
  obtain ⟨j1, j2⟩ := hJ H1 k5
  by_cases hlt : i < ws.length
  · obtain ⟨j3, j4⟩ := j1 i hlt
    refine .inr ⟨j3, fun σ' H' => σ'[0]? = some (some x) ∧ σ'.length = 3 ∧ SpT F ι lo s H H' ∧ SpH F lo (M + nodesTo xs (i + 1)) H' ∧ P H', fun σ' H' ⟨q1, q2, q3, q4, q5⟩ => ⟨ws.length - (i + 1), by omega, rfl, hlt, q1, q2, q3, q4, q5⟩, fun y H' hy => ?_⟩
    obtain ⟨rfl, hw⟩ := j4 y H' hy
    obtain ⟨v, hv, rv⟩ := r.getR hw
    have hst := nodesTo_step hv
    have hle := nodesTo_le (xs := xs) (i := i + 1)
    refine ⟨y, by rw [List.getElem?_set_self (by rw [k2]; decide)], F, ι, v, y, lo, M + nodesTo xs i, rfl, h0, rv, spOkL_get ho hv, Nat.lt_of_le_of_lt (depL_get hv) hd, by omega, k4, fun H2 t2 s2 => ?_⟩
    have t2' : SpT F ι lo s H' H2 := t2.mono (by have := depL_get hv; omega)
    refine ⟨by rw [List.getElem?_set_ne (by decide)]; exact k1, by rw [List.length_set]; exact k2, k3.trans k4 t2', by rw [hst, ← Nat.add_assoc]; exact s2, hP _ _ k5 t2'⟩
  · have hi' : i = ws.length := by omega
    subst hi'
    refine .inl ⟨j2 _ (Nat.le_refl _), fin σ1 H1 k1 k3 ?_ k5⟩
    rw [nodesTo_all (by omega)] at k4
    exact k4
section
variable {P : Program} {w : World} {K : PySem.W.Frag} {mg : Str → Option Value} {base : Heap} {g : Addr}
theorem spoil_body {n : Nat} {scope : Scope} {body : List Stmt} {qual : Str} {cdv : Value} {fd : FuncData} (hk : scope.kind = .function) (hB : spB scope body = true) (hm : ∀ b ∈ bnames, mg b = none) (hg : mg "_law_spoilt" = some (.ref g)) (kg : PySem.W.keepIn K (.ref g) = true) (hb : KB fd ["thing"] [] 1 [])
    (FN : FnG P w K mg base (L2.CX P w) n g fd ["thing"] (spSpoil n)) {A : Around} {outer : List PySem.Env} {s : Shared} {H : Hp} {vs : List V} {Q : VK} {E : XK} (hr : RoomG n (A.deeper (envOfC qual scope s.heap.objs.size g cdv))) (h : spSpoil (n + 1) vs H Q E) :
    ∃ t, PSs (cxOf (L2.CX P w) P w K mg base ["thing", "key", "part"] qual scope g cdv A outer s H E) body t ∧ t { nx := fun _ H' => Q .non H', rt := Q } (L2.start ["thing", "key", "part"] vs) H := by
  obtain ⟨F, ι, v, x, lo, M, rfl, h0, rv, ho, hd, hM, hH, fin⟩ := h
  have tk : Takes (cxOf (L2.CX P w) P w K mg base ["thing", "key", "part"] qual scope g cdv A outer s H E) (WX0 E) := takes_of rfl rfl rfl rfl
  have own : PassesOwn (model P w) (A.deeper (envOfC qual scope s.heap.objs.size g cdv)) (envOfC qual scope s.heap.objs.size g cdv) (cxOf (L2.CX P w) P w K mg base ["thing", "key", "part"] qual scope g cdv A outer s H E).xe := passes_of (X := cxOf (L2.CX P w) P w K mg base ["thing", "key", "part"] qual scope g cdv A outer s H E) rfl
  unfold spB at hB
  split at hB
  rotate_left
  · cases hB
  rename_i s1 s2 s3
  simp only [Bool.and_eq_true] at hB
  obtain ⟨⟨⟨⟨⟨b1, b2⟩, b3⟩, b4⟩, b5⟩, b6⟩ := hB
  split at b1
  rotate_left
  · cases b1
  rename_i c1 d1 e1
  obtain ⟨p1, rfl⟩ := asIf_ok e1
  split at b2
  rotate_left
  · cases b2
  rename_i c2 f2 e2
  obtain ⟨p2, rfl⟩ := asIf_ok e2
  split at b3
  rotate_left
  · cases b3
  rename_i c3 f3 e3
  obtain ⟨p3, rfl⟩ := asIf_ok e3
  rw [Bool.and_eq_true] at b2 b3
  obtain ⟨b2, bF⟩ := b2
  obtain ⟨b3, bA⟩ := b3
  have vT : Vis scope "thing" := visB_ok b4
  -- the loop
  unfold spForB at bF
  split at bF
  rotate_left
  · cases bF
  rename_i tg it bd eF
  obtain ⟨pF, rfl⟩ := asFor_ok eF
  simp only [Bool.and_eq_true] at bF
  obtain ⟨⟨bF1, bF2⟩, bF3⟩ := bF
  obtain ⟨pt, rfl⟩ := asName_ok (of_decide_eq_true bF1)
  obtain ⟨pi, rfl⟩ := asName_ok (of_decide_eq_true bF2)
  split at bF3
  rotate_left
  · cases bF3
  rename_i ca pa eE
  obtain rfl := asExprS_ok eE
  split at bF3
  rotate_left
  · cases bF3
  rename_i fn ar eC
  obtain ⟨pc0, pc, rfl⟩ := asCall_ok eC
  rw [Bool.and_eq_true] at bF3
  obtain ⟨bG, bP⟩ := bF3
  obtain rfl := of_decide_eq_true bG
  obtain ⟨pp, rfl⟩ := asName_ok (of_decide_eq_true bP)
  -- the last
  unfold spAppB at bA
  split at bA
  rotate_left
  · cases bA
  rename_i aa pa2 eA
  obtain rfl := asExprS_ok eA
  split at bA
  rotate_left
  · cases bA
  rename_i oo nm cc eM
  obtain ⟨apos, cpos, rfl, hln⟩ := asMeth_ok eM
  simp only [Bool.and_eq_true] at bA
  obtain ⟨⟨bA1, bA2⟩, bA3⟩ := bA
  obtain ⟨po, rfl⟩ := asName_ok (of_decide_eq_true bA1)
  obtain rfl := of_decide_eq_true bA2
  split at bA3
  rotate_left
  · cases bA3
  rename_i lx eK
  obtain ⟨jj, pk, rfl⟩ := asConst_ok eK
  obtain rfl := of_decide_eq_true bA3
  refine ⟨_, pss_cons (ps_if (pt_isi1 (i := 0) b1 rfl vT (by decide) hm) deadS pss_nil)
    (pss_cons (ps_if (pt_isiT (i := 0) b2 rfl vT (by decide) hm (by rw [sizeLine_eq]; decide)) (pss_one (ps_for own rfl (pi_any (pe_var (i := 0) rfl vT)) (pg_name (i := 2) (show ((["thing", "key", "part"] : List Str)).Nodup by decide) rfl (locB_ok b5) (.inl rfl))
      (pss_one (ps_expr (pe_call1G FN hr (glB_ok b6) hg kg hb tk (pe_var (i := 2) rfl (by rcases locB_ok b5 with q | q; exact .inl q; exact .inr (.inl q))) rfl (by decide)))))) pss_nil)
    (pss_one (ps_if (pt_isi1 (i := 0) b3 rfl vT (by decide) hm) (pss_one (ps_expr (pe_bm PySem.F.plainAttrs_list PySem.F.slot_list_append PySem.F.type_list_append (show MtR _ _ rAppend from mt_append) (pe_var (i := 0) rfl vT) (pa_cons pe_str pa_nil rfl) (abase rfl) (fewOk (pl1 rfl) len1) hln rfl rfl))) pss_nil))), ?_⟩
  -- what is asked
  obtain ⟨tn1, ty1, kt1⟩ := sp_ty (K := K) hH h0 rv ho
  have lastStep : ∀ (σ' : L2.St) (H' : Hp), σ'[0]? = some (some x) → SpT F ι lo (dep v + 1) H H' → (∀ c xs, v = .lst c xs → SpH F lo (M + nodesL xs) H') → ((∀ c xs, v ≠ .lst c xs) → SpH F lo (M + nodes v) H') →
      (tIfS (fun σ H Q => ∃ x tn t, σ[0]? = some (some x) ∧ TyX K H x tn ∧ PySem.W.kitOne K tn (.type (tyName .list)) = some t ∧ Q t H) (tDrop (tBM K "list" rAppend (tVar 0) (tCons (tC lateV) tNil))) tNext) { nx := fun _ H' => Q .non H', rt := Q } σ' H' := by
    intro σ' H' k1 k2 k3 k4
    by_cases hv : ∃ c xs, v = .lst c xs
    · obtain ⟨c, xs, rfl⟩ := hv
      have hS := k3 c xs rfl
      cases rv with | @lst c xs a ws hF rl =>
      obtain ⟨o1, o2, o3⟩ := spOk_lst ho
      obtain ⟨m, m1, m2⟩ := (hS a c _ hF).2 o1 ws rfl
      refine ⟨.ref a, .type (tyName .list), true, k1, .base (.lst m2), kit_ty (by decide +kernel), ?_⟩
      have hn : nodes (.lst c xs) = nodesL xs + 1 := rfl
      have hll := rl.length
      refine ⟨.ref a, k1, .inl ⟨rfl, _, SqL.of m2⟩, a, _, lateV, rfl, rfl, m2, ?_, ?_⟩
      · rw [List.length_append, List.length_replicate, sizeLine_eq]
        omega
      · refine fin _ (fun b hb => ?_) fun b c' u e => ?_
        · by_cases z : b = a
          · subst z
            exact .inr ⟨.lst c xs, c, ws, Nat.lt_succ_self _, ho, .lst hF rl, hF, o1⟩
          · rw [upd_ne z]
            exact k2 b hb
        · by_cases z : b = a
          · subst z
            rw [hF] at e
            cases e
            refine ⟨fun q => absurd q (by omega), fun _ vs' e' => ⟨m + 1, by omega, ?_⟩⟩
            cases e'
            rw [upd_same, List.replicate_succ', List.append_assoc]
          · rw [upd_ne z]
            obtain ⟨q1, q2⟩ := hS b c' u e
            refine ⟨q1, fun hc vs' e' => ?_⟩
            obtain ⟨m', q3, q4⟩ := q2 hc vs' e'
            exact ⟨m', by omega, q4⟩
    · have hS := k4 fun c xs e => hv ⟨c, xs, e⟩
      obtain ⟨tn3, ty3, kt3⟩ := sp_ty (K := K) hS h0 rv ho
      have hf : isTy v .list = some false := by
        cases v with
        | lst c xs => exact absurd ⟨c, xs, rfl⟩ hv
        | non => rfl
        | bl _ => rfl
        | int _ => rfl
        | str _ => rfl
        | tup _ => rfl
        | dct _ _ _ => cases ho
        | ptr _ => cases ho
        | fn _ => cases ho
        | scr _ => cases ho
      refine ⟨x, tn3, false, k1, ty3, kt3 _ _ hf, ?_⟩
      exact fin _ k2 hS
  have hf1 : isTy v .dict = some false := by
    cases v with
    | lst c xs => rfl
    | non => rfl
    | bl _ => rfl
    | int _ => rfl
    | str _ => rfl
    | tup _ => rfl
    | dct _ _ _ => cases ho
    | ptr _ => cases ho
    | fn _ => cases ho
    | scr _ => cases ho
  refine ⟨x, tn1, false, rfl, ty1, kt1 _ _ hf1, ?_⟩
  refine ⟨x, rfl, fun tp hp => ?_⟩
  have hH2 : SpH F lo M (L2.upd H tp (.tup (([.list, .tuple] : List Ty).map fun c => V.ty (tyName c)))) := hH.new hp
  have hT2 : SpT F ι lo (dep v + 1) H (L2.upd H tp (.tup (([.list, .tuple] : List Ty).map fun c => V.ty (tyName c)))) := SpT.new hp
  obtain ⟨tn2, ty2, kt2⟩ := sp_ty (K := K) hH2 h0 rv ho
  have kany : ∀ t, isAny v [.list, .tuple] = some t → PySem.W.kitAny K tn2 (([.list, .tuple] : List Ty).map fun c => Value.type (tyName c)) = some t := fun t e => kitAny_of kt2 e
  by_cases hflat : isAny v [.list, .tuple] = some false
  · refine ⟨tn2, false, ty2, kany _ hflat, ?_⟩
    refine lastStep _ _ rfl hT2 (fun c xs e => ?_) fun _ => ?_
    · subst e
      cases hflat
    · exact hH2.mono (Nat.le_add_right _ _)
  · -- a list or a tuple
    refine ⟨tn2, true, ty2, kany _ ?_, ?_⟩
    · cases v with
      | lst c xs => rfl
      | tup xs => rfl
      | non => exact absurd rfl hflat
      | bl _ => exact absurd rfl hflat
      | int _ => exact absurd rfl hflat
      | str _ => exact absurd rfl hflat
      | dct _ _ _ => cases ho
      | ptr _ => cases ho
      | fn _ => cases ho
      | scr _ => cases ho
    cases rv with
    | @lst c xs a ws hF rl =>
      obtain ⟨o1, o2, o3⟩ := spOk_lst ho
      obtain ⟨m, m1, m2⟩ := (hH2 a c _ hF).2 o1 ws rfl
      have hrep : RVL F ι (List.replicate m (.str "late")) (List.replicate m lateV) := by
        clear m1 m2
        induction m with
        | zero => exact .nil
        | succ m ih => exact .cons (.str _) ih
      have rl' : RVL F ι (xs ++ List.replicate m (.str "late")) (ws ++ List.replicate m lateV) := rl.append hrep
      have hn : nodesL (xs ++ List.replicate m (.str "late")) = nodesL xs := by
        rw [nodesL_app]
        have : ∀ k, nodesL (List.replicate k (.str "late")) = 0 := fun k => by
          induction k with
          | zero => rfl
          | succ k ih => rw [List.replicate_succ]; show 0 + nodesL _ = 0; rw [ih]
        rw [this]
        rfl
      have hsp : spOkL lo (xs ++ List.replicate m (.str "late")) = true := by
        have h1 : ∀ k, spOkL lo (List.replicate k (.str "late")) = true := fun k => by
          induction k with
          | zero => rfl
          | succ k ih => rw [List.replicate_succ]; exact ih
        have h2 : ∀ (ys zs : List MV), spOkL lo ys = true → spOkL lo zs = true → spOkL lo (ys ++ zs) = true := fun ys zs a b => by
          induction ys with
          | nil => exact b
          | cons y ys ih =>
            have q := Bool.and_eq_true_iff.mp (show (spOk lo y && spOkL lo ys) = true from a)
            exact Bool.and_eq_true_iff.mpr ⟨q.1, ih q.2⟩
        exact h2 _ _ o3 (h1 m)
      have hdp : depL (xs ++ List.replicate m (.str "late")) = depL xs := by
        have h1 : ∀ k, depL (List.replicate k (.str "late")) = 0 := fun k => by
          induction k with
          | zero => rfl
          | succ k ih => rw [List.replicate_succ]; show max 0 (depL _) = 0; rw [ih]; rfl
        have h2 : ∀ (ys zs : List MV), depL zs = 0 → depL (ys ++ zs) = depL ys := fun ys zs a => by
          induction ys with
          | nil => exact a
          | cons y ys ih => show max (dep y) (depL (ys ++ zs)) = max (dep y) (depL ys); rw [ih]
        exact h2 _ _ (h1 m)
      have hdv : dep (.lst c xs) = depL xs + 1 := rfl
      have hnv : nodes (.lst c xs) = nodesL xs + 1 := rfl
      refine ⟨.ref a, rfl, .inl ⟨a, rfl, ⟨_, SqL.of m2⟩, ?_⟩⟩
      refine sp_loop (s := depL xs + 1) (x := .ref a) (xs := xs ++ List.replicate m (.str "late")) h0 seqs_list rl' hsp (by rw [hdp]; omega) (by rw [hdp]; exact Nat.le_refl _) (by rw [hn]; omega) (fun H1 H2 p t => ?_) rfl rfl hH2 m2 fun σ' H' k1 k2 k3 k4 => ?_
      · rcases t a (by rw [p]; exact fun z => nomatch z) with e | ⟨v', c', vs', e1, e2, e3, e4, e5⟩
        · exact e.trans p
        · have := rv_uniq e3 (.lst hF rl) e2 ho
          subst this
          exact absurd e1 (by rw [hdv]; omega)
      · have k2' : SpT F ι lo (dep (.lst c xs) + 1) _ H' := k2.mono (by rw [hdv]; omega)
        refine lastStep σ' H' k1 (hT2.trans hH2 k2') (fun c' xs' e => ?_) fun q => absurd rfl (q c xs)
        cases e
        rw [hn] at k3
        exact k3
    | @tup xs a ws hF rl =>
      have m2 := (hH2 a 0 _ hF).1 h0
      have hdv : dep (.tup xs) = depL xs + 1 := rfl
      have hnv : nodes (.tup xs) = nodesL xs := rfl
      refine ⟨.ref a, rfl, .inr (.inl ⟨a, rfl, ⟨_, SqT.of m2⟩, ?_⟩)⟩
      refine sp_loop (s := depL xs + 1) (x := .ref a) (xs := xs) h0 seqs_tup rl ho (by omega) (Nat.le_refl _) (by omega) (fun H1 H2 p t => ?_) rfl rfl hH2 m2 fun σ' H' k1 k2 k3 k4 => ?_
      · rcases t a (by rw [p]; exact fun z => nomatch z) with e | ⟨v', c', vs', e1, e2, e3, e4, e5⟩
        · exact e.trans p
        · rw [hF] at e4
          cases e4
      · exact lastStep σ' H' k1 (hT2.trans hH2 (k2.mono (by rw [hdv]; omega))) (fun c' xs' e => nomatch e) fun _ => k3
    | non => exact absurd rfl hflat
    | bl _ => exact absurd rfl hflat
    | int _ => exact absurd rfl hflat
    | str _ => exact absurd rfl hflat
    | dK _ _ => cases ho
    | dT _ _ => cases ho
    | ptr _ => cases ho
    | scr _ _ => cases ho
/-- the def that spoils, at every level -/
theorem spoil_fn {scope : Scope} {body : List Stmt} {name qual : Str} {params : Arguments} {dV kV doc pm cdv ct oc : Value} {an od : Option Addr} {osl : Array (Option Value)} (hB : spB scope body = true) (hm : ∀ b ∈ bnames, mg b = none) (hg : mg "_law_spoilt" = some (.ref g)) (kg : PySem.W.keepIn K (.ref g) = true)
    (hb : KB (PySem.W.fnOf name qual params body scope dV kV doc pm an cdv ct) ["thing"] [] 1 []) (lk : K.lookup g = some ⟨oc, od, .func (PySem.W.fnOf name qual params body scope dV kV doc pm an cdv ct), osl⟩) (hcd : PySem.W.codeIn K cdv qual = true) (S : FnScope ["thing", "key", "part"] ["thing"] scope) :
    ∀ n, FnG P w K mg base (L2.CX P w) n g (PySem.W.fnOf name qual params body scope dV kV doc pm an cdv ct) ["thing"] (spSpoil n)
  | 0 => ⟨fun vs H Q E ⟨F, ι, v, x, lo, M, e, h0, rv, ho, hd, _⟩ => absurd hd (Nat.not_lt_zero _), fun A outer s H args us vs Q E _ _ _ _ ⟨F, ι, v, x, lo, M, e, h0, rv, ho, hd, _⟩ => absurd hd (Nat.not_lt_zero _)⟩
  | n + 1 => fnG_of lk hcd S (fun vs H Q E ⟨F, ι, v, x, lo, M, e, _⟩ => by rw [e]; rfl) fun A outer s H vs Q E hr h => spoil_body S.kind hB hm hg kg hb (spoil_fn hB hm hg kg hb lk hcd S n) hr h
end
end Mv

end
section
set_option Elab.async false
set_option linter.all false
set_option autoImplicit false
set_option maxRecDepth 100000
namespace Mv
open PySem PySem.Spec L2
variable [Tbs]

theorem tabs_keep {T : List (Addr × Str)} {H H2 : Hp} (t : LamX.Tabs T H) (h : ∀ a u, H a = some u → plO u = false → H2 a = some u) : LamX.Tabs T H2 := fun x hx => by
  obtain ⟨ps, h1, h2, h3⟩ := t x hx
  refine ⟨ps, h _ _ h1 rfl, h2, fun pos cv e => ?_⟩
  obtain ⟨c, e1, e2⟩ := h3 pos cv e
  exact ⟨c, e1, h _ _ e2 rfl⟩
section
variable {be : Nat} {e : E0} {F : FHp} {ι : List Addr} {S : Store} {H H2 : Hp} {sl : Sl} {σ : L2.St} {lo s M : Nat}
theorem SpT.at_ (t : SpT F ι lo s H H2) {a : Addr} (h : H a ≠ none) (hF : ∀ c vs, F a ≠ some (c, .lst vs)) : H2 a = H a := by
  rcases t a h with q | ⟨v', c, vs, _, _, _, q, _⟩
  · exact q
  · exact absurd q (hF c vs)
theorem wipe_slot {i : Nat} {s1 : SV} (h : (sl.map (wipeS lo))[i]? = some s1) : ∃ s0, sl[i]? = some s0 ∧ s1 = wipeS lo s0 := by
  rw [List.getElem?_map] at h
  obtain ⟨s0, h1, h2⟩ := Option.map_eq_some_iff.mp h
  exact ⟨s0, h1, h2.symm⟩
theorem wipe_ol {s0 : SV} {xs : List MV} (h : SV.ol xs = wipeS lo s0) : s0 = .ol xs ∧ colsLtL lo xs = true := by
  cases s0 with
  | un => cases h
  | val v =>
    have h' : SV.ol xs = if colsLt lo v = true then SV.val v else SV.un := h
    split at h' <;> cases h'
  | ol ys =>
    have h' : SV.ol xs = if colsLtL lo ys = true then SV.ol ys else SV.un := h
    split at h'
    · cases h'
      exact ⟨rfl, by assumption⟩
    · cases h'
  | od _ _ => cases h
theorem StOk.spoil (k : StOk be e F ι S H sl σ) (hlo : 0 < lo) (k1 : ∀ a p, e.kF a = some p → p.1 < lo) (k2 : ∀ a p, e.F a = some p → p.1 < lo) (t : SpT F ι lo s H H2) (s2 : SpH F lo M H2) : StOk be e (dropF lo F) ι S H2 (sl.map (wipeS lo)) σ where
  sim :=
    { fh := fun a c o h => ((s2 a c o (dropF_some h).1).1 (dropF_some h).2)
      fc := fun a c o h => k.sim.fc a c o (dropF_some h).1
      len := k.sim.len
      cell := fun n xs h => by
        obtain ⟨a, vs, e1, e2, e3, e4, e5⟩ := k.sim.cell n xs h
        refine ⟨a, vs, e1, ?_, dropF_none (.inl e3), e4.dropC hlo (colsLtL_mono hlo _ e5), e5⟩
        rw [t.at_ (by rw [e2]; exact fun z => nomatch z) fun c vs z => by rw [e3] at z; cases z]
        exact e2
      apart := k.sim.apart
      pl := fun a c o h => k.sim.pl a c o (dropF_some h).1
      tabs := tabs_keep k.sim.tabs fun a u h hu => by
        rw [t.at_ (by rw [h]; exact fun z => nomatch z) fun c vs z => by
          have := k.sim.fh _ _ _ z
          rw [h] at this
          cases this
          cases hu]
        exact h }
  tr :=
    { keep := fun a c o h hc => dropF_of (k.tr.keep a c o h hc) (k2 a (c, o) h)
      ext := k.tr.ext
      priv := fun a q => by
        obtain ⟨e1, p1, p2, p3⟩ := k.tr.priv a q
        have e2 : H2 a = H a := t.at_ p1.1 fun c vs z => by rw [p2] at z; cases z
        exact ⟨e2.trans e1, by rw [e2]; exact p1, dropF_none (.inl p2), p3⟩
      dom := fun a q => by
        have q1 := k.tr.dom a q
        rcases t a q1.1 with z | ⟨v', c, vs, _, _, _, z, hc⟩
        · rw [z]; exact q1
        · obtain ⟨m, _, z2⟩ := (s2 a c _ z).2 hc vs rfl
          exact nt_of z2 fun _ y => nomatch y }
  sl :=
    { len := by rw [List.length_map]; exact k.sl.len
      at_ := fun i s1 o h1 h2 => by
        obtain ⟨s0, h3, rfl⟩ := wipe_slot h1
        cases k.sl.at_ i s0 o h3 h2 with
        | un => exact .un
        | @val v x r =>
          show SvOk _ _ _ _ (if colsLt lo v = true then SV.val v else SV.un) _
          split
          · exact .val (r.drop hlo (by assumption))
          · exact .un
        | @ol xs a vs a1 a2 a3 a4 =>
          show SvOk _ _ _ _ (if colsLtL lo xs = true then SV.ol xs else SV.un) _
          split
          · refine .ol (vs := vs) ?_ (dropF_none (.inl a2)) a3 (a4.dropC hlo (by assumption))
            rw [t.at_ (by rw [a1]; exact fun z => nomatch z) fun c vs z => by rw [a2] at z; cases z]
            exact a1
          · exact .un
      new := fun a ⟨i, xs, h1, h2⟩ => by
        obtain ⟨s0, h3, h4⟩ := wipe_slot h1
        obtain ⟨rfl, _⟩ := wipe_ol h4
        exact k.sl.new a ⟨i, xs, h3, h2⟩
      apart := fun i j xs ys a h1 h2 h3 h4 => by
        obtain ⟨s0, g1, g2⟩ := wipe_slot h1
        obtain ⟨rfl, _⟩ := wipe_ol g2
        obtain ⟨s1, g3, g4⟩ := wipe_slot h2
        obtain ⟨rfl, _⟩ := wipe_ol g4
        exact k.sl.apart i j xs ys a g1 g3 h3 h4 }
  kf := fun a p h => dropF_of (k.kf a p h) (k1 a p h)
  ki := k.ki
end
section
variable {X : Cx} {ex : ExT} {W : WX} {f : Fr} {a : Expr} {m : ME} {e : E0} {n : Nat} {ga : Addr} {fd : FuncData} {p0 pos spos : Pos}
theorem st_spoil (hlo : 0 < f.lo) (hk : KOk f e) (hn : 20 < n) (FN : FnG X.prog X.w X.K X.mg X.base (L2.CX X.prog X.w) n ga fd ["thing"] (spSpoil n)) (hr : RoomG n X.A) (hg : Gl X "_law_spoilt") (hm : X.mg "_law_spoilt" = some (.ref ga)) (hkp : PySem.W.keepIn X.K (.ref ga) = true) (hb : KB fd ["thing"] [] 1 [])
    (tk : Takes X W) (h : f.lo < f.be → PE X a (tSV ex W f.be e (se f.reg m))) (hns : isStar a = false) : PS X (.Expr (.Call (.Name "_law_spoilt" p0) [a] [] pos) spos) (tSt ex W f.be e (Mv.ex f (.spoil m))) := by
  by_cases hl : f.lo < f.be
  · refine PS.imp (ps_expr (pe_call1G FN hr hg hm hkp hb tk (h hl) hns (by decide)) rfl) fun D σ H ⟨sl, S, F, ι, out, k, hr, kk⟩ => ?_
    have hr' : (if f.lo < f.be then (se f.reg m sl S).bind fun v S1 => if (spOk f.lo v && decide (nodes v ≤ 4194304) && decide (dep v ≤ 20)) = true then ok (Fl.nx (sl.map (wipeS f.lo))) S1 else none else none) = some out := hr
    rw [if_pos hl] at hr'
    rcases bind_some hr' with ⟨v, S1, h1, q1⟩ | ⟨c', v, S1, h1, rfl⟩
    · obtain ⟨ho, q1⟩ := if_some q1
      obtain rfl := ok_some q1
      obtain ⟨o1, o2, o3⟩ := and3 ho
      refine ⟨sl, S, F, ι, _, k, h1, fun F' ι' H' y kk1 rl => ?_⟩
      refine ⟨F', ι', v, y, f.lo, 0, rfl, hlo, rl, o1, by have := of_decide_eq_true o3; omega, by have := of_decide_eq_true o2; omega, fun a c o e => ?_, fun H2 t2 s2 => kk _ _ _ _ (kk1.spoil hlo hk.1 hk.2 t2 s2)⟩
      have := kk1.sim.fh a c o e
      exact ⟨fun _ => this, fun _ vs e' => ⟨0, Nat.le_refl _, by rw [this, e']; simp⟩⟩
    · exact ⟨sl, S, F, ι, _, k, h1, kk⟩
  · refine ⟨fun pins s σ H D I ⟨sl, S, F, ι, out, k, hr, kk⟩ => ?_⟩
    have hr' : (if f.lo < f.be then (se f.reg m sl S).bind fun v S1 => if (spOk f.lo v && decide (nodes v ≤ 4194304) && decide (dep v ≤ 20)) = true then ok (Fl.nx (sl.map (wipeS f.lo))) S1 else none else none) = some out := hr
    rw [if_neg hl] at hr'
    cases hr'
end

/-- the frames of a def's body -/
structure FrOk (T : St0) (f : Fr) : Prop where
  call : f.call = callN T.p T.fuel T.k
  col : f.col < f.be
  lo : 0 < f.lo
  hs : f.hs = hsOf T.hs
theorem FrOk.be {T : St0} {f : Fr} (h : FrOk T f) : 0 < f.be := Nat.lt_of_le_of_lt (Nat.zero_le _) h.col
theorem FrOk.cfg {T : St0} {f : Fr} (h : FrOk T f) (sl : Sl) : CfgOk T (f.cfg sl) := ⟨h.call, (by
  show f.col < if anyOwn sl then f.be + 1 else f.be
  have := h.col
  split <;> omega), h.hs⟩
theorem FrOk.cfg1 {T : St0} {f : Fr} (h : FrOk T f) : CfgOk T f.cfg1 := ⟨h.call, h.col, h.hs⟩
theorem FrOk.reg {T : St0} {f : Fr} (h : FrOk T f) (hl : f.lo < f.be) : FrOk T f.reg := ⟨h.call, hl, h.lo, h.hs⟩
/-- where statements stand -/
structure XS (T : St0) (D : Dt) (ml : Bool) (sc : Scope) (X : Cx) (W : WX) : Prop where
  x : XOk T D ml false sc X W
  own : PassesOwn (model X.prog X.w) X.A X.env X.xe
  raises : ∀ cn ∈ D.exs, ∃ (C fI : Addr) (fl : Str), PySem.OwnX.ClsTxt X.K X.mg cn fl C fI ∧ T.ex cn = some (C, fl)
  sp : D.sp = true → ∃ (ga : Addr) (fd : FuncData), X.mg "_law_spoilt" = some (.ref ga) ∧ PySem.W.keepIn X.K (.ref ga) = true ∧ KB fd ["thing"] [] 1 [] ∧ FnG X.prog X.w X.K X.mg X.base (L2.CX X.prog X.w) 21 ga fd ["thing"] (spSpoil 21)
section
variable {T : St0} {D : Dt} {ml : Bool} {sc : Scope} {X : Cx} {W : WX} {f : Fr} {e : E0} {m : ME} {a : Expr}
theorem GE.s (g : GE T X W m a) (hf : FrOk T f) : PE X a (tSO T.ex W f.be e (seO f m)) := s_e hf.be hf.col fun sl => g.pe _ (hf.cfg sl)
theorem GE.sv (g : GE T X W m a) (hf : FrOk T f) : PE X a (tSV T.ex W f.be e (se f m)) := s_v hf.col (g.s hf)
theorem GE.st (g : GE T X W m a) (hf : FrOk T f) (ht : tstM m = true) : PT X a (tST T.ex W f.be e (tst f m)) := s_t hf.be fun sl => g.pt _ (hf.cfg sl) ht
theorem GEs.sl {r : Es} {es : List Expr} (g : GEs T X W r es) (hf : FrOk T f) : PA X es (tSL T.ex W f.be e (seL f r)) := s_l hf.be fun sl => a_es (g.v (hf.cfg sl))
theorem GEs.ss {r : Es} {es : List Expr} (g : GEs T X W r es) (hf : FrOk T f) : EsOk (fun m a => ∀ e, PE X a (tSV T.ex W f.be e (se f m))) r es := EsOk.imp (fun m a q e => q.sv hf) g
/-- what a for walks -/
theorem chkI_s {it : IT} {tg it' : Expr} (h : chkI D it ml false sc tg it' = true) (hX : XOk T D ml false sc X W) (hf : FrOk T f) : PI X tg it' (tSI T.ex W f e (seW f it)) ∧ isSet it' = false := by
  cases it with
  | val m =>
    unfold chkI at h
    rw [Bool.and_eq_true, Bool.not_eq_true'] at h
    have g := chkE_ok T D m ml false sc it' X W h.2 hX
    exact ⟨w_val hf.lo (g.sv hf), h.1⟩
  | by_ b es =>
    unfold chkI at h
    split at h
    · rename_i g xs ks hx
      refine ⟨?_, asCall_set hx⟩
      obtain ⟨p0, p, rfl⟩ := asCall_ok hx
      simp only [Bool.and_eq_true] at h
      obtain ⟨⟨⟨h1, h2⟩, h3⟩, h4⟩ := h
      rw [List.isEmpty_iff] at h1
      subst h1
      have gs := chkEs_ok T D es ml false sc xs X W h3 hX
      have hb := hf.be
      have hlo := hf.lo
      have ha : PA X xs (tSL T.ex W f.be e (seL f es)) := gs.sl hf
      have hpl := gs.plain
      have hn := gs.num
      have hg := hX.gl h2
      cases b with
      | range =>
        simp only [Bool.and_eq_true] at h4
        obtain ⟨⟨k1, k2⟩, k3⟩ := h4
        obtain rfl := of_decide_eq_true k1
        have k2 := of_decide_eq_true k2
        have k3 := of_decide_eq_true k3
        have hm := hX.mgB "range" (by simp [bnames])
        match xs, k2, k3, ha, hpl, hn with
        | [e1], _, _, ha, hpl, hn => exact w_rng1 hlo hg hm hn ha (hpl _ (by simp))
        | [e1, e2], _, _, ha, hpl, hn => exact w_rng2 hlo hg hm hn ha (hpl _ (by simp)) (hpl _ (by simp))
        | [e1, e2, e3], _, _, ha, hpl, hn => exact w_rng3 hlo hg hm hn ha (hpl _ (by simp)) (hpl _ (by simp)) (hpl _ (by simp))
        | [], k2, _, _, _, _ => exact absurd k2 (by simp)
        | _ :: _ :: _ :: _ :: _, _, k3, _, _, _ => exact absurd k3 (by simp only [List.length_cons]; omega)
      | zip =>
        simp only [Bool.and_eq_true] at h4
        obtain ⟨⟨k1, k2⟩, k3⟩ := h4
        obtain rfl := of_decide_eq_true k1
        have k2 := of_decide_eq_true k2
        have hm := hX.mgB "zip" (by simp [bnames])
        obtain ⟨tes, ht⟩ := Option.isSome_iff_exists.mp k3
        obtain ⟨tk, tp, rfl⟩ := asTup_ok ht
        match xs, k2, ha, hpl, hn with
        | [e1, e2], _, ha, hpl, hn => exact w_zip hlo hb hg hm ha (hpl _ (by simp)) (hpl _ (by simp))
      | enumerate =>
        simp only [Bool.and_eq_true] at h4
        obtain ⟨⟨k1, k2⟩, k3⟩ := h4
        obtain rfl := of_decide_eq_true k1
        have k2 := of_decide_eq_true k2
        have hm := hX.mgB "enumerate" (by simp [bnames])
        obtain ⟨tes, ht⟩ := Option.isSome_iff_exists.mp k3
        obtain ⟨tk, tp, rfl⟩ := asTup_ok ht
        match xs, k2, ha, hpl, hn with
        | [e1], _, ha, hpl, hn => exact w_enum hlo hb hg hm ha (hpl _ (by simp))
      | zipl => cases h4
    · cases h
  | items o =>
    unfold chkI at h
    split at h
    · rename_i x nm xs hx
      refine ⟨?_, asMeth_set hx⟩
      obtain ⟨apos, pos, rfl, hln⟩ := asMeth_ok hx
      simp only [Bool.and_eq_true] at h
      obtain ⟨⟨⟨⟨h1, h2⟩, h3⟩, h4⟩, h5⟩ := h
      obtain rfl := of_decide_eq_true h1
      rw [List.isEmpty_iff] at h2
      subst h2
      obtain ⟨tes, ht⟩ := Option.isSome_iff_exists.mp h4
      obtain ⟨tk, tp, rfl⟩ := asTup_ok ht
      have g := chkE_ok T D o ml false sc x X W h5 hX
      exact w_items hf.lo hf.be (g.sv hf) h3 hln
    · cases h
theorem lc_nl {C : Cfg} {t : Tg} {it : IT} {ifs : Es} {own : List Nat} {env : Env} {S S1 : Store} {o : OV} (h : evO C (.lc m t it ifs own) env S = some (.ok o S1)) : o.fzd C.col = o := by
  have h' : ((evW C it env S).bind fun xs S1 => (noExc (lcLoop t (evTs C ifs) (fun e s => fzR C.col (evO C m e s)) xs (wipeE own env) S1)).bind fun ys S2 => if ys.length ≤ sizeLine then ok (OV.nl ys) S2 else none) = some (.ok o S1) := h
  rcases bind_some h' with ⟨xs, S2, _, q⟩ | ⟨c, v, S2, _, q⟩
  · rcases bind_some q with ⟨ys, S3, _, q2⟩ | ⟨c, v, S3, _, q2⟩
    · obtain ⟨_, q3⟩ := if_some q2
      cases (ok_some q3)
      rfl
    · cases q2
  · cases q
/-- name = e -/
theorem setB_ok {i : Nat} {own : Bool} {t : Expr} {pos : Pos} (h : setB D ml sc i m t a = true) (hX : XS T D ml sc X W) (hf : FrOk T f) : PS X (.Assign [t] a pos) (tSt T.ex W f.be e (Mv.ex f (.set i own m))) := by
  unfold setB at h
  split at h
  rotate_left
  · cases h
  rename_i x ln hx
  obtain ⟨p, rfl, rfl⟩ := nameP_ok hx
  simp only [Bool.and_eq_true] at h
  obtain ⟨⟨⟨⟨h1, h2⟩, h3⟩, h4⟩, h5⟩ := h
  have hi : X.N[i]? = some x := by rw [hX.x.N]; exact of_decide_eq_true h1
  have hl : Loc X.env.scope x := by rw [hX.x.sc]; exact locB_ok h2
  have hs := sw_name (x := x) (p := p) (l := pos.line) hX.x.sc hX.x.kind h3
  have g := chkE_ok T D m ml false sc a X W h4 hX.x
  cases hsw : swB sc x p.line a with
  | false =>
    rw [hsw] at hs
    exact st_set hf.col (g.s hf) hX.x.nd hi hl hs (.inl (hX.x.fn rfl x))
  | true =>
    rw [hsw] at h5 hs
    cases m with
    | lc m t it ifs own' =>
      have hy : lclB sc x = true := by
        unfold swB at hsw
        split at hsw
        · rw [Bool.and_eq_true, Bool.and_eq_true] at hsw
          exact hsw.1.1
        · cases hsw
      unfold chkE at h4
      split at h4
      rotate_left
      · cases h4
      rename_i elt tg iter fs bsc hx
      obtain ⟨lp, rfl⟩ := asLc_ok hx
      simp only [Bool.and_eq_true] at h4
      obtain ⟨⟨⟨⟨⟨k1, k2⟩, k3⟩, k4⟩, k5⟩, k6⟩ := h4
      have B : BlkOk X.N X.env.scope bsc (ownOf D.N own') := by
        rw [hX.x.N, hX.x.sc]
        exact blkOk_by k1
      have k4 : chkI D it ml false sc tg iter = true := by
        rcases Bool.or_eq_true_iff.mp k4 with k4 | k4
        · exact k4
        · cases it with
          | val _ => unfold chkZ at k4; cases k4
          | items _ => unfold chkZ at k4; cases k4
          | by_ b es =>
            unfold chkZ at k4
            split at k4
            · simp only [Bool.and_eq_true] at k4
              obtain rfl := of_decide_eq_true k4.1.1.1.1.1.1
              cases h5
            · cases k4
      have gi := chkI_ok T D it ml false sc tg iter X W k4 hX.x
      have ge : ∀ s H C cl fp, GE T (X.blk s H bsc (compEnvC bsc cl C X.env) fp) W0 m elt := fun s H C cl fp => chkE_ok T D m ml true (relS bsc sc) elt _ W0 k5 (hX.x.blk B.kind s H C cl fp)
      have gt : ∀ C, CfgOk T C → ∀ s H A cl fp, PTs (X.blk s H bsc (compEnvC bsc cl A X.env) fp) fs (tT T.ex W0 C.cm (evTs C ifs)) := by
        intro C hC s H A cl fp
        split at k6
        · split at k6
          · exact ts_nil
          · cases k6
        · split at k6
          · rename_i f _ c
            rw [Bool.and_eq_true] at k6
            exact ts_one ((chkE_ok T D c ml true (relS bsc sc) f _ W0 k6.2 (hX.x.blk B.kind s H A cl fp)).pt C hC k6.1)
          · cases k6
        · cases k6
      refine st_setLc (ow := ownOf D.N own') (wi := fun C => tI T.ex W C.cm (evW C it)) (g := tTg t) (tt := fun C => tT T.ex W0 C.cm (evTs C ifs)) (te := fun C => tV T.ex W0 C.cm (ev C m)) hf.be hf.col hX.x.calm hX.x.nd hi (by rw [hX.x.sc]; exact lclB_ok hy) hs (fun sl => gi.1 _ (hf.cfg sl)) B ?_ (fun sl => gt _ (hf.cfg sl)) (fun sl s H A cl fp => (ge s H A cl fp).v (hf.cfg sl)) (folded_ok gi.2) (fun sl σ H Q h => ?_) (fun C env S S1 o h => lc_nl h)
      · exact fun s H A cl fp => pg_tg (X := X.blk s H bsc (compEnvC bsc cl A X.env) fp) (t := t) hX.x.calm hX.x.nd (tgB_ok (X := X.blk s H bsc (compEnvC bsc cl A X.env) fp) (ib := cellB bsc) (sc := relS bsc sc) hX.x.N (by rw [← hX.x.sc]; rfl) (fun x h => h) k3)
      · rw [ownOf_snd]
        exact lc_read (ixB_ok k2) h
    | _ => cases h5
end
end Mv

end
section
set_option Elab.async false
set_option linter.all false
set_option autoImplicit false
set_option maxRecDepth 100000
namespace Mv
open PySem PySem.Spec L2
variable [Tbs]
section
variable {T : St0} {D : Dt} {ml : Bool} {sc : Scope} {X : Cx} {W : WX} {f : Fr} {e : E0} {m : ME} {a : Expr}
theorem XOk.vis (h : XOk T D ml false sc X W) {x : Str} (g : visB sc x = true) : Vis X.env.scope x := by
  rw [h.sc]
  exact visB_ok g
/-- several names = several values -/
theorem parB_ok {is : List (Nat × Bool)} {es : Es} {t : Expr} {pos : Pos} (h : parB D ml sc is es t a = true) (hX : XS T D ml sc X W) (hf : FrOk T f) : PS X (.Assign [t] a pos) (tSt T.ex W f.be e (Mv.ex f (.par is es))) := by
  unfold parB at h
  split at h
  rotate_left
  · cases h
  rename_i ts hts
  split at h
  rotate_left
  · cases h
  rename_i vs hvs
  rw [Bool.and_eq_true] at h
  obtain ⟨h1, h2⟩ := h
  have gs := chkEs_ok T D es ml false sc vs X W h1 hX.x
  obtain ⟨kt, pt, rfl⟩ := asTup_ok hts
  obtain ⟨k2, pt2, rfl⟩ := asTup_ok hvs
  split at h2
  · rename_i hsw
    rw [Bool.and_eq_true] at h2
    have hw := swSt_ok (k := kt) (k2 := k2) (p := pt) (p2 := pt2) hX.x.sc hX.x.kind hsw
    exact st_parT hf.be hX.x.calm hX.x.nd (tgB_ok hX.x.N hX.x.sc (fun x _ => hX.x.fn rfl x) h2.1) (gs.ss hf) (by have := of_decide_eq_true h2.2; rw [sizeLine_eq]; omega) hw
  · rename_i names hsw
    have hw := swSt_ok (k := kt) (k2 := k2) (p := pt) (p2 := pt2) hX.x.sc hX.x.kind hsw
    split at h2
    · rename_i x y h2t
      obtain ⟨px, py, rfl⟩ := two?_ok h2t
      split at h2
      rotate_left
      · cases h2
      rename_i i _ j _
      simp only [Bool.and_eq_true] at h2
      obtain ⟨⟨⟨⟨⟨j1, j2⟩, j3⟩, j4⟩, j5⟩, j6⟩ := h2
      obtain rfl := of_decide_eq_true j6
      have hl : vs.length = 2 := by
        have := gs.plain
        cases hv : vs with
        | nil => rw [hv] at hsw; simp [swStB] at hsw
        | cons v1 r =>
          cases hr : r with
          | nil => rw [hv, hr] at hsw; simp [swStB] at hsw
          | cons v2 r2 =>
            cases hr2 : r2 with
            | nil => rfl
            | cons v3 r3 => rw [hv, hr, hr2] at hsw; simp [swStB] at hsw
      match vs, hl, gs, hw with
      | [a, b], _, gs, hw =>
        exact st_par2 hX.x.calm hX.x.nd (by rw [hX.x.N]; exact of_decide_eq_true j1) (by rw [hX.x.N]; exact of_decide_eq_true j2) (of_decide_eq_true j3) (by rw [hX.x.sc]; exact lclB_ok j4) (by rw [hX.x.sc]; exact lclB_ok j5) (gs.ss hf) hw
    · split at h2
      rotate_left
      · cases h2
      rename_i x y z h2t
      obtain ⟨px, py, pz, rfl⟩ := three?_ok h2t
      split at h2
      rotate_left
      · cases h2
      rename_i i _ j _ l _
      simp only [Bool.and_eq_true] at h2
      obtain ⟨⟨⟨⟨⟨⟨⟨⟨⟨j1, j2⟩, j3⟩, j4⟩, j5⟩, j6⟩, j7⟩, j8⟩, j9⟩, j10⟩ := h2
      obtain rfl := of_decide_eq_true j10
      have hl : vs.length = 3 := by
        cases hv : vs with
        | nil => rw [hv] at hsw; simp [swStB] at hsw
        | cons v1 r =>
          cases hr : r with
          | nil => rw [hv, hr] at hsw; simp [swStB] at hsw
          | cons v2 r2 =>
            cases hr2 : r2 with
            | nil => rw [hv, hr, hr2] at hsw; simp [swStB] at hsw
            | cons v3 r3 =>
              cases hr3 : r3 with
              | nil => rfl
              | cons v4 r4 => rw [hv, hr, hr2, hr3] at hsw; simp [swStB] at hsw
      match vs, hl, gs, hw with
      | [a, b, c], _, gs, hw =>
        exact st_par3 hX.x.calm hX.x.nd (by rw [hX.x.N]; exact of_decide_eq_true j1) (by rw [hX.x.N]; exact of_decide_eq_true j2) (by rw [hX.x.N]; exact of_decide_eq_true j3) (of_decide_eq_true j4) (of_decide_eq_true j5) (of_decide_eq_true j6) (by rw [hX.x.sc]; exact lclB_ok j7) (by rw [hX.x.sc]; exact lclB_ok j8) (by rw [hX.x.sc]; exact lclB_ok j9) (gs.ss hf) hw
  · cases h2
/-- x.nm(a) -/
theorem methB_ok {i : Nat} {nm : Str} (h : methB D ml sc i m nm a = true) (hX : XOk T D ml false sc X W) : ∃ (x : Str) (p0 apos pos : Pos) (y : Expr), a = .Call (.Attribute (.Name x p0) nm apos) [y] [] pos ∧ (apos.endLine == pos.line) = true ∧ X.N[i]? = some x ∧ Vis X.env.scope x ∧ dunB x = true ∧ isStar y = false ∧ GE T X W m y := by
  unfold methB at h
  split at h
  rotate_left
  · cases h
  rename_i o n es hx
  obtain ⟨apos, pos, rfl, hln⟩ := asMeth_ok hx
  simp only [Bool.and_eq_true] at h
  obtain ⟨⟨h1, h2⟩, h3⟩ := h
  obtain rfl := of_decide_eq_true h1
  split at h2
  rotate_left
  · cases h2
  rename_i x hn
  obtain ⟨p0, rfl⟩ := asName_ok hn
  obtain ⟨j1, j2, j3⟩ := and3 h2
  split at h3
  rotate_left
  · cases h3
  rename_i y
  rw [Bool.and_eq_true, Bool.not_eq_true'] at h3
  exact ⟨x, p0, apos, pos, y, rfl, hln, by rw [hX.N]; exact of_decide_eq_true j1, hX.vis j2, j3, h3.1, chkE_ok T D m ml false sc y X W h3.2 hX⟩
theorem sw_sole {tg : Expr} {l : Nat} {env : PySem.Env} (h : asName tg = none) : swapsWithSole [tg] a l env = pure false := sw_tgt h
theorem assign_sub {o j : Expr} {p : Pos} {env : PySem.Env} (h : isSlice j = false) (v : Value) : assign (.Subscript o j p) env v = (do
      let ov ← holding [v] (eval o env)
      let iv ← holding [v, ov] (eval j env)
      standAt p
      holding [v, ov, iv] (setItem ov iv v)
      release [v, ov, iv] []) := by
  cases j <;> first | rfl | cases h
set_option maxHeartbeats 4000000 in
mutual
theorem chkS_ok (T : St0) (D : Dt) : ∀ (s : MS) (ml : Bool) (sc : Scope) (st : Stmt) (X : Cx) (W : WX) (f : Fr) (e : E0), chkS D s ml sc st = true → XS T D ml sc X W → FrOk T f → KOk f e → PS X st (tSt T.ex W f.be e (Mv.ex f s))
  | .expr m, ml, sc, st, X, W, f, e, h, hX, hf, hk => by
    unfold chkS at h
    split at h
    rotate_left
    · cases h
    rename_i a p hx
    obtain rfl := asExprS_ok hx
    rw [Bool.and_eq_true] at h
    exact st_expr ((chkE_ok T D m ml false sc a X W h.2 hX.x).sv hf) (sw_no h.1)
  | .set i own m, ml, sc, st, X, W, f, e, h, hX, hf, hk => by
    unfold chkS at h
    split at h
    rotate_left
    · cases h
    rename_i t a hx
    obtain ⟨p, rfl⟩ := asAsg_ok hx
    exact setB_ok h hX hf
  | .setR i own m, ml, sc, st, X, W, f, e, h, hX, hf, hk => by
    unfold chkS at h
    split at h
    rotate_left
    · cases h
    rename_i t a hx
    obtain ⟨p, rfl⟩ := asAsg_ok hx
    by_cases hl : f.lo < f.be
    · refine PS.imp (setB_ok (f := f.reg) (e := e) (i := i) (own := own) h hX (hf.reg hl)) fun D σ H ⟨sl, S, F, ι, out, k, hr, kk⟩ => ⟨sl, S, F, ι, out, k, ?_, kk⟩
      have hr' : (if f.lo < f.be then (seO f.reg m sl S).bind fun o S1 => if i < sl.length then ok (Fl.nx (sl.set i (putO f.lo own o))) S1 else none else none) = some out := hr
      rw [if_pos hl] at hr'
      exact hr'
    · refine ⟨fun pins s σ H D I ⟨sl, S, F, ι, out, k, hr, kk⟩ => ?_⟩
      have hr' : (if f.lo < f.be then (seO f.reg m sl S).bind fun o S1 => if i < sl.length then ok (Fl.nx (sl.set i (putO f.lo own o))) S1 else none else none) = some out := hr
      rw [if_neg hl] at hr'
      cases hr'
  | .setT t m, ml, sc, st, X, W, f, e, h, hX, hf, hk => by
    unfold chkS at h
    split at h
    rotate_left
    · cases h
    rename_i tg a hx
    obtain ⟨p, rfl⟩ := asAsg_ok hx
    simp only [Bool.and_eq_true] at h
    obtain ⟨⟨⟨h1, h2⟩, h3⟩, h4⟩ := h
    obtain ⟨ts, ht⟩ := Option.isSome_iff_exists.mp h1
    obtain ⟨kt, pt, rfl⟩ := asTup_ok ht
    have g := chkE_ok T D m ml false sc a X W h4 hX.x
    refine st_setT hX.x.calm hX.x.nd (tgB_ok hX.x.N hX.x.sc (fun x _ => hX.x.fn rfl x) h3) (g.sv hf) (show swapsWith a (some (.Tuple ts kt pt)) p.line X.env = pure false from sw_tgt rfl) ?_ rfl
    cases a <;> first | rfl | cases h2
  | .par is es, ml, sc, st, X, W, f, e, h, hX, hf, hk => by
    unfold chkS at h
    split at h
    rotate_left
    · cases h
    rename_i t a hx
    obtain ⟨p, rfl⟩ := asAsg_ok hx
    exact parB_ok h hX hf
  | .setSub i ix m, ml, sc, st, X, W, f, e, h, hX, hf, hk => by
    unfold chkS at h
    split at h
    rotate_left
    · cases h
    rename_i tg a hx
    obtain ⟨p, rfl⟩ := asAsg_ok hx
    split at h
    rotate_left
    · cases h
    rename_i o j hj
    obtain ⟨sp, rfl⟩ := asSub_ok hj
    simp only [Bool.and_eq_true, Bool.not_eq_true'] at h
    obtain ⟨⟨⟨h1, h3⟩, h4⟩, h5⟩ := h
    split at h3
    rotate_left
    · cases h3
    rename_i x hn
    obtain ⟨p0, rfl⟩ := asName_ok hn
    obtain ⟨j1, j2, j3⟩ := and3 h3
    have g := chkE_ok T D m ml false sc a X W h4 hX.x
    have g2 := chkE_ok T D ix ml false sc j X W h5 hX.x
    exact st_setSub (by rw [hX.x.N]; exact of_decide_eq_true j1) (hX.x.vis j2) (dunB_ok j3).1 (dunB_ok j3).2 (g.sv hf) (fun e => g2.sv hf) (assign_sub h1) (sw_sole rfl)
  | .setCell o ix m, ml, sc, st, X, W, f, e, h, hX, hf, hk => by
    unfold chkS at h
    split at h
    rotate_left
    · cases h
    rename_i tg a hx
    obtain ⟨p, rfl⟩ := asAsg_ok hx
    split at h
    rotate_left
    · cases h
    rename_i x j hj
    obtain ⟨sp, rfl⟩ := asSub_ok hj
    simp only [Bool.and_eq_true, Bool.not_eq_true'] at h
    obtain ⟨⟨⟨h1, h3⟩, h4⟩, h5⟩ := h
    have g := chkE_ok T D m ml false sc a X W h3 hX.x
    have g1 := chkE_ok T D o ml false sc x X W h4 hX.x
    have g2 := chkE_ok T D ix ml false sc j X W h5 hX.x
    exact st_setCell (g.sv hf) (fun e => g1.sv hf) (fun e => g2.sv hf) (assign_sub h1) (sw_sole rfl)
  | .append i m, ml, sc, st, X, W, f, e, h, hX, hf, hk => by
    unfold chkS at h
    split at h
    rotate_left
    · cases h
    rename_i a p hx
    obtain rfl := asExprS_ok hx
    obtain ⟨x, p0, apos, pos, y, rfl, j1, j2, j3, j4, j5, j6⟩ := methB_ok h hX.x
    exact st_append j2 j3 (dunB_ok j4).1 (dunB_ok j4).2 j5 (j6.sv hf) j1 rfl
  | .extend i m, ml, sc, st, X, W, f, e, h, hX, hf, hk => by
    unfold chkS at h
    split at h
    rotate_left
    · cases h
    rename_i a p hx
    obtain rfl := asExprS_ok hx
    obtain ⟨x, p0, apos, pos, y, rfl, j1, j2, j3, j4, j5, j6⟩ := methB_ok h hX.x
    exact st_extend j2 j3 (dunB_ok j4).1 (dunB_ok j4).2 j5 (j6.sv hf) j1 rfl
  | .pop _ _ _, ml, sc, st, X, W, f, e, h, hX, hf, hk => by
    unfold chkS at h
    cases h
  | .ifS c A B, ml, sc, st, X, W, f, e, h, hX, hf, hk => by
    unfold chkS at h
    split at h
    rotate_left
    · cases h
    rename_i x as bs hx
    obtain ⟨p, rfl⟩ := asIf_ok hx
    simp only [Bool.and_eq_true] at h
    obtain ⟨⟨⟨h1, h2⟩, h3⟩, h4⟩ := h
    have g := chkE_ok T D c ml false sc x X W h2 hX.x
    exact st_if (g.st hf h1) (chkSs_ok T D A ml sc as X W f e h3 hX hf hk) (chkSs_ok T D B ml sc bs X W f e h4 hX hf hk)
  | .whl c B, ml, sc, st, X, W, f, e, h, hX, hf, hk => by
    unfold chkS at h
    split at h
    rotate_left
    · cases h
    rename_i x as hx
    obtain ⟨p, rfl⟩ := asWhl_ok hx
    obtain ⟨h1, h2, h3⟩ := and3 h
    have g := chkE_ok T D c ml false sc x X W h2 hX.x
    exact st_whl hX.own (g.st hf h1) (chkSs_ok T D B ml sc as X W f e h3 hX hf hk)
  | .for_ t it B, ml, sc, st, X, W, f, e, h, hX, hf, hk => by
    unfold chkS at h
    split at h
    rotate_left
    · cases h
    rename_i tg iter as hx
    obtain ⟨p, rfl⟩ := asFor_ok hx
    obtain ⟨h1, h2, h3⟩ := and3 h
    have gi := chkI_s (e := e) h2 hX.x hf
    exact st_for hX.own hX.x.calm hX.x.nd gi.1 (tgB_ok hX.x.N hX.x.sc (fun x _ => hX.x.fn rfl x) h1) hk (fun e' hk' => chkSs_ok T D B ml sc as X W f e' h3 hX hf hk') (folded_ok gi.2)
  | .ret m, ml, sc, st, X, W, f, e, h, hX, hf, hk => by
    unfold chkS at h
    split at h
    rotate_left
    · cases h
    rename_i a hx
    obtain ⟨p, rfl⟩ := asRet_ok hx
    cases m with
    | none =>
      unfold chkO at h
      rw [Option.isNone_iff_eq_none] at h
      subst h
      exact st_retN
    | some m =>
      unfold chkO at h
      split at h
      · rename_i x
        exact st_ret hf.col ((chkE_ok T D m ml false sc x X W h hX.x).pe _ hf.cfg1)
      · cases h
  | .raise c m, ml, sc, st, X, W, f, e, h, hX, hf, hk => by
    unfold chkS at h
    split at h
    rotate_left
    · cases h
    rename_i cn a hx
    obtain ⟨p, p1, p2, rfl⟩ := asRaise_ok hx
    simp only [Bool.and_eq_true, Bool.not_eq_true'] at h
    obtain ⟨⟨⟨⟨⟨h1, h2⟩, h3⟩, h4⟩, h5⟩, h6⟩ := h
    obtain rfl := of_decide_eq_true h1
    obtain ⟨C, fI, fl, r1, r2⟩ := hX.raises cn (of_decide_eq_true h2)
    exact st_raise hf.col hX.x.calm r1 r2 hX.x.room.rm hX.x.takes ((chkE_ok T D m ml false sc a X W h6 hX.x).pe _ hf.cfg1) (hX.x.gl h3) h5 (dunB_ok h4).1
  | .pass, ml, sc, st, X, W, f, e, h, hX, hf, hk => by
    unfold chkS at h
    obtain ⟨p, rfl⟩ := isPass_ok h
    exact st_pass
  | .frz _, ml, sc, st, X, W, f, e, h, hX, hf, hk => by
    unfold chkS at h
    cases h
  | .spoil m, ml, sc, st, X, W, f, e, h, hX, hf, hk => by
    unfold chkS at h
    split at h
    rotate_left
    · cases h
    rename_i a p hx
    obtain rfl := asExprS_ok hx
    split at h
    rotate_left
    · cases h
    rename_i g es ks hc
    obtain ⟨p0, p1, rfl⟩ := asCall_ok hc
    simp only [Bool.and_eq_true] at h
    obtain ⟨⟨⟨⟨h1, h2⟩, h3⟩, h4⟩, h5⟩ := h
    obtain rfl := of_decide_eq_true h2
    rw [List.isEmpty_iff] at h4
    subst h4
    split at h5
    rotate_left
    · cases h5
    rename_i y
    rw [Bool.and_eq_true, Bool.not_eq_true'] at h5
    obtain ⟨ga, fd, s1, s2, s3, s4⟩ := hX.sp h1
    have gy := chkE_ok T D m ml false sc y X W h5.2 hX.x
    exact st_spoil hf.lo hk (n := 21) (by decide) s4 (hX.x.room.mono (by unfold lv; omega)) (hX.x.gl h3) s1 s2 s3 hX.x.takes (fun hl => gy.sv (f := f.reg) (e := e) (hf.reg hl)) h5.1
  | .dead, ml, sc, st, X, W, f, e, h, hX, hf, hk => ⟨fun pins s σ H D I ⟨sl, S, F, ι, out, k, hr, kk⟩ => by cases hr⟩
theorem chkSs_ok (T : St0) (D : Dt) : ∀ (r : Ss) (ml : Bool) (sc : Scope) (sts : List Stmt) (X : Cx) (W : WX) (f : Fr) (e : E0), chkSs D r ml sc sts = true → XS T D ml sc X W → FrOk T f → KOk f e → PSs X sts (tSt T.ex W f.be e (exs f r))
  | .nil, ml, sc, sts, X, W, f, e, h, hX, hf, hk => by
    unfold chkSs at h
    rw [List.isEmpty_iff] at h
    subst h
    exact sts_nil
  | .cons s r, ml, sc, sts, X, W, f, e, h, hX, hf, hk => by
    unfold chkSs at h
    split at h
    · rename_i is
      exact PSs.imp (chkSs_ok T D r ml sc sts X W f e h hX hf hk) fun D σ H h => st_frz hf.col (seq_core (r1 := Mv.ex f (.frz is)) h)
    · split at h
      · rename_i st sts'
        rw [Bool.and_eq_true] at h
        exact sts_cons (chkS_ok T D s ml sc st X W f e h.1 hX hf hk) (chkSs_ok T D r ml sc sts' X W f e h.2 hX hf hk)
      · cases h
end
end
end Mv

end
section
set_option Elab.async false
set_option linter.all false
set_option autoImplicit false
set_option maxRecDepth 100000
namespace Mv
open PySem PySem.Spec PyProof.Rows L2
variable [Tbs]
section
variable {F F' : FHp} {ι ι' : List Addr} {S S' : Store} {H H' : Hp}
theorem Sim.le {b b' : Nat} (s : Sim b F ι S H) (h : b ≤ b') : Sim b' F ι S H := ⟨s.fh, fun a c o e => Nat.lt_of_lt_of_le (s.fc a c o e) h, s.len, s.cell, s.apart, s.pl, s.tabs⟩
theorem Tr.le {b b' : Nat} (t : Tr b' F ι S H F' ι' S' H') (h : b ≤ b') : Tr b F ι S H F' ι' S' H' := ⟨fun a c o e q => t.keep a c o e (Nat.lt_of_lt_of_le q h), t.ext, t.priv, t.dom⟩
theorem Tr.dropTo {b b' : Nat} (t : Tr b' F ι S H F' ι' S' H') (h : b ≤ b') : Tr b F ι S H (dropF b F') ι' S' H' := ⟨fun a c o e q => dropF_of (t.keep a c o e (Nat.lt_of_lt_of_le q h)) q, t.ext, fun a q => by
  obtain ⟨e, p1, p2, p3⟩ := t.priv a q
  exact ⟨e, p1, dropF_none (.inl p2), p3⟩, t.dom⟩
/-- what a def gives, its own regions forgotten -/
theorem fin_def {cm rg : Nat} {v : MV} {y : V} (hcm : 0 < cm) (t : Tr (cm + rg) F ι S H F' ι' S' H') (s : Sim (cm + rg) F' ι' S' H') (r : RV F' ι' v y) (hv : rg = 0 ∨ colsLt cm v = true) : ∃ F2, Tr cm F ι S H F2 ι' S' H' ∧ Sim cm F2 ι' S' H' ∧ RV F2 ι' v y := by
  rcases hv with rfl | hv
  · exact ⟨F', t, s, r⟩
  · exact ⟨dropF cm F', t.dropTo (Nat.le_add_right _ _), s.drop hcm, r.drop hcm hv⟩
/-- the slots at the entry -/
theorem start_ok {be : Nat} {d : Df} {N : List Str} {ws : List MV} {vs : List V} (s : Sim be F ι S H) (r : RVL F ι ws vs) (hn : d.n = N.length) : StOk be ⟨F, ι, S, H, fun _ => none, []⟩ F ι S H (slots0 d ws) (L2.start N vs) := by
  have hl := r.length
  have no : ∀ (i : Nat) (xs : List MV), (slots0 d ws)[i]? ≠ some (.ol xs) := fun i xs h => by
    unfold slots0 at h
    rcases Nat.lt_or_ge i ws.length with q | q
    · rw [List.getElem?_append_left (by simpa using q), List.getElem?_map] at h
      obtain ⟨v, _, h2⟩ := Option.map_eq_some_iff.mp h
      cases h2
    · rw [List.getElem?_append_right (by simpa using q), List.getElem?_replicate] at h
      split at h <;> cases h
  refine ⟨s, Tr.refl, ⟨?_, fun i sv o h1 h2 => ?_, fun a ⟨i, xs, h1, _⟩ => absurd h1 (no i xs), fun i j xs ys a h1 _ _ _ => absurd h1 (no i xs)⟩, (fun a p h => nomatch (show (none : Option (Nat × HO)) = some p from h)), ⟨ι, rfl⟩⟩
  · unfold slots0 L2.start
    rw [List.length_append, List.length_append, List.length_map, List.length_map, List.length_replicate, List.length_replicate, hn, hl]
  · unfold slots0 at h1
    unfold L2.start at h2
    rcases Nat.lt_or_ge i ws.length with q | q
    · rw [List.getElem?_append_left (by simpa using q), List.getElem?_map] at h1
      rw [List.getElem?_append_left (by rw [List.length_map]; omega), List.getElem?_map] at h2
      obtain ⟨v, h3, rfl⟩ := Option.map_eq_some_iff.mp h1
      obtain ⟨x, h4, rfl⟩ := Option.map_eq_some_iff.mp h2
      obtain ⟨x', h5, h6⟩ := r.get h3
      rw [h4] at h5
      cases h5
      exact .val h6
    · rw [List.getElem?_append_right (by simpa using q), List.getElem?_replicate] at h1
      split at h1
      · cases h1
        exact .un
      · cases h1
end
/-- what is shared by all defs of a text -/
structure Prg where
  p : Pg
  fuel : Nat
  ex : ExT
  hs : List MH
  kb : List (Str × List Str × Nat × List Nat)
  exs : List Str
  sp : Bool
def Prg.at_ (G : Prg) (k : Nat) : St0 := ⟨G.p, G.fuel, k, G.ex, G.hs⟩
def Prg.dt (G : Prg) (N : List Str) : Dt := ⟨N, G.p, G.kb, G.exs, G.sp⟩
/-- a def of the text: where it stands, that it was looked at -/
structure DefOk (G : Prg) (K : PySem.W.Frag) (mg : Str → Option Value) (base : Heap) (f : Str) (d : Df) (fa : Addr) (N : List Str) (ml : Bool) (qual : Str) (params : Arguments) (body : List Stmt) (scope : Scope) (dV kV doc pm cdv ct : Value) (an : Option Addr) : Prop where
  gl : mg f = some (.ref fa)
  kp : PySem.W.keepIn K (.ref fa) = true
  lk : ∃ (oc : Value) (od : Option Addr) (osl : Array (Option Value)), K.lookup fa = some ⟨oc, od, .func (PySem.W.fnOf f qual params body scope dV kV doc pm an cdv ct), osl⟩
  cd : PySem.W.codeIn K cdv qual = true
  sc : FnScope N d.ps scope
  n : d.n = N.length
  chk : chkSs (G.dt N) d.body ml scope body = true
  kb : ∀ (ks : List Str) (n : Nat) (pm' : List Nat), (f, ks, n, pm') ∈ G.kb → KB (PySem.W.fnOf f qual params body scope dV kV doc pm an cdv ct) d.ps ks n pm'
  lam : ml = true → ∃ c P : Addr, cdv = .ref c ∧ LamX.TabB base mg c P ∧ (P, (qual ++ (".<locals>." : Str)) ++ ("<lambda>" : Str)) ∈ Tbs.T ∧ ∀ p ∈ Tbs.T, p.1 = P → p.2 = (qual ++ (".<locals>." : Str)) ++ ("<lambda>" : Str)
/-- the text's facts -/
structure TxtOk (G : Prg) (P : Program) (w : World) (K : PySem.W.Frag) (mg : Str → Option Value) (base : Heap) : Prop where
  hs : G.p.hs = hsOf G.hs
  mgB : ∀ b ∈ bnames, mg b = none
  defs : ∀ (f : Str) (d : Df), G.p.get f = some d → ∃ fa N ml qual params body scope dV kV doc pm cdv ct an, DefOk G K mg base f d fa N ml qual params body scope dV kV doc pm cdv ct an
  met : (∃ h, h ∈ G.hs) → MetD G.ex G.hs K mg
  raises : ∀ cn ∈ G.exs, ∃ (C fI : Addr) (fl : Str), PySem.OwnX.ClsTxt K mg cn fl C fI ∧ G.ex cn = some (C, fl)
  sp : G.sp = true → ∃ (ga : Addr) (fd : FuncData), mg "_law_spoilt" = some (.ref ga) ∧ PySem.W.keepIn K (.ref ga) = true ∧ KB fd ["thing"] [] 1 [] ∧ FnG P w K mg base (L2.CX P w) 21 ga fd ["thing"] (spSpoil 21)
section
variable {G : Prg} {P : Program} {w : World} {K : PySem.W.Frag} {mg : Str → Option Value} {base : Heap}
/-- a lambda stands in the text only where there is a def that catches -/
def Prg.mlOk (G : Prg) : Prop := ∃ h, h ∈ G.hs
theorem body_ok (tx : TxtOk G P w K mg base) {k : Nat} {f : Str} {d : Df} {fa : Addr} {N : List Str} {ml : Bool} {qual : Str} {params : Arguments} {body : List Stmt} {scope : Scope} {dV kV doc pm cdv ct : Value} {an : Option Addr}
    (hd : G.p.get f = some d) (dk : DefOk G K mg base f d fa N ml qual params body scope dV kV doc pm cdv ct an) (hml : ml = true → G.mlOk)
    (ih : ∀ (f : Str) (d : Df), G.p.get f = some d → ∃ (fa : Addr) (fd : FuncData), mg f = some (.ref fa) ∧ PySem.W.keepIn K (.ref fa) = true ∧ FnG P w K mg base (L2.CX P w) (lv k) fa fd d.ps (spM G.p G.fuel k G.ex f) ∧ ∀ (ks : List Str) (n : Nat) (pm : List Nat), (f, ks, n, pm) ∈ G.kb → KB fd d.ps ks n pm) :
    FnG P w K mg base (L2.CX P w) (lv (k + 1)) fa (PySem.W.fnOf f qual params body scope dV kV doc pm an cdv ct) d.ps (spM G.p G.fuel (k + 1) G.ex f) := by
  obtain ⟨oc, od, osl, lk⟩ := dk.lk
  refine fnG_of (k := lv k + 2) lk dk.cd dk.sc (spM_len hd) fun A outer s H vs Q E hr h => ?_
  obtain ⟨F, ι, S, ws, col, cm, out, h1, h2, h3, h4, h5⟩ := h
  have hcm : 0 < cm := Nat.lt_of_le_of_lt (Nat.zero_le _) h1
  have hrun : runDf G.p G.fuel (callN G.p G.fuel k) d ws col cm S = some out := by
    have := h4
    unfold callN at this
    rw [hd] at this
    exact this
  have room : RoomG (lv k) (A.deeper (envOfC qual scope s.heap.objs.size fa cdv)) := hr.mono (Nat.le_add_right _ _)
  have tk : Takes (cxOf (L2.CX P w) P w K mg base N qual scope fa cdv A outer s H E) (WX0 E) := takes_of rfl rfl rfl rfl
  have own : PassesOwn (model P w) (A.deeper (envOfC qual scope s.heap.objs.size fa cdv)) (envOfC qual scope s.heap.objs.size fa cdv) (cxOf (L2.CX P w) P w K mg base N qual scope fa cdv A outer s H E).xe := passes_of (X := cxOf (L2.CX P w) P w K mg base N qual scope fa cdv A outer s H E) rfl
  have met : ml = true → MetD G.ex G.hs K mg ∧ MetS (cxOf (L2.CX P w) P w K mg base N qual scope fa cdv A outer s H E) (lv k) := fun q => by
    obtain ⟨c, P', l1, l2, l3, l4⟩ := dk.lam q
    have z : MetS0 base mg cdv (qual ++ (".<locals>." : Str)) (A.deeper (envOfC qual scope s.heap.objs.size fa cdv)) (lv k) := ⟨c, P', l2, l1, l3, l4, hr⟩
    exact ⟨tx.met (hml q), z⟩
  have hX0 : XOk (G.at_ k) (G.dt N) ml false scope (cxOf (L2.CX P w) P w K mg base N qual scope fa cdv A outer s H E) (WX0 E) :=
    ⟨rfl, dk.sc.kind, rfl, dk.sc.nd, rfl, rfl, room, tk, tx.mgB, ih, met, fun _ _ => rfl⟩
  have hX : XS (G.at_ k) (G.dt N) ml scope (cxOf (L2.CX P w) P w K mg base N qual scope fa cdv A outer s H E) (WX0 E) := ⟨hX0, own, tx.raises, tx.sp⟩
  have hF : FrOk (G.at_ k) ⟨callN G.p G.fuel k, col, cm + d.rg, G.p.hs, G.fuel, cm⟩ := ⟨rfl, by show col < cm + d.rg; omega, hcm, tx.hs⟩
  have hK : KOk ⟨callN G.p G.fuel k, col, cm + d.rg, G.p.hs, G.fuel, cm⟩ ⟨F, ι, S, H, fun _ => none, []⟩ := ⟨(fun a p h => nomatch (show (none : Option (Nat × HO)) = some p from h)), fun a p h => h2.fc a p.1 p.2 h⟩
  refine ⟨_, chkSs_ok (G.at_ k) (G.dt N) d.body ml scope body _ (WX0 E) _ ⟨F, ι, S, H, fun _ => none, []⟩ dk.chk hX hF hK, ?_⟩
  unfold runDf at hrun
  split at hrun
  rotate_left
  · cases hrun
  have st := start_ok (d := d) (N := N) (h2.le (Nat.le_add_right cm d.rg)) h3 dk.n
  split at hrun
  · rename_i r S1 hb
    simp only [] at hrun
    obtain ⟨hv, hq⟩ := if_some hrun
    have hq := ok_some hq
    subst hq
    refine ⟨slots0 d ws, S, F, ι, .ok r S1, st, hb, ?_⟩
    cases r with
    | nx sl' =>
      intro F' ι' σ' H' k1
      obtain ⟨F2, t2, s2, r2⟩ := fin_def (v := .non) (y := .non) hcm k1.tr k1.sim .non (rg := d.rg) (.inr rfl)
      exact h5 F2 ι' H' .non t2 s2 .non
    | rt v =>
      intro F' ι' H' y t s r
      obtain ⟨F2, t2, s2, r2⟩ := fin_def hcm t s r hv
      exact h5 F2 ι' H' y t2 s2 r2
  · rename_i c v S1 hb
    obtain ⟨hv, hq⟩ := if_some hrun
    cases hq
    refine ⟨slots0 d ws, S, F, ι, .exc c v S1, st, hb, ?_⟩
    intro F' ι' H' dd C ff y σ t s r e1 e2
    obtain ⟨F2, t2, s2, r2⟩ := fin_def hcm t s r hv
    exact h5 F2 ι' H' dd C ff y t2 s2 r2 e1 e2
  · cases hrun
/-- all of them, at every depth -/
theorem all_fns (tx : TxtOk G P w K mg base) (hml : G.mlOk ∨ ∀ f d fa N ml qual params body scope dV kV doc pm cdv ct an, G.p.get f = some d → DefOk G K mg base f d fa N ml qual params body scope dV kV doc pm cdv ct an → ml = false) : ∀ (k : Nat) (f : Str) (d : Df), G.p.get f = some d → ∃ (fa : Addr) (fd : FuncData), mg f = some (.ref fa) ∧ PySem.W.keepIn K (.ref fa) = true ∧
    FnG P w K mg base (L2.CX P w) (lv k) fa fd d.ps (spM G.p G.fuel k G.ex f) ∧ ∀ (ks : List Str) (n : Nat) (pm : List Nat), (f, ks, n, pm) ∈ G.kb → KB fd d.ps ks n pm
  | 0, f, d, hd => by
    obtain ⟨fa, N, ml, qual, params, body, scope, dV, kV, doc, pm, cdv, ct, an, dk⟩ := tx.defs f d hd
    exact ⟨fa, _, dk.gl, dk.kp, ⟨spM_len hd, fun A outer s H args us vs Q E _ _ _ _ ⟨F, ι, S, ws, col, cm, out, h1, h2, h3, h4, h5⟩ => by cases h4⟩, dk.kb⟩
  | k + 1, f, d, hd => by
    obtain ⟨fa, N, ml, qual, params, body, scope, dV, kV, doc, pm, cdv, ct, an, dk⟩ := tx.defs f d hd
    refine ⟨fa, _, dk.gl, dk.kp, body_ok tx hd dk (fun q => ?_) (all_fns tx hml k), dk.kb⟩
    rcases hml with z | z
    · exact z
    · rw [z _ _ _ _ _ _ _ _ _ _ _ _ _ _ _ _ hd dk] at q
      cases q
end
end Mv

end
section
set_option Elab.async false
set_option linter.all false
set_option autoImplicit false
set_option maxRecDepth 100000
set_option maxHeartbeats 2000000
namespace Mv
open PySem PySem.Spec PyProof.Rows L2 LamX
/-- the heap that the law starts with: the script and the tables -/
def startH (a : Addr) (sc : Obj) (ns : List Int) (cs : List (Addr × Addr)) : Hp := fun b => if b = a then some (.frz sc (.lst (ns.map V.int))) else if b ∈ cs.map (·.2) then some (.tbl #[]) else none
theorem law_callG {P : Program} {w : World} {K : PySem.W.Frag} {mg mb : Str → Option Value} {CX : CXT} {k : Nat} {fa a : Addr} {cs : List (Addr × Addr)} {fd : FuncData} {x : Str} {sp : Sp} {s₁ : Shared} {vs : List Value} {ns : List Int}
    (KX : K.In s₁.heap) (hns : s₁.heap.Ns mainGlobals mg) (hb : s₁.heap.Ns builtinsNs mb) (hbb : ∀ x : Str, x ≠ "__name__" → mb x = bootBuiltins x) (hlim : s₁.heap.NoLimit) (hg : s₁.gens = #[])
    (hT : ∀ p ∈ cs, s₁.heap.get? p.2 = some { cls := .none, data := .fields #[] }) (nT : ∀ p ∈ cs, K.lookup p.2 = none) (C : ∀ p ∈ cs, PySem.W.CodeHd s₁.heap p.1 p.2)
    (hbm : ∃ (bm : Addr) (ob : Obj), mg "__builtins__" = some (.ref bm) ∧ bm ≠ builtinsNs ∧ s₁.heap.get? bm = some ob ∧ ob.cls = .type "module" ∧ ob.dict = some builtinsNs ∧ ob.data = .plain)
    (ha : s₁.heap.get? a = some { cls := .type "list", data := .seq vs.toArray }) (hi : IntsAre vs ns) (hl : ns.length ≤ sizeLine) (hr : RoomG k callerA) (hnl : K.lookup a = none)
    (F : ∀ base : Heap, K.In base → base.Ns mainGlobals mg → (∀ p ∈ cs, TabB base mg p.1 p.2) → FnG P w K mg base CX k fa fd [x] sp) (hbind : ∀ (s : Shared) (u : Value), BindsTo s fd ⟨[u], []⟩ [(x, u)])
    (hsp : (∀ p ∈ cs, p.2 ≠ a) → sp [.ref a] (startH a { cls := .type "list", data := .seq vs.toArray } ns cs) (fun v _ => v = .bl true) fun _ _ _ => False)
    (hCX : ∀ H e s', CX [] H s₁ (fun _ _ _ => False) e s' → False) :
    codeAny (model P w) callerA (.call (.ref fa) ⟨[.ref a], []⟩) (fun r s' => r = .ok (.ret (.bool true)) ∧ OldK s₁.heap s'.heap ∧ s'.os = s₁.os ∧ AllBare s'.gens) s₁ := by
  have rv := vals_ints hi
  have lenV := hi.length
  have isT : ∀ b : Addr, b ∈ cs.map (·.2) → s₁.heap.get? b = some { cls := .none, data := .fields #[] } := fun b hb => by
    obtain ⟨p, hp, e⟩ := List.mem_map.mp hb
    rw [← e]
    exact hT p hp
  have aT : a ∉ cs.map (·.2) := fun z => by
    have q := isT a z
    rw [ha] at q
    have z' : Data.seq vs.toArray _ = Data.fields #[] := congrArg Obj.data (Option.some.inj q)
    cases z'
  have memT : ∀ p ∈ cs, p.2 ∈ cs.map (·.2) := fun p hp => List.mem_map.mpr ⟨p, hp, rfl⟩
  obtain ⟨H, hHd⟩ : ∃ H, H = startH a { cls := .type "list", data := .seq vs.toArray } ns cs := ⟨_, rfl⟩
  have Ha : H a = some (.frz { cls := .type "list", data := .seq vs.toArray } (.lst (ns.map V.int))) := by rw [hHd]; exact if_pos rfl
  have HT : ∀ b, b ∈ cs.map (·.2) → H b = some (.tbl #[]) := fun b hb => by
    rw [hHd]
    exact (if_neg (fun z => aT (by rw [← z]; exact hb))).trans (if_pos hb)
  have HN : ∀ b, b ≠ a → b ∉ cs.map (·.2) → H b = none := fun b h1 h2 => by
    rw [hHd]
    exact (if_neg h1).trans (if_neg h2)
  have hA : ∀ b, H b ≠ none → b = a ∨ b ∈ cs.map (·.2) := fun b h => by
    by_cases h1 : b = a
    · exact .inl h1
    · by_cases h2 : b ∈ cs.map (·.2)
      · exact .inr h2
      · exact absurd (HN b h1 h2) h
  have hok : HOk P w H s₁.heap := fun b u z => by
    rcases hA b (by rw [z]; exact fun y => nomatch y) with h1 | h1
    · subst h1
      rw [Ha] at z
      cases z
      exact ⟨ha, by rw [List.length_map]; exact hl, vs, _, rv, ha⟩
    · rw [HT b h1] at z
      cases z
      exact isT b h1
  have base_of : ∀ {b : Addr} {o : Obj}, s₁.heap.get? b = some o → H b = none → (hidT s₁.heap H).get? b = some o := fun e n => hidT_get e n
  have noD : ∀ {b : Addr} {o : Obj}, s₁.heap.get? b = some o → (∀ vs n, o.data ≠ .seq vs n) → o.data ≠ .fields #[] → H b = none := fun {b o} e h1 h2 => by
    cases q : H b with
    | none => rfl
    | some u =>
      rcases hA b (by rw [q]; simp) with e' | e'
      · rw [e', ha] at e
        cases e
        exact (h1 _ _ rfl).elim
      · rw [isT b e'] at e
        cases e
        exact (h2 rfl).elim
  have noA : ∀ {b : Addr} {o : Obj} {es : Array DictEntry} {ep : Nat}, s₁.heap.get? b = some o → o.data = .dict es ep → H b = none := fun {b o es ep} e d => by
    refine noD e (fun vs n z => ?_) fun z => ?_
    · rw [d] at z
      cases z
    · rw [d] at z
      cases z
  have nsK : ∀ {b : Addr} {m : Str → Option Value}, s₁.heap.Ns b m → (hidT s₁.heap H).Ns b m := fun {b m} ⟨o, es, ep, e, d, r⟩ => ⟨o, es, ep, base_of e (noA e d), d, r⟩
  have hKb : K.In (hidT s₁.heap H) := fun b o e => base_of (KX b o e) (by
    cases q : H b with
    | none => rfl
    | some u =>
      rcases hA b (by rw [q]; simp) with e' | e'
      · rw [e', hnl] at e
        cases e
      · obtain ⟨p, hp, ep⟩ := List.mem_map.mp e'
        rw [← ep, nT p hp] at e
        cases e)
  have hM : L2.Mod K mg (hidT s₁.heap H) := ⟨hKb, nsK hns, ⟨mb, nsK hb, hbb⟩, let ⟨mc, h1, h2⟩ := hlim; ⟨mc, nsK h1, h2⟩⟩
  have TB : ∀ p ∈ cs, TabB (hidT s₁.heap H) mg p.1 p.2 := fun p hp => by
    have hTp := hT p hp
    refine ⟨?_, ?_, fun z => ?_⟩
    · obtain ⟨o, us, file, tf, flags, tg, inF, text, tt, e1, r1, r2, r3, r4, r5, r6, r7, r8, hne⟩ := C p hp
      refine ⟨o, us, file, tf, flags, tg, inF, text, tt, base_of e1 (noD e1 (fun vs n z => ?_) fun z => ?_), r1, r2, r3, r4, r5, r6, r7, r8, hne⟩
      · rw [r2] at z
        cases z
      · rw [r2] at z
        cases z
        simp at r3
    · obtain ⟨bm, ob, b1, b2, b3, b4, b5, b6⟩ := hbm
      have nG : bm ≠ mainGlobals := fun q => by
        obtain ⟨o, es, ep, e, hd, _⟩ := hns
        rw [q, e] at b3
        cases b3
        rw [hd] at b6
        cases b6
      have nP : bm ≠ p.2 := fun q => by
        rw [q, hTp] at b3
        cases b3
        cases b6
      refine ⟨bm, ob, b1, b2, nG, nP, base_of b3 (noD b3 (fun vs n z => ?_) fun z => ?_), b4, b5, b6⟩
      · rw [b6] at z
        cases z
      · rw [b6] at z
        cases z
    · obtain ⟨o, es, ep, e, hd, _⟩ := hns
      rw [z, hTp] at e
      cases e
      cases hd
  have e0 : Env0 P w K mg (hidT s₁.heap H) callerA [] s₁ H := ⟨rfl, hM, fun b o e => of_hidT e, Nat.le_of_eq (hidT_size _ _), trivial, fun b hb => absurd (show b ∈ ([] : List Addr) from hb) (by simp), hok, .of_eq hg⟩
  have hsp' : sp [.ref a] H (fun v _ => v = .bl true) fun _ _ _ => False := by
    rw [hHd]
    exact hsp fun p hp z => aT (by rw [← z]; exact memT p hp)
  refine codeAny_mono ((F _ hKb (nsK hns) TB).run callerA [] s₁ H ⟨[.ref a], []⟩ [.ref a] [.ref a] _ _ hr e0 (hbind s₁ (.ref a)) (.cons rfl .nil) hsp') fun r s' h => ?_
  cases r with
  | error e => exact (hCX H e s' h).elim
  | ok fl =>
    cases fl with
    | next => exact False.elim h
    | brk => exact False.elim h
    | cont => exact False.elim h
    | ret u =>
      obtain ⟨v, H', os, bare, un, hok', r', q⟩ := h
      have q' : v = .bl true := q
      subst q'
      obtain rfl : u = Value.bool true := r'
      have key : ∀ b o, b ∉ cs.map (·.2) → s₁.heap.get? b = some o → s'.heap.get? b = some o := fun b o nb e => by
        by_cases hba : b = a
        · subst hba
          have z2 := un.frzs b _ _ Ha
          obtain ⟨e2, _⟩ := hok' b _ z2
          rw [ha] at e
          cases e
          exact e2
        · exact un.keep b o e (HN b hba nb) (by intro z; exact absurd (show b ∈ ([] : List Addr) from z) (by simp)) (by simp)
      have grown : ∀ p ∈ cs, ∃ more : Array Value, s'.heap.get? p.2 = some { cls := .none, data := .fields more } := fun p hp => by
        obtain ⟨more, z⟩ := un.tbls p.2 #[] (HT p.2 (memT p hp))
        exact ⟨_, hok' p.2 _ z⟩
      refine ⟨rfl, ⟨fun b o e => ?_, fun b o e => ?_⟩, os, bare⟩
      · by_cases hb : b ∈ cs.map (·.2)
        · obtain ⟨p, hp, ep⟩ := List.mem_map.mp hb
          obtain ⟨more, hm⟩ := grown p hp
          rw [← ep] at e ⊢
          rw [hT p hp] at e
          cases e
          exact .inr (.inl ⟨((C p hp).tab (hT p hp)).isCodeTable, rfl, #[], more, rfl, by rw [Array.empty_append]; exact hm⟩)
        · exact .inl (key b o hb e)
      · by_cases hb : b ∈ cs.map (·.2)
        · obtain ⟨p, hp, ep⟩ := List.mem_map.mp hb
          obtain ⟨more, hm⟩ := grown p hp
          rw [← ep]
          exact ⟨_, hm⟩
        · exact ⟨o, key b o hb e⟩
/-- what is known of the law's promise at the head's heap h -/
def LawAtG (l : PySem.W.OpenLaw) (w : World) (K : PySem.W.Frag) (k n : Nat) (x : Str) (mg : Str → Option Value) (fa : Addr) (h : Heap) : Prop :=
  ∃ (fd : FuncData) (cs : List (Addr × Addr)) (sp : Sp), (∀ b o, K.lookup b = some o → (o.cls == .type "list") = false) ∧ (∀ p ∈ cs, h.get? p.2 = some { cls := .none, data := .fields #[] }) ∧ (∀ p ∈ cs, K.lookup p.2 = none) ∧ (∀ p ∈ cs, PySem.W.CodeHd h p.1 p.2) ∧ (∀ (s : Shared) (u : Value), BindsTo s fd ⟨[u], []⟩ [(x, u)]) ∧
    (∀ (a : Addr) (sc : Obj) (ns : List Int), ns.length ≤ n → (∀ z ∈ ns, Builtin.Int.intBits z ≤ 1048576) → (∀ p ∈ cs, p.2 ≠ a) → sp [.ref a] (startH a sc ns cs) (fun v _ => v = .bl true) fun _ _ _ => False) ∧
    ∀ base : Heap, K.In base → base.Ns mainGlobals mg → (∀ p ∈ cs, TabB base mg p.1 p.2) → FnG l.prog w K mg base (L2.CX l.prog w) k fa fd [x] sp
theorem walk_ofG {l : PySem.W.OpenLaw} {n k : Nat} {q : Program} {loose : List Str} {XP : (Str → Option Value) → Heap → Prop} {YP : World → Heap → Prop} {d : DefRec} {K : Params → PySem.W.Frag} {x : Str}
    (hn : l.most = some n) (hn2 : n ≤ sizeLine) (hdf : d.params.defaults = []) (hr : RoomG k callerA) (hY : ∀ (w : World) (h : Heap), YP w h → (K w.params).In h)
    (F : ∀ (w : World) (mg : Str → Option Value) (fa : Addr) (h : Heap), YP w h → (K w.params).In h → h.Ns mainGlobals mg → mg d.name = some (.ref fa) → LawAtG l w (K w.params) k n x mg fa h) :
    PySem.W.WalkO q loose XP YP l.row.toRowW d [] (fun f vs => PySem.call f vs) := by
  refine Att.attach_callB hn hdf fun w s₀ s₁ mg mb fa o pm cd doc a vs ns G Y ho hd hcd hmg hobj hints hlen hbits hg => ?_
  have KX := hY w _ Y
  obtain ⟨fd, cs, sp, hnl, hT, nT, C, hb, hsp, hF⟩ := F w mg fa _ Y KX G.T.g hmg
  have hnl' : (K w.params).lookup a = none := by
    cases e : (K w.params).lookup a with
    | none => rfl
    | some o =>
      have e1 := KX a o e
      rw [hobj] at e1
      cases e1
      have := hnl a _ e
      cases this
  exact law_callG KX G.T.g G.T.b G.T.builtins G.T.nolimit hg hT nT C G.T.bmain hobj hints (Nat.le_trans hlen hn2) hr hnl' hF hb (fun ht => hsp a _ ns hlen hbits ht) fun H e s' z => by
    obtain ⟨_, _, _, _, _, _, _, _, _, _, _, _, w⟩ := z
    exact w
end Mv

end
section
set_option Elab.async false
set_option linter.all false
set_option autoImplicit false
set_option maxRecDepth 100000
namespace Mv
open PySem PySem.Spec PyProof.Rows L2 PySem.W PySem.HandSPX

/-- a global that is an object -/
def glRef (K : Frag) (x : Str) : Option Addr := match nsIn K mainGlobals x with
  | some (some (.ref a)) => some a
  | _ => none
theorem glRef_ok {K : Frag} {x : Str} {a : Addr} (h : glRef K x = some a) : nsIn K mainGlobals x = some (some (.ref a)) := by
  unfold glRef at h
  split at h
  · cases h; assumption
  · cases h
def glNo (K : Frag) (x : Str) : Bool := match nsIn K mainGlobals x with
  | some none => true
  | _ => false
theorem glNo_ok {K : Frag} {x : Str} (h : glNo K x = true) : nsIn K mainGlobals x = some none := by
  unfold glNo at h
  split at h
  · assumption
  · cases h
/-- a def's function object -/
def fnAt (K : Frag) (a : Addr) : Option (FuncData × List Stmt) := match K.lookup a with
  | some ⟨_, _, .func fd, _⟩ => match fd.body with
    | .stmts b => if decide (fd.globals = mainGlobals) && fd.closure.isEmpty && decide (fd.builtins = builtinsNs) then some (fd, b) else none
    | _ => none
  | _ => none
theorem fnAt_ok {K : Frag} {a : Addr} {fd : FuncData} {b : List Stmt} (h : fnAt K a = some (fd, b)) : (∃ (oc : Value) (od : Option Addr) (osl : Array (Option Value)), K.lookup a = some ⟨oc, od, .func fd, osl⟩) ∧ fd = fnOf fd.name fd.qualname fd.params b fd.scope fd.defaults fd.kwdefaults fd.doc fd.pyModule fd.annotations fd.code fd.closureTuple := by
  unfold fnAt at h
  split at h
  · rename_i oc od fd' osl hk
    split at h
    · rename_i b' hb
      split at h
      · rename_i hc
        cases h
        simp only [Bool.and_eq_true, decide_eq_true_eq, List.isEmpty_iff] at hc
        refine ⟨⟨oc, od, osl, hk⟩, ?_⟩
        obtain ⟨⟨h1, h2⟩, h3⟩ := hc
        cases fd with
        | mk n q p bd sc g c d kd doc pm an cd ct bl =>
          simp only at hb h1 h2 h3
          subst hb h1 h2 h3
          rfl
      · cases h
    · cases h
  · cases h
def fnScopeB (N ps : List Str) (sc : Scope) : Bool :=
  decide (sc.kind = .function) && !sc.isCoroutine && !sc.isGenerator && decide N.Nodup && decide (N.take ps.length = ps) && (ps.all fun x => locB sc x) && (sc.names.all fun y => decide (y.2 ≠ .free))
theorem fnScopeB_ok {N ps : List Str} {sc : Scope} (h : fnScopeB N ps sc = true) : FnScope N ps sc := by
  unfold fnScopeB at h
  simp only [Bool.and_eq_true, Bool.not_eq_true', decide_eq_true_eq, List.all_eq_true] at h
  obtain ⟨⟨⟨⟨⟨⟨h1, h2⟩, h3⟩, h4⟩, h5⟩, h6⟩, h7⟩ := h
  exact ⟨h1, h2, h3, h4, h5, fun x hx => locB_ok (h6 x hx), h7⟩
/-- plain parameters -/
def plainArgs (a : Arguments) (ps : List Str) : Bool := a.posonlyargs.isEmpty && decide (a.args.map (·.arg) = ps) && a.vararg.isNone && a.kwonlyargs.isEmpty && a.kw_defaults.isEmpty && a.kwarg.isNone && a.defaults.isEmpty

def ixOf : List Str → Str → Option Nat
  | [], _ => none
  | y :: ys, x => if y = x then some 0 else (ixOf ys x).map (· + 1)
/-- the places of the parameters among what is given -/
def placesOf (ps ks : List Str) : Option (List Nat) := match ps with
  | [] => some []
  | p :: r => match ixOf ks p, placesOf r ks with
    | some i, some l => some (i :: l)
    | _, _ => none
def kbB (ps ks : List Str) (n : Nat) (pm : List Nat) : Bool :=
  match ks with
  | [] => decide (n = ps.length) && pm.isEmpty
  | _ => decide (n + ks.length = ps.length) && decide (ks.Nodup) && (ks.all fun k => ps.contains k && !(ps.take n).contains k) && decide (placesOf ps (ps.take n ++ ks) = some pm) && !pm.isEmpty
theorem forIn_app {f : (Str × Value) → (List (Str × Value) × List (Str × Value)) → Sem (ForInStep (List (Str × Value) × List (Str × Value)))} : ∀ (l slots : List (Str × Value)), (∀ pre x post, l = pre ++ x :: post → f x (slots ++ pre, []) = pure (.yield (slots ++ pre ++ [x], []))) → forIn l (slots, []) f = pure (slots ++ l, [])
  | [], slots, _ => by simp
  | x :: l, slots, h => by
    rw [List.forIn_cons]
    have h0 := h [] x l rfl
    rw [List.append_nil] at h0
    rw [h0, pure_bind]
    show forIn l (slots ++ [x], []) f = _
    rw [forIn_app l (slots ++ [x]) fun pre y post e => by
      have := h (x :: pre) y post (by rw [e]; rfl)
      simpa using this]
    simp
theorem lookup_none {x : Str} : ∀ {l : List (Str × Value)}, x ∉ l.map (·.1) → List.lookup x l = none
  | [], _ => rfl
  | (y, v) :: l, h => by
    simp only [List.map_cons, List.mem_cons, not_or] at h
    have : (x == y) = false := by simpa using h.1
    rw [List.lookup_cons, this]
    exact lookup_none h.2
theorem zip_keys : ∀ {ks : List Str} {vs : List Value}, ks.length = vs.length → (ks.zip vs).map (·.1) = ks
  | [], [], _ => rfl
  | k :: ks, v :: vs, h => by
    simp only [List.zip_cons_cons, List.map_cons]
    rw [zip_keys (by simpa using h)]
  | [], _ :: _, h => by simp at h
  | _ :: _, [], h => by simp at h
theorem lookup_ix {x : Str} : ∀ {K : List Str} {V : List Value} {i : Nat}, ixOf K x = some i → K.length = V.length → ∃ v, V[i]? = some v ∧ List.lookup x (K.zip V) = some v
  | [], _, _, h, _ => by cases h
  | y :: K, [], _, _, h => by simp at h
  | y :: K, v :: V, i, h, hl => by
    have h' : (if y = x then some 0 else (ixOf K x).map (· + 1)) = some i := h
    by_cases e : y = x
    · rw [if_pos e] at h'
      cases h'
      subst e
      exact ⟨v, rfl, by simp [List.lookup_cons]⟩
    · rw [if_neg e] at h'
      obtain ⟨j, hj, rfl⟩ := Option.map_eq_some_iff.mp h'
      obtain ⟨u, h1, h2⟩ := lookup_ix (V := V) hj (by simpa using hl)
      refine ⟨u, by simpa using h1, ?_⟩
      have : (x == y) = false := by simpa using fun z => e z.symm
      rw [List.zip_cons_cons, List.lookup_cons, this]
      exact h2
theorem places_ok {K : List Str} {V : List Value} (hl : K.length = V.length) : ∀ {qs : List Str} {pm : List Nat}, placesOf qs K = some pm → (qs.filterMap fun n => (List.lookup n (K.zip V)).map fun v => (n, v)) = qs.zip (pm.filterMap fun i => V[i]?)
  | [], pm, h => by cases h; rfl
  | q :: qs, pm, h => by
    have h' : (match ixOf K q, placesOf qs K with
      | some i, some l => some (i :: l)
      | _, _ => none) = some pm := h
    cases e1 : ixOf K q with
    | none => rw [e1] at h'; cases h'
    | some i =>
      cases e2 : placesOf qs K with
      | none => rw [e1, e2] at h'; cases h'
      | some l =>
        rw [e1, e2] at h'
        cases h'
        obtain ⟨v, h1, h2⟩ := lookup_ix e1 hl
        rw [List.filterMap_cons, h2]
        simp only [Option.map_some]
        rw [places_ok hl e2, List.filterMap_cons, h1]
        rfl
theorem zip_self : ∀ {ps : List Str} {us : List Value}, ps.Nodup → ps.length = us.length → ∀ pre : List (Str × Value), (∀ p ∈ ps, p ∉ pre.map (·.1)) → (ps.filterMap fun n => (List.lookup n (pre ++ ps.zip us)).map fun v => (n, v)) = ps.zip us
  | [], _, _, _, _, _ => rfl
  | p :: ps, [], _, h, _, _ => by simp at h
  | p :: ps, u :: us, nd, hl, pre, hp => by
    have nd' := List.nodup_cons.mp nd
    have h1 : List.lookup p (pre ++ (p, u) :: ps.zip us) = some u := by
      have : ∀ l : List (Str × Value), p ∉ l.map (·.1) → List.lookup p (l ++ (p, u) :: ps.zip us) = some u := by
        intro l
        induction l with
        | nil => intro _; simp [List.lookup_cons]
        | cons a l ih =>
          intro h
          simp only [List.map_cons, List.mem_cons, not_or] at h
          have e : (p == a.1) = false := by simpa using h.1
          rw [List.cons_append, List.lookup_cons, e]
          exact ih h.2
      exact this pre (hp p List.mem_cons_self)
    rw [List.zip_cons_cons, List.filterMap_cons, h1]
    simp only [Option.map_some]
    have := zip_self (ps := ps) (us := us) nd'.2 (by simpa using hl) (pre ++ [(p, u)]) fun q hq => by
      rw [List.map_append, List.mem_append, not_or]
      refine ⟨hp q (List.mem_cons_of_mem _ hq), ?_⟩
      simp only [List.map_cons, List.map_nil, List.mem_singleton]
      exact fun z => nd'.1 (by rw [← z]; exact hq)
    rw [List.append_assoc] at this
    rw [show ((p, u) :: ps.zip us) = [(p, u)] ++ ps.zip us from rfl, this]
    rfl
theorem plainArgs_ok {a : Arguments} {ps : List Str} (h : plainArgs a ps = true) : ∃ ar : List Arg, a = ⟨[], ar, none, [], [], none, []⟩ ∧ ar.map (·.arg) = ps := by
  obtain ⟨a1, a2, a3, a4, a5, a6, a7⟩ := a
  unfold plainArgs at h
  simp only [Bool.and_eq_true, List.isEmpty_iff, Option.isNone_iff_eq_none, decide_eq_true_eq] at h
  obtain ⟨⟨⟨⟨⟨⟨rfl, h2⟩, rfl⟩, rfl⟩, rfl⟩, rfl⟩, rfl⟩ := h
  exact ⟨a2, rfl, h2⟩
/-- the arguments bound: by their places -/
theorem bind_core {fd : FuncData} {ps ks : List Str} {us ws : List Value} {r : List (Str × Value)} (hp : plainArgs fd.params ps = true) (hd : fd.defaults = .none) (hu : us.length ≤ ps.length) (hks : ks.Nodup) (hk : ∀ k ∈ ks, ps.contains k = true ∧ k ∉ ps.take us.length) (hw : ks.length = ws.length)
    (hr : (ps.filterMap fun n => (List.lookup n (ps.zip us ++ ks.zip ws)).map fun v => (n, v)) = r) (hall : ∀ n ∈ ps, (List.lookup n (ps.zip us ++ ks.zip ws)).isSome = true) : bindArgs fd ⟨us, ks.zip ws⟩ = pure r := by
  obtain ⟨ar, e1, e2⟩ := plainArgs_ok hp
  have zk : (ps.zip us).map (·.1) = ps.take us.length := by
    have : ps.zip us = (ps.take us.length).zip us := by
      rw [List.zip_eq_zip_take_min]
      rw [Nat.min_eq_right hu, List.take_of_length_le (Nat.le_refl us.length)]
    rw [this]
    exact zip_keys (by rw [List.length_take]; omega)
  unfold bindArgs
  simp only [e1, e2, hd, List.map_nil, List.nil_append, List.append_nil]
  rw [forIn_app (ks.zip ws) (ps.zip us) ?_]
  · rw [pure_bind]
    have hmiss : ((List.take (ps.length - 0) ps).filter fun n => (List.lookup n (ps.zip us ++ ks.zip ws)).isNone) = [] := by
      rw [List.filter_eq_nil_iff]
      intro n hn
      have := hall n (List.mem_of_mem_take hn)
      simp [Option.isSome_iff_ne_none] at this
      simpa using this
    have hgt : ¬ us.length > ps.length := by omega
    have e3 : seqItems? Value.none = pure none := rfl
    rw [e3, pure_bind]
    simp only [Option.getD_none, List.drop_nil, List.length_nil, Nat.sub_zero, List.take_of_length_le (Nat.le_refl ps.length)]
    have hmiss' : (ps.filter fun n => (List.lookup n (ps.zip us ++ ks.zip ws)).isNone) = [] := by
      rw [List.filter_eq_nil_iff]
      intro n hn
      have := hall n hn
      simp [Option.isSome_iff_ne_none] at this
      simpa using this
    simp [hgt, hmiss', hr]
  · intro pre x post e
    have hx : x.1 ∈ ks := by
      have : x.1 ∈ (ks.zip ws).map (·.1) := by rw [e]; simp
      rw [zip_keys hw] at this
      exact this
    obtain ⟨k1, k2⟩ := hk _ hx
    have hpre : x.1 ∉ pre.map (·.1) := by
      have h1 : ((ks.zip ws).map (·.1)).Nodup := by rw [zip_keys hw]; exact hks
      rw [e, List.map_append, List.map_cons] at h1
      exact fun z => (List.nodup_append.mp h1).2.2 _ z _ List.mem_cons_self rfl
    have hl : List.lookup x.1 (ps.zip us ++ pre) = none := lookup_none (by rw [List.map_append, List.mem_append, not_or, zk]; exact ⟨k2, hpre⟩)
    rw [if_pos (by rw [k1]; rfl), if_neg (by rw [hl]; simp)]

theorem kb_of {fd : FuncData} {ps ks : List Str} {n : Nat} {pm : List Nat} (hp : plainArgs fd.params ps = true) (hd : fd.defaults = .none) (hN : ps.Nodup) (h : kbB ps ks n pm = true) : KB fd ps ks n pm := by
  intro us ws h1 h2
  unfold kbB at h
  split at h
  · rw [Bool.and_eq_true, List.isEmpty_iff, decide_eq_true_eq] at h
    obtain ⟨hn, rfl⟩ := h
    have hw : ws = [] := List.length_eq_zero_iff.mp h2
    subst hw
    have hl : ps.length = us.length := by omega
    show bindArgs fd ⟨us, List.zip [] []⟩ = pure (ps.zip (us ++ []))
    rw [List.append_nil]
    have zs := zip_self hN hl [] (fun _ _ => by simp)
    refine bind_core (ks := []) (ws := []) hp hd (by omega) (by simp) (fun k hk => nomatch hk) rfl ?_ ?_
    · simpa using zs
    · intro x hx
      simp only [List.zip_nil_left, List.append_nil]
      cases e : List.lookup x (ps.zip us) with
      | some v => rfl
      | none =>
        have : x ∉ ps := by
          intro hx'
          have hk : (ps.zip us).map (·.1) = ps := zip_keys hl
          rw [← hk] at hx'
          obtain ⟨p, hp1, hp2⟩ := List.mem_map.mp hx'
          have := List.lookup_eq_none_iff.mp e p hp1
          rw [hp2] at this
          simp at this
        exact absurd hx this
  · simp only [Bool.and_eq_true, decide_eq_true_eq, Bool.not_eq_true', List.all_eq_true] at h
    obtain ⟨⟨⟨⟨hn, hks⟩, hk⟩, hpl⟩, hpm⟩ := h
    have hle : us.length ≤ ps.length := by omega
    have hK : ps.zip us ++ ks.zip ws = (ps.take n ++ ks).zip (us ++ ws) := by
      have : ps.zip us = (ps.take n).zip us := by
        rw [List.zip_eq_zip_take_min, Nat.min_eq_right hle, List.take_of_length_le (Nat.le_refl us.length), h1]
      rw [this, List.zip_append (by rw [List.length_take]; omega)]
    have hlen : (ps.take n ++ ks).length = (us ++ ws).length := by
      rw [List.length_append, List.length_append, List.length_take]
      omega
    have pl := places_ok hlen hpl
    have hperm : permA pm (us ++ ws) = pm.filterMap fun i => (us ++ ws)[i]? := by
      unfold permA
      rw [if_neg (by rw [hpm]; exact Bool.false_ne_true)]
    rw [hperm]
    refine bind_core hp hd hle hks (fun k hk' => ?_) h2.symm ?_ ?_
    · have q := hk k hk'
      refine ⟨q.1, fun z => ?_⟩
      rw [h1] at z
      have q2 := q.2
      simp at q2
      exact q2 z
    · rw [hK]
      exact pl
    · intro x hx
      rw [hK]
      have : ∀ {qs : List Str} {l : List Nat}, placesOf qs (ps.take n ++ ks) = some l → x ∈ qs → ∃ i, ixOf (ps.take n ++ ks) x = some i := by
        intro qs
        induction qs with
        | nil => intro l _ hx; cases hx
        | cons q qs ih =>
          intro l hl hx
          have hl' : (match ixOf (ps.take n ++ ks) q, placesOf qs (ps.take n ++ ks) with
            | some i, some l => some (i :: l)
            | _, _ => none) = some l := hl
          cases e1 : ixOf (ps.take n ++ ks) q with
          | none => rw [e1] at hl'; cases hl'
          | some i =>
            cases e2 : placesOf qs (ps.take n ++ ks) with
            | none => rw [e1, e2] at hl'; cases hl'
            | some l2 =>
              rcases List.mem_cons.mp hx with rfl | hx
              · exact ⟨i, e1⟩
              · exact ih e2 hx
      obtain ⟨i, hi⟩ := this hpl hx
      obtain ⟨v, _, hv⟩ := lookup_ix (V := us ++ ws) hi hlen
      rw [hv]
      rfl
def codeTab (K : Frag) (cd : Value) : Option (Addr × Addr) := match cd with
  | .ref c => match K.lookup c with
    | some ⟨_, _, .fields vs, _⟩ => match (vs[11]? : Option Value) with
      | some (.ref P) => some (c, P)
      | _ => none
    | _ => none
  | _ => none
theorem codeTab_ok {K : Frag} {cd : Value} {c P : Addr} (h : codeTab K cd = some (c, P)) : cd = .ref c := by
  unfold codeTab at h
  split at h
  · split at h
    · split at h
      · cases h; rfl
      · cases h
    · cases h
  · cases h
/-- the def's code object, its table, the lambdas' name -/
def lamOf (K : Frag) (f : Str) : Option (Addr × Addr × Str) := match glRef K f with
  | some fa => match fnAt K fa with
    | some (fd, _) => match codeTab K fd.code with
      | some (c, P) => some (c, P, (fd.qualname ++ (".<locals>." : Str)) ++ ("<lambda>" : Str))
      | none => none
    | none => none
  | none => none
def lamsK (K : Frag) (mls : List (Str × Bool)) : List (Addr × Addr × Str) := mls.filterMap fun x => if x.2 then lamOf K x.1 else none
def Gen.exK (g : Gen) (K : Frag) : ExT := fun c => match g.exs.lookup c with
  | some fl => match glRef K c with
    | some C => some (C, fl)
    | none => none
  | none => none
def Gen.hsK (g : Gen) (K : Frag) : List MH := g.pg.hs.map fun x => ⟨x.1, (glRef K x.1).getD 0, x.2.1, x.2.2⟩
def Gen.prg (g : Gen) (K : Frag) (fuel : Nat) : Prg := ⟨g.pg, fuel, g.exK K, g.hsK K, g.kb, g.exs.map (·.1), g.sp⟩
def defB (g : Gen) (K : Frag) (T : List (Addr × Addr × Str)) (f : Str) (d : Df) : Bool := match g.ns.lookup f, g.ml.lookup f, glRef K f with
  | some N, some ml, some fa => match fnAt K fa with
    | some (fd, b) => decide (fd.name = f) && keepIn K (.ref fa) && codeIn K fd.code fd.qualname && fnScopeB N d.ps fd.scope && decide (d.n = N.length) && chkSs ⟨N, g.pg, g.kb, g.exs.map (·.1), g.sp⟩ d.body ml fd.scope b &&
      plainArgs fd.params d.ps && (match fd.defaults with | .none => true | _ => false) && (g.kb.all fun q => !decide (q.1 = f) || kbB d.ps q.2.1 q.2.2.1 q.2.2.2) &&
      (!ml || (!g.pg.hs.isEmpty && (match codeTab K fd.code with
        | some (c, P) => decide ((c, P, (fd.qualname ++ (".<locals>." : Str)) ++ ("<lambda>" : Str)) ∈ T) && (T.all fun p => !decide (p.2.1 = P) || decide (p.2.2 = (fd.qualname ++ (".<locals>." : Str)) ++ ("<lambda>" : Str)))
        | none => false)))
    | none => false
  | _, _, _ => false
def findB (K : Frag) (C : Addr) (nm : Str) (id : String) : Bool := match findIn K (.ref C) nm with
  | some (some (.builtin i)) => decide (i = id)
  | _ => false
theorem findB_ok {K : Frag} {C : Addr} {nm : Str} {id : String} (h : findB K C nm id = true) : findIn K (.ref C) nm = some (some (.builtin id)) := by
  unfold findB at h
  split at h
  · rw [← of_decide_eq_true h]; assumption
  · cases h
def findNo (K : Frag) (C : Addr) (nm : Str) : Bool := match findIn K (.ref C) nm with
  | some none => true
  | _ => false
theorem findNo_ok {K : Frag} {C : Addr} {nm : Str} (h : findNo K C nm = true) : findIn K (.ref C) nm = some none := by
  unfold findNo at h
  split at h
  · assumption
  · cases h
def typeB (K : Frag) (C : Addr) (n : String) : Bool := match typeIn K (.ref C) with
  | some (.type m) => decide (m = n)
  | _ => false
theorem typeB_ok {K : Frag} {C : Addr} {n : String} (h : typeB K C n = true) : typeIn K (.ref C) = some (.type n) := by
  unfold typeB at h
  split at h
  · rw [← of_decide_eq_true h]; assumption
  · cases h
def excObjB (K : Frag) (C : Addr) : Bool := match K.lookup C with
  | some ⟨.type t, _, .cls cd, sl⟩ => decide (t = "type") && (match cd.mro with
    | .ref D :: bm => decide (D = C) && refsVE bm
    | _ => false) && cd.hasDict && !cd.hasDel && (match sl.toList with
    | [_, _, _, _, some (.builtin i), _] => decide (i = "ValueError.__new__")
    | _ => false)
  | _ => false
theorem excObjB_ok {K : Frag} {C : Addr} (h : excObjB K C = true) : ∃ nm q N bs bm sn sub ab col dd k0 k1 k2 k3 k5, K.lookup C = some (excClassObj nm q C N bs bm true sn sub ab col dd k0 k1 k2 k3 k5 "ValueError.__new__") ∧ refsVE bm = true := by
  unfold excObjB at h
  split at h
  rotate_left
  · cases h
  rename_i t dd cd sl hk
  simp only [Bool.and_eq_true, Bool.not_eq_true'] at h
  obtain ⟨⟨⟨⟨h1, h2⟩, h3⟩, h4⟩, h5⟩ := h
  obtain rfl := of_decide_eq_true h1
  split at h2
  rotate_left
  · cases h2
  rename_i D bm hm
  rw [Bool.and_eq_true] at h2
  obtain rfl := of_decide_eq_true h2.1
  split at h5
  rotate_left
  · cases h5
  rename_i k0 k1 k2 k3 i k5 hs
  obtain rfl := of_decide_eq_true h5
  obtain ⟨l⟩ := sl
  have hs' : l = [k0, k1, k2, k3, some (.builtin "ValueError.__new__"), k5] := hs
  subst hs'
  cases cd with
  | mk n bs mr ns q hd sn sub ab col del =>
    simp only at hm h3 h4
    subst hm h3 h4
    exact ⟨n, q, ns, bs, bm, sn, sub, ab, col, dd, k0, k1, k2, k3, k5, hk, h2.2⟩
/-- the text of __init__ -/
def initB (fl : Str) (fd : FuncData) (b : List Stmt) : Bool :=
  decide (fd.name = ("__init__" : Str)) && (match fd.params with
    | ⟨[], [a0, a1], none, [], [], none, []⟩ => decide (a0.arg = ("self" : Str)) && a0.annotation.isNone && decide (a1.arg = fl) && a1.annotation.isNone
    | _ => false) && (match b with
    | [.Assign [.Attribute (.Name s _) f _] (.Name f2 _) _] => decide (s = ("self" : Str)) && decide (f = fl) && decide (f2 = fl)
    | _ => false) && decide (fd.scope = PySem.OwnX.iS fl) && (match fd.defaults, fd.kwdefaults with
    | .none, .none => true
    | _, _ => false)
theorem initB_ok {fl : Str} {fd : FuncData} {b : List Stmt} (h : initB fl fd b = true) : fd.name = ("__init__" : Str) ∧ (∃ p1 p2, fd.params = PySem.OwnX.iA fl p1 p2) ∧ (∃ q1 q2 q3 q4, b = PySem.OwnX.iB fl q1 q2 q3 q4) ∧ fd.scope = PySem.OwnX.iS fl ∧ fd.defaults = .none ∧ fd.kwdefaults = .none := by
  unfold initB at h
  simp only [Bool.and_eq_true] at h
  obtain ⟨⟨⟨⟨h1, h2⟩, h3⟩, h4⟩, h5⟩ := h
  refine ⟨of_decide_eq_true h1, ?_, ?_, of_decide_eq_true h4, ?_⟩
  · split at h2
    · rename_i a0 a1 hp
      simp only [Bool.and_eq_true, decide_eq_true_eq, Option.isNone_iff_eq_none] at h2
      obtain ⟨⟨⟨e1, e2⟩, e3⟩, e4⟩ := h2
      obtain ⟨n0, an0, p0⟩ := a0
      obtain ⟨n1, an1, p1⟩ := a1
      simp only at e1 e2 e3 e4
      subst e1 e2 e3 e4
      exact ⟨p0, p1, hp⟩
    · cases h2
  · split at h3
    · simp only [Bool.and_eq_true, decide_eq_true_eq] at h3
      obtain ⟨⟨rfl, rfl⟩, rfl⟩ := h3
      exact ⟨_, _, _, _, rfl⟩
    · cases h3
  · split at h5
    · rename_i e1 e2
      exact ⟨e1, e2⟩
    · cases h5
def clsB (K : Frag) (cn fl : Str) : Bool := match glRef K cn with
  | some C => excObjB K C && findB K C "__setattr__" "object.__setattr__" && xfB K C && findNo K C fl && keepIn K (.ref C) && typeB K C "type" && !(fl == ("self" : Str)) && !(fl == ("__debug__" : Str)) && (match findIn K (.ref C) "__init__" with
    | some (some (.ref fI)) => typeB K fI "function" && (match fnAt K fI with
      | some (fd, b) => initB fl fd b && codeIn K fd.code fd.qualname
      | none => false)
    | _ => false)
  | none => false
theorem clsB_ok {K : Frag} {h : Heap} {mg : Str → Option Value} {cn fl : Str} (X : K.In h) (G : h.Ns mainGlobals mg) (e : clsB K cn fl = true) : ∃ C fI, glRef K cn = some C ∧ PySem.OwnX.ClsTxt K mg cn fl C fI := by
  unfold clsB at e
  split at e
  rotate_left
  · cases e
  rename_i C hC
  simp only [Bool.and_eq_true, Bool.not_eq_true'] at e
  obtain ⟨⟨⟨⟨⟨⟨⟨⟨e1, e2⟩, e3⟩, e4⟩, e5⟩, e6⟩, e7⟩, e8⟩, e9⟩ := e
  split at e9
  rotate_left
  · cases e9
  rename_i fI hI
  rw [Bool.and_eq_true] at e9
  obtain ⟨e9, e10⟩ := e9
  split at e10
  rotate_left
  · cases e10
  rename_i fd b hf
  rw [Bool.and_eq_true] at e10
  obtain ⟨⟨oc, od, osl, lk⟩, hfd⟩ := fnAt_ok hf
  obtain ⟨i1, ⟨p1, p2, i2⟩, ⟨q1, q2, q3, q4, i3⟩, i4, i5, i6⟩ := initB_ok e10.1
  have hfd' : fd = fnOf "__init__" fd.qualname (PySem.OwnX.iA fl p1 p2) (PySem.OwnX.iB fl q1 q2 q3 q4) (PySem.OwnX.iS fl) .none .none fd.doc fd.pyModule fd.annotations fd.code fd.closureTuple := by
    rw [i1, i2, i3, i4, i5, i6] at hfd
    exact hfd
  have hkb : KB (fnOf "__init__" fd.qualname (PySem.OwnX.iA fl p1 p2) (PySem.OwnX.iB fl q1 q2 q3 q4) (PySem.OwnX.iS fl) .none .none fd.doc fd.pyModule fd.annotations fd.code fd.closureTuple) ["self", fl] [] 2 [] :=
    kb_of (by unfold plainArgs PySem.OwnX.iA; simp) rfl (by
      have : ("self" : Str) ≠ fl := fun z => by rw [← z] at e7; simp at e7
      simp [this]) (by rfl)
  refine ⟨C, fI, hC, ⟨PySem.W.mg_of X G (glRef_ok hC), excObjB_ok e1, findB_ok e2, xfB_ok e3, findNo_ok e4, hI, typeB_ok e9, e5, typeB_ok e6, ?_, e7, e8⟩⟩
  refine ⟨oc, od, fd.doc, fd.pyModule, fd.annotations, fd.code, fd.closureTuple, osl, fd.qualname, p1, p2, q1, q2, q3, q4, by rw [← hfd']; exact lk, e10.2, fun x v => ?_⟩
  exact hkb [x, v] [] rfl rfl
def hdB (K : Frag) (sg : Scope) (en : Str) : List ExceptHandler → List MH → Bool
  | [], [] => true
  | hd :: hds, h :: r => (match hd with
    | .ExceptHandler (some (.Name n _)) (some e) [.Return (some (.Tuple [.Constant (.str w) _ _, .Attribute (.Name e2 _) fl _] _ _)) _] _ => decide (n = h.n) && decide (e = en) && decide (w = h.w) && decide (e2 = en) && decide (fl = h.fl)
    | _ => false) && glB sg h.n && decide (glRef K h.n = some h.C) && !(h.n == ("__debug__" : Str)) && xfB K h.C && findNo K h.C h.fl && hdB K sg en hds r
  | _, _ => false
theorem hdB_ok {K : Frag} {hp : Heap} {mg : Str → Option Value} {sg : Scope} {en : Str} (X : K.In hp) (G : hp.Ns mainGlobals mg) : ∀ {hds : List ExceptHandler} {hs : List MH}, hdB K sg en hds hs = true → MetHds K mg sg en hds hs
  | [], [], _ => .nil
  | [], _ :: _, h => by cases h
  | _ :: _, [], h => by cases h
  | hd :: hds, m :: r, h => by
    unfold hdB at h
    simp only [Bool.and_eq_true, Bool.not_eq_true'] at h
    obtain ⟨⟨⟨⟨⟨⟨h1, h2⟩, h3⟩, h4⟩, h5⟩, h6⟩, h7⟩ := h
    split at h1
    rotate_left
    · cases h1
    simp only [Bool.and_eq_true, decide_eq_true_eq] at h1
    obtain ⟨⟨⟨⟨rfl, rfl⟩, rfl⟩, rfl⟩, rfl⟩ := h1
    exact .cons (glB_ok h2) (PySem.W.mg_of X G (glRef_ok (of_decide_eq_true h3))) h4 (xfB_ok h5) (findNo_ok h6) (hdB_ok X G h7)
def exmB (K : Frag) (a b : Addr) (r : Bool) : Bool := match exmOne K (.ref a) (.ref b) with
  | some q => q == r
  | none => false
theorem exmB_ok {K : Frag} {a b : Addr} {r : Bool} (h : exmB K a b r = true) : exmOne K (.ref a) (.ref b) = some r := by
  unfold exmB at h
  split at h
  · rw [← eq_of_beq h]; assumption
  · cases h
def metB (g : Gen) (K : Frag) : Bool := match glRef K "_law_met" with
  | some ga => match fnAt K ga with
    | some (fd, b) => decide (fd.name = ("_law_met" : Str)) && decide (fd.qualname = ("_law_met" : Str)) && keepIn K (.ref ga) && codeIn K fd.code "_law_met" && (match fd.defaults with | .none => true | _ => false) && (match b with
      | [.Try [.Return (some (.Tuple [.Constant (.str t) _ _, .Call (.Name a _) [] [] _] _ _)) _] (h0 :: hds) [] [] _] => decide (t = ("told" : Str)) && plainArgs fd.params [a] && (match h0 with
        | .ExceptHandler _ (some en) _ _ => fnScopeB [a, en] [a] fd.scope && visB fd.scope a && decide (a ≠ en) && lclB fd.scope en && dunB a && dunB en && hdB K fd.scope en (h0 :: hds) (g.hsK K)
        | _ => false)
      | _ => false) && (g.exs.all fun e => (g.hsK K).all fun h => match glRef K e.1 with
        | some C => exmB K C h.C (decide (h.n = e.1))
        | none => true) && ((g.hsK K).all fun h => decide (g.exK K h.n = some (h.C, h.fl)))
    | none => false
  | none => false
theorem lookup_mem {α : Type} {x : Str} {v : α} : ∀ {l : List (Str × α)}, l.lookup x = some v → (x, v) ∈ l
  | [], h => by cases h
  | (y, u) :: l, h => by
    rw [List.lookup_cons] at h
    by_cases e : x == y
    · simp only [e] at h
      cases h
      rw [eq_of_beq e]
      exact List.mem_cons_self
    · have e' : (x == y) = false := by simpa using e
      simp only [e'] at h
      exact List.mem_cons_of_mem _ (lookup_mem h)
theorem metB_ok {g : Gen} {K : Frag} {hp : Heap} {mg : Str → Option Value} (X : K.In hp) (G : hp.Ns mainGlobals mg) (h : metB g K = true) : MetD (g.exK K) (g.hsK K) K mg := by
  unfold metB at h
  split at h
  rotate_left
  · cases h
  rename_i ga hga
  split at h
  rotate_left
  · cases h
  rename_i fd b hf
  simp only [Bool.and_eq_true] at h
  obtain ⟨⟨⟨⟨⟨⟨⟨h1, h2⟩, h3⟩, h4⟩, h5⟩, h6⟩, h7⟩, h8⟩ := h
  have h1 := of_decide_eq_true h1
  have h2 := of_decide_eq_true h2
  split at h6
  rotate_left
  · cases h6
  rename_i t j p0 a p1 p2 kt pt p3 h0 hds p8
  simp only [Bool.and_eq_true] at h6
  obtain ⟨⟨k1, k2⟩, k3⟩ := h6
  obtain rfl := of_decide_eq_true k1
  split at k3
  rotate_left
  · cases k3
  rename_i ty en bd ph
  simp only [Bool.and_eq_true] at k3
  obtain ⟨⟨⟨⟨⟨⟨m1, m2⟩, m3⟩, m4⟩, m5⟩, m6⟩, m7⟩ := k3
  obtain ⟨⟨oc, od, osl, lk⟩, hfd⟩ := fnAt_ok hf
  have hde : fd.defaults = .none := by
    split at h5
    · assumption
    · cases h5
  have bind : KB fd [a] [] 1 [] := kb_of k2 hde (by simp) (by rfl)
  rw [h1, h2] at hfd
  refine ⟨ga, a, en, fd.params, fd.scope, hds, _, j, kt, p0, p1, p2, p3, p8, pt, fd.defaults, fd.kwdefaults, fd.doc, fd.pyModule, fd.code, fd.closureTuple, oc, fd.annotations, od, osl, PySem.W.mg_of X G (glRef_ok hga), h3, by rw [← hfd]; exact lk, h4, ?_, fnScopeB_ok m1, visB_ok m2, of_decide_eq_true m3, lclB_ok m4, m5, m6, hdB_ok X G m7, ?_⟩
  · rw [← hfd]
    exact Binds.all fun us hl => by
      have := bind us [] hl rfl
      simpa [permA] using this
  · refine ⟨fun c C f e m hm => ?_, fun m hm => of_decide_eq_true (List.all_eq_true.mp h8 m hm)⟩
    unfold Gen.exK at e
    split at e
    · rename_i fl hl
      split at e
      · rename_i C' hC
        cases e
        have q := List.all_eq_true.mp (List.all_eq_true.mp h7 (c, f) (lookup_mem hl)) m hm
        simp only [hC] at q
        exact exmB_ok q
      · cases e
    · cases e
end Mv

end
section
set_option Elab.async false
set_option linter.all false
set_option autoImplicit false
set_option maxRecDepth 100000
namespace Mv
open PySem PySem.Spec PyProof.Rows L2 PySem.W PySem.HandSPX

def spoilB (K : Frag) : Bool := match glRef K "_law_spoilt" with
  | some ga => match fnAt K ga with
    | some (fd, b) => spB fd.scope b && plainArgs fd.params ["thing"] && fnScopeB ["thing", "key", "part"] ["thing"] fd.scope && codeIn K fd.code fd.qualname && keepIn K (.ref ga) && (match fd.defaults with | .none => true | _ => false)
    | none => false
  | none => false
def noneB {α : Type} : Option α → Bool
  | none => true
  | some _ => false
theorem noneB_ok {α : Type} {x : Option α} (h : noneB x = true) : x = none := by
  cases x with
  | none => rfl
  | some _ => cases h
def notList (o : Obj) : Bool := match o.cls with
  | .type t => !decide (t = "list")
  | _ => true
def restB (g : Gen) (K : Frag) : Bool :=
  (bnames.all (glNo K)) && (g.pg.hs.isEmpty || metB g K) && (g.exs.all fun e => clsB K e.1 e.2) && (!g.sp || spoilB K) && (K.all fun p => notList p.2) &&
    ((lamsK K g.ml).all fun p => codeHdIn K p.1 p.2.1 && noneB (K.lookup p.2.1))
def defsB (g : Gen) (K : Frag) (l : List (Str × Df)) : Bool := l.all fun x => defB g K (lamsK K g.ml) x.1 x.2
theorem spoilB_ok [Tbs] {P : Program} {w : World} {K : Frag} {hp : Heap} {mg : Str → Option Value} {base : Heap} (X : K.In hp) (G : hp.Ns mainGlobals mg) (hm : ∀ b ∈ bnames, mg b = none) (h : spoilB K = true) : ∃ (ga : Addr) (fd : FuncData), mg "_law_spoilt" = some (.ref ga) ∧ PySem.W.keepIn K (.ref ga) = true ∧ KB fd ["thing"] [] 1 [] ∧ FnG P w K mg base (L2.CX P w) 21 ga fd ["thing"] (spSpoil 21) := by
  unfold spoilB at h
  split at h
  rotate_left
  · cases h
  rename_i ga hga
  split at h
  rotate_left
  · cases h
  rename_i fd b hf
  simp only [Bool.and_eq_true] at h
  obtain ⟨⟨⟨⟨⟨h1, h2⟩, h3⟩, h4⟩, h5⟩, h6⟩ := h
  have hde : fd.defaults = .none := by
    split at h6
    · assumption
    · cases h6
  obtain ⟨⟨oc, od, osl, lk⟩, hfd⟩ := fnAt_ok hf
  have hg := PySem.W.mg_of X G (glRef_ok hga)
  have hb : KB fd ["thing"] [] 1 [] := kb_of h2 hde (by simp) (by rfl)
  refine ⟨ga, fd, hg, h5, hb, ?_⟩
  rw [hfd] at lk hb ⊢
  exact spoil_fn h1 hm hg h5 hb lk h4 (fnScopeB_ok h3) 21
/-- the tables of code objects, by the lambdas' names -/
abbrev tbsOf (K : Frag) (g : Gen) : Tbs := ⟨(lamsK K g.ml).map fun p => (p.2.1, p.2.2)⟩
theorem txt_of {g : Gen} {P : Program} {w : World} {K : Frag} {hp base : Heap} {mg : Str → Option Value} {fuel : Nat} (X : K.In hp) (G : hp.Ns mainGlobals mg) (hr : restB g K = true) (hd : defsB g K g.pg.defs = true)
    (TB : ∀ p ∈ (lamsK K g.ml).map (fun p => (p.1, p.2.1)), LamX.TabB base mg p.1 p.2) : letI : Tbs := tbsOf K g; TxtOk (g.prg K fuel) P w K mg base := by
  letI : Tbs := tbsOf K g
  unfold restB at hr
  simp only [Bool.and_eq_true] at hr
  obtain ⟨⟨⟨⟨⟨r1, r2⟩, r3⟩, r4⟩, r5⟩, r6⟩ := hr
  have hmB : ∀ b ∈ bnames, mg b = none := fun b hb => PySem.W.mg_none_of X G (glNo_ok (List.all_eq_true.mp r1 b hb))
  refine { hs := ?_, mgB := hmB, defs := fun f d h => ?_, met := fun ⟨h, hh⟩ => ?_, raises := fun cn hc => ?_, sp := fun q => ?_ }
  · show g.pg.hs = (g.pg.hs.map _).map _
    rw [List.map_map]
    have : ((fun (h : MH) => (h.n, h.w, h.fl)) ∘ fun (x : Str × Str × Str) => ({ n := x.1, C := (glRef K x.1).getD 0, w := x.2.1, fl := x.2.2 } : MH)) = id := rfl
    rw [this, List.map_id]
  · have q := List.all_eq_true.mp hd (f, d) (lookup_mem h)
    unfold defB at q
    split at q
    rotate_left
    · cases q
    rename_i N ml fa e1 e2 e3
    split at q
    rotate_left
    · cases q
    rename_i fd b hf
    simp only [Bool.and_eq_true] at q
    obtain ⟨⟨⟨⟨⟨⟨⟨⟨⟨q1, q2⟩, q3⟩, q4⟩, q5⟩, q6⟩, q7⟩, q8⟩, q9⟩, q10⟩ := q
    obtain ⟨⟨oc, od, osl, lk⟩, hfd⟩ := fnAt_ok hf
    have hn := of_decide_eq_true q1
    have hde : fd.defaults = .none := by
      split at q8
      · assumption
      · cases q8
    have hfd' : fd = fnOf f fd.qualname fd.params b fd.scope fd.defaults fd.kwdefaults fd.doc fd.pyModule fd.annotations fd.code fd.closureTuple := by
      rw [hn] at hfd
      exact hfd
    refine ⟨fa, N, ml, fd.qualname, fd.params, b, fd.scope, fd.defaults, fd.kwdefaults, fd.doc, fd.pyModule, fd.code, fd.closureTuple, fd.annotations,
      { gl := PySem.W.mg_of X G (glRef_ok e3), kp := q2, lk := ⟨oc, od, osl, by rw [← hfd']; exact lk⟩, cd := q3, sc := fnScopeB_ok q4, n := of_decide_eq_true q5, chk := q6, kb := fun ks n pm hm => ?_, lam := fun hl => ?_ }⟩
    · have z := List.all_eq_true.mp q9 (f, ks, n, pm) hm
      rcases Bool.or_eq_true_iff.mp z with z | z
      · simp at z
      · rw [← hfd']
        refine kb_of q7 hde ?_ z
        have := (fnScopeB_ok q4).nd
        have hp := (fnScopeB_ok q4).pre
        rw [← hp]
        exact this.sublist (List.take_sublist _ _)
    · rw [hl] at q10
      simp only [Bool.not_true, Bool.false_or, Bool.and_eq_true] at q10
      obtain ⟨_, q10⟩ := q10
      split at q10
      rotate_left
      · cases q10
      rename_i c P' ht
      rw [Bool.and_eq_true] at q10
      have hmem := of_decide_eq_true q10.1
      refine ⟨c, P', codeTab_ok ht, TB (c, P') (List.mem_map.mpr ⟨_, hmem, rfl⟩), List.mem_map.mpr ⟨_, hmem, rfl⟩, fun p hp e => ?_⟩
      obtain ⟨p', hp', rfl⟩ := List.mem_map.mp hp
      have z := List.all_eq_true.mp q10.2 p' hp'
      rcases Bool.or_eq_true_iff.mp z with z | z
      · have e' : p'.2.1 = P' := e
        simp [e'] at z
      · exact of_decide_eq_true z
  · rcases Bool.or_eq_true_iff.mp r2 with z | z
    · have hh' : h ∈ g.pg.hs.map _ := hh
      rw [List.isEmpty_iff] at z
      rw [z] at hh'
      cases hh'
    · exact metB_ok X G z
  · have hc' : cn ∈ g.exs.map (·.1) := hc
    obtain ⟨fl, hfl⟩ : ∃ fl, g.exs.lookup cn = some fl := by
      cases e : g.exs.lookup cn with
      | some fl => exact ⟨fl, rfl⟩
      | none =>
        obtain ⟨p, hp, rfl⟩ := List.mem_map.mp hc'
        have := List.lookup_eq_none_iff.mp e p hp
        simp at this
    have z := List.all_eq_true.mp r3 (cn, fl) (lookup_mem hfl)
    obtain ⟨C, fI, hC, T⟩ := clsB_ok X G z
    refine ⟨C, fI, fl, T, ?_⟩
    show g.exK K cn = _
    unfold Gen.exK
    rw [hfl, hC]
  · rcases Bool.or_eq_true_iff.mp r4 with z | z
    · have q' : g.sp = true := q
      rw [q'] at z
      cases z
    · exact spoilB_ok X G hmB z
theorem lookup_memN {α : Type} {x : Nat} {v : α} : ∀ {l : List (Nat × α)}, l.lookup x = some v → (x, v) ∈ l
  | [], h => by cases h
  | (y, u) :: l, h => by
    rw [List.lookup_cons] at h
    by_cases e : x == y
    · simp only [e] at h
      cases h
      rw [eq_of_beq e]
      exact List.mem_cons_self
    · have e' : (x == y) = false := by simpa using e
      simp only [e'] at h
      exact List.mem_cons_of_mem _ (lookup_memN h)
/-- the law's promise -/
theorem law_at {l : OpenLaw} {g : Gen} {w : World} {K : Frag} {hp : Heap} {mg : Str → Option Value} {fa : Addr} {fuel dep : Nat} {d : Df} (X : K.In hp) (G : hp.Ns mainGlobals mg) (hmg : mg "law" = some (.ref fa)) (hr : restB g K = true) (hd : defsB g K g.pg.defs = true)
    (hT : ∀ p ∈ lamsK K g.ml, hp.get? p.2.1 = some { cls := .none, data := .fields #[] }) (hml : ¬ g.pg.hs = [] ∨ ∀ x ∈ g.ml, x.2 = false) (hlaw : g.pg.get "law" = some d) (hps : d.ps = [("script" : Str)])
    (hpure : ∀ ns : List Int, ns.length ≤ 63 → (∀ z ∈ ns, Builtin.Int.intBits z ≤ 1048576) → ∃ S, callN g.pg fuel dep "law" [.scr (ns.map MV.int)] 0 1 [] = some (.ok (.bl true) S)) : LawAtG l w K (lv dep) 63 "script" mg fa hp := by
  letI : Tbs := tbsOf K g
  have r := hr
  unfold restB at r
  simp only [Bool.and_eq_true] at r
  obtain ⟨⟨⟨⟨⟨r1, r2⟩, r3⟩, r4⟩, r5⟩, r6⟩ := r
  -- the law's def
  have q := List.all_eq_true.mp hd ("law", d) (lookup_mem hlaw)
  unfold defB at q
  split at q
  rotate_left
  · cases q
  rename_i N ml fa' e1 e2 e3
  split at q
  rotate_left
  · cases q
  rename_i fd b hf
  simp only [Bool.and_eq_true] at q
  obtain ⟨⟨⟨⟨⟨⟨⟨⟨⟨q1, q2⟩, q3⟩, q4⟩, q5⟩, q6⟩, q7⟩, q8⟩, q9⟩, q10⟩ := q
  have hde : fd.defaults = .none := by
    split at q8
    · assumption
    · cases q8
  rw [hps] at q7
  have hbind : KB fd ["script"] [] 1 [] := kb_of q7 hde (by simp) (by rfl)
  have hfa : fa' = fa := by
    have := PySem.W.mg_of X G (glRef_ok e3)
    rw [hmg] at this
    cases this
    rfl
  subst hfa
  obtain ⟨⟨oc, od, osl, lk⟩, hfd⟩ := fnAt_ok hf
  refine ⟨fd, (lamsK K g.ml).map (fun p => (p.1, p.2.1)), spM g.pg fuel dep (g.exK K) "law", fun b o hb => ?_, fun p hp => ?_, fun p hp => ?_, fun p hp => ?_, fun s u => BindsTo.of_eq (hbind [u] [] rfl rfl), fun a sc ns hl hbits hne => ?_, fun base KB GB TB => ?_⟩
  · have hm : (b, o) ∈ K := lookup_memN hb
    have z := List.all_eq_true.mp r5 (b, o) hm
    unfold notList at z
    cases hcl : o.cls with
    | type t =>
      simp only [hcl] at z
      have z' : t ≠ "list" := by simpa using z
      have : ¬ (Value.type t = Value.type "list") := fun y => z' (by injection y)
      simpa using this
    | _ => rfl
  · obtain ⟨p', hp', rfl⟩ := List.mem_map.mp hp
    exact hT p' hp'
  · obtain ⟨p', hp', rfl⟩ := List.mem_map.mp hp
    exact noneB_ok (Bool.and_eq_true_iff.mp (List.all_eq_true.mp r6 p' hp')).2
  · obtain ⟨p', hp', rfl⟩ := List.mem_map.mp hp
    exact codeHd_of_K X (Bool.and_eq_true_iff.mp (List.all_eq_true.mp r6 p' hp')).1
  · obtain ⟨S, hS⟩ := hpure ns hl hbits
    refine ⟨fun b => if b = a then some (0, .frz sc (.lst (ns.map V.int))) else none, [], [], [.scr (ns.map MV.int)], 0, 1, _, by decide, ?_, ?_, hS, ?_⟩
    · refine ⟨fun b c o e => ?_, fun b c o e => ?_, rfl, fun n xs e => by simp at e, fun n m b ⟨xs, e⟩ => by simp at e, fun b c o e => ?_, fun p hp => ?_⟩
      · by_cases z : b = a
        · subst z
          rw [if_pos rfl] at e
          cases e
          exact if_pos rfl
        · rw [if_neg z] at e
          cases e
      · by_cases z : b = a
        · rw [if_pos z] at e
          cases e
          decide
        · rw [if_neg z] at e
          cases e
      · by_cases z : b = a
        · rw [if_pos z] at e
          cases e
          rfl
        · rw [if_neg z] at e
          cases e
      · obtain ⟨p', hp', rfl⟩ := List.mem_map.mp (show p ∈ (lamsK K g.ml).map _ from hp)
        have hm : (p'.1, p'.2.1) ∈ (lamsK K g.ml).map (fun p => (p.1, p.2.1)) := List.mem_map.mpr ⟨p', hp', rfl⟩
        refine ⟨#[], ?_, ?_, fun pos cv e => ?_⟩
        · show startH a sc ns _ p'.2.1 = _
          unfold startH
          rw [if_neg (hne _ hm), if_pos (List.mem_map.mpr ⟨_, hm, rfl⟩)]
        · trivial
        · cases e
    · refine .cons (.scr (if_pos rfl) ?_) .nil
      have : ∀ l : List Int, RVL (fun b => if b = a then some (0, .frz sc (.lst (ns.map V.int))) else none) [] (l.map MV.int) (l.map V.int) := fun l => by
        induction l with
        | nil => exact .nil
        | cons z l ih => exact .cons (.int z) ih
      exact this ns
    · intro F' ι' H' y t s r
      have r : RV F' ι' (.bl true) y := r
      cases r
      rfl
  · have tx := txt_of (P := l.prog) (w := w) (fuel := fuel) KB GB hr hd TB
    have hmlg : (g.prg K fuel).mlOk ∨ ∀ f d fa N ml qual params body scope dV kV doc pm cdv ct an, (g.prg K fuel).p.get f = some d → DefOk (g.prg K fuel) K mg base f d fa N ml qual params body scope dV kV doc pm cdv ct an → ml = false := by
      rcases hml with z | z
      · left
        cases hh : g.pg.hs with
        | nil => exact absurd hh z
        | cons x r => exact ⟨_, by show _ ∈ g.pg.hs.map _; rw [hh]; exact List.mem_cons_self⟩
      · right
        intro f d fa N ml qual params body scope dV kV doc pm cdv ct an hd' dk
        cases ml with
        | false => rfl
        | true =>
          obtain ⟨c, P, _, _, hm, _⟩ := dk.lam rfl
          obtain ⟨p', hp', _⟩ := List.mem_map.mp (show _ ∈ (lamsK K g.ml).map _ from hm)
          obtain ⟨x, hx, hx2⟩ := List.mem_filterMap.mp hp'
          rw [z x hx] at hx2
          cases hx2
    obtain ⟨fa2, fd2, f1, f2, f3, f4⟩ := all_fns tx hmlg dep "law" d hlaw
    have f1' : fa2 = fa' := by
      rw [hmg] at f1
      cases f1
      rfl
    subst f1'
    have f3' := f3
    rw [hps] at f3'
    -- the same function object: what FnG says does not lean on it but by its arguments' binding
    obtain ⟨fa3, N3, ml3, qu3, pa3, bo3, sc3, dV3, kV3, do3, pm3, cd3, ct3, an3, dk3⟩ := tx.defs "law" d hlaw
    have g3 : fa3 = fa2 := by
      have := dk3.gl
      rw [hmg] at this
      cases this
      rfl
    subst g3
    obtain ⟨oc3, od3, osl3, lk3⟩ := dk3.lk
    rw [lk] at lk3
    have e4 : fd = fnOf "law" qu3 pa3 bo3 sc3 dV3 kV3 do3 pm3 an3 cd3 ct3 := by
      cases lk3
      rfl
    rw [e4]
    cases dep with
    | zero =>
      refine ⟨fun vs H Q E h => ?_, fun A outer s H args us vs Q E _ _ _ _ h => ?_⟩
      · obtain ⟨F, ι, S, ws, col, cm, out, h1, h2, h3, h4, h5⟩ := h
        cases h4
      · obtain ⟨F, ι, S, ws, col, cm, out, h1, h2, h3, h4, h5⟩ := h
        cases h4
    | succ k =>
      have := body_ok tx hlaw dk3 (fun q => by
        rcases hmlg with z | z
        · exact z
        · rw [z _ _ _ _ _ _ _ _ _ _ _ _ _ _ _ _ hlaw dk3] at q
          cases q) (all_fns tx hmlg k)
      rw [hps] at this
      exact this
/-- the end, where lambdas stand in the text -/
theorem walk_km {l : OpenLaw} {q : Program} {loose : List Str} {XP : (Str → Option Value) → Heap → Prop} {dr : DefRec} {K : Params → Frag} {as : List Addr} {e : ∀ P, as = (K P).map (·.1)} {ts : List Addr} (g : Gen) (fuel dep : Nat) {d : Df} (hn : l.most = some 63) (hdf : dr.params.defaults = []) (hdn : dr.name = ("law" : Str)) (hr : RoomG (lv dep) callerA)
    (h1 : ∀ P, restB g (K P) = true) (h2 : ∀ P, defsB g (K P) g.pg.defs = true) (h3 : ∀ P, ((lamsK (K P) g.ml).all fun p => ts.contains p.2.1) = true) (hml : ¬ g.pg.hs = []) (hlaw : g.pg.get "law" = some d) (hps : d.ps = [("script" : Str)])
    (hpure : ∀ ns : List Int, ns.length ≤ 63 → (∀ z ∈ ns, Builtin.Int.intBits z ≤ 1048576) → ∃ S, callN g.pg fuel dep "law" [.scr (ns.map MV.int)] 0 1 [] = some (.ok (.bl true) S)) :
    PySem.W.WalkO q loose XP (PySem.W.kmHook K as e ts).says l.row.toRowW dr [] (fun f vs => PySem.call f vs) := by
  refine walk_ofG (n := 63) (x := "script") hn (by decide) hdf hr (fun w h Y => PySem.W.km_in_of Y) fun w mg fa h Y KX G hmg => ?_
  rw [hdn] at hmg
  refine law_at KX G hmg (h1 _) (h2 _) (fun p hp => ?_) (.inl hml) hlaw hps hpure
  have z := List.all_eq_true.mp (h3 w.params) p hp
  exact PySem.W.km_tabs_of Y _ (by simpa using z)
/-- .. where none stands -/
theorem walk_kn {l : OpenLaw} {q : Program} {loose : List Str} {XP : (Str → Option Value) → Heap → Prop} {dr : DefRec} {K : Params → Frag} {as : List Addr} {e : ∀ P, as = (K P).map (·.1)} (g : Gen) (fuel dep : Nat) {d : Df} (hn : l.most = some 63) (hdf : dr.params.defaults = []) (hdn : dr.name = ("law" : Str)) (hr : RoomG (lv dep) callerA)
    (h1 : ∀ P, restB g (K P) = true) (h2 : ∀ P, defsB g (K P) g.pg.defs = true) (hml : ∀ x ∈ g.ml, x.2 = false) (hlaw : g.pg.get "law" = some d) (hps : d.ps = [("script" : Str)])
    (hpure : ∀ ns : List Int, ns.length ≤ 63 → (∀ z ∈ ns, Builtin.Int.intBits z ≤ 1048576) → ∃ S, callN g.pg fuel dep "law" [.scr (ns.map MV.int)] 0 1 [] = some (.ok (.bl true) S)) :
    PySem.W.WalkO q loose XP (PySem.W.kHook K as e).says l.row.toRowW dr [] (fun f vs => PySem.call f vs) := by
  refine walk_ofG (n := 63) (x := "script") hn (by decide) hdf hr (fun w h Y => PySem.W.kIn_of Y) fun w mg fa h Y KX G hmg => ?_
  rw [hdn] at hmg
  refine law_at KX G hmg (h1 _) (h2 _) (fun p hp => ?_) (.inr hml) hlaw hps hpure
  obtain ⟨x, hx, hx2⟩ := List.mem_filterMap.mp hp
  rw [hml x hx] at hx2
  cases hx2
end Mv

end
section
set_option Elab.async false
set_option linter.all false
set_option maxRecDepth 100000
namespace Mv
open PySem

/-- a token that keeps simp out of what it names -/
inductive Tk {α : Sort u} (f : α) : Type | mk
/-- it ends well and what comes of it is so -/
def Wp {α : Type} (r : R α) (Q : α → Store → Prop) (_ : Tk Q := .mk) : Prop :=
  match r with
  | some (.ok a S) => Q a S
  | _ => False
def R.lb {α β : Type} (r : R α) (f : α → Store → R β) (_ : Tk f := .mk) : R β := r.bind f
def whileK (c : Sl → Store → R Bool) (b : Sl → Store → R Fl) (n : Nat) (sl : Sl) (S : Store) (_ : Tk (c, b) := .mk) : R Fl := whileL c b n sl S
def forK (t : Tg) (b : Sl → Store → R Fl) (xs : List MV) (sl : Sl) (S : Store) (_ : Tk b := .mk) : R Fl := forL t b xs sl S
def lcK {α : Type} (t : Tg) (c : Env → Store → R Bool) (b : Env → Store → R α) (xs : List MV) (env : Env) (S : Store) (_ : Tk (c, b) := .mk) : R (List α) := lcLoop t c b xs env S
@[simp] theorem bind_lb {α β : Type} (x : R α) (f : α → Store → R β) : R.bind x f = x.lb f := (rfl)
@[simp] theorem lb_ok {α β : Type} (a : α) (S : Store) (f : α → Store → R β) (t : Tk f) : R.lb (some (.ok a S)) f t = f a S := (rfl)
@[simp] theorem lb_exc {α β : Type} (a : Str) (v : MV) (S : Store) (f : α → Store → R β) (t : Tk f) : R.lb (some (.exc a v S)) f t = some (.exc a v S) := (rfl)
theorem R.lb_assoc {α β γ : Type} (x : R α) (f : α → Store → R β) (g : β → Store → R γ) : (x.lb f).lb g = x.lb fun a S => (f a S).lb g := by
  match x with
  | none => rfl
  | some (.ok a S) => rfl
  | some (.exc c v S) => rfl
theorem R.bind_assoc {α β γ : Type} (x : R α) (f : α → Store → R β) (g : β → Store → R γ) : (x.bind f).bind g = x.lb fun a S => (f a S).lb g := R.lb_assoc x f g
@[simp] theorem Wp_ok {α : Type} (a : α) (S : Store) (Q : α → Store → Prop) (t : Tk Q) : Wp (some (.ok a S)) Q t = Q a S := (rfl)
@[simp] theorem Wp_bind {α β : Type} (x : R α) (f : α → Store → R β) (Q : β → Store → Prop) (t : Tk Q) (t' : Tk f) : Wp (x.lb f t') Q t = Wp x fun a S => Wp (f a S) Q := by
  match x with
  | none => rfl
  | some (.ok a S) => rfl
  | some (.exc c v S) => rfl
theorem Wp.mono {α : Type} {x : R α} {Q Q' : α → Store → Prop} {t : Tk Q} {t' : Tk Q'} (h : Wp x Q t) (i : ∀ a S, Q a S → Q' a S) : Wp x Q' t' := by
  match x, h with
  | some (.ok a S), h => exact i a S h
theorem Wp.ex {α : Type} {x : R α} {Q : α → Store → Prop} (h : Wp x Q) : ∃ a S, x = some (.ok a S) ∧ Q a S := by
  match x, h with
  | some (.ok a S), h => exact ⟨a, S, rfl, h⟩
@[simp] theorem ok_eq {α : Type} (a : α) (S : Store) : ok a S = some (.ok a S) := (rfl)
@[simp] theorem lift_someP {α : Type} (a : α) (S : Store) : lift (some a) S = some (.ok a S) := (rfl)
@[simp] theorem fzR_eq (c : Nat) (r : R OV) : fzR c r = r.lb fun o S => some (.ok (o.fz c) S) := (rfl)

theorem callN_eq {p : Pg} {fuel k : Nat} {x : Str} {d : Df} (h : p.get x = some d) (hk : 0 < k) (vs : List MV) (col cm : Nat) (S : Store) :
    callN p fuel k x vs col cm S = runDf p fuel (callN p fuel (k - 1)) d vs col cm S := by
  obtain ⟨j, rfl⟩ : ∃ j, k = j + 1 := ⟨k - 1, by omega⟩
  show (match p.get x with | some d => runDf p fuel (callN p fuel j) d vs col cm S | none => none) = _
  rw [h]; rfl

/-- what a def that ran without regions of its own gives -/
def endR (r : R Fl) : R MV := r.bind fun k S => match k with
  | .nx _ => some (.ok .non S)
  | .rt v => some (.ok v S)
theorem runDf_eq {p : Pg} {fuel : Nat} {call : Str → List MV → Nat → Nat → Store → R MV} {d : Df} {vs : List MV} {col cm : Nat} {S : Store}
    (hl : vs.length = d.ps.length) (hr : d.rg = 0) : runDf p fuel call d vs col cm S = endR (exs ⟨call, col, cm, p.hs, fuel, cm⟩ d.body (slots0 d vs) S) := by
  unfold runDf endR
  rw [if_pos hl, hr]
  simp only [Nat.add_zero, true_or, if_true]
  match exs ⟨call, col, cm, p.hs, fuel, cm⟩ d.body (slots0 d vs) S with
  | none => rfl
  | some (.ok (.nx _) S) => rfl
  | some (.ok (.rt _) S) => rfl
  | some (.exc c v S) => rfl
theorem callN_run {p : Pg} {fuel k : Nat} {x : Str} {d : Df} (h : p.get x = some d) (hk : 0 < k) {vs : List MV} (hl : vs.length = d.ps.length) (hr : d.rg = 0) (col cm : Nat) (S : Store) :
    callN p fuel k x vs col cm S = endR (exs ⟨callN p fuel (k - 1), col, cm, p.hs, fuel, cm⟩ d.body (slots0 d vs) S) := by
  rw [callN_eq h hk, runDf_eq hl hr]

@[simp] theorem endR_bind {α : Type} (r : R α) (f : α → Store → R Fl) (t : Tk f) : endR (r.lb f t) = r.lb fun a S => endR (f a S) := R.bind_assoc _ _ _
@[simp] theorem endR_nx (sl : Sl) (S : Store) : endR (some (.ok (.nx sl) S)) = some (.ok .non S) := (rfl)
@[simp] theorem endR_rt (v : MV) (S : Store) : endR (some (.ok (.rt v) S)) = some (.ok v S) := (rfl)
@[simp] theorem endR_exc (c : Str) (v : MV) (S : Store) : endR (some (.exc c v S)) = some (.exc c v S) := (rfl)
def flV : Fl → MV
  | .nx _ => .non
  | .rt v => v
@[simp] theorem flV_nx (sl : Sl) : flV (.nx sl) = .non := (rfl)
@[simp] theorem flV_rt (v : MV) : flV (.rt v) = v := (rfl)
theorem Wp_endR (r : R Fl) (Q : MV → Store → Prop) (t : Tk Q) : Wp (endR r) Q t = Wp r fun k S => Q (flV k) S := by
  match r with
  | none => rfl
  | some (.ok (.nx _) S) => rfl
  | some (.ok (.rt _) S) => rfl
  | some (.exc c v S) => rfl

@[simp] theorem guardR_okP {α : Type} (b : Nat) (sl : Sl) (p : α → Bool) (a : α) (S : Store) : guardR b sl p (some (.ok a S)) = if p a = true then some (.ok a S) else none := (rfl)
@[simp] theorem Wp_guardR_bind {α β : Type} (b : Nat) (sl : Sl) (p : β → Bool) (r : R α) (f : α → Store → R β) (t' : Tk f) (Q : β → Store → Prop) (t : Tk Q) :
    Wp (guardR b sl p (r.lb f t')) Q t = Wp r fun a S => Wp (guardR b sl p (f a S)) Q := by
  match r with
  | none => rfl
  | some (.ok a S) => rfl
  | some (.exc c v S) =>
    show Wp (if _ then _ else none) Q = False
    split <;> rfl
theorem guardR_noOwn {α : Type} {b : Nat} {sl : Sl} {p : α → Bool} {r : R α} (h : anyOwn sl = false) (hp : ∀ a, p a = true) : guardR b sl p r = r := by
  match r with
  | none => rfl
  | some (.ok a S) => simp [guardR, hp]
  | some (.exc c v S) => simp [guardR, h]

theorem bind_ext {α β : Type} {x : R α} {f g : α → Store → R β} (h : ∀ a S, f a S = g a S) : x.bind f = x.lb g := by
  have e : f = g := funext fun a => funext fun S => h a S
  rw [e]; rfl

@[simp] theorem fz_val (c : Nat) (v : MV) : OV.fz c (.val v) = v := (rfl)
@[simp] theorem fz_nl (c : Nat) (xs : List MV) : OV.fz c (.nl xs) = .lst c xs := (rfl)
@[simp] theorem fz_nd (c : Nat) (tk : Bool) (xs : List (MV × MV)) : OV.fz c (.nd tk xs) = .dct c tk xs := (rfl)
@[simp] theorem fzd_val (c : Nat) (v : MV) : OV.fzd c (.val v) = .val v := (rfl)
@[simp] theorem fzd_nl (c : Nat) (xs : List MV) : OV.fzd c (.nl xs) = .nl xs := (rfl)
@[simp] theorem fzd_nd (c : Nat) (tk : Bool) (xs : List (MV × MV)) : OV.fzd c (.nd tk xs) = .val (.dct c tk xs) := (rfl)

/-- an Int out of a value, or nothing -/
def intR {α : Type} (v : MV) (f : Int → R α) (_ : Tk f := .mk) : R α :=
  match v with
  | .int i => f i
  | _ => none
@[simp] theorem intR_int {α : Type} (i : Int) (f : Int → R α) (t : Tk f) : intR (.int i) f t = f i := (rfl)
def iteR {α : Type} (b : Bool) (x y : R α) (_ : Tk (x, y) := .mk) : R α :=
  match b with
  | true => x
  | false => y
@[simp] theorem iteR_t {α : Type} (x y : R α) (t : Tk (x, y)) : iteR true x y t = x := (rfl)
@[simp] theorem iteR_f {α : Type} (x y : R α) (t : Tk (x, y)) : iteR false x y t = y := (rfl)
/-- if it holds, else nothing -/
def need {α : Type} (b : Bool) (x : R α) (_ : Tk x := .mk) : R α :=
  match b with
  | true => x
  | false => none
@[simp] theorem need_t {α : Type} (x : R α) (t : Tk x) : need true x t = x := (rfl)
theorem need_eq {α : Type} (c : Prop) [Decidable c] (x : R α) : (if c then x else none) = need (decide c) x := by
  by_cases h : c <;> simp [h, need]

section
variable (C : Cfg) (env : Env) (S : Store)
@[simp] theorem evO_nm0 (v : MV) (r : Env) : evO C (.nm 0) (some v :: r) S = some (.ok (.val v) S) := (rfl)
@[simp] theorem evO_nmS (i : Nat) (v : Option MV) (r : Env) : evO C (.nm (i + 1)) (v :: r) S = evO C (.nm i) r S := (rfl)
@[simp] theorem evO_cn (v : MV) : evO C (.cn v) env S = some (.ok (.val v) S) := (rfl)
@[simp] theorem evO_bin (o : BOp) (a b : ME) : evO C (.bin o a b) env S = (fzR C.col (evO C a env S)).lb fun x S1 => (fzR C.col (evO C b env S1)).lb fun y S2 => lift (bop o x y) S2 := (rfl)
@[simp] theorem evO_neg (a : ME) : evO C (.neg a) env S = (fzR C.col (evO C a env S)).lb fun x S1 => intR x fun i => some (.ok (.val (.int (-i))) S1) := by
  show R.bind _ _ = _
  refine bind_ext fun x S1 => ?_; cases x <;> rfl
@[simp] theorem evO_nt (a : ME) : evO C (.nt a) env S = (fzR C.col (evO C a env S)).lb fun x S1 => (lift (truth x) S1).lb fun b _ => some (.ok (.val (.bl (!b))) S1) := by
  show R.bind _ _ = _
  refine bind_ext fun x S1 => ?_; cases truth x <;> rfl
@[simp] theorem evO_cmp (o : COp) (a b : ME) : evO C (.cmp o a b) env S = (fzR C.col (evO C a env S)).lb fun x S1 => (fzR C.col (evO C b env S1)).lb fun y S2 => (lift (look S2 x) S2).lb fun x' _ => (lift (look S2 y) S2).lb fun y' _ => (lift (cop o x' y') S2).lb fun b _ => some (.ok (.val (.bl b)) S2) := by
  show R.bind _ _ = _
  refine bind_ext fun x S1 => ?_; refine bind_ext fun y S2 => ?_
  cases look S2 x with
  | none => rfl
  | some x' => cases look S2 y with
    | none => rfl
    | some y' =>
      show lift ((cop o x' y').map _) S2 = (lift (cop o x' y') S2).lb _
      cases cop o x' y' <;> rfl
@[simp] theorem evO_chain (o1 o2 : COp) (a b c : ME) : evO C (.chain o1 o2 a b c) env S = (fzR C.col (evO C a env S)).lb fun x S1 => (fzR C.col (evO C b env S1)).lb fun y S2 => (lift (cop o1 x y) S2).lb fun k _ =>
    iteR k ((fzR C.col (evO C c env S2)).lb fun z S3 => (lift (cop o2 y z) S3).lb fun b _ => some (.ok (.val (.bl b)) S3)) (some (.ok (.val (.bl false)) S2)) := by
  show R.bind _ _ = _
  refine bind_ext fun x S1 => ?_; refine bind_ext fun y S2 => ?_
  cases h : cop o1 x y with
  | none => simp only [h]; rfl
  | some k => cases k with
    | false => simp only [h]; rfl
    | true =>
      simp only [h]
      show R.bind _ _ = R.lb _ _
      refine bind_ext fun z S3 => ?_
      cases cop o2 y z <;> rfl
@[simp] theorem evO_and (a : ME) (es : Es) : evO C (.andE a es) env S = (fzR C.col (evO C a env S)).lb fun x S1 => evAnd C x es env S1 := (rfl)
@[simp] theorem evO_or (a : ME) (es : Es) : evO C (.orE a es) env S = (fzR C.col (evO C a env S)).lb fun x S1 => evOr C x es env S1 := (rfl)
@[simp] theorem evO_ite (c a b : ME) : evO C (.ite c a b) env S = (fzR C.col (evO C c env S)).lb fun x S1 => (lift (truth x) S1).lb fun k _ => iteR k (evO C a env S1) (evO C b env S1) := by
  show R.bind _ _ = _
  refine bind_ext fun x S1 => ?_
  cases truth x with
  | none => rfl
  | some k => cases k <;> rfl
@[simp] theorem evO_call (f : Str) (es : Es) (pm : List Nat) : evO C (.call f es pm) env S = (evs C es env S).lb fun vs S1 => (C.call f (perm pm vs) C.col C.cm S1).lb fun v S2 => some (.ok (.val v) S2) := (rfl)
@[simp] theorem evO_bi (b : Bi) (es : Es) : evO C (.bi b es) env S = (evs C es env S).lb fun vs S1 => (lift (lkL S1 vs) S1).lb fun vs' _ => lift (biF b vs') S1 := by
  show R.bind _ _ = _
  refine bind_ext fun vs S1 => ?_
  cases lkL S1 vs <;> rfl
@[simp] theorem evO_isi (e : ME) (tp : Bool) (cs : List Ty) : evO C (.isi e tp cs) env S = (fzR C.col (evO C e env S)).lb fun x S1 => (lift (isAny x cs) S1).lb fun b _ => some (.ok (.val (.bl b)) S1) := by
  show R.bind _ _ = _
  refine bind_ext fun x S1 => ?_
  cases isAny x cs <;> rfl
@[simp] theorem evO_mth (m : Mt) (o : ME) (es : Es) : evO C (.mth m o es) env S = (fzR C.col (evO C o env S)).lb fun x S1 => need (mthOK m S1 x) ((evs C es env S1).lb fun vs S2 => mthR m x vs S2) := by
  show R.bind _ _ = _
  refine bind_ext fun x S1 => ?_
  show (if mthOK m S1 x = true then _ else none) = _
  cases mthOK m S1 x <;> rfl
@[simp] theorem evO_lst (es : Es) : evO C (.lst es) env S = (evs C es env S).lb fun vs S1 => need (decide (vs.length ≤ sizeLine)) (some (.ok (.nl vs) S1)) := by
  show R.bind _ _ = _
  refine bind_ext fun x S1 => ?_; exact need_eq _ _
@[simp] theorem evO_tup (es : Es) : evO C (.tup es) env S = (evs C es env S).lb fun vs S1 => need (decide (vs.length ≤ sizeLine)) (some (.ok (.val (.tup vs)) S1)) := by
  show R.bind _ _ = _
  refine bind_ext fun x S1 => ?_; exact need_eq _ _
@[simp] theorem evO_dct (tk : Bool) : evO C (.dct tk .nil .nil) env S = some (.ok (.nd tk []) S) := (rfl)
@[simp] theorem evO_lc (elt : ME) (t : Tg) (it : IT) (ifs : Es) (own : List Nat) : evO C (.lc elt t it ifs own) env S = (evW C it env S).lb fun xs S1 =>
    (noExc (lcK t (evTs C ifs) (fun e s => fzR C.col (evO C elt e s)) xs (wipeE own env) S1)).lb fun ys S2 => need (decide (ys.length ≤ sizeLine)) (some (.ok (.nl ys) S2)) := by
  show R.bind _ _ = _
  refine bind_ext fun xs S1 => ?_
  refine bind_ext fun ys S2 => ?_; exact need_eq _ _
@[simp] theorem evO_sub (o i : ME) : evO C (.sub o i) env S = (fzR C.col (evO C o env S)).lb fun x S1 => (fzR C.col (evO C i env S1)).lb fun y S2 => (lift (look S2 x) S2).lb fun x' _ => (lift (subV x' y) S2).lb fun z _ => some (.ok (.val z) S2) := by
  show R.bind _ _ = _
  refine bind_ext fun x S1 => ?_; refine bind_ext fun y S2 => ?_
  cases look S2 x with
  | none => rfl
  | some x' =>
    show lift ((subV x' y).map _) S2 = (lift (subV x' y) S2).lb _
    cases subV x' y <;> rfl
@[simp] theorem evO_slc (o : ME) (lo hi : Option ME) : evO C (.slc o lo hi) env S = (fzR C.col (evO C o env S)).lb fun x S1 => (evOp C lo env S1).lb fun a S2 => (evOp C hi env S2).lb fun b S3 => (lift (look S3 x) S3).lb fun x' _ => lift (slcV x' a b) S3 := by
  show R.bind _ _ = _
  refine bind_ext fun x S1 => ?_; refine bind_ext fun a S2 => ?_; refine bind_ext fun b S3 => ?_
  cases look S3 x <;> rfl
def lstR {α : Type} (v : MV) (f : Nat → List MV → R α) (_ : Tk f := .mk) : R α :=
  match v with
  | .lst c xs => f c xs
  | _ => none
@[simp] theorem lstR_lst {α : Type} (c : Nat) (xs : List MV) (f : Nat → List MV → R α) (t : Tk f) : lstR (.lst c xs) f t = f c xs := (rfl)
@[simp] theorem evO_rv (o : ME) : evO C (.rv o) env S = (fzR C.col (evO C o env S)).lb fun x S1 => lstR x fun _ xs => some (.ok (.nl xs.reverse) S1) := by
  show R.bind _ _ = _
  refine bind_ext fun x S1 => ?_; cases x <;> rfl
def metR (hs : List (Str × Str × Str)) (r : R MV) : R OV :=
  match r with
  | some (.ok v S1) => some (.ok (.val (.tup [.str "told", v])) S1)
  | some (.exc c v S1) => match handled hs c with
    | some w => some (.ok (.val (.tup [.str w, v])) S1)
    | none => none
  | none => none
@[simp] theorem metR_ok (hs : List (Str × Str × Str)) (v : MV) (S1 : Store) : metR hs (some (.ok v S1)) = some (.ok (.val (.tup [.str "told", v])) S1) := (rfl)
theorem metR_exc {hs : List (Str × Str × Str)} {c w : Str} (h : handled hs c = some w) (v : MV) (S1 : Store) : metR hs (some (.exc c v S1)) = some (.ok (.val (.tup [.str w, v])) S1) := by
  show (match handled hs c with | some w => _ | none => none) = _
  rw [h]
@[simp] theorem evO_met (e : ME) : evO C (.met e) env S = metR C.hs (fzR C.col (evO C e env S)) := by
  unfold metR
  simp only [evO]
  generalize fzR C.col (evO C e env S) = r
  match r with
  | none => rfl
  | some (.ok v S1) => rfl
  | some (.exc c v S1) => rfl
@[simp] theorem evO_cell (e : ME) : evO C (.cell e) env S = (evO C e env S).lb fun o S1 => match o with
    | .nl xs => need (colsLtL 1 xs) (some (.ok (.val (.ptr S1.length)) (S1 ++ [.lst xs])))
    | _ => none := by
  show R.bind _ _ = _
  refine bind_ext fun o S1 => ?_; cases o with
  | nl xs =>
    show (if colsLtL 1 xs = true then _ else none) = need (colsLtL 1 xs) _
    cases colsLtL 1 xs <;> rfl
  | _ => rfl
@[simp] theorem evO_melt (e : ME) : evO C (.melt e) env S = (fzR C.col (evO C e env S)).lb fun v S1 => lstR v fun c xs => (lift (meltL C.col S1 xs) S1).lb fun ys _ => some (.ok (.val (.lst c ys)) (killAll xs S1)) := by
  show R.bind _ _ = _
  refine bind_ext fun v S1 => ?_; cases v with
  | lst c xs =>
    show (match meltL C.col S1 xs with | some ys => ok (OV.val (.lst c ys)) (killAll xs S1) | none => none) = (lift (meltL C.col S1 xs) S1).lb _
    cases meltL C.col S1 xs <;> rfl
  | _ => rfl
@[simp] theorem evs_nil : evs C .nil env S = some (.ok [] S) := (rfl)
@[simp] theorem evs_cons (e : ME) (r : Es) : evs C (.cons false e r) env S = (fzR C.col (evO C e env S)).lb fun x S1 => (evs C r env S1).lb fun xs S2 => some (.ok (x :: xs) S2) := (rfl)
@[simp] theorem evOp_none : evOp C none env S = some (.ok none S) := (rfl)
@[simp] theorem evOp_some (e : ME) : evOp C (some e) env S = (fzR C.col (evO C e env S)).lb fun x S1 => intR x fun i => some (.ok (some i) S1) := by
  show R.bind _ _ = _
  refine bind_ext fun x S1 => ?_; cases x <;> rfl
@[simp] theorem evAnd_nil (x : MV) : evAnd C x .nil env S = some (.ok (.val x) S) := (rfl)
@[simp] theorem evAnd_cons (b : Bool) (s : Bool) (e : ME) (r : Es) : evAnd C (.bl b) (.cons s e r) env S = iteR b ((fzR C.col (evO C e env S)).lb fun y S1 => evAnd C y r env S1) (some (.ok (.val (.bl false)) S)) := by
  cases b <;> rfl
@[simp] theorem evOr_nil (x : MV) : evOr C x .nil env S = some (.ok (.val x) S) := (rfl)
@[simp] theorem evOr_cons (b : Bool) (s : Bool) (e : ME) (r : Es) : evOr C (.bl b) (.cons s e r) env S = iteR b (some (.ok (.val (.bl true)) S)) ((fzR C.col (evO C e env S)).lb fun y S1 => evOr C y r env S1) := by
  cases b <;> rfl
@[simp] theorem evTs_nil : evTs C .nil env S = some (.ok true S) := (rfl)
@[simp] theorem evTs_cons (s : Bool) (e : ME) (r : Es) : evTs C (.cons s e r) env S = (fzR C.col (evO C e env S)).lb fun x S1 => (lift (truth x) S1).lb fun k _ => iteR k (evTs C r env S1) (some (.ok false S1)) := by
  show R.bind _ _ = _
  refine bind_ext fun x S1 => ?_
  cases truth x with
  | none => rfl
  | some k => cases k <;> rfl
@[simp] theorem evW_val (e : ME) : evW C (.val e) env S = (fzR C.col (evO C e env S)).lb fun v S1 => lift (walkV v) S1 := (rfl)
@[simp] theorem evW_by (b : Wk) (es : Es) : evW C (.by_ b es) env S = (evs C es env S).lb fun vs S1 => lift (walkF b vs) S1 := (rfl)
@[simp] theorem evW_items (e : ME) : evW C (.items e) env S = (fzR C.col (evO C e env S)).lb fun v S1 => lift (walkM v) S1 := (rfl)
end

@[simp] theorem le_sz {n : Nat} (h : n ≤ 1000) : n ≤ sizeLine := Nat.le_trans h (by decide)
@[simp] theorem lt_sz {n : Nat} (h : n ≤ 1000) : n < sizeLine := Nat.lt_of_le_of_lt h (by decide)
@[simp] theorem look_intP (S : Store) (i : Int) : look S (.int i) = some (.int i) := (rfl)
@[simp] theorem look_str (S : Store) (i : Str) : look S (.str i) = some (.str i) := (rfl)
@[simp] theorem look_bl (S : Store) (i : Bool) : look S (.bl i) = some (.bl i) := (rfl)
@[simp] theorem look_nonP (S : Store) : look S .non = some .non := (rfl)
@[simp] theorem look_lst (S : Store) (c : Nat) (xs : List MV) : look S (.lst c xs) = some (.lst c xs) := (rfl)
@[simp] theorem look_tupP (S : Store) (xs : List MV) : look S (.tup xs) = some (.tup xs) := (rfl)
@[simp] theorem look_dctP (S : Store) (c : Nat) (tk : Bool) (xs : List (MV × MV)) : look S (.dct c tk xs) = some (.dct c tk xs) := (rfl)
@[simp] theorem look_scr (S : Store) (xs : List MV) : look S (.scr xs) = some (.scr xs) := (rfl)
@[simp] theorem look_ptr0 (xs : List MV) (r : Store) : look (.lst xs :: r) (.ptr 0) = some (.lst 0 xs) := (rfl)
@[simp] theorem look_ptr1 (x : Cell) (xs : List MV) (r : Store) : look (x :: .lst xs :: r) (.ptr 1) = some (.lst 0 xs) := (rfl)
@[simp] theorem lkL_nil (S : Store) : lkL S [] = some [] := (rfl)
theorem lkL_cons {S : Store} {v v' : MV} {vs vs' : List MV} (h : look S v = some v') (hs : lkL S vs = some vs') : lkL S (v :: vs) = some (v' :: vs') := by
  show (match look S v, lkL S vs with | some x, some xs => some (x :: xs) | _, _ => none) = _
  rw [h, hs]
@[simp] theorem lkL_int (S : Store) (i : Int) (vs : List MV) : lkL S (.int i :: vs) = (lkL S vs).map (.int i :: ·) := by
  show (match look S (.int i), lkL S vs with | some x, some xs => some (x :: xs) | _, _ => none) = _
  cases lkL S vs <;> rfl
@[simp] theorem lkL_lst (S : Store) (c : Nat) (xs : List MV) (vs : List MV) : lkL S (.lst c xs :: vs) = (lkL S vs).map (.lst c xs :: ·) := by
  show (match look S (.lst c xs), lkL S vs with | some x, some xs => some (x :: xs) | _, _ => none) = _
  cases lkL S vs <;> rfl
@[simp] theorem lkL_tup (S : Store) (xs : List MV) (vs : List MV) : lkL S (.tup xs :: vs) = (lkL S vs).map (.tup xs :: ·) := by
  show (match look S (.tup xs), lkL S vs with | some x, some xs => some (x :: xs) | _, _ => none) = _
  cases lkL S vs <;> rfl
@[simp] theorem lkL_scr (S : Store) (xs : List MV) (vs : List MV) : lkL S (.scr xs :: vs) = (lkL S vs).map (.scr xs :: ·) := by
  show (match look S (.scr xs), lkL S vs with | some x, some xs => some (x :: xs) | _, _ => none) = _
  cases lkL S vs <;> rfl
@[simp] theorem truth_bl (b : Bool) : truth (.bl b) = some b := (rfl)
@[simp] theorem subV_lst (c : Nat) (xs : List MV) (k : Int) : subV (.lst c xs) (.int k) = item xs k := (rfl)
@[simp] theorem subV_tup (xs : List MV) (k : Int) : subV (.tup xs) (.int k) = item xs k := (rfl)
theorem item_nat (xs : List MV) (k : Nat) : item xs (k : Int) = xs[k]? := by
  unfold item L2.atI L2.ixN
  rw [if_pos (by omega)]
  by_cases h : k < xs.length
  · rw [if_pos (by omega)]; simp
  · rw [if_neg (by omega)]; simp; omega
@[simp] theorem item_0 (x : MV) (r : List MV) : item (x :: r) 0 = some x := item_nat (x :: r) 0
@[simp] theorem item_1 (x y : MV) (r : List MV) : item (x :: y :: r) 1 = some y := item_nat (x :: y :: r) 1
@[simp] theorem item_2 (x y z : MV) (r : List MV) : item (x :: y :: z :: r) 2 = some z := item_nat (x :: y :: z :: r) 2
@[simp] theorem item_3 (x y z w : MV) (r : List MV) : item (x :: y :: z :: w :: r) 3 = some w := item_nat (x :: y :: z :: w :: r) 3
@[simp] theorem cop_eq (a b : MV) : cop .eq a b = pyEq a b := (rfl)
@[simp] theorem cop_ne (a b : MV) : cop .ne a b = (pyEq a b).map (!·) := (rfl)
@[simp] theorem cop_lt (i j : Int) : cop .lt (.int i) (.int j) = some (decide (i < j)) := (rfl)
@[simp] theorem cop_le (i j : Int) : cop .le (.int i) (.int j) = some (decide (i ≤ j)) := (rfl)
@[simp] theorem cop_gt (i j : Int) : cop .gt (.int i) (.int j) = some (decide (j < i)) := (rfl)
@[simp] theorem cop_ge (i j : Int) : cop .ge (.int i) (.int j) = some (decide (j ≤ i)) := (rfl)
@[simp] theorem cop_is (a : MV) : cop .is_ a .non = some (isNon a) := (rfl)
@[simp] theorem cop_isnot (a : MV) : cop .isnot a .non = some (!isNon a) := (rfl)
@[simp] theorem pyEq_int (i j : Int) : pyEq (.int i) (.int j) = some (decide (i = j)) := by
  show some (i == j) = _
  congr 1
@[simp] theorem bop_addI (i j : Int) : bop .add (.int i) (.int j) = some (.val (.int (i + j))) := (rfl)
@[simp] theorem bop_subI (i j : Int) : bop .sub (.int i) (.int j) = some (.val (.int (i - j))) := (rfl)
@[simp] theorem perm_nil (vs : List MV) : perm [] vs = vs := (rfl)

section
variable (f : Fr) (sl : Sl) (S : Store)
@[simp] theorem exs_nil : exs f .nil sl S = some (.ok (.nx sl) S) := (rfl)
def seqR (f : Fr) (r : Ss) (k : Fl) (S : Store) : R Fl :=
  match k with
  | .nx sl' => exs f r sl' S
  | .rt v => some (.ok (.rt v) S)
@[simp] theorem seqR_nx (r : Ss) (sl' : Sl) : seqR f r (.nx sl') S = exs f r sl' S := (rfl)
@[simp] theorem seqR_rt (r : Ss) (v : MV) : seqR f r (.rt v) S = some (.ok (.rt v) S) := (rfl)
@[simp] theorem exs_cons (s : MS) (r : Ss) : exs f (.cons s r) sl S = (ex f s sl S).lb fun k S1 => seqR f r k S1 := by
  show R.bind _ _ = _
  refine bind_ext fun k S1 => ?_; cases k <;> rfl
@[simp] theorem ex_expr (e : ME) : ex f (.expr e) sl S = (se f e sl S).lb fun _ S1 => some (.ok (.nx sl) S1) := (rfl)
@[simp] theorem ex_set (i : Nat) (own : Bool) (e : ME) : ex f (.set i own e) sl S = (seO f e sl S).lb fun o S1 => need (decide (i < sl.length)) (some (.ok (.nx (sl.set i (putO f.col own o))) S1)) := by
  show R.bind _ _ = _
  refine bind_ext fun o S1 => ?_; exact need_eq _ _
@[simp] theorem ex_setT (t : Tg) (e : ME) : ex f (.setT t e) sl S = (se f e sl S).lb fun v S1 => (lift (bindS t v sl) S1).lb fun sl' _ => some (.ok (.nx sl') S1) := by
  show R.bind _ _ = _
  refine bind_ext fun v S1 => ?_; cases bindS t v sl <;> rfl
@[simp] theorem ex_par (is : List (Nat × Bool)) (es : Es) : ex f (.par is es) sl S = (ses f sl es S).lb fun vs S1 => (lift (putV is vs sl) S1).lb fun sl' _ => some (.ok (.nx sl') S1) := by
  show R.bind _ _ = _
  refine bind_ext fun v S1 => ?_; cases putV is v sl <;> rfl
def olR {α : Type} (s : Option SV) (f : List MV → R α) (_ : Tk f := .mk) : R α :=
  match s with
  | some (.ol xs) => f xs
  | _ => none
@[simp] theorem olR_ol {α : Type} (xs : List MV) (f : List MV → R α) (t : Tk f) : olR (some (.ol xs)) f t = f xs := (rfl)
@[simp] theorem ex_setSub (i : Nat) (ix e : ME) : ex f (.setSub i ix e) sl S = olR sl[i]? fun xs => (se f e sl S).lb fun v S1 => (se f ix sl S1).lb fun k S2 => intR k fun j => (lift (L2.ixN xs.length j) S2).lb fun n _ => some (.ok (.nx (sl.set i (.ol (xs.set n v)))) S2) := by
  show (match sl[i]? with | some (.ol xs) => _ | _ => none) = _
  match sl[i]? with
  | some (.ol xs) =>
    show R.bind _ _ = R.lb _ _
    refine bind_ext fun v S1 => ?_; refine bind_ext fun k S2 => ?_; cases k with
    | int j =>
      show (match L2.ixN xs.length j with | some n => ok (Fl.nx (sl.set i (.ol (xs.set n v)))) S2 | none => none) = (lift (L2.ixN xs.length j) S2).lb _
      cases L2.ixN xs.length j <;> rfl
    | _ => rfl
  | none => rfl
  | some .un => rfl
  | some (.val _) => rfl
  | some (.od _ _) => rfl
def cellR {α : Type} (S : Store) (p : MV) (f : Nat → List MV → R α) (_ : Tk f := .mk) : R α :=
  match p with
  | .ptr n => match S[n]? with
    | some (.lst xs) => f n xs
    | _ => none
  | _ => none
theorem cellR_ptr {α : Type} {S : Store} {n : Nat} {xs : List MV} (h : S[n]? = some (.lst xs)) (f : Nat → List MV → R α) (t : Tk f) : cellR S (.ptr n) f t = f n xs := by
  show (match S[n]? with | some (.lst xs) => _ | _ => none) = _
  rw [h]
@[simp] theorem cellR_0 {α : Type} (xs : List MV) (r : Store) (f : Nat → List MV → R α) (t : Tk f) : cellR (.lst xs :: r) (.ptr 0) f t = f 0 xs := (rfl)
@[simp] theorem cellR_1 {α : Type} (x : Cell) (xs : List MV) (r : Store) (f : Nat → List MV → R α) (t : Tk f) : cellR (x :: .lst xs :: r) (.ptr 1) f t = f 1 xs := (rfl)
@[simp] theorem ex_setCell (o ix e : ME) : ex f (.setCell o ix e) sl S = (se f e sl S).lb fun v S1 => (se f o sl S1).lb fun p S2 => (se f ix sl S2).lb fun k S3 => cellR S3 p fun n xs => intR k fun j => (lift (L2.ixN xs.length j) S3).lb fun m _ => need (cellOK v) (some (.ok (.nx sl) (S3.set n (.lst (xs.set m v))))) := by
  show R.bind _ _ = _
  refine bind_ext fun v S1 => ?_; refine bind_ext fun p S2 => ?_; refine bind_ext fun k S3 => ?_
  cases p with
  | ptr n =>
    show (match S3[n]?, k with | some (.lst xs), .int j => _ | _, _ => none) = (match S3[n]? with | some (.lst xs) => _ | _ => none)
    match S3[n]? with
    | some (.lst xs) => cases k with
      | int j =>
        show (match L2.ixN xs.length j with | some m => (if cellOK v = true then _ else none) | none => none) = (lift (L2.ixN xs.length j) S3).lb _
        cases L2.ixN xs.length j with
        | none => rfl
        | some m => cases h : cellOK v <;> simp [h, lift] <;> rfl
      | _ => rfl
    | none => rfl
    | some .dead => rfl
    | some (.dct _) => rfl
  | _ => rfl
@[simp] theorem ex_append (i : Nat) (e : ME) : ex f (.append i e) sl S = olR sl[i]? fun xs => (se f e sl S).lb fun v S1 => need (decide (xs.length < sizeLine)) (some (.ok (.nx (sl.set i (.ol (xs ++ [v])))) S1)) := by
  show (match sl[i]? with | some (.ol xs) => _ | _ => none) = _
  match sl[i]? with
  | some (.ol xs) =>
    show R.bind _ _ = R.lb _ _
    refine bind_ext fun v S1 => ?_; exact need_eq _ _
  | none => rfl
  | some .un => rfl
  | some (.val _) => rfl
  | some (.od _ _) => rfl
@[simp] theorem ex_extend (i : Nat) (e : ME) : ex f (.extend i e) sl S = olR sl[i]? fun xs => (se f e sl S).lb fun v S1 => lstR v fun _ ys => need (decide (xs.length + ys.length ≤ sizeLine)) (some (.ok (.nx (sl.set i (.ol (xs ++ ys)))) S1)) := by
  show (match sl[i]? with | some (.ol xs) => _ | _ => none) = _
  match sl[i]? with
  | some (.ol xs) =>
    show R.bind _ _ = R.lb _ _
    refine bind_ext fun v S1 => ?_; cases v with
    | lst c ys => exact need_eq _ _
    | _ => rfl
  | none => rfl
  | some .un => rfl
  | some (.val _) => rfl
  | some (.od _ _) => rfl
@[simp] theorem ex_ifS (c : ME) (a b : Ss) : ex f (.ifS c a b) sl S = (tst f c sl S).lb fun k S1 => iteR k (exs f a sl S1) (exs f b sl S1) := by
  show R.bind _ _ = _
  refine bind_ext fun k S1 => ?_; cases k <;> rfl
theorem ex_whl (c : ME) (b : Ss) : ex f (.whl c b) sl S = whileK (fun sl S => tst f c sl S) (fun sl S => exs f b sl S) f.fuel sl S := rfl
@[simp] theorem ex_for (t : Tg) (it : IT) (b : Ss) : ex f (.for_ t it b) sl S = (seW f it sl S).lb fun xs S1 => forK t (fun sl S => exs f b sl S) xs sl S1 := (rfl)
@[simp] theorem ex_ret0 : ex f (.ret none) sl S = some (.ok (.rt .non) S) := (rfl)
@[simp] theorem ex_ret (e : ME) : ex f (.ret (some e)) sl S = (evO f.cfg1 e (view f.col sl) S).lb fun o S1 => some (.ok (.rt (o.fz f.col)) S1) := (rfl)
@[simp] theorem ex_raise (c : Str) (e : ME) : ex f (.raise c e) sl S = (evO f.cfg1 e (view f.col sl) S).lb fun o S1 => some (.exc c (o.fz f.col) S1) := (rfl)
@[simp] theorem ex_pass : ex f .pass sl S = some (.ok (.nx sl) S) := (rfl)
@[simp] theorem ex_frz (is : List Nat) : ex f (.frz is) sl S = some (.ok (.nx (frzAt f.col is sl)) S) := (rfl)
@[simp] theorem ses_nil : ses f sl .nil S = some (.ok [] S) := (rfl)
@[simp] theorem ses_cons (e : ME) (r : Es) : ses f sl (.cons false e r) S = (se f e sl S).lb fun v S1 => (ses f sl r S1).lb fun vs S2 => some (.ok (v :: vs) S2) := (rfl)
theorem seO_un (h : anyOwn sl = false) (e : ME) : seO f e sl S = (evO ⟨f.call, f.col, f.be, f.hs⟩ e (view f.be sl) S).lb fun o S1 => some (.ok (o.fzd f.col) S1) := by
  unfold seO Fr.cfg
  rw [h]
  show guardR f.be sl _ ((evO ⟨f.call, f.col, f.be, f.hs⟩ e (view f.be sl) S).lb _) = _
  match evO ⟨f.call, f.col, f.be, f.hs⟩ e (view f.be sl) S with
  | none => rfl
  | some (.ok (.val v) S1) => simp [guardR, okO, h]
  | some (.ok (.nl v) S1) => simp [guardR, okO, h]
  | some (.ok (.nd tk v) S1) => simp [guardR, okO, h]
  | some (.exc c v S1) => simp [guardR, h]
theorem seO_ow (h : anyOwn sl = true) (e : ME) : seO f e sl S = guardR f.be sl (okO f.be sl) ((evO ⟨f.call, f.col, f.be + 1, f.hs⟩ e (view f.be sl) S).lb fun o S1 => some (.ok (o.fzd f.col) S1)) := by
  unfold seO Fr.cfg
  rw [h]; rfl
theorem tst_un (h : anyOwn sl = false) (e : ME) : tst f e sl S = (evO ⟨f.call, f.col, f.be, f.hs⟩ e (view f.be sl) S).lb fun o S1 => lift (truth (o.fz f.col)) S1 := by
  unfold tst Fr.cfg
  rw [guardR_noOwn h (fun _ => rfl), h, fzR_eq, bind_lb, R.lb_assoc]
  rfl
theorem tst_ow (h : anyOwn sl = true) (e : ME) : tst f e sl S = guardR f.be sl (fun _ => true) ((evO ⟨f.call, f.col, f.be + 1, f.hs⟩ e (view f.be sl) S).lb fun o S1 => lift (truth (o.fz f.col)) S1) := by
  unfold tst Fr.cfg
  rw [h, fzR_eq, bind_lb, R.lb_assoc]
  rfl
theorem seW_val (e : ME) : seW f (.val e) sl S = (se f e sl S).lb fun v S1 => need (f.old v) (lift (walkV v) S1) := by
  show R.bind _ _ = _
  refine bind_ext fun v S1 => ?_
  show (if f.old v = true then _ else none) = _
  cases f.old v <;> rfl
theorem seW_by (b : Wk) (es : Es) : seW f (.by_ b es) sl S = (seL f es sl S).lb fun vs S1 => need (f.oldL vs) (lift (walkF b vs) S1) := by
  show R.bind _ _ = _
  refine bind_ext fun v S1 => ?_
  show (if f.oldL v = true then _ else none) = _
  cases f.oldL v <;> rfl
theorem seL_un (h : anyOwn sl = false) (es : Es) : seL f es sl S = evs ⟨f.call, f.col, f.be, f.hs⟩ es (view f.be sl) S := by
  unfold seL Fr.cfg
  rw [guardR_noOwn h (fun _ => by simp [h]), h]
  rfl
theorem seL_ow (h : anyOwn sl = true) (es : Es) : seL f es sl S = guardR f.be sl (fun xs => colsLtL f.be xs) (evs ⟨f.call, f.col, f.be + 1, f.hs⟩ es (view f.be sl) S) := by
  unfold seL Fr.cfg
  rw [h]
  rfl
theorem old_eq (call : Str → List MV → Nat → Nat → Store → R MV) (col cm : Nat) (hs : List (Str × Str × Str)) (fuel : Nat) (v : MV) : Fr.old ⟨call, col, cm, hs, fuel, cm⟩ v = true := by
  simp [Fr.old]
theorem oldL_eq (call : Str → List MV → Nat → Nat → Store → R MV) (col cm : Nat) (hs : List (Str × Str × Str)) (fuel : Nat) (v : List MV) : Fr.oldL ⟨call, col, cm, hs, fuel, cm⟩ v = true := by
  simp [Fr.oldL]
end
theorem anyOwn_not {s : SV} (r : Sl) (h : s.isOwn = false) : anyOwn (s :: r) = anyOwn r := by
  show (s.isOwn || _) = _
  rw [h]; rfl
theorem view_cons (b : Nat) (s : SV) (r : Sl) : view b (s :: r) = s.view b :: view b r := rfl
/-- the next slots, or what comes back -/
def nxR (r : Fl) (f : Sl → R Fl) (S : Store) (_ : Tk f := .mk) : R Fl :=
  match r with
  | .nx sl => f sl
  | .rt v => some (.ok (.rt v) S)
@[simp] theorem nxR_nx (sl : Sl) (f : Sl → R Fl) (S : Store) (t : Tk f) : nxR (.nx sl) f S t = f sl := (rfl)
@[simp] theorem nxR_rt (v : MV) (f : Sl → R Fl) (S : Store) (t : Tk f) : nxR (.rt v) f S t = some (.ok (.rt v) S) := (rfl)
theorem whileK_succ (c : Sl → Store → R Bool) (b : Sl → Store → R Fl) (n : Nat) (sl : Sl) (S : Store) : whileK c b (n + 1) sl S = (c sl S).lb fun k S1 => iteR k ((b sl S1).lb fun r S2 => nxR r (fun sl' => whileK c b n sl' S2) S2) (some (.ok (.nx sl) S1)) := by
  show R.bind _ _ = _
  refine bind_ext fun k S1 => ?_
  cases k <;> rfl
@[simp] theorem forK_nil (t : Tg) (b : Sl → Store → R Fl) (sl : Sl) (S : Store) (tk : Tk b) : forK t b [] sl S tk = some (.ok (.nx sl) S) := (rfl)
theorem forK_cons (t : Tg) (b : Sl → Store → R Fl) (x : MV) (xs : List MV) (sl : Sl) (S : Store) (tk : Tk b) : forK t b (x :: xs) sl S tk =
    (lift (bindS t x sl) S).lb fun sl' S => (b sl' S).lb fun r S2 => nxR r (fun sl2 => forK t b xs sl2 S2) S2 := by
  show (match bindS t x sl with | none => none | some sl' => _) = _
  cases bindS t x sl with
  | none => rfl
  | some sl' =>
    show R.bind _ _ = R.lb _ _
    refine bind_ext fun r S2 => ?_
    cases r <;> rfl
@[simp] theorem lcK_nil {α : Type} (t : Tg) (c : Env → Store → R Bool) (b : Env → Store → R α) (env : Env) (S : Store) (tk : Tk (c, b)) : lcK t c b [] env S tk = some (.ok [] S) := (rfl)
theorem lcK_cons {α : Type} (t : Tg) (c : Env → Store → R Bool) (b : Env → Store → R α) (x : MV) (xs : List MV) (env : Env) (S : Store) (tk : Tk (c, b)) : lcK t c b (x :: xs) env S tk =
    (lift (bind t x env) S).lb fun env' S => (c env' S).lb fun k S1 => iteR k ((b env' S1).lb fun y S2 => (lcK t c b xs env S2).lb fun ys S3 => some (.ok (y :: ys) S3)) (lcK t c b xs env S1) := by
  show (match bind t x env with | none => none | some env' => _) = _
  cases bind t x env with
  | none => rfl
  | some sl' =>
    show R.bind _ _ = R.lb _ _
    refine bind_ext fun r S2 => ?_
    cases r <;> rfl
@[simp] theorem noExc_okP {α : Type} (a : α) (S : Store) : noExc (some (.ok a S)) = some (.ok a S) := (rfl)
@[simp] theorem Wp_noExc {α : Type} (r : R α) (Q : α → Store → Prop) (t : Tk Q) : Wp (noExc r) Q t = Wp r Q := by
  match r with
  | none => rfl
  | some (.ok a S) => rfl
  | some (.exc c v S) => rfl
@[simp] theorem SVview_val (b : Nat) (v : MV) : SV.view b (.val v) = some v := (rfl)
@[simp] theorem SVview_un (b : Nat) : SV.view b .un = none := (rfl)
@[simp] theorem SVview_ol (b : Nat) (xs : List MV) : SV.view b (.ol xs) = some (.lst b xs) := (rfl)
@[simp] theorem anyOwn_nil : anyOwn [] = false := by simp [anyOwn]
@[simp] theorem anyOwn_un (r : Sl) : anyOwn (.un :: r) = anyOwn r := by simp [anyOwn, SV.isOwn]
@[simp] theorem anyOwn_val (v : MV) (r : Sl) : anyOwn (.val v :: r) = anyOwn r := by simp [anyOwn, SV.isOwn]
@[simp] theorem anyOwn_ol (v : List MV) (r : Sl) : anyOwn (.ol v :: r) = true := by simp [anyOwn, SV.isOwn]
@[simp] theorem view_nil (b : Nat) : view b [] = [] := (rfl)
@[simp] theorem view_un (b : Nat) (r : Sl) : view b (.un :: r) = none :: view b r := (rfl)
@[simp] theorem view_val (b : Nat) (v : MV) (r : Sl) : view b (.val v :: r) = some v :: view b r := (rfl)
@[simp] theorem view_ol (b : Nat) (v : List MV) (r : Sl) : view b (.ol v :: r) = some (.lst b v) :: view b r := (rfl)
end Mv

end
section
set_option Elab.async false
set_option linter.all false
set_option maxRecDepth 100000
namespace Mv
open PySem
namespace L
def _law_stream : Df := ⟨["script"], 1, (.cons (.ret (some (.cell (.lst (.cons false (.cell (.bi .list (.cons false (.nm 0) .nil))) (.cons false (.cn (.int 0)) (.cons false (.cn (.int 0)) (.cons false (.cn (.int 19)) .nil)))))))) .nil), 0⟩
def _law_draw : Df := ⟨["stream", "many"], 5, (.cons (.setCell (.nm 0) (.cn (.int 2)) (.bin .add (.sub (.nm 0) (.cn (.int 2))) (.cn (.int 1)))) (.cons (.whl (.andE (.cmp .eq (.sub (.nm 0) (.cn (.int 1))) (.cn (.int 0))) (.cons false (.cmp .ne (.sub (.nm 0) (.cn (.int 0))) (.lst .nil)) .nil)) (.cons (.set 2 false (.bi .abs (.cons false (.mth .pop (.sub (.nm 0) (.cn (.int 0))) (.cons false (.cn (.int 0)) .nil)) .nil))) (.cons (.setCell (.nm 0) (.cn (.int 3)) (.bin .mod (.bi .int (.cons false (.bin .add (.bin .add (.bin .mul (.sub (.nm 0) (.cn (.int 3))) (.cn (.int 6151))) (.nm 2)) (.cn (.int 7))) .nil)) (.cn (.int 2147483629)))) (.cons (.setCell (.nm 0) (.cn (.int 1)) (.ite (.cmp .ge (.nm 2) (.bin .pow (.cn (.int 10)) (.cn (.int 18)))) (.nm 2) (.cn (.int 0)))) .nil)))) (.cons (.ifS (.cmp .gt (.sub (.nm 0) (.cn (.int 1))) (.cn (.int 0))) (.cons (.set 3 false (.bin .mod (.bi .int (.cons false (.sub (.nm 0) (.cn (.int 1))) .nil)) (.nm 1))) (.cons (.setCell (.nm 0) (.cn (.int 1)) (.bin .fdiv (.sub (.nm 0) (.cn (.int 1))) (.nm 1))) (.cons (.ret (some (.nm 3))) .nil))) .nil) (.cons (.set 4 false (.bin .mod (.bi .int (.cons false (.bin .pow (.bin .add (.bin .add (.sub (.nm 0) (.cn (.int 3))) (.bin .mul (.cn (.int 8191)) (.sub (.nm 0) (.cn (.int 2))))) (.cn (.int 50021))) (.cn (.int 5))) .nil)) (.cn (.int 2147483587)))) (.cons (.ret (some (.bin .mod (.bin .mod (.bi .int (.cons false (.bin .pow (.bin .add (.bin .add (.bin .mul (.nm 4) (.cn (.int 40009))) (.bin .mul (.cn (.int 20011)) (.sub (.nm 0) (.cn (.int 2))))) (.cn (.int 31))) (.cn (.int 3))) .nil)) (.cn (.int 1000000009))) (.nm 1)))) .nil))))), 0⟩
def _law_pick : Df := ⟨["stream", "things"], 2, (.cons (.ret (some (.sub (.nm 1) (.call "_law_draw" (.cons false (.nm 0) (.cons false (.bi .len (.cons false (.nm 1) .nil)) .nil)) [])))) .nil), 0⟩
end L
theorem bits_of_lt {i : Int} {m : Nat} (h : i.natAbs < 2 ^ m) : Builtin.Int.intBits i ≤ m := intBits_le_iff.mpr h
theorem bop_mul64 {i j : Int} (hi : i.natAbs < 2 ^ 64) (hj : j.natAbs < 2 ^ 64) : bop .mul (.int i) (.int j) = some (.val (.int (i * j))) := by
  have h1 := bits_of_lt hi
  have h2 := bits_of_lt hj
  show (if _ then _ else _) = _
  rw [if_pos (by omega)]

/-- the stream stands in cells 0 and 1, and not more than b draws were made -/
def StR (r : Store) (b : Nat) (S : Store) : Prop :=
  ∃ (ns : List Int) (a c d : Int), S = .lst (ns.map .int) :: .lst [.ptr 0, .int a, .int c, .int d] :: r ∧ (∀ z ∈ ns, Builtin.Int.intBits z ≤ 1048576) ∧ ns.length ≤ 63 ∧
    0 ≤ a ∧ Builtin.Int.intBits a ≤ 1048576 ∧ 0 ≤ c ∧ c ≤ b ∧ 0 ≤ d ∧ d < 2147483629
/-- the same, whatever else stands in the store -/
def StAt (b : Nat) (S : Store) : Prop := ∃ r, StR r b S
theorem StR.le {r : Store} {b b' : Nat} {S : Store} (h : StR r b S) (i : b ≤ b') : StR r b' S := by
  obtain ⟨ns, a, c, d, h1, h2, h3, h4, h5, h6, h7, h8, h9⟩ := h
  exact ⟨ns, a, c, d, h1, h2, h3, h4, h5, h6, by omega, h8, h9⟩
theorem StAt.le {b b' : Nat} {S : Store} (h : StAt b S) (i : b ≤ b') : StAt b' S := by
  obtain ⟨r, h⟩ := h
  exact ⟨r, h.le i⟩
theorem toPDs_ints : ∀ ns : List Int, toPDs (ns.map .int) = some (ns.map .int)
  | [] => rfl
  | n :: ns => by
    show (match toPD (.int n), toPDs (ns.map .int) with | some d, some ds => some (d :: ds) | _, _ => none) = _
    rw [toPDs_ints ns]; rfl
theorem canLayAll_ints : ∀ ns : List Int, PyData.canLayAll0 (ns.map .int) = true
  | [] => rfl
  | n :: ns => by simp [PyData.canLayAll0, PyData.canLay0, canLayAll_ints ns]
theorem depthAll_ints : ∀ ns : List Int, PyData.depthAll (ns.map .int) = 0
  | [] => rfl
  | n :: ns => by simp [PyData.depthAll, PyData.depth, depthAll_ints ns]
theorem pyEq_ints (c c' : Nat) (ns ms : List Int) : pyEq (.lst c (ns.map .int)) (.lst c' (ms.map .int)) = some (PyData.eqvAll (ns.map .int) (ms.map .int)) := by
  have h : ∀ (c : Nat) (ns : List Int), toPD (.lst c (ns.map .int)) = some (.list (ns.map .int)) := fun c ns => by
    show (toPDs (ns.map .int)).map _ = _
    rw [toPDs_ints]; rfl
  have h2 : ∀ (ns : List Int), SeqAt.shaped (.list (ns.map .int)) = true := fun ns => by
    simp [SeqAt.shaped, PyData.canLay0, PyData.depth, canLayAll_ints, depthAll_ints]
  unfold pyEq
  rw [h, h]
  simp [h2, PyData.eqv]
@[simp] theorem pyEq_nil_nil (c c' : Nat) : pyEq (.lst c []) (.lst c' []) = some true := pyEq_ints c c' [] []
theorem pyEq_cons_nil (c c' : Nat) (n : Int) (ns : List Int) : pyEq (.lst c (.int n :: ns.map .int)) (.lst c' []) = some false := pyEq_ints c c' (n :: ns) []
@[simp] theorem mthOK_pop0 (xs : List MV) (r : Store) : mthOK .pop (.lst xs :: r) (.ptr 0) = true := (rfl)
@[simp] theorem mthR_pop0 (x : MV) (xs : List MV) (r : Store) : mthR .pop (.ptr 0) [.int 0] (.lst (x :: xs) :: r) = some (.ok (.val x) (.lst xs :: r)) := by
  have e : L2.ixN (x :: xs).length 0 = some 0 := by simp [L2.ixN]
  simp only [mthR, mthC, popC, List.getElem?_cons_zero]
  simp [L2.ixN]
@[simp] theorem biF_abs (i : Int) : biF .abs [.int i] = some (.val (.int (absI i))) := (rfl)
@[simp] theorem biF_int (i : Int) : biF .int [.int i] = some (.val (.int i)) := (rfl)
theorem absI_eq (i : Int) : absI i = i.natAbs := by unfold absI; split <;> omega
theorem bop_mod {i j : Int} (h : 0 < j) : bop .mod (.int i) (.int j) = some (.val (.int (i % j))) := by
  show (if _ then _ else _) = _
  rw [if_pos h]
theorem bop_fdiv {i j : Int} (h : 0 < j) (h2 : j < 1073741824) : bop .fdiv (.int i) (.int j) = some (.val (.int (i / j))) := by
  show (if _ then _ else _) = _
  rw [if_pos (.inl ⟨h, h2⟩)]
theorem bop_pow {i j : Int} (h : 0 ≤ j) (h2 : j ≤ 1000000) (h3 : i.natAbs < 2 ^ 64) : bop .pow (.int i) (.int j) = some (.val (.int (i ^ j.toNat))) := by
  show (if _ then _ else _) = _
  rw [if_pos ⟨h, h2, h3⟩]
@[simp] theorem ixN4_1 : L2.ixN 4 1 = some 1 := (rfl)
@[simp] theorem ixN4_2 : L2.ixN 4 2 = some 2 := (rfl)
@[simp] theorem ixN4_3 : L2.ixN 4 3 = some 3 := (rfl)
@[simp] theorem cellOK_int (i : Int) : cellOK (.int i) = true := (rfl)
@[simp] theorem putO_val (c : Nat) (own : Bool) (v : MV) : putO c own (.val v) = .val v := by cases own <;> rfl
@[simp] theorem putO_nlf (c : Nat) (v : List MV) : putO c false (.nl v) = .val (.lst c v) := (rfl)
@[simp] theorem putO_nlt (c : Nat) (v : List MV) : putO c true (.nl v) = .ol v := (rfl)
theorem se_un (f : Fr) (sl : Sl) (S : Store) (h : anyOwn sl = false) (e : ME) : se f e sl S = (evO ⟨f.call, f.col, f.be, f.hs⟩ e (view f.be sl) S).lb fun o S1 => some (.ok (o.fz f.col) S1) := by
  unfold se
  rw [seO_un f sl S h, fzR_eq, R.lb_assoc]
  refine bind_ext (x := evO ⟨f.call, f.col, f.be, f.hs⟩ e (view f.be sl) S) fun o S1 => ?_
  cases o <;> rfl

section
variable {p : Pg} {fuel : Nat}
theorem draw_loop (call : Str → List MV → Nat → Nat → Store → R MV) (cm : Nat) (hcm : 0 < cm) (m : Int) (c : Int) (r : Store) (a0 : Int) :
    ∀ (ns : List Int) (n : Nat) (a d : Int) (s : SV) (Q : Fl → Store → Prop), ns.length < n → (∀ z ∈ ns, Builtin.Int.intBits z ≤ 1048576) → ns.length ≤ 63 →
    0 ≤ a → Builtin.Int.intBits a ≤ 1048576 → 0 ≤ d → d < 2147483629 → s.isOwn = false →
    (∀ (ns' : List Int) (a' d' : Int) (s' : SV), (∀ z ∈ ns', Builtin.Int.intBits z ≤ 1048576) → ns'.length ≤ 63 → 0 ≤ a' → Builtin.Int.intBits a' ≤ 1048576 → 0 ≤ d' → d' < 2147483629 → s'.isOwn = false →
      Q (.nx [.val (.ptr 1), .val (.int m), s', .un, .un]) (.lst (ns'.map .int) :: .lst [.ptr 0, .int a', .int c, .int d'] :: r)) →
    Wp (whileK (fun sl S => tst ⟨call, 0, cm, p.hs, fuel, cm⟩ (.andE (.cmp .eq (.sub (.nm 0) (.cn (.int 1))) (.cn (.int 0))) (.cons false (.cmp .ne (.sub (.nm 0) (.cn (.int 0))) (.lst .nil)) .nil)) sl S)
      (fun sl S => exs ⟨call, 0, cm, p.hs, fuel, cm⟩ (.cons (.set 2 false (.bi .abs (.cons false (.mth .pop (.sub (.nm 0) (.cn (.int 0))) (.cons false (.cn (.int 0)) .nil)) .nil))) (.cons (.setCell (.nm 0) (.cn (.int 3)) (.bin .mod (.bi .int (.cons false (.bin .add (.bin .add (.bin .mul (.sub (.nm 0) (.cn (.int 3))) (.cn (.int 6151))) (.nm 2)) (.cn (.int 7))) .nil)) (.cn (.int 2147483629)))) (.cons (.setCell (.nm 0) (.cn (.int 1)) (.ite (.cmp .ge (.nm 2) (.bin .pow (.cn (.int 10)) (.cn (.int 18)))) (.nm 2) (.cn (.int 0)))) .nil))) sl S)
      n [.val (.ptr 1), .val (.int m), s, .un, .un] (.lst (ns.map .int) :: .lst [.ptr 0, .int a, .int c, .int d] :: r)) Q
  | [], n + 1, a, d, s, Q, hn, hb, hl, ha, hab, hd, hd2, hs, H => by
    by_cases h : a = 0 <;> simp [whileK_succ, tst_un, anyOwn_not, hs, view_cons, h]
    · exact H [] 0 d s hb hl (by decide) (by decide) hd hd2 hs
    · exact H [] a d s hb hl ha hab hd hd2 hs
  | z :: ns, n + 1, a, d, s, Q, hn, hb, hl, ha, hab, hd, hd2, hs, H => by
    by_cases h : a = 0
    · have hz := hb z List.mem_cons_self
      have hz2 : Builtin.Int.intBits (absI z) ≤ 1048576 := by
        rw [absI_eq]; exact intBits_le_of_natAbs (by simp) hz
      have e1 : bop .mul (.int d) (.int 6151) = some (.val (.int (d * 6151))) := bop_mul64 (by omega) (by decide)
      have e2 : ∀ i : Int, bop .mod (.int i) (.int 2147483629) = some (.val (.int (i % 2147483629))) := fun i => bop_mod (by decide)
      have e3 : bop .pow (.int 10) (.int 18) = some (.val (.int (10 ^ 18))) := by rw [bop_pow (by decide) (by decide) (by decide)]; rfl
      simp [whileK_succ, tst_un, seO_un, se_un, anyOwn_not, hs, view_cons, h, pyEq_cons_nil, e1, e2, e3]
      by_cases h2 : 1000000000000000000 ≤ absI z <;> simp [h2, se_un]
      · exact draw_loop call cm hcm m c r a0 ns n (absI z) _ _ Q (by simp at hn; omega) (fun y hy => hb y (List.mem_cons_of_mem _ hy)) (by simp at hl; omega) (by omega) hz2 (by omega) (by omega) rfl H
      · exact draw_loop call cm hcm m c r a0 ns n 0 _ _ Q (by simp at hn; omega) (fun y hy => hb y (List.mem_cons_of_mem _ hy)) (by simp at hl; omega) (by omega) (by decide) (by omega) (by omega) rfl H
    · simp [whileK_succ, tst_un, anyOwn_not, hs, view_cons, h]
      exact H (z :: ns) a d s hb hl ha hab hd hd2 hs

/-- a draw: some number below many -/
theorem draw_specR (hp : p.get "_law_draw" = some L._law_draw) (hf : 64 ≤ fuel) {k : Nat} (hk : 0 < k) {cm : Nat} (hcm : 0 < cm) {m : Int} (hm : 0 < m) (hm2 : m < 1073741824) {b : Nat} (hb : b < 2 ^ 40) {r : Store} {S : Store} (hS : StR r b S)
    {Q : MV → Store → Prop} {t : Tk Q} (H : ∀ (i : Int) (S' : Store), 0 ≤ i → i < m → StR r (b + 1) S' → Q (.int i) S') :
    Wp (callN p fuel k "_law_draw" [.ptr 1, .int m] 0 cm S) Q t := by
  obtain ⟨ns, a, c, d, rfl, h2, h3, h4, h5, h6, h7, h8, h9⟩ := hS
  rw [callN_run hp hk rfl rfl, Wp_endR]
  simp [L._law_draw, slots0, se_un, ex_whl]
  obtain ⟨n, rfl⟩ : ∃ n, fuel = n + 1 := ⟨fuel - 1, by omega⟩
  refine draw_loop _ cm hcm m (c + 1) r 0 ns (n + 1) a d .un _ (by omega) h2 h3 h4 h5 h8 h9 rfl ?_
  intro ns' a' d' s' g1 g2 g3 g4 g5 g6 g7
  by_cases h : 0 < a'
  · simp [tst_un, anyOwn_not, g7, view_cons, h, seO_un, se_un, bop_mod hm, bop_fdiv hm hm2]
    refine H _ _ (Int.emod_nonneg _ (by omega)) (Int.emod_lt_of_pos _ hm) ⟨ns', _, _, _, rfl, g1, g2, Int.ediv_nonneg g3 (by omega), ?_, by omega, by omega, g5, g6⟩
    refine intBits_le_of_natAbs ?_ g4
    have : a' / m ≤ a' := Int.ediv_le_self _ g3
    have : 0 ≤ a' / m := Int.ediv_nonneg g3 (by omega)
    omega
  · have e1 : bop .mul (.int 8191) (.int (c + 1)) = some (.val (.int (8191 * (c + 1)))) := bop_mul64 (by decide) (by omega)
    have e2 : bop .pow (.int (d' + 8191 * (c + 1) + 50021)) (.int 5) = some (.val (.int ((d' + 8191 * (c + 1) + 50021) ^ 5))) := by
      rw [bop_pow (by decide) (by decide) (by omega)]; rfl
    have e3 : ∀ i : Int, bop .mod (.int i) (.int 2147483587) = some (.val (.int (i % 2147483587))) := fun i => bop_mod (by decide)
    have e4 : ∀ i : Int, bop .mul (.int (i % 2147483587)) (.int 40009) = some (.val (.int (i % 2147483587 * 40009))) := fun i => bop_mul64 (by
      have := Int.emod_nonneg i (show (2147483587 : Int) ≠ 0 by decide)
      have := Int.emod_lt_of_pos i (show (0 : Int) < 2147483587 by decide)
      omega) (by decide)
    have e5 : bop .mul (.int 20011) (.int (c + 1)) = some (.val (.int (20011 * (c + 1)))) := bop_mul64 (by decide) (by omega)
    have e6 : ∀ i : Int, bop .pow (.int (i % 2147483587 * 40009 + 20011 * (c + 1) + 31)) (.int 3) = some (.val (.int ((i % 2147483587 * 40009 + 20011 * (c + 1) + 31) ^ 3))) := fun i => by
      rw [bop_pow (by decide) (by decide) (by
        have := Int.emod_nonneg i (show (2147483587 : Int) ≠ 0 by decide)
        have := Int.emod_lt_of_pos i (show (0 : Int) < 2147483587 by decide)
        omega)]; rfl
    have e7 : ∀ i : Int, bop .mod (.int i) (.int 1000000009) = some (.val (.int (i % 1000000009))) := fun i => bop_mod (by decide)
    simp [tst_un, anyOwn_not, g7, view_cons, h, seO_un, se_un, e1, e2, e3, e4, e5, e6, e7, bop_mod hm, Fr.cfg1]
    exact H _ _ (Int.emod_nonneg _ (by omega)) (Int.emod_lt_of_pos _ hm) ⟨ns', _, _, _, rfl, g1, g2, g3, g4, by omega, by omega, g5, g6⟩
theorem draw_spec (hp : p.get "_law_draw" = some L._law_draw) (hf : 64 ≤ fuel) {k : Nat} (hk : 0 < k) {cm : Nat} (hcm : 0 < cm) {m : Int} (hm : 0 < m) (hm2 : m < 1073741824) {b : Nat} (hb : b < 2 ^ 40) {S : Store} (hS : StAt b S)
    {Q : MV → Store → Prop} {t : Tk Q} (H : ∀ (i : Int) (S' : Store), 0 ≤ i → i < m → StAt (b + 1) S' → Q (.int i) S') :
    Wp (callN p fuel k "_law_draw" [.ptr 1, .int m] 0 cm S) Q t := by
  obtain ⟨r, hS⟩ := hS
  exact draw_specR hp hf hk hcm hm hm2 hb hS fun i S' h1 h2 h3 => H i S' h1 h2 ⟨r, h3⟩
end
end Mv

end
section
set_option Elab.async false
set_option linter.all false
set_option maxRecDepth 100000
namespace Mv
open PySem

mutual
def cv (c : Nat) : PyData → MV
  | .none => .non
  | .bool b => .bl b
  | .int i => .int i
  | .str x => .str x
  | .list xs => .lst c (cvs c xs)
  | .tuple xs => .tup (cvs c xs)
  | .dict _ => .dct c false []
def cvs (c : Nat) : List PyData → List MV
  | [] => []
  | x :: xs => cv c x :: cvs c xs
end
/-- the texts that stand in the laws' data -/
def flStr (x : Str) : Bool := x.cps.size ≤ 16 && x.cps.all (· < 128) && (reprText x).cps.all (· < 0x110000)
mutual
/-- small whole numbers, the laws' texts, dicts empty -/
def fl : PyData → Bool
  | .none => true
  | .bool _ => true
  | .int i => decide (i.natAbs < 10 ^ 12)
  | .str x => flStr x
  | .list xs => fls xs
  | .tuple xs => fls xs
  | .dict kvs => kvs.isEmpty
def fls : List PyData → Bool
  | [] => true
  | x :: xs => fl x && fls xs
end
mutual
/-- how many things stand in it -/
def nz : PyData → Nat
  | .list xs => nzs xs + 1
  | .tuple xs => nzs xs + 1
  | _ => 1
def nzs : List PyData → Nat
  | [] => 0
  | x :: xs => nz x + nzs xs
end
mutual
/-- tuples as lists -/
def nf : PyData → PyData
  | .none => .none
  | .bool b => .bool b
  | .int i => .int i
  | .str x => .str x
  | .list xs => .list (nfs xs)
  | .tuple xs => .list (nfs xs)
  | .dict kvs => .dict kvs
def nfs : List PyData → List PyData
  | [] => []
  | x :: xs => nf x :: nfs xs
end
theorem cvs_map (c : Nat) : ∀ xs, cvs c xs = xs.map (cv c)
  | [] => rfl
  | x :: xs => by show cv c x :: cvs c xs = _; rw [cvs_map c xs]; rfl
theorem nfs_map : ∀ xs, nfs xs = xs.map nf
  | [] => rfl
  | x :: xs => by show nf x :: nfs xs = _; rw [nfs_map xs]; rfl
theorem fls_all : ∀ xs, fls xs = xs.all fl
  | [] => rfl
  | x :: xs => by show (fl x && fls xs) = _; rw [fls_all xs]; rfl
theorem nzs_sum : ∀ xs, nzs xs = (xs.map nz).sum
  | [] => rfl
  | x :: xs => by show nz x + nzs xs = _; rw [nzs_sum xs]; simp
@[simp] theorem cvs_len (c : Nat) (xs : List PyData) : (cvs c xs).length = xs.length := by rw [cvs_map]; simp
@[simp] theorem cvs_get (c : Nat) (xs : List PyData) (i : Nat) : (cvs c xs)[i]? = xs[i]?.map (cv c) := by rw [cvs_map]; simp
@[simp] theorem nfs_len (xs : List PyData) : (nfs xs).length = xs.length := by rw [nfs_map]; simp
@[simp] theorem cv_none (c : Nat) : cv c .none = .non := (rfl)
@[simp] theorem cv_bool (c : Nat) (b : Bool) : cv c (.bool b) = .bl b := (rfl)
@[simp] theorem cv_int (c : Nat) (b : Int) : cv c (.int b) = .int b := (rfl)
@[simp] theorem cv_str (c : Nat) (b : Str) : cv c (.str b) = .str b := (rfl)
@[simp] theorem cv_list (c : Nat) (b : List PyData) : cv c (.list b) = .lst c (cvs c b) := (rfl)
@[simp] theorem cv_tuple (c : Nat) (b : List PyData) : cv c (.tuple b) = .tup (cvs c b) := (rfl)
@[simp] theorem cv_dict (c : Nat) (b : List (PyData × PyData)) : cv c (.dict b) = .dct c false [] := (rfl)
@[simp] theorem cvs_nil (c : Nat) : cvs c [] = [] := (rfl)
@[simp] theorem cvs_cons (c : Nat) (x : PyData) (xs : List PyData) : cvs c (x :: xs) = cv c x :: cvs c xs := (rfl)
theorem cvs_append (c : Nat) (xs ys : List PyData) : cvs c (xs ++ ys) = cvs c xs ++ cvs c ys := by simp [cvs_map]
theorem cvs_ints (c : Nat) : ∀ ns : List Int, cvs c (ns.map .int) = ns.map .int
  | [] => rfl
  | n :: ns => by simp [cvs_ints c ns]

mutual
theorem nf_fl : ∀ d, fl (nf d) = fl d
  | .none | .bool _ | .int _ | .str _ | .dict _ => rfl
  | .list xs => nfs_fl xs
  | .tuple xs => nfs_fl xs
theorem nfs_fl : ∀ xs, fls (nfs xs) = fls xs
  | [] => rfl
  | x :: xs => by show (fl (nf x) && fls (nfs xs)) = (fl x && fls xs); rw [nf_fl x, nfs_fl xs]
end
mutual
theorem nf_nz : ∀ d, nz (nf d) = nz d
  | .none | .bool _ | .int _ | .str _ | .dict _ => rfl
  | .list xs => by show nzs (nfs xs) + 1 = nzs xs + 1; rw [nfs_nz xs]
  | .tuple xs => by show nzs (nfs xs) + 1 = nzs xs + 1; rw [nfs_nz xs]
theorem nfs_nz : ∀ xs, nzs (nfs xs) = nzs xs
  | [] => rfl
  | x :: xs => by show nz (nf x) + nzs (nfs xs) = nz x + nzs xs; rw [nf_nz x, nfs_nz xs]
end
mutual
theorem nf_dep : ∀ d, PyData.depth (nf d) = PyData.depth d
  | .none | .bool _ | .int _ | .str _ | .dict _ => rfl
  | .list xs => by simp only [nf, PyData.depth]; rw [nfs_dep xs]
  | .tuple xs => by simp only [nf, PyData.depth]; rw [nfs_dep xs]
theorem nfs_dep : ∀ xs, PyData.depthAll (nfs xs) = PyData.depthAll xs
  | [] => rfl
  | x :: xs => by simp only [nfs, PyData.depthAll]; rw [nf_dep x, nfs_dep xs]
end
mutual
theorem nf_nf : ∀ d, nf (nf d) = nf d
  | .none | .bool _ | .int _ | .str _ | .dict _ => rfl
  | .list xs => by simp only [nf]; rw [nfs_nf xs]
  | .tuple xs => by simp only [nf]; rw [nfs_nf xs]
theorem nfs_nf : ∀ xs, nfs (nfs xs) = nfs xs
  | [] => rfl
  | x :: xs => by simp only [nfs]; rw [nf_nf x, nfs_nf xs]
end
mutual
theorem toPD_cv (c : Nat) : ∀ d, fl d = true → toPD (cv c d) = some d
  | .none, _ | .bool _, _ | .int _, _ | .str _, _ => rfl
  | .list xs, h => by
    show (toPDs (cvs c xs)).map _ = _
    rw [toPDs_cv c xs h]; rfl
  | .tuple xs, h => by
    show (toPDs (cvs c xs)).map _ = _
    rw [toPDs_cv c xs h]; rfl
  | .dict kvs, h => by
    cases kvs with
    | nil => rfl
    | cons a b => exact nomatch h
theorem toPDs_cv (c : Nat) : ∀ xs, fls xs = true → toPDs (cvs c xs) = some xs
  | [], _ => rfl
  | x :: xs, h => by
    have h' : fl x = true ∧ fls xs = true := by simpa [fls] using h
    show (match toPD (cv c x), toPDs (cvs c xs) with | some d, some ds => some (d :: ds) | _, _ => none) = _
    rw [toPD_cv c x h'.1, toPDs_cv c xs h'.2]
end
mutual
theorem colsLt_cv {c b : Nat} (hc : c < b) : ∀ d, colsLt b (cv c d) = true
  | .none | .bool _ | .int _ | .str _ => rfl
  | .dict _ => by simp [cv, colsLt, colsLtD, hc]
  | .list xs => by simp [cv, colsLt, hc, colsLtL_cv hc xs]
  | .tuple xs => by simp [cv, colsLt, colsLtL_cv hc xs]
theorem colsLtL_cv {c b : Nat} (hc : c < b) : ∀ xs, colsLtL b (cvs c xs) = true
  | [] => rfl
  | x :: xs => by simp [cvs, colsLtL, colsLt_cv hc x, colsLtL_cv hc xs]
end
mutual
theorem weight_le : ∀ d, fl d = true → PyData.weight d + 1 ≤ 43 * nz d
  | .none, _ | .bool _, _ => by simp [PyData.weight, nz]
  | .int i, h => by
    have h' : i.natAbs < 10 ^ 12 := of_decide_eq_true h
    simp only [PyData.weight, nz]
    split
    · omega
    · rename_i h0
      have h0 : i ≠ 0 := by simpa using h0
      have : i.natAbs.log2 < 41 := (Nat.log2_lt (by omega)).mpr (by omega)
      omega
  | .str x, h => by
    have h' : x.cps.size ≤ 16 := by
      have : flStr x = true := h
      simp only [flStr, Bool.and_eq_true, decide_eq_true_eq] at this
      exact this.1.1
    simp only [PyData.weight, nz]; omega
  | .dict kvs, h => by
    cases kvs with
    | nil => simp [PyData.weight, PyData.weightKv, nz]
    | cons a b => exact nomatch h
  | .list xs, h => by
    have := weights_le xs h
    simp only [PyData.weight, nz]; omega
  | .tuple xs, h => by
    have := weights_le xs h
    simp only [PyData.weight, nz]; omega
theorem weights_le : ∀ xs, fls xs = true → PyData.weightAll xs ≤ 43 * nzs xs
  | [], _ => by simp [PyData.weightAll]
  | x :: xs, h => by
    have h' : fl x = true ∧ fls xs = true := by simpa [fls] using h
    have h1 := weight_le x h'.1
    have h2 := weights_le xs h'.2
    simp only [PyData.weightAll, nzs, List.length_cons]; omega
end

mutual
theorem short_of : ∀ d, fl d = true → PyData.leavesShort 13 d = true
  | .none, _ | .bool _, _ => rfl
  | .int i, h => by
    have h' : i.natAbs < 10 ^ 12 := of_decide_eq_true h
    simp only [PyData.leavesShort, decide_eq_true_eq]
    exact PyData.shown_int_le h'
  | .str x, h => by
    have h' : flStr x = true := h
    simp only [flStr, Bool.and_eq_true, decide_eq_true_eq] at h'
    simp only [PyData.leavesShort, List.all_eq_true, decide_eq_true_eq]
    intro c hc
    have h2 := (Array.all_eq_true_iff_forall_mem.mp h'.1.2) c (Array.mem_toList_iff.mp hc)
    have : c < 128 := by simpa using h2
    omega
  | .dict kvs, h => by
    cases kvs with
    | nil => rfl
    | cons a b => exact nomatch h
  | .list xs, h => by simp only [PyData.leavesShort]; exact shorts_of xs h
  | .tuple xs, h => by simp only [PyData.leavesShort]; exact shorts_of xs h
theorem shorts_of : ∀ xs, fls xs = true → PyData.leavesShortAll 13 xs = true
  | [], _ => rfl
  | x :: xs, h => by
    have h' : fl x = true ∧ fls xs = true := by simpa [fls] using h
    simp only [PyData.leavesShortAll, Bool.and_eq_true]
    exact ⟨short_of x h'.1, shorts_of xs h'.2⟩
end
mutual
theorem showable_of : ∀ d, fl d = true → PyData.showable d = true
  | .none, _ | .bool _, _ | .str _, _ => rfl
  | .int i, h => by
    have h' : i.natAbs < 10 ^ 12 := of_decide_eq_true h
    simp only [PyData.showable, decide_eq_true_eq]
    by_cases h0 : i.natAbs = 0
    · rw [h0]; decide
    · have : i.natAbs.log2 < 41 := (Nat.log2_lt h0).mpr (by omega)
      omega
  | .dict kvs, h => by
    cases kvs with
    | nil => rfl
    | cons a b => exact nomatch h
  | .list xs, h => by simp only [PyData.showable]; exact showables_of xs h
  | .tuple xs, h => by simp only [PyData.showable]; exact showables_of xs h
theorem showables_of : ∀ xs, fls xs = true → PyData.showableAll xs = true
  | [], _ => rfl
  | x :: xs, h => by
    have h' : fl x = true ∧ fls xs = true := by simpa [fls] using h
    simp only [PyData.showableAll, Bool.and_eq_true]
    exact ⟨showable_of x h'.1, showables_of xs h'.2⟩
end
theorem strOk_app (x y : Str) : PyData.strOk (x ++ y) = (PyData.strOk x && PyData.strOk y) := by
  show (x.cps ++ y.cps).all _ = (x.cps.all _ && y.cps.all _)
  rw [Array.all_append]
theorem strOk_join {s : Str} (hs : PyData.strOk s = true) : ∀ l : List Str, (∀ x ∈ l, PyData.strOk x = true) → PyData.strOk (Str.join s l) = true
  | [], _ => by show PyData.strOk Str.empty = true; decide +kernel
  | [x], h => h x List.mem_cons_self
  | x :: y :: r, h => by
    show PyData.strOk (x ++ s ++ Str.join s (y :: r)) = true
    rw [strOk_app, strOk_app, h x List.mem_cons_self, hs, strOk_join hs (y :: r) fun z hz => h z (List.mem_cons_of_mem _ hz)]
    rfl
theorem strOk_int (i : Int) : PyData.strOk (Str.ofString (toString i)) = true := by
  show (cpsOfBytes 0 0 (toString i).toByteArray.data.toList).toArray.all _ = true
  rw [cpsOfBytes_string, List.all_toArray, List.all_eq_true]
  intro c hc
  obtain ⟨ch, h1, rfl⟩ := List.mem_map.mp hc
  have := int_ascii i ch h1
  simp only [decide_eq_true_eq]; omega
mutual
theorem strOk_shown : ∀ d, fl d = true → PyData.strOk (PyData.shown d) = true
  | .none, _ => by decide +kernel
  | .bool b, _ => by cases b <;> decide +kernel
  | .int i, _ => by rw [PyData.shown_int]; exact strOk_int i
  | .str x, h => by
    rw [PyData.shown_str]
    have h' : flStr x = true := h
    simp only [flStr, Bool.and_eq_true] at h'
    exact h'.2
  | .dict kvs, h => by
    cases kvs with
    | nil => decide +kernel
    | cons a b => exact nomatch h
  | .list xs, h => by
    rw [PyData.shown_list, strOk_app, strOk_app, strOk_join (by decide +kernel) _ (strOk_showns xs h)]
    decide +kernel
  | .tuple xs, h => by
    rw [PyData.shown_tuple, strOk_app, strOk_app, strOk_join (by decide +kernel) _ (strOk_showns xs h)]
    split <;> decide +kernel
theorem strOk_showns : ∀ xs, fls xs = true → ∀ x ∈ PyData.shownAll xs, PyData.strOk x = true
  | [], _, x, hx => by simp [PyData.shownAll] at hx
  | d :: ds, h, x, hx => by
    have h' : fl d = true ∧ fls ds = true := by simpa [fls] using h
    rw [PyData.shownAll_cons] at hx
    rcases List.mem_cons.mp hx with rfl | hx
    · exact strOk_shown d h'.1
    · exact strOk_showns ds h'.2 x hx
end
theorem repr_cv {v : MV} {d : PyData} (hv : toPD v = some d) (h : fl d = true) (hn : nz d ≤ 20000) (hd : PyData.depth d ≤ 64) : biF .repr [v] = some (.val (.str d.shown)) := by
  have h1 := weight_le d h
  have h2 : d.shown.length ≤ sizeLine := PyData.shown_fits (B := 13) (by decide) (by decide) (short_of d h) (by omega)
  show (match toPD v with | some d => if d.showable && (decide (d.shown.length ≤ sizeLine) && decide (d.depth ≤ 64)) then some (OV.val (.str d.shown)) else none | none => none) = _
  rw [hv]
  simp [showable_of d h, h2, hd]
theorem pyEq_str {x y : Str} (hx : PyData.strOk x = true) (hy : PyData.strOk y = true) : pyEq (.str x) (.str y) = some (x == y) := by
  show (if SeqAt.shaped (.str x) && SeqAt.shaped (.str y) then _ else _) = _
  have h : ∀ {x : Str}, PyData.strOk x = true → SeqAt.shaped (.str x) = true := fun {x} hx => by simp [SeqAt.shaped, PyData.canLay0, hx, PyData.depth]
  rw [h hx, h hy]
  rfl
@[simp] theorem pyEq_bl (a b : Bool) : pyEq (.bl a) (.bl b) = some (a == b) := (rfl)
end Mv

end
section
set_option Elab.async false
set_option linter.all false
set_option maxRecDepth 100000
namespace Mv
open PySem
namespace L
def is_list : Df := ⟨["thing"], 1, (.cons (.ret (some (.isi (.nm 0) true [.list, .tuple]))) .nil), 0⟩
def is_whole : Df := ⟨["thing"], 1, (.cons (.ret (some (.andE (.isi (.nm 0) false [.int]) (.cons false (.nt (.isi (.nm 0) false [.bool])) .nil)))) .nil), 0⟩
def is_number : Df := ⟨["thing"], 1, (.cons (.ret (some (.andE (.call "is_whole" (.cons false (.nm 0) .nil) []) (.cons false (.cmp .ge (.nm 0) (.cn (.int 0))) .nil)))) .nil), 0⟩
def is_row : Df := ⟨["thing", "many"], 2, (.cons (.ret (some (.andE (.call "is_list" (.cons false (.nm 0) .nil) []) (.cons false (.cmp .eq (.bi .len (.cons false (.nm 0) .nil)) (.nm 1)) .nil)))) .nil), 0⟩
def is_index : Df := ⟨["thing", "many"], 2, (.cons (.ret (some (.andE (.call "is_number" (.cons false (.nm 0) .nil) []) (.cons false (.cmp .lt (.nm 0) (.nm 1)) .nil)))) .nil), 0⟩
def _law_same : Df := ⟨["found", "due"], 4, (.cons (.ifS (.isi (.nm 1) true [.list, .tuple]) (.cons (.ifS (.orE (.cmp .ne (.isi (.nm 0) false [.list]) (.isi (.nm 1) false [.list])) (.cons false (.cmp .ne (.isi (.nm 0) false [.tuple]) (.isi (.nm 1) false [.tuple])) .nil)) (.cons (.ret (some (.cn (.bl false)))) .nil) .nil) (.cons (.ret (some (.andE (.cmp .eq (.bi .len (.cons false (.nm 0) .nil)) (.bi .len (.cons false (.nm 1) .nil))) (.cons false (.bi .all (.cons false (.lc (.call "_law_same" (.cons false (.nm 2) (.cons false (.nm 3) .nil)) []) (.cons (.nm 2) (.cons (.nm 3) (.nil))) (.by_ .zip (.cons false (.nm 0) (.cons false (.nm 1) .nil))) .nil [2, 3]) .nil)) .nil)))) .nil)) .nil) (.cons (.ifS (.isi (.nm 1) false [.dict]) (.cons (.ret (some (.andE (.isi (.nm 0) false [.dict]) (.cons false (.call "_law_same" (.cons false (.bi .listItems (.cons false (.nm 0) .nil)) (.cons false (.bi .listItems (.cons false (.nm 1) .nil)) .nil)) []) .nil)))) .nil) .nil) (.cons (.ifS (.orE (.isi (.nm 1) false [.bool]) (.cons false (.isi (.nm 0) false [.bool]) .nil)) (.cons (.ret (some (.andE (.isi (.nm 1) false [.bool]) (.cons false (.isi (.nm 0) false [.bool]) (.cons false (.cmp .eq (.nm 0) (.nm 1)) .nil))))) .nil) .nil) (.cons (.ifS (.orE (.cmp .is_ (.nm 1) (.cn (.non))) (.cons false (.cmp .is_ (.nm 0) (.cn (.non))) .nil)) (.cons (.ret (some (.andE (.cmp .is_ (.nm 1) (.cn (.non))) (.cons false (.cmp .is_ (.nm 0) (.cn (.non))) .nil)))) .nil) .nil) (.cons (.ifS (.orE (.cmp .ne (.isi (.nm 1) false [.int]) (.isi (.nm 0) false [.int])) (.cons false (.cmp .ne (.isi (.nm 1) false [.str]) (.isi (.nm 0) false [.str])) .nil)) (.cons (.ret (some (.cn (.bl false)))) .nil) .nil) (.cons (.ret (some (.andE (.nt (.isi (.nm 0) true [.list, .tuple, .dict])) (.cons false (.cmp .eq (.nm 0) (.nm 1)) .nil)))) .nil)))))), 0⟩
def _law_loose : Df := ⟨["stream", "thing"], 4, (.cons (.ifS (.isi (.nm 1) true [.list, .tuple]) (.cons (.set 2 false (.lc (.call "_law_loose" (.cons false (.nm 0) (.cons false (.nm 3) .nil)) []) (.nm 3) (.val (.nm 1)) .nil [3])) (.cons (.ret (some (.ite (.cmp .eq (.call "_law_draw" (.cons false (.nm 0) (.cons false (.cn (.int 2)) .nil)) []) (.cn (.int 0))) (.nm 2) (.bi .tuple (.cons false (.nm 2) .nil))))) .nil)) .nil) (.cons (.ret (some (.nm 1))) .nil)), 0⟩
def _law_copied : Df := ⟨["thing"], 4, (.cons (.ifS (.isi (.nm 0) true [.list, .tuple]) (.cons (.set 1 false (.lc (.call "_law_copied" (.cons false (.nm 2) .nil) []) (.nm 2) (.val (.nm 0)) .nil [2])) (.cons (.ret (some (.ite (.isi (.nm 0) false [.list]) (.nm 1) (.bi .tuple (.cons false (.nm 1) .nil))))) .nil)) .nil) (.cons (.ifS (.isi (.nm 0) false [.dict]) (.cons (.ret (some (.bi (.dict false) (.cons false (.lc (.tup (.cons false (.nm 3) (.cons false (.call "_law_copied" (.cons false (.sub (.nm 0) (.nm 3)) .nil) []) .nil))) (.nm 3) (.val (.nm 0)) .nil [3]) .nil)))) .nil) .nil) (.cons (.ret (some (.nm 0))) .nil))), 0⟩
def _law_is_whole : Df := ⟨["thing"], 1, (.cons (.ret (some (.andE (.isi (.nm 0) false [.int]) (.cons false (.nt (.isi (.nm 0) false [.bool])) .nil)))) .nil), 0⟩
end L
/-- two lists, item by item -/
inductive F2 {α β : Type} (P : α → β → Prop) : List α → List β → Prop
  | nil : F2 P [] []
  | cons {x : α} {y : β} {xs : List α} {ys : List β} : P x y → F2 P xs ys → F2 P (x :: xs) (y :: ys)
theorem F2.len {α β : Type} {P : α → β → Prop} {xs : List α} {ys : List β} (h : F2 P xs ys) : xs.length = ys.length := by
  induction h with
  | nil => rfl
  | cons _ _ ih => simp [ih]
theorem F2.mono {α β : Type} {P Q : α → β → Prop} {xs : List α} {ys : List β} (h : F2 P xs ys) (i : ∀ x y, P x y → Q x y) : F2 Q xs ys := by
  induction h with
  | nil => exact .nil
  | cons a _ ih => exact .cons (i _ _ a) ih
/-- what stands on the right is made of something -/
theorem F2.pull {α β γ : Type} {P : α → γ → Prop} {f : γ → β} {xs : List α} {ys : List β} (h : F2 (fun x y => ∃ z, y = f z ∧ P x z) xs ys) : ∃ zs, ys = zs.map f ∧ F2 P xs zs := by
  induction h with
  | nil => exact ⟨[], rfl, .nil⟩
  | cons a _ ih =>
    obtain ⟨z, rfl, hz⟩ := a
    obtain ⟨zs, rfl, hzs⟩ := ih
    exact ⟨z :: zs, rfl, .cons hz hzs⟩
theorem lcK_map {α β : Type} {t : Tg} {c : Env → Store → R Bool} {b : Env → Store → R α} {env : Env} {S : Store} {f : β → MV} {g : β → α} {tk : Tk (c, b)} :
    ∀ ys : List β, (∀ y ∈ ys, ∃ env', bind t (f y) env = some env' ∧ c env' S = some (.ok true S) ∧ b env' S = some (.ok (g y) S)) → lcK t c b (ys.map f) env S tk = some (.ok (ys.map g) S)
  | [], _ => rfl
  | x :: xs, h => by
    obtain ⟨env', h1, h2, h3⟩ := h x List.mem_cons_self
    rw [List.map_cons, lcK_cons, h1]
    have ih := lcK_map (tk := tk) xs fun y hy => h y (List.mem_cons_of_mem _ hy)
    simp [h2, h3, ih]
theorem lcK_draw {α β : Type} {t : Tg} {c : Env → Store → R Bool} {b : Env → Store → R α} {env : Env} {f : β → MV} {P : β → α → Prop} {tk : Tk (c, b)} {N : β → Nat} {M : Nat} {Q : List α → Store → Prop} {tq : Tk Q} :
    ∀ (xs : List β) (b0 : Nat) (S : Store), StAt b0 S → b0 + (xs.map N).sum ≤ M →
    (∀ x ∈ xs, ∀ (b1 : Nat) (S1 : Store), StAt b1 S1 → b1 + N x ≤ M → ∃ env', bind t (f x) env = some env' ∧ c env' S1 = some (.ok true S1) ∧ Wp (b env' S1) fun y S2 => P x y ∧ StAt (b1 + N x) S2) →
    (∀ (ys : List α) (S2 : Store), F2 P xs ys → StAt (b0 + (xs.map N).sum) S2 → Q ys S2) →
    Wp (lcK t c b (xs.map f) env S tk) Q tq
  | [], b0, S, hS, _, _, H => by
    simp; exact H [] S .nil (by simpa using hS)
  | x :: xs, b0, S, hS, hM, h, H => by
    have e : b0 + ((x :: xs).map N).sum = (b0 + N x) + (xs.map N).sum := by simp; omega
    rw [e] at hM H
    obtain ⟨env', h1, h2, h3⟩ := h x List.mem_cons_self b0 S hS (by omega)
    rw [List.map_cons, lcK_cons, h1]
    simp [h2]
    refine h3.mono fun y S2 hy => ?_
    rw [Wp_bind]
    refine lcK_draw (tk := tk) xs (b0 + N x) S2 hy.2 hM (fun z hz => h z (List.mem_cons_of_mem _ hz)) fun ys S3 hys hS3 => ?_
    exact H _ _ (.cons hy.1 hys) hS3

section
variable {p : Pg} {fuel : Nat}
theorem is_list_run (hp : p.get "is_list" = some L.is_list) {k : Nat} (hk : 0 < k) (v : MV) (b : Bool) (hb : isAny v [.list, .tuple] = some b) (col cm : Nat) (S : Store) :
    callN p fuel k "is_list" [v] col cm S = some (.ok (.bl b) S) := by
  rw [callN_run hp hk rfl rfl]
  simp [L.is_list, slots0, hb, Fr.cfg1]
theorem is_whole_run (hp : p.get "is_whole" = some L.is_whole) {k : Nat} (hk : 0 < k) (v : MV) (a b : Bool) (ha : isAny v [.int] = some a) (hb : isAny v [.bool] = some b) (col cm : Nat) (S : Store) :
    callN p fuel k "is_whole" [v] col cm S = some (.ok (.bl (a && !b)) S) := by
  rw [callN_run hp hk rfl rfl]
  cases a <;> simp [L.is_whole, slots0, ha, hb, Fr.cfg1]

theorem depth_mem {d : PyData} : ∀ {xs : List PyData}, d ∈ xs → PyData.depth d ≤ PyData.depthAll xs
  | x :: xs, h => by
    simp only [PyData.depthAll]
    rcases List.mem_cons.mp h with rfl | h
    · omega
    · have := depth_mem h; omega
theorem fl_mem {d : PyData} : ∀ {xs : List PyData}, d ∈ xs → fls xs = true → fl d = true
  | x :: xs, h, hf => by
    have h' : fl x = true ∧ fls xs = true := by simpa [fls] using hf
    rcases List.mem_cons.mp h with rfl | h
    · exact h'.1
    · exact fl_mem h h'.2
theorem nz_pos (d : PyData) : 1 ≤ nz d := by cases d <;> simp [nz]
theorem nz_mem {d : PyData} : ∀ {xs : List PyData}, d ∈ xs → nz d ≤ nzs xs
  | x :: xs, h => by
    simp only [nzs]
    rcases List.mem_cons.mp h with rfl | h
    · omega
    · have := nz_mem h; omega
theorem len_nzs : ∀ xs : List PyData, xs.length ≤ nzs xs
  | [] => by simp
  | x :: xs => by have := len_nzs xs; have := nz_pos x; simp only [nzs, List.length_cons]; omega
@[simp] theorem walkV_lst (c : Nat) (xs : List MV) : walkV (.lst c xs) = some xs := (rfl)
@[simp] theorem walkV_tup (xs : List MV) : walkV (.tup xs) = some xs := (rfl)
@[simp] theorem walkV_dct0 (c : Nat) : walkV (.dct c false []) = some [] := (rfl)
@[simp] theorem isAny_nil (v : MV) : isAny v [] = some false := by cases v <;> rfl
@[simp] theorem lt_lst (c : Nat) (xs : List MV) : isAny (.lst c xs) [.list, .tuple] = some true := (rfl)
@[simp] theorem lt_tup (xs : List MV) : isAny (.tup xs) [.list, .tuple] = some true := (rfl)
@[simp] theorem lt_int (i : Int) : isAny (.int i) [.list, .tuple] = some false := (rfl)
@[simp] theorem lt_bl (i : Bool) : isAny (.bl i) [.list, .tuple] = some false := (rfl)
@[simp] theorem lt_str (i : Str) : isAny (.str i) [.list, .tuple] = some false := (rfl)
@[simp] theorem lt_non : isAny .non [.list, .tuple] = some false := (rfl)
@[simp] theorem lt_dct (c : Nat) (kvs : List (MV × MV)) : isAny (.dct c false kvs) [.list, .tuple] = some false := (rfl)
@[simp] theorem l_lst (c : Nat) (xs : List MV) : isAny (.lst c xs) [.list] = some true := (rfl)
@[simp] theorem l_tup (xs : List MV) : isAny (.tup xs) [.list] = some false := (rfl)
@[simp] theorem l_int (i : Int) : isAny (.int i) [.list] = some false := (rfl)
@[simp] theorem l_bl (i : Bool) : isAny (.bl i) [.list] = some false := (rfl)
@[simp] theorem l_str (i : Str) : isAny (.str i) [.list] = some false := (rfl)
@[simp] theorem l_non : isAny .non [.list] = some false := (rfl)
@[simp] theorem l_dct (c : Nat) (kvs : List (MV × MV)) : isAny (.dct c false kvs) [.list] = some false := (rfl)
@[simp] theorem t_lst (c : Nat) (xs : List MV) : isAny (.lst c xs) [.tuple] = some false := (rfl)
@[simp] theorem t_tup (xs : List MV) : isAny (.tup xs) [.tuple] = some true := (rfl)
@[simp] theorem d_lst (c : Nat) (xs : List MV) : isAny (.lst c xs) [.dict] = some false := (rfl)
@[simp] theorem d_tup (xs : List MV) : isAny (.tup xs) [.dict] = some false := (rfl)
@[simp] theorem d_int (i : Int) : isAny (.int i) [.dict] = some false := (rfl)
@[simp] theorem d_bl (i : Bool) : isAny (.bl i) [.dict] = some false := (rfl)
@[simp] theorem d_str (i : Str) : isAny (.str i) [.dict] = some false := (rfl)
@[simp] theorem d_non : isAny .non [.dict] = some false := (rfl)
@[simp] theorem d_dct (c : Nat) (kvs : List (MV × MV)) : isAny (.dct c false kvs) [.dict] = some true := (rfl)
@[simp] theorem b_bl (i : Bool) : isAny (.bl i) [.bool] = some true := (rfl)
@[simp] theorem b_int (i : Int) : isAny (.int i) [.bool] = some false := (rfl)
@[simp] theorem b_str (i : Str) : isAny (.str i) [.bool] = some false := (rfl)
@[simp] theorem b_non : isAny .non [.bool] = some false := (rfl)
@[simp] theorem b_lst (c : Nat) (xs : List MV) : isAny (.lst c xs) [.bool] = some false := (rfl)
@[simp] theorem b_tup (xs : List MV) : isAny (.tup xs) [.bool] = some false := (rfl)
@[simp] theorem b_dct (c : Nat) (kvs : List (MV × MV)) : isAny (.dct c false kvs) [.bool] = some false := (rfl)
@[simp] theorem i_int (i : Int) : isAny (.int i) [.int] = some true := (rfl)
@[simp] theorem i_bl (i : Bool) : isAny (.bl i) [.int] = some true := (rfl)
@[simp] theorem i_str (i : Str) : isAny (.str i) [.int] = some false := (rfl)
@[simp] theorem i_non : isAny .non [.int] = some false := (rfl)
@[simp] theorem i_lst (c : Nat) (xs : List MV) : isAny (.lst c xs) [.int] = some false := (rfl)
@[simp] theorem i_tup (xs : List MV) : isAny (.tup xs) [.int] = some false := (rfl)
@[simp] theorem i_dct (c : Nat) (kvs : List (MV × MV)) : isAny (.dct c false kvs) [.int] = some false := (rfl)
@[simp] theorem s_int (i : Int) : isAny (.int i) [.str] = some false := (rfl)
@[simp] theorem s_str (i : Str) : isAny (.str i) [.str] = some true := (rfl)
@[simp] theorem ltd_int (i : Int) : isAny (.int i) [.list, .tuple, .dict] = some false := (rfl)
@[simp] theorem ltd_str (i : Str) : isAny (.str i) [.list, .tuple, .dict] = some false := (rfl)
@[simp] theorem biF_tuple_lst (c : Nat) (xs : List MV) : biF .tuple [.lst c xs] = some (.val (.tup xs)) := (rfl)
@[simp] theorem biF_tuple_tup (xs : List MV) : biF .tuple [.tup xs] = some (.val (.tup xs)) := (rfl)
@[simp] theorem biF_list_lst (c : Nat) (xs : List MV) : biF .list [.lst c xs] = some (.nl xs) := (rfl)
@[simp] theorem biF_list_tup (xs : List MV) : biF .list [.tup xs] = some (.nl xs) := (rfl)
@[simp] theorem biF_list_scr (xs : List MV) : biF .list [.scr xs] = some (.nl xs) := (rfl)
@[simp] theorem biF_dict0 (c : Nat) : biF (.dict false) [.lst c []] = some (.nd false []) := (rfl)
@[simp] theorem biF_len_lst (c : Nat) (xs : List MV) : biF .len [.lst c xs] = some (.val (.int xs.length)) := (rfl)
@[simp] theorem biF_len_tup (xs : List MV) : biF .len [.tup xs] = some (.val (.int xs.length)) := (rfl)
@[simp] theorem biF_items0 (c : Nat) : biF .listItems [.dct c false []] = some (.nl []) := (rfl)
@[simp] theorem lkL_bl (S : Store) (i : Bool) (vs : List MV) : lkL S (.bl i :: vs) = (lkL S vs).map (.bl i :: ·) := by
  show (match look S (.bl i), lkL S vs with | some x, some xs => some (x :: xs) | _, _ => none) = _
  cases lkL S vs <;> rfl
@[simp] theorem lkL_dct (S : Store) (c : Nat) (tk : Bool) (kvs : List (MV × MV)) (vs : List MV) : lkL S (.dct c tk kvs :: vs) = (lkL S vs).map (.dct c tk kvs :: ·) := by
  show (match look S (.dct c tk kvs), lkL S vs with | some x, some xs => some (x :: xs) | _, _ => none) = _
  cases lkL S vs <;> rfl
@[simp] theorem lkL_str (S : Store) (i : Str) (vs : List MV) : lkL S (.str i :: vs) = (lkL S vs).map (.str i :: ·) := by
  show (match look S (.str i), lkL S vs with | some x, some xs => some (x :: xs) | _, _ => none) = _
  cases lkL S vs <;> rfl
@[simp] theorem lkL_non (S : Store) (vs : List MV) : lkL S (.non :: vs) = (lkL S vs).map (.non :: ·) := by
  show (match look S .non, lkL S vs with | some x, some xs => some (x :: xs) | _, _ => none) = _
  cases lkL S vs <;> rfl
@[simp] theorem bind_nm (i : Nat) (v : MV) (env : Env) : bind (.nm i) v env = some (env.set i (some v)) := (rfl)
@[simp] theorem wipeE_nil (env : Env) : wipeE [] env = env := (rfl)
@[simp] theorem wipeE_cons (i : Nat) (is : List Nat) (env : Env) : wipeE (i :: is) env = (wipeE is env).set i none := (rfl)

theorem copied_run (hp : p.get "_law_copied" = some L._law_copied) (c col cm : Nat) (S : Store) : ∀ (k : Nat) (d : PyData), fl d = true → nz d ≤ sizeLine → PyData.depth d < k →
    callN p fuel k "_law_copied" [cv c d] col cm S = some (.ok (cv col d) S)
  | 0, d, _, _, hk => by omega
  | k + 1, d, hd, hn, hk => by
    have key : ∀ xs : List PyData, fls xs = true → nzs xs < sizeLine → PyData.depthAll xs < k → ∀ y ∈ xs, callN p fuel k "_law_copied" [cv c y] col cm S = some (.ok (cv col y) S) := fun xs h1 h2 h3 y hy =>
      copied_run hp c col cm S k y (fl_mem hy h1) (by have := nz_mem hy; omega) (by have := depth_mem hy; omega)
    rw [callN_run hp (by omega) rfl rfl]
    cases d with
    | list xs =>
      have hl : xs.length ≤ sizeLine := by have := len_nzs xs; simp only [nz] at hn; omega
      have h := key xs hd (by simp only [nz] at hn; omega) (by simp only [PyData.depth] at hk; omega)
      simp [L._law_copied, slots0, tst_un, seO_un, Fr.cfg1]
      rw [cvs_map, lcK_map (g := cv col) xs (by
        intro y hy
        refine ⟨_, rfl, rfl, ?_⟩
        simp [h y hy])]
      simp [hl, cvs_map, tst_un, seO_un, Fr.cfg1]
    | tuple xs =>
      have hl : xs.length ≤ sizeLine := by have := len_nzs xs; simp only [nz] at hn; omega
      have h := key xs hd (by simp only [nz] at hn; omega) (by simp only [PyData.depth] at hk; omega)
      simp [L._law_copied, slots0, tst_un, seO_un, Fr.cfg1]
      rw [cvs_map, lcK_map (g := cv col) xs (by
        intro y hy
        refine ⟨_, rfl, rfl, ?_⟩
        simp [h y hy])]
      simp [hl, cvs_map, tst_un, seO_un, Fr.cfg1]
    | dict kvs => simp [L._law_copied, slots0, tst_un, seO_un, Fr.cfg1]
    | _ => simp [L._law_copied, slots0, tst_un, seO_un, Fr.cfg1]
end
end Mv

end
section
set_option Elab.async false
set_option linter.all false
set_option maxRecDepth 100000
namespace Mv
open PySem
section
variable {p : Pg} {fuel : Nat}
theorem F2_nf {xs ys : List PyData} (h : F2 (fun x y => nf y = nf x) xs ys) : nfs ys = nfs xs := by
  induction h with
  | nil => rfl
  | cons a _ ih => simp [nfs, a, ih]
theorem loose_run (hp : p.get "_law_loose" = some L._law_loose) (hd : p.get "_law_draw" = some L._law_draw) (hf : 64 ≤ fuel) {cm : Nat} (hcm : 0 < cm) : ∀ (k : Nat) (d : PyData) (b : Nat) (S : Store), nz d ≤ sizeLine → PyData.depth d + 1 < k →
    StAt b S → b + nz d ≤ 2 ^ 40 → ∀ {Q : MV → Store → Prop} {t : Tk Q}, (∀ d' S', nf d' = nf d → StAt (b + nz d) S' → Q (cv 0 d') S') → Wp (callN p fuel k "_law_loose" [.ptr 1, cv 0 d] 0 cm S) Q t
  | 0, d, _, _, _, hk, _, _, _, _, _ => by omega
  | k + 1, d, b, S, hn, hk, hS, hb, Q, t, H => by
    have key : ∀ xs : List PyData, nzs xs < sizeLine → PyData.depthAll xs + 1 < k → b + nzs xs < 2 ^ 40 → ∀ y ∈ xs, ∀ (b1 : Nat) (S1 : Store), StAt b1 S1 → b1 + nz y ≤ 2 ^ 40 →
        Wp (callN p fuel k "_law_loose" [.ptr 1, cv 0 y] 0 cm S1) fun v S2 => (∃ d', v = cv 0 d' ∧ nf d' = nf y) ∧ StAt (b1 + nz y) S2 := fun xs h1 h2 h3 y hy b1 S1 hS1 hb1 =>
      loose_run hp hd hf hcm k y b1 S1 (by have := nz_mem hy; omega) (by have := depth_mem hy; omega) hS1 hb1 fun d' S' e h => ⟨⟨d', rfl, e⟩, h⟩
    rw [callN_run hp (by omega) rfl rfl, Wp_endR]
    have main : ∀ xs : List PyData, nzs xs < sizeLine → PyData.depthAll xs + 1 < k → b + nzs xs < 2 ^ 40 → (∀ t' ys S', nfs ys = nfs xs → StAt (b + nzs xs + 1) S' → Q (bif t' then MV.lst 0 (cvs 0 ys) else .tup (cvs 0 ys)) S') → ∀ v, walkV v = some (cvs 0 xs) → isAny v [.list, .tuple] = some true →
        Wp (exs ⟨callN p fuel k, 0, cm, p.hs, fuel, cm⟩ L._law_loose.body [.val (.ptr 1), .val v, .un, .un] S) fun k S => Q (flV k) S := by
      intro xs h1 h2 h3 H v hw hi
      have hl : xs.length ≤ sizeLine := by have := len_nzs xs; omega
      simp [L._law_loose, tst_un, seO_un, hi, hw]
      rw [cvs_map]
      refine lcK_draw (P := fun y v => ∃ d', v = cv 0 d' ∧ nf d' = nf y) (N := nz) (M := b + nzs xs) xs b S hS (by rw [nzs_sum]; omega) ?_ ?_
      · intro y hy b1 S1 hS1 hb1
        refine ⟨_, rfl, rfl, ?_⟩
        simp
        refine (key xs h1 h2 h3 y hy b1 S1 hS1 (by omega)).mono fun v S2 hv => ?_
        simpa using hv
      · intro ys S2 h hS2
        obtain ⟨zs, rfl, hz⟩ := h.pull
        have hzl : zs.length ≤ sizeLine := by rw [← hz.len]; exact hl
        rw [← nzs_sum] at hS2
        simp [hzl, Fr.cfg1]
        refine draw_spec hd hf (by omega) hcm (by decide) (by decide) (by omega) hS2 fun i S' hi0 hi1 hS' => ?_
        have e1 : nfs zs = nfs xs := F2_nf hz
        by_cases h0 : i = 0
        · simp [h0]
          rw [← cvs_map]
          exact H true zs S' e1 hS'
        · simp [h0]
          rw [← cvs_map]
          exact H false zs S' e1 hS'
    cases d with
    | list xs =>
      refine main xs (by simp only [nz] at hn; omega) (by simp only [PyData.depth] at hk; omega) (by simp only [nz] at hb; omega) ?_ _ rfl rfl
      intro t' ys S' e hS'
      cases t' with
      | true => exact H (.list ys) S' (by simp [nf, e]) (by simp only [nz]; exact hS')
      | false => exact H (.tuple ys) S' (by simp [nf, e]) (by simp only [nz]; exact hS')
    | tuple xs =>
      refine main xs (by simp only [nz] at hn; omega) (by simp only [PyData.depth] at hk; omega) (by simp only [nz] at hb; omega) ?_ _ rfl rfl
      intro t' ys S' e hS'
      cases t' with
      | true => exact H (.list ys) S' (by simp [nf, e]) (by simp only [nz]; exact hS')
      | false => exact H (.tuple ys) S' (by simp [nf, e]) (by simp only [nz]; exact hS')
    | dict kvs =>
      simp [L._law_loose, slots0, tst_un, seO_un, Fr.cfg1]
      exact H (.dict kvs) S rfl (hS.le (by omega))
    | none =>
      simp [L._law_loose, slots0, tst_un, seO_un, Fr.cfg1]
      exact H .none S rfl (hS.le (by omega))
    | bool i =>
      simp [L._law_loose, slots0, tst_un, seO_un, Fr.cfg1]
      exact H (.bool i) S rfl (hS.le (by omega))
    | int i =>
      simp [L._law_loose, slots0, tst_un, seO_un, Fr.cfg1]
      exact H (.int i) S rfl (hS.le (by omega))
    | str i =>
      simp [L._law_loose, slots0, tst_un, seO_un, Fr.cfg1]
      exact H (.str i) S rfl (hS.le (by omega))

theorem toPD_int {v : MV} {i : Int} (h : toPD v = some (.int i)) : v = .int i := by
  cases v with
  | int j => simp [toPD] at h; rw [h]
  | lst c xs => simp only [toPD] at h; cases e : toPDs xs <;> simp [e] at h
  | tup xs => simp only [toPD] at h; cases e : toPDs xs <;> simp [e] at h
  | dct c tk kvs => cases tk <;> simp only [toPD] at h
                    cases e : toPDd kvs <;> simp [e] at h
                    exact nomatch h
  | _ => simp [toPD] at h
theorem toPD_none {v : MV} (h : toPD v = some .none) : v = .non := by
  cases v with
  | non => rfl
  | lst c xs => simp only [toPD] at h; cases e : toPDs xs <;> simp [e] at h
  | tup xs => simp only [toPD] at h; cases e : toPDs xs <;> simp [e] at h
  | dct c tk kvs => cases tk <;> simp only [toPD] at h
                    cases e : toPDd kvs <;> simp [e] at h
                    exact nomatch h
  | _ => simp [toPD] at h
theorem toPD_bool {v : MV} {b : Bool} (h : toPD v = some (.bool b)) : v = .bl b := by
  cases v with
  | bl j => simp [toPD] at h; rw [h]
  | lst c xs => simp only [toPD] at h; cases e : toPDs xs <;> simp [e] at h
  | tup xs => simp only [toPD] at h; cases e : toPDs xs <;> simp [e] at h
  | dct c tk kvs => cases tk <;> simp only [toPD] at h
                    cases e : toPDd kvs <;> simp [e] at h
                    exact nomatch h
  | _ => simp [toPD] at h
theorem toPD_str {v : MV} {b : Str} (h : toPD v = some (.str b)) : v = .str b := by
  cases v with
  | str j => simp [toPD] at h; rw [h]
  | lst c xs => simp only [toPD] at h; cases e : toPDs xs <;> simp [e] at h
  | tup xs => simp only [toPD] at h; cases e : toPDs xs <;> simp [e] at h
  | dct c tk kvs => cases tk <;> simp only [toPD] at h
                    cases e : toPDd kvs <;> simp [e] at h
                    exact nomatch h
  | _ => simp [toPD] at h
theorem toPD_list {v : MV} {ds : List PyData} (h : toPD v = some (.list ds)) : ∃ c xs, v = .lst c xs ∧ toPDs xs = some ds := by
  cases v with
  | lst c xs =>
    simp only [toPD] at h
    cases e : toPDs xs with
    | none => simp [e] at h
    | some es => simp [e] at h; exact ⟨c, xs, rfl, by rw [e, h]⟩
  | tup xs => simp only [toPD] at h; cases e : toPDs xs <;> simp [e] at h
  | dct c tk kvs => cases tk <;> simp only [toPD] at h
                    cases e : toPDd kvs <;> simp [e] at h
                    exact nomatch h
  | _ => simp [toPD] at h
theorem toPD_tuple {v : MV} {ds : List PyData} (h : toPD v = some (.tuple ds)) : ∃ xs, v = .tup xs ∧ toPDs xs = some ds := by
  cases v with
  | tup xs =>
    simp only [toPD] at h
    cases e : toPDs xs with
    | none => simp [e] at h
    | some es => simp [e] at h; exact ⟨xs, rfl, by rw [e, h]⟩
  | lst c xs => simp only [toPD] at h; cases e : toPDs xs <;> simp [e] at h
  | dct c tk kvs => cases tk <;> simp only [toPD] at h
                    cases e : toPDd kvs <;> simp [e] at h
                    exact nomatch h
  | _ => simp [toPD] at h
theorem toPD_dict0 {v : MV} (h : toPD v = some (.dict [])) : ∃ c, v = .dct c false [] := by
  cases v with
  | tup xs => simp only [toPD] at h; cases e : toPDs xs <;> simp [e] at h
  | lst c xs => simp only [toPD] at h; cases e : toPDs xs <;> simp [e] at h
  | dct c tk kvs =>
    cases tk with
    | true => simp only [toPD] at h; exact nomatch h
    | false =>
      simp only [toPD] at h
      cases kvs with
      | nil => exact ⟨c, rfl⟩
      | cons q r =>
        simp only [toPDd] at h
        cases e1 : toPDp q <;> cases e2 : toPDd r <;> simp [e1, e2] at h
  | _ => simp [toPD] at h
theorem toPDs_cons {xs : List MV} {d : PyData} {ds : List PyData} (h : toPDs xs = some (d :: ds)) : ∃ y ys, xs = y :: ys ∧ toPD y = some d ∧ toPDs ys = some ds := by
  cases xs with
  | nil => simp [toPDs] at h
  | cons y ys =>
    simp only [toPDs] at h
    cases e1 : toPD y <;> cases e2 : toPDs ys <;> simp [e1, e2] at h
    exact ⟨y, ys, rfl, by rw [e1, h.1], by rw [e2, h.2]⟩
theorem toPDs_nil {xs : List MV} (h : toPDs xs = some []) : xs = [] := by
  cases xs with
  | nil => rfl
  | cons y ys =>
    simp only [toPDs] at h
    cases e1 : toPD y <;> cases e2 : toPDs ys <;> simp [e1, e2] at h
theorem toPDs_len : ∀ {xs : List MV} {ds : List PyData}, toPDs xs = some ds → xs.length = ds.length
  | xs, [], h => by rw [toPDs_nil h]; rfl
  | xs, d :: ds, h => by
    obtain ⟨y, ys, rfl, _, h2⟩ := toPDs_cons h
    simp [toPDs_len h2]
@[simp] theorem bind_cons_tup (t r : Tg) (x : MV) (xs : List MV) (env : Env) : bind (.cons t r) (.tup (x :: xs)) env = (bind t x env).bind fun env' => bind r (.tup xs) env' := by
  show (match bind t x env with | some env' => _ | none => none) = _
  cases bind t x env <;> rfl
@[simp] theorem bind_cons_lst (t r : Tg) (c : Nat) (x : MV) (xs : List MV) (env : Env) : bind (.cons t r) (.lst c (x :: xs)) env = (bind t x env).bind fun env' => bind r (.lst c xs) env' := by
  show (match bind t x env with | some env' => _ | none => none) = _
  cases bind t x env <;> rfl
@[simp] theorem bind_nil_tup (env : Env) : bind .nil (.tup []) env = some env := (rfl)
@[simp] theorem bind_nil_lst (c : Nat) (env : Env) : bind .nil (.lst c []) env = some env := (rfl)
@[simp] theorem walkF_zip_lst (c c' : Nat) (xs ys : List MV) : walkF .zip [.lst c xs, .lst c' ys] = some (zipL xs ys) := (rfl)
@[simp] theorem walkF_zip_tup (xs ys : List MV) : walkF .zip [.tup xs, .tup ys] = some (zipL xs ys) := (rfl)
@[simp] theorem allBls_rep : ∀ n : Nat, allBls (List.replicate n (.bl true)) = some (List.replicate n true)
  | 0 => rfl
  | n + 1 => by
    show (allBls (List.replicate n (.bl true))).map _ = _
    rw [allBls_rep n]; rfl
@[simp] theorem biF_all_rep (c n : Nat) : biF .all [.lst c (List.replicate n (.bl true))] = some (.val (.bl true)) := by
  show (match allBls (List.replicate n (.bl true)) with | some bs => some (OV.val (.bl (bs.all id))) | none => none) = _
  rw [allBls_rep]
  simp

theorem same_nil (hp : p.get "_law_same" = some L._law_same) (col cm : Nat) (S : Store) {k : Nat} (hk : 0 < k) (c c' : Nat) :
    callN p fuel k "_law_same" [.lst c [], .lst c' []] col cm S = some (.ok (.bl true) S) := by
  rw [callN_run hp hk rfl rfl]
  have e : biF .all [.lst col []] = some (.val (.bl true)) := rfl
  simp [L._law_same, slots0, tst_un, seO_un, Fr.cfg1, zipL, e]
theorem same_run (hp : p.get "_law_same" = some L._law_same) (col cm : Nat) (S : Store) : ∀ (k : Nat) (d : PyData) (v w : MV), fl d = true → nz d ≤ sizeLine → PyData.depth d < k → toPD v = some d → toPD w = some d →
    callN p fuel k "_law_same" [v, w] col cm S = some (.ok (.bl true) S)
  | 0, d, _, _, _, _, hk, _, _ => by omega
  | k + 1, d, v, w, hd, hn, hk, hv, hw => by
    have key : ∀ xs : List PyData, fls xs = true → nzs xs < sizeLine → PyData.depthAll xs < k → ∀ y ∈ xs, ∀ v w, toPD v = some y → toPD w = some y → callN p fuel k "_law_same" [v, w] col cm S = some (.ok (.bl true) S) := fun xs h1 h2 h3 y hy v w hv hw =>
      same_run hp col cm S k y v w (fl_mem hy h1) (by have := nz_mem hy; omega) (by have := depth_mem hy; omega) hv hw
    have loop : ∀ (C : Cfg) (env : Env), C.call = callN p fuel k → C.col = col → C.cm = cm → 3 < env.length → ∀ (ds : List PyData) (xs ys : List MV), (∀ y ∈ ds, ∀ v w, toPD v = some y → toPD w = some y → callN p fuel k "_law_same" [v, w] col cm S = some (.ok (.bl true) S)) →
        toPDs xs = some ds → toPDs ys = some ds →
        lcK (.cons (.nm 2) (.cons (.nm 3) .nil)) (evTs C .nil) (fun e s => fzR C.col (evO C (.call "_law_same" (.cons false (.nm 2) (.cons false (.nm 3) .nil)) []) e s)) (zipL xs ys) env S = some (.ok (List.replicate ds.length (.bl true)) S) := by
      intro C env e1 e2 e3 hl ds
      induction ds with
      | nil => intro xs ys _ hx hy; rw [toPDs_nil hx, toPDs_nil hy]; rfl
      | cons d ds ih =>
        intro xs ys h hx hy
        obtain ⟨x, xs, rfl, hx1, hx2⟩ := toPDs_cons hx
        obtain ⟨y, ys, rfl, hy1, hy2⟩ := toPDs_cons hy
        have h0 := h d List.mem_cons_self x y hx1 hy1
        have ih' := ih xs ys (fun z hz => h z (List.mem_cons_of_mem _ hz)) hx2 hy2
        show lcK _ _ _ (.tup [x, y] :: zipL xs ys) env S = _
        match env, hl with
        | a :: b :: c :: e :: r, _ =>
          rw [lcK_cons]
          simp [e1, e2, e3, h0]
          try simp [e1, e2, e3] at ih'
          rw [ih']
          simp [List.replicate_succ]
    rw [callN_run hp (by omega) rfl rfl]
    cases d with
    | list ds =>
      obtain ⟨c, xs, rfl, hx⟩ := toPD_list hv
      obtain ⟨c', ys, rfl, hy⟩ := toPD_list hw
      have hl : ds.length ≤ sizeLine := by have := len_nzs ds; simp only [nz] at hn; omega
      have h := key ds hd (by simp only [nz] at hn; omega) (by simp only [PyData.depth] at hk; omega)
      have hxy : xs.length = ys.length := by rw [toPDs_len hx, toPDs_len hy]
      simp [L._law_same, slots0, tst_un, seO_un, Fr.cfg1, hxy]
      have := loop ⟨callN p fuel k, col, cm, p.hs⟩ [some (.lst c xs), some (.lst c' ys), none, none] rfl rfl rfl (by simp) ds xs ys h hx hy
      try simp at this
      rw [this]
      simp [hl]
    | tuple ds =>
      obtain ⟨xs, rfl, hx⟩ := toPD_tuple hv
      obtain ⟨ys, rfl, hy⟩ := toPD_tuple hw
      have hl : ds.length ≤ sizeLine := by have := len_nzs ds; simp only [nz] at hn; omega
      have h := key ds hd (by simp only [nz] at hn; omega) (by simp only [PyData.depth] at hk; omega)
      have hxy : xs.length = ys.length := by rw [toPDs_len hx, toPDs_len hy]
      simp [L._law_same, slots0, tst_un, seO_un, Fr.cfg1, hxy]
      have := loop ⟨callN p fuel k, col, cm, p.hs⟩ [some (.tup xs), some (.tup ys), none, none] rfl rfl rfl (by simp) ds xs ys h hx hy
      try simp at this
      rw [this]
      simp [hl]
    | dict kvs =>
      cases kvs with
      | cons a b => exact nomatch hd
      | nil =>
        obtain ⟨c, rfl⟩ := toPD_dict0 hv
        obtain ⟨c', rfl⟩ := toPD_dict0 hw
        have hk1 : PyData.depth (.dict []) = 1 := by simp [PyData.depth, PyData.depthKv]
        have h0 := same_nil (fuel := fuel) hp col cm S (k := k) (by omega) col col
        simp [L._law_same, slots0, tst_un, seO_un, Fr.cfg1, h0]
    | none =>
      obtain rfl := toPD_none hv
      obtain rfl := toPD_none hw
      simp [L._law_same, slots0, tst_un, seO_un, Fr.cfg1, isNon]
    | bool b =>
      obtain rfl := toPD_bool hv
      obtain rfl := toPD_bool hw
      simp [L._law_same, slots0, tst_un, seO_un, Fr.cfg1]
    | int i =>
      obtain rfl := toPD_int hv
      obtain rfl := toPD_int hw
      simp [L._law_same, slots0, tst_un, seO_un, Fr.cfg1, isNon]
    | str x =>
      obtain rfl := toPD_str hv
      obtain rfl := toPD_str hw
      have hx : PyData.strOk x = true := by
        have h' : flStr x = true := hd
        simp only [flStr, Bool.and_eq_true, decide_eq_true_eq] at h'
        simp only [PyData.strOk, Array.all_eq_true_iff_forall_mem]
        intro c hc
        have h2 := (Array.all_eq_true_iff_forall_mem.mp h'.1.2) c hc
        have h3 : c < 128 := by simpa using h2
        simp; omega
      simp [L._law_same, slots0, tst_un, seO_un, Fr.cfg1, isNon, pyEq_str hx hx]

theorem stream_run (hp : p.get "_law_stream" = some L._law_stream) {k : Nat} (hk : 0 < k) (cm : Nat) (ns : List Int) (hl : ns.length ≤ 63) (hb : ∀ z ∈ ns, Builtin.Int.intBits z ≤ 1048576) :
    ∃ S, callN p fuel k "_law_stream" [.scr (ns.map .int)] 0 cm [] = some (.ok (.ptr 1) S) ∧ StAt 0 S := by
  have h1 : ∀ ns : List Int, colsLtL 1 (ns.map .int) = true := fun ns => by
    induction ns with
    | nil => rfl
    | cons n ns ih => simpa [colsLtL, colsLt] using ih
  refine ⟨[.lst (ns.map .int), .lst [.ptr 0, .int 0, .int 0, .int 19]], ?_, ?_⟩
  · rw [callN_run hp hk rfl rfl]
    simp [L._law_stream, slots0, Fr.cfg1, h1, colsLtL, colsLt]
  exact ⟨[], ns, 0, 0, 19, rfl, hb, hl, by omega, by decide, by omega, by omega, by omega, by omega⟩
theorem pick_run (hp : p.get "_law_pick" = some L._law_pick) (hd : p.get "_law_draw" = some L._law_draw) (hf : 64 ≤ fuel) {cm : Nat} (hcm : 0 < cm) {k : Nat} (hk : 1 < k) {c : Nat} {xs : List MV} (h0 : 0 < xs.length) (h1 : xs.length < 1073741824)
    {b : Nat} (hb : b < 2 ^ 40) {S : Store} (hS : StAt b S) {Q : MV → Store → Prop} {t : Tk Q} (H : ∀ v S', v ∈ xs → StAt (b + 1) S' → Q v S') :
    Wp (callN p fuel k "_law_pick" [.ptr 1, .lst c xs] 0 cm S) Q t := by
  rw [callN_run hp (by omega) rfl rfl, Wp_endR]
  simp [L._law_pick, slots0, Fr.cfg1]
  refine draw_spec hd hf (by omega) hcm (by omega) (by omega) hb hS fun i S' hi0 hi1 hS' => ?_
  obtain ⟨j, rfl⟩ : ∃ j : Nat, i = j := ⟨i.toNat, by omega⟩
  have hj : j < xs.length := by omega
  have e : xs[j]? = some xs[j] := List.getElem?_eq_getElem hj
  simp [item_nat, e]
  exact H _ _ (List.getElem_mem hj) hS'
end
end Mv

end
section
set_option Elab.async false
set_option linter.all false
set_option maxRecDepth 100000
namespace Mv
open PySem
namespace L
def _law_table : Df := ⟨["stream", "most"], 14, (.cons (.par [(2, false), (3, false), (4, false)] (.cons false (.bin .add (.cn (.int 1)) (.call "_law_draw" (.cons false (.nm 0) (.cons false (.nm 1) .nil)) [])) (.cons false (.bin .add (.cn (.int 1)) (.call "_law_draw" (.cons false (.nm 0) (.cons false (.nm 1) .nil)) [])) (.cons false (.call "_law_draw" (.cons false (.nm 0) (.cons false (.cn (.int 7)) .nil)) []) .nil)))) (.cons (.set 5 false (.sub (.lst (.cons false (.cn (.int 2)) (.cons false (.cn (.int 5)) (.cons false (.cn (.int 1000)) (.cons false (.cn (.int 9)) (.cons false (.cn (.int 9)) (.cons false (.cn (.int 9)) (.cons false (.cn (.int 1)) .nil)))))))) (.nm 4))) (.cons (.set 6 true (.lc (.lc (.bin .sub (.call "_law_draw" (.cons false (.nm 0) (.cons false (.bin .add (.bin .mul (.cn (.int 2)) (.nm 5)) (.cn (.int 1))) .nil)) []) (.nm 5)) (.nm 7) (.by_ .range (.cons false (.nm 3) .nil)) .nil [7]) (.nm 8) (.by_ .range (.cons false (.nm 2) .nil)) .nil [8])) (.cons (.ifS (.andE (.cmp .eq (.nm 4) (.cn (.int 3))) (.cons false (.cmp .gt (.nm 2) (.cn (.int 1))) .nil)) (.cons (.setSub 6 (.neg (.cn (.int 1))) (.lc (.bi .max (.cons false (.neg (.cn (.int 1000))) (.cons false (.bin .sub (.bi .min (.cons false (.nm 9) .nil)) (.cn (.int 1))) .nil))) (.nm 9) (.by_ .zipl (.cons false (.sub (.nm 6) (.cn (.int 0))) (.cons false (.sub (.nm 6) (.neg (.cn (.int 2)))) .nil))) .nil [9])) .nil) .nil) (.cons (.ifS (.cmp .eq (.nm 4) (.cn (.int 4))) (.cons (.set 6 true (.lc (.lc (.bi .max (.cons false (.sub (.nm 9) (.cn (.int 0))) (.cons false (.nm 10) .nil))) (.nm 10) (.val (.nm 9)) .nil [10]) (.nm 9) (.val (.nm 6)) .nil [9])) .nil) .nil) (.cons (.ifS (.andE (.cmp .eq (.nm 4) (.cn (.int 5))) (.cons false (.cmp .gt (.nm 2) (.cn (.int 2))) .nil)) (.cons (.setSub 6 (.cn (.int 2)) (.lc (.bin .sub (.bin .fdiv (.bin .add (.nm 11) (.nm 12)) (.cn (.int 2))) (.call "_law_draw" (.cons false (.nm 0) (.cons false (.cn (.int 2)) .nil)) [])) (.cons (.nm 11) (.cons (.nm 12) (.nil))) (.by_ .zip (.cons false (.sub (.nm 6) (.cn (.int 0))) (.cons false (.sub (.nm 6) (.cn (.int 1))) .nil))) .nil [11, 12])) .nil) .nil) (.cons (.ifS (.cmp .eq (.nm 4) (.cn (.int 6))) (.cons (.set 3 false (.nm 2)) (.cons (.set 6 true (.lc (.cell (.bin .mul (.lst (.cons false (.cn (.int 0)) .nil)) (.nm 2))) (.nm 8) (.by_ .range (.cons false (.nm 2) .nil)) .nil [8])) (.cons (.for_ (.nm 8) (.by_ .range (.cons false (.nm 2) .nil)) (.cons (.for_ (.nm 13) (.by_ .range (.cons false (.nm 8) .nil)) (.cons (.setCell (.sub (.nm 6) (.nm 8)) (.nm 13) (.bin .sub (.call "_law_draw" (.cons false (.nm 0) (.cons false (.cn (.int 3)) .nil)) []) (.cn (.int 1)))) (.cons (.setCell (.sub (.nm 6) (.nm 13)) (.nm 8) (.neg (.sub (.sub (.nm 6) (.nm 8)) (.nm 13)))) .nil))) .nil)) .nil))) .nil) (.cons (.ret (some (.melt (.nm 6)))) .nil)))))))), 0⟩
end L
theorem forK_draw {β : Type} {t : Tg} {b : Sl → Store → R Fl} {f : β → MV} {I : Nat → Sl → Store → Prop} {N : β → Nat} {M : Nat} {Q : Fl → Store → Prop} {tq : Tk Q} {tk : Tk b} :
    ∀ (xs : List β) (b0 : Nat) (sl : Sl) (S : Store), I b0 sl S → b0 + (xs.map N).sum ≤ M →
    (∀ x ∈ xs, ∀ (b1 : Nat) (sl1 : Sl) (S1 : Store), I b1 sl1 S1 → b1 + N x ≤ M → ∃ sl', bindS t (f x) sl1 = some sl' ∧ Wp (b sl' S1) fun k S2 => ∃ sl2, k = .nx sl2 ∧ I (b1 + N x) sl2 S2) →
    (∀ (sl2 : Sl) (S2 : Store), I (b0 + (xs.map N).sum) sl2 S2 → Q (.nx sl2) S2) →
    Wp (forK t b (xs.map f) sl S tk) Q tq
  | [], b0, sl, S, hI, _, _, H => by
    simp; exact H sl S (by simpa using hI)
  | x :: xs, b0, sl, S, hI, hM, h, H => by
    have e : b0 + ((x :: xs).map N).sum = (b0 + N x) + (xs.map N).sum := by simp; omega
    rw [e] at hM H
    obtain ⟨sl', h1, h2⟩ := h x List.mem_cons_self b0 sl S hI (by omega)
    rw [List.map_cons, forK_cons, h1]
    simp
    refine h2.mono fun k S2 hk => ?_
    obtain ⟨sl2, rfl, hI2⟩ := hk
    exact forK_draw (tk := tk) xs (b0 + N x) sl2 S2 hI2 hM (fun z hz => h z (List.mem_cons_of_mem _ hz)) H
@[simp] theorem walkF_range1 (n : Nat) (h : n ≤ 1000000) : walkF .range [.int (n : Int)] = some ((List.range n).map fun k => MV.int (k : Nat)) := by
  show (if small62 (n : Int) = true then some (rangeL 0 n) else none) = _
  have : small62 (n : Int) = true := by simp [small62]; omega
  rw [this]
  simp [rangeL]
theorem sum_const {β : Type} (N : Nat) : ∀ xs : List β, (xs.map fun _ => N).sum = xs.length * N
  | [] => by simp
  | x :: xs => by simp [sum_const N xs, Nat.add_mul]; omega

def RowOk (w : Nat) (r : List Int) : Prop := r.length = w ∧ ∀ e ∈ r, -2000 ≤ e ∧ e ≤ 2000
def RowB (w : Nat) (r : List Int) : Prop := r.length = w ∧ ∀ e ∈ r, -1000 ≤ e ∧ e ≤ 1000
theorem RowB.ok {w : Nat} {r : List Int} (h : RowB w r) : RowOk w r := ⟨h.1, fun e he => by have := h.2 e he; omega⟩
def mxR (x : List Int) : List Int := x.map fun e => if e > x.headD 0 then e else x.headD 0
def rowV (r : List Int) : MV := .lst 0 (r.map .int)
def TabOk (M : Nat) (T : List (List Int)) : Prop := 1 ≤ T.length ∧ T.length ≤ M ∧ ∃ w, 1 ≤ w ∧ w ≤ M ∧ ∀ r ∈ T, RowOk w r
theorem colsLtL_ints (b : Nat) : ∀ ns : List Int, colsLtL b (ns.map .int) = true
  | [] => rfl
  | n :: ns => by simpa [colsLtL, colsLt] using colsLtL_ints b ns
theorem colsLtL_rows {b : Nat} (h : 0 < b) : ∀ T : List (List Int), colsLtL b (T.map rowV) = true
  | [] => rfl
  | n :: ns => by simp [colsLtL, colsLt, rowV, h, colsLtL_ints]; simpa [rowV] using colsLtL_rows h ns
theorem F2.all {α β : Type} {P : α → β → Prop} {Q : β → Prop} {xs : List α} {ys : List β} (h : F2 P xs ys) (i : ∀ x y, P x y → Q y) : ∀ y ∈ ys, Q y := by
  induction h with
  | nil => intro y hy; exact nomatch hy
  | cons a _ ih =>
    intro y hy
    rcases List.mem_cons.mp hy with rfl | hy
    · exact i _ _ a
    · exact ih y hy

theorem se_ow (f : Fr) (sl : Sl) (S : Store) (h : anyOwn sl = true) (e : ME) : se f e sl S = (guardR f.be sl (okO f.be sl) ((evO ⟨f.call, f.col, f.be + 1, f.hs⟩ e (view f.be sl) S).lb fun o S1 => some (.ok (o.fzd f.col) S1))).lb fun o S1 => some (.ok (o.fz f.col) S1) := by
  unfold se
  rw [seO_ow f sl S h]
  rfl
theorem okO_val (b : Nat) (sl : Sl) (v : MV) : okO b sl (.val v) = (!anyOwn sl || colsLt b v) := rfl
theorem okO_nl (b : Nat) (sl : Sl) (v : List MV) : okO b sl (.nl v) = (!anyOwn sl || colsLtL b v) := rfl
@[simp] theorem colsLt_int (b : Nat) (i : Int) : colsLt b (.int i) = true := (rfl)
@[simp] theorem colsLt_bl (b : Nat) (i : Bool) : colsLt b (.bl i) = true := (rfl)
@[simp] theorem colsLt_str (b : Nat) (i : Str) : colsLt b (.str i) = true := (rfl)
@[simp] theorem colsLt_non (b : Nat) : colsLt b .non = true := (rfl)
@[simp] theorem colsLt_ptr (b : Nat) (n : Nat) : colsLt b (.ptr n) = true := (rfl)
theorem colsLt_tup (b : Nat) (xs : List MV) : colsLt b (.tup xs) = colsLtL b xs := rfl
theorem colsLt_lst (b c : Nat) (xs : List MV) : colsLt b (.lst c xs) = (decide (c < b) && colsLtL b xs) := rfl
theorem colsLtL_nilP (b : Nat) : colsLtL b [] = true := rfl
theorem colsLtL_cons (b : Nat) (x : MV) (xs : List MV) : colsLtL b (x :: xs) = (colsLt b x && colsLtL b xs) := rfl
theorem item_in {α : Type} {f : α → MV} {T : List α} {i : Int} (h : -(T.length : Int) ≤ i) (h2 : i < T.length) : ∃ y j, y ∈ T ∧ item (T.map f) i = some (f y) ∧ L2.ixN (T.map f).length i = some j ∧ j < T.length := by
  have key : ∀ j : Nat, j < T.length → ∃ y, y ∈ T ∧ T[j]? = some y := fun j hj => ⟨T[j], List.getElem_mem hj, List.getElem?_eq_getElem hj⟩
  unfold item L2.atI
  rw [List.length_map]
  unfold L2.ixN
  by_cases h0 : 0 ≤ i
  · rw [if_pos h0, if_pos h2]
    obtain ⟨y, hy, e⟩ := key i.toNat (by omega)
    exact ⟨y, i.toNat, hy, by simp [e], rfl, by omega⟩
  · rw [if_neg h0, if_pos h]
    obtain ⟨y, hy, e⟩ := key (i + T.length).toNat (by omega)
    exact ⟨y, _, hy, by simp [e], rfl, by omega⟩
theorem zipL_map {α β : Type} (f : α → MV) (g : β → MV) : ∀ (xs : List α) (ys : List β), zipL (xs.map f) (ys.map g) = (xs.zip ys).map fun q => .tup [f q.1, g q.2]
  | [], _ => by simp [zipL]
  | _ :: _, [] => by simp [zipL]
  | x :: xs, y :: ys => by simp [zipL, zipL_map f g xs ys]
@[simp] theorem walkF_zipl (c c' : Nat) (xs ys : List MV) : walkF .zipl [.lst c xs, .lst c' ys] = some (zipL xs ys) := (rfl)
@[simp] theorem biF_max2 (i j : Int) : biF .max [.int i, .int j] = some (.val (.int (if j > i then j else i))) := (rfl)
@[simp] theorem biF_min2 (i j : Int) : biF .min [.tup [.int i, .int j]] = some (.val (.int (if j < i then j else i))) := (rfl)
theorem meltL_rows (S : Store) : ∀ T : List (List Int), meltL 0 S (T.map rowV) = some (T.map rowV)
  | [] => rfl
  | t :: T => by
    show (match meltV 0 S (rowV t), meltL 0 S (T.map rowV) with | some y, some ys => some (y :: ys) | _, _ => none) = _
    rw [meltL_rows S T]; rfl
theorem killAll_rows (S : Store) : ∀ T : List (List Int), killAll (T.map rowV) S = S
  | [] => rfl
  | t :: T => killAll_rows S T
@[simp] theorem colsLtL_mapI {β : Type} (b : Nat) (h : β → Int) : ∀ zs : List β, colsLtL b (zs.map fun q => MV.int (h q)) = true
  | [] => rfl
  | z :: zs => by simpa [colsLtL, colsLt] using colsLtL_mapI b h zs
theorem set_rowV {β : Type} (T : List (List Int)) (j : Nat) (zs : List β) (h : β → Int) : (T.map rowV).set j (.lst 0 (zs.map fun q => MV.int (h q))) = (T.set j (zs.map h)).map rowV := by
  rw [List.map_set]; simp [rowV, Function.comp_def]
theorem map_rowV {β : Type} (T : List β) (h : β → List Int) : T.map (fun q => MV.lst 0 ((h q).map .int)) = (T.map h).map rowV := by
  simp [rowV, Function.comp_def]
theorem TabOk.set {M : Nat} {T : List (List Int)} {w : Nat} (h1 : 1 ≤ T.length) (h2 : T.length ≤ M) (h3 : 1 ≤ w) (h4 : w ≤ M) (h : ∀ r ∈ T, RowOk w r) (j : Nat) {r : List Int} (hr : RowOk w r) : TabOk M (T.set j r) := by
  refine ⟨by simpa using h1, by simpa using h2, w, h3, h4, fun x hx => ?_⟩
  rcases List.mem_or_eq_of_mem_set hx with hx | rfl
  · exact h x hx
  · exact hr

theorem lcK_push {β : Type} {t : Tg} {c : Env → Store → R Bool} {b : Env → Store → R MV} {env : Env} {f : β → MV} {x : Cell} {tk : Tk (c, b)} :
    ∀ (xs : List β) (S : Store), (∀ y ∈ xs, ∀ S1 : Store, ∃ env', bind t (f y) env = some env' ∧ c env' S1 = some (.ok true S1) ∧ b env' S1 = some (.ok (.ptr S1.length) (S1 ++ [x]))) →
    lcK t c b (xs.map f) env S tk = some (.ok ((List.range xs.length).map fun i => .ptr (S.length + i)) (S ++ List.replicate xs.length x))
  | [], S, _ => by simp
  | y :: xs, S, h => by
    obtain ⟨env', h1, h2, h3⟩ := h y List.mem_cons_self S
    rw [List.map_cons, lcK_cons, h1]
    have ih := lcK_push (tk := tk) xs (S ++ [x]) fun z hz => h z (List.mem_cons_of_mem _ hz)
    simp [h2, h3, ih, List.range_succ_eq_map, Function.comp_def, List.replicate_succ]
    intro a _
    omega
def gridR (r0 : Store) (R : List (List Int)) : Store := r0 ++ R.map fun row => Cell.lst (row.map .int)
theorem StR_get {r0 : Store} {R : List (List Int)} {b : Nat} {S : Store} (h : StR (gridR r0 R) b S) {i : Nat} {row : List Int} (hi : R[i]? = some row) : S[2 + r0.length + i]? = some (.lst (row.map .int)) := by
  obtain ⟨ns, a, c, d, rfl, _⟩ := h
  have e : 2 + r0.length + i = (r0.length + i) + 1 + 1 := by omega
  rw [e, List.getElem?_cons_succ, List.getElem?_cons_succ, gridR, List.getElem?_append_right (by omega)]
  simp [hi]
theorem StR_set {r0 : Store} {R : List (List Int)} {b : Nat} {S : Store} (h : StR (gridR r0 R) b S) (i : Nat) (row : List Int) : StR (gridR r0 (R.set i row)) b (S.set (2 + r0.length + i) (.lst (row.map .int))) := by
  obtain ⟨ns, a, c, d, rfl, h1⟩ := h
  refine ⟨ns, a, c, d, ?_, h1⟩
  have e : 2 + r0.length + i = (r0.length + i) + 1 + 1 := by omega
  rw [e, List.set_cons_succ, List.set_cons_succ, gridR, gridR, List.set_append_right _ _ (by omega)]
  simp [List.map_set]
theorem meltL_ptrs {S : Store} {L : Nat} {g : Nat → List Int} : ∀ is : List Nat, (∀ i ∈ is, S[L + i]? = some (.lst ((g i).map .int))) → meltL 0 S (is.map fun i => .ptr (L + i)) = some (is.map fun i => rowV (g i))
  | [], _ => rfl
  | i :: is, h => by
    show (match meltV 0 S (.ptr (L + i)), meltL 0 S (is.map fun i => .ptr (L + i)) with | some y, some ys => some (y :: ys) | _, _ => none) = _
    rw [meltL_ptrs is fun j hj => h j (List.mem_cons_of_mem _ hj)]
    have e : meltV 0 S (.ptr (L + i)) = some (rowV (g i)) := by
      show (match S[L + i]? with | some (.lst xs) => some (MV.lst 0 xs) | _ => none) = _
      rw [h i List.mem_cons_self]; rfl
    rw [e]; rfl
theorem killAll_ptrs {b : Nat} {L : Nat} (hL : 2 ≤ L) : ∀ (is : List Nat) (S : Store), StAt b S → StAt b (killAll (is.map fun i => .ptr (L + i)) S)
  | [], S, h => h
  | i :: is, S, h => by
    show StAt b (killAll (is.map fun i => .ptr (L + i)) (S.set (L + i) .dead))
    refine killAll_ptrs hL is _ ?_
    obtain ⟨r, ns, a, c, d, rfl, h1⟩ := h
    refine ⟨r.set (L + i - 2) .dead, ns, a, c, d, ?_, h1⟩
    have e : L + i = (L + i - 2) + 1 + 1 := by omega
    rw [e, List.set_cons_succ, List.set_cons_succ]
    rfl
theorem bop_mulL {c : Nat} {x : MV} {n : Nat} (h : n ≤ 1000000) : bop .mul (.lst c [x]) (.int (n : Int)) = some (.nl (List.replicate n x)) := by
  have hs : 1000000 ≤ sizeLine := by decide
  have h1 : -(2 ^ 63) ≤ (n : Int) ∧ (n : Int) < 2 ^ 63 ∧ [x].length * (n : Int).toNat ≤ sizeLine := ⟨by omega, by omega, by simp; omega⟩
  simp only [bop]
  rw [if_pos h1]
  simp
theorem colsLtL_rep (b n : Nat) (i : Int) : colsLtL b (List.replicate n (.int i)) = true := by
  induction n with
  | zero => rfl
  | succ n ih => simp [List.replicate_succ, colsLtL, ih]
theorem colsLtL_ptrs (b L : Nat) : ∀ is : List Nat, colsLtL b (is.map fun i => .ptr (L + i)) = true
  | [] => rfl
  | i :: is => by simp [colsLtL, colsLtL_ptrs b L is]
@[simp] theorem bindS_nm (i : Nat) (v : MV) (sl : Sl) (h : i < sl.length) : bindS (.nm i) v sl = some (sl.set i (.val v)) := by
  show (if i < sl.length then _ else none) = _
  rw [if_pos h]
section
variable {p : Pg} {fuel : Nat}
theorem table_run (hp : p.get "_law_table" = some L._law_table) (hd : p.get "_law_draw" = some L._law_draw) (hf : 64 ≤ fuel) {k cm : Nat} (hk : 1 < k) (hcm : 0 < cm) {M : Nat} (hM : 1 ≤ M) (hM2 : M ≤ 10)
    {b : Nat} {S : Store} (hS : StAt b S) (hb : b + 1000 < 2 ^ 40) {Q : MV → Store → Prop} {tq : Tk Q}
    (H : ∀ T S', TabOk M T → StAt (b + 400) S' → Q (.lst 0 (T.map rowV)) S') :
    Wp (callN p fuel k "_law_table" [.ptr 1, .int M] 0 cm S) Q tq := by
  rw [callN_run hp (by omega) rfl rfl, Wp_endR]
  simp [L._law_table, slots0, se_un]
  refine draw_spec hd hf (by omega) hcm (by omega) (by omega) (by omega) hS fun i1 S1 hi10 hi11 hS1 => ?_
  simp [se_un]
  refine draw_spec hd hf (by omega) hcm (by omega) (by omega) (by omega) hS1 fun i2 S2 hi20 hi21 hS2 => ?_
  simp [se_un]
  refine draw_spec hd hf (by omega) hcm (by omega) (by omega) (by omega) hS2 fun way S3 hw0 hw1 hS3 => ?_
  obtain ⟨n, hn⟩ : ∃ n : Nat, 1 + i1 = n := ⟨(1 + i1).toNat, by omega⟩
  obtain ⟨w, hw⟩ : ∃ n : Nat, 1 + i2 = n := ⟨(1 + i2).toNat, by omega⟩
  obtain ⟨rr, hr, hr0, hr1⟩ : ∃ r : Int, item [.int 2, .int 5, .int 1000, .int 9, .int 9, .int 9, .int 1] way = some (.int r) ∧ 1 ≤ r ∧ r ≤ 1000 := by
    have : way = 0 ∨ way = 1 ∨ way = 2 ∨ way = 3 ∨ way = 4 ∨ way = 5 ∨ way = 6 := by omega
    rcases this with h | h | h | h | h | h | h <;> subst h <;> exact ⟨_, rfl, by decide, by decide⟩
  simp [hn, hw, putV, seO_un, hr]
  simp [walkF_range1 n (by omega)]
  refine lcK_draw (P := fun _ v => ∃ x, v = rowV x ∧ RowB w x) (N := fun _ => w) (M := b + 3 + 100) (List.range n) (b + 3) S3 hS3 (by
      rw [sum_const, List.length_range]
      have : n * w ≤ 10 * 10 := Nat.mul_le_mul (by omega) (by omega)
      omega) ?_ ?_
  · intro j _ b1 s1 hs1 hb1
    refine ⟨_, rfl, rfl, ?_⟩
    have e1 : bop .mul (.int 2) (.int rr) = some (.val (.int (2 * rr))) := bop_mul64 (by decide) (by omega)
    simp [walkF_range1 w (by omega), e1]
    refine lcK_draw (P := fun _ v => ∃ x : Int, v = .int x ∧ (-1000 ≤ x ∧ x ≤ 1000)) (N := fun _ => 1) (M := b1 + w) (List.range w) b1 s1 hs1 (by
      rw [sum_const, List.length_range]; omega) ?_ ?_
    · intro j2 _ b2 s2 hs2 hb2
      refine ⟨_, rfl, rfl, ?_⟩
      simp [e1]
      refine draw_spec hd hf (by omega) hcm (by omega) (by omega) (by omega) hs2 fun i S' h0 h1 hS' => ?_
      simp
      refine ⟨?_, hS'⟩
      omega
    · intro ys s3 hys hs3
      obtain ⟨zs, rfl, hz⟩ := hys.pull
      have hzl : zs.length = w := by rw [← hz.len, List.length_range]
      have : w ≤ sizeLine := Nat.le_trans (show w ≤ 1000 by omega) (by decide)
      simp [hzl, this]
      rw [sum_const, List.length_range] at hs3
      refine ⟨⟨zs, rfl, hzl, hz.all fun _ _ h => h⟩, hs3.le (by omega)⟩
  intro ys S4 hys hS4
  obtain ⟨T, rfl, hz⟩ := hys.pull
  have hTl : T.length = n := by rw [← hz.len, List.length_range]
  have hTb : ∀ x ∈ T, RowB w x := hz.all fun _ _ h => h
  obtain ⟨B, hB⟩ : ∃ B, B = b + 103 := ⟨_, rfl⟩
  replace hS4 : StAt B S4 := by
    rw [sum_const, List.length_range] at hS4
    refine hS4.le ?_
    have : n * w ≤ 10 * 10 := Nat.mul_le_mul (by omega) (by omega)
    omega
  have hS4' := hS4
  obtain ⟨r0, hS4r⟩ := hS4'
  have hns : n ≤ sizeLine := Nat.le_trans (show n ≤ 1000 by omega) (by decide)
  simp [hTl, hns, colsLtL_rows hcm]
  clear hz hys
  have hT : ∀ x ∈ T, RowOk w x := fun x hx => (hTb x hx).ok
  by_cases w6 : way = 6
  · subst w6
    have hS4 := hS4r
    have hL : S4.length = 2 + r0.length := by
      obtain ⟨ns, a, c, d, rfl, _⟩ := hS4
      simp; omega
    simp [tst_ow, se_ow, seO_ow, okO_val, hTl]
    rw [walkF_range1 n (by omega)]
    simp
    rw [lcK_push (x := .lst (List.replicate n (.int 0))) (List.range n) S4 (by
      intro y hy S1
      refine ⟨_, rfl, rfl, ?_⟩
      simp [bop_mulL (show n ≤ 1000000 by omega), colsLtL_rep])]
    simp [hns, okO_nl, colsLtL_ptrs, seW_by, seL_ow, oldL_eq, colsLtL_nilP, colsLtL_cons, walkF_range1 n (show n ≤ 1000000 by omega)]
    have hS5 : StR (gridR r0 (List.replicate n (List.replicate n (0 : Int)))) B (S4 ++ List.replicate n (.lst (List.replicate n (.int 0)))) := by
      obtain ⟨ns, a, c, d, rfl, h1⟩ := hS4
      refine ⟨ns, a, c, d, ?_, h1⟩
      simp [gridR]
    rw [hL]
    generalize S4 ++ List.replicate n (Cell.lst (List.replicate n (.int 0))) = S5 at hS5
    let I : Nat → Sl → Store → Prop := fun b1 sl S => ∃ (R : List (List Int)) (s8 s13 : SV), sl = [.val (.ptr 1), .val (.int M), .val (.int n), .val (.int n), .val (.int 6), .val (.int rr), .ol ((List.range n).map fun i => .ptr (2 + r0.length + i)), .un, s8, .un, .un, .un, .un, s13] ∧
      R.length = n ∧ (∀ row ∈ R, RowOk n row) ∧ StR (gridR r0 R) b1 S
    have hptr : ∀ i : Nat, i < n → item ((List.range n).map fun i => MV.ptr (2 + r0.length + i)) (i : Int) = some (.ptr (2 + r0.length + i)) := fun i hi => by
      rw [item_nat]; simp [hi]
    refine forK_draw (I := I) (N := fun _ => n) (M := B + 100) (List.range n) B _ S5 ⟨List.replicate n (List.replicate n 0), .un, .un, rfl, by simp, ?_, hS5⟩ (by
        rw [sum_const, List.length_range]
        have : n * n ≤ 10 * 10 := Nat.mul_le_mul (by omega) (by omega)
        omega) ?_ ?_
    · intro row hr
      obtain ⟨_, rfl⟩ := List.mem_replicate.mp hr
      exact ⟨by simp, fun e he => by obtain ⟨_, rfl⟩ := List.mem_replicate.mp he; omega⟩
    · rintro at_ hat b1 sl1 s1 ⟨R, s8, s13, rfl, hR1, hR2, hR3⟩ hb1
      have hat' : at_ < n := List.mem_range.mp hat
      refine ⟨_, rfl, ?_⟩
      have eow : ∀ (x y : SV), anyOwn [.val (.ptr 1), .val (.int M), .val (.int n), .val (.int n), .val (.int 6), .val (.int rr), .ol ((List.range n).map fun i => .ptr (2 + r0.length + i)), .un, x, .un, .un, .un, .un, y] = true := fun x y => by simp
      simp [seW_by, seL_ow, oldL_eq, colsLtL_nilP, colsLtL_cons, walkF_range1 at_ (show at_ ≤ 1000000 by omega), view_cons]
      let J : Nat → Sl → Store → Prop := fun b1 sl S => ∃ (R : List (List Int)) (s13 : SV), sl = [.val (.ptr 1), .val (.int M), .val (.int n), .val (.int n), .val (.int 6), .val (.int rr), .ol ((List.range n).map fun i => .ptr (2 + r0.length + i)), .un, .val (.int at_), .un, .un, .un, .un, s13] ∧
        R.length = n ∧ (∀ row ∈ R, RowOk n row) ∧ StR (gridR r0 R) b1 S
      refine forK_draw (I := J) (N := fun _ => 1) (M := b1 + n) (List.range at_) b1 _ s1 ⟨R, s13, rfl, hR1, hR2, hR3⟩ (by
          rw [sum_const, List.length_range]; omega) ?_ ?_
      · rintro to hto b2 sl2 s2 ⟨R, s13, rfl, hR1, hR2, hR3⟩ hb2
        have hto' : to < at_ := List.mem_range.mp hto
        refine ⟨_, rfl, ?_⟩
        simp [se_ow, view_cons]
        refine draw_specR hd hf (by omega) (by omega) (by decide) (by decide) (by omega) hR3 fun i S' h0 h1 hS' => ?_
        have g1 : R[at_]? = some R[at_] := List.getElem?_eq_getElem (by omega)
        have g2 := StR_get hS' g1
        have k1 := hR2 R[at_] (List.getElem_mem _)
        have k2 : L2.ixN R[at_].length (to : Int) = some to := by
          unfold L2.ixN; rw [k1.1, if_pos (by omega), if_pos (by omega)]; simp
        obtain ⟨row1, er1, es1⟩ : ∃ row1, row1 = R[at_].set to (i - 1) ∧ (R[at_].map MV.int).set to (.int (i - 1)) = row1.map .int := ⟨_, rfl, by rw [List.map_set]⟩
        have k3 : RowOk n row1 := by
          rw [er1]
          refine ⟨by simp [k1.1], fun e he => ?_⟩
          rcases List.mem_or_eq_of_mem_set he with he | rfl
          · exact k1.2 e he
          · omega
        have hS2 := StR_set hS' at_ row1
        have hptrA := hptr at_ hat'
        have hptrT := hptr to (by omega)
        simp [se_ow, okO_val, hptrA, cellR_ptr g2, k2, es1, view_cons]
        generalize S'.set (2 + r0.length + at_) (.lst (row1.map .int)) = S2 at hS2
        have hR1' : (R.set at_ row1).length = n := by simp [hR1]
        have hR2' : ∀ row ∈ R.set at_ row1, RowOk n row := fun row hr => by
          rcases List.mem_or_eq_of_mem_set hr with hr | rfl
          · exact hR2 row hr
          · exact k3
        have g3 : (R.set at_ row1)[at_]? = some row1 := by rw [List.getElem?_set_self (by omega)]
        generalize R.set at_ row1 = R2 at hS2 hR1' hR2' g3
        have g4 := StR_get hS2 g3
        have g5 : R2[to]? = some R2[to] := List.getElem?_eq_getElem (by omega)
        have g6 := StR_get hS2 g5
        have k4 := hR2' R2[to] (List.getElem_mem _)
        have k5 : L2.ixN R2[to].length (at_ : Int) = some at_ := by
          unfold L2.ixN; rw [k4.1, if_pos (by omega), if_pos (by omega)]; simp
        obtain ⟨v1, k6, k8m⟩ : ∃ v1, row1[to]? = some v1 ∧ v1 ∈ row1 := by
          have hlt : to < row1.length := by rw [k3.1]; omega
          exact ⟨row1[to], List.getElem?_eq_getElem hlt, List.getElem_mem hlt⟩
        have k7 : item (row1.map .int) (to : Int) = some (.int v1) := by rw [item_nat]; simp [k6]
        have k8 := k3.2 v1 k8m
        have lk : look S2 (.ptr (2 + r0.length + at_)) = some (.lst 0 (row1.map .int)) := by
          show (match S2[2 + r0.length + at_]? with | some (.lst xs) => some (MV.lst 0 xs) | _ => none) = _
          rw [g4]
        obtain ⟨row2, er2, es2⟩ : ∃ row2, row2 = R2[to].set at_ (-v1) ∧ (R2[to].map MV.int).set at_ (.int (-v1)) = row2.map .int := ⟨_, rfl, by rw [List.map_set]⟩
        have k9 : RowOk n row2 := by
          rw [er2]
          refine ⟨by simp [k4.1], fun e he => ?_⟩
          rcases List.mem_or_eq_of_mem_set he with he | rfl
          · exact k4.2 e he
          · omega
        have hS3 := StR_set hS2 to row2
        simp [se_ow, okO_val, hptrA, hptrT, lk, k7, cellR_ptr g6, k5, es2, view_cons]
        exact ⟨R2.set to row2, _, rfl, by simp [hR1'], fun row hr => by
          rcases List.mem_or_eq_of_mem_set hr with hr | rfl
          · exact hR2' row hr
          · exact k9, hS3⟩
      · rintro sl2 s2 ⟨R, s13, rfl, hR1, hR2, hR3⟩
        rw [sum_const, List.length_range] at hR3
        exact ⟨_, rfl, R, _, _, rfl, hR1, hR2, hR3.le (by omega)⟩
    · rintro sl2 s2 ⟨R, s8, s13, rfl, hR1, hR2, hR3⟩
      rw [sum_const, List.length_range] at hR3
      have hg : ∀ i ∈ List.range n, s2[2 + r0.length + i]? = some (.lst ((R[i]?.getD []).map .int)) := fun i hi => by
        have hi' : i < n := List.mem_range.mp hi
        have g1 : R[i]? = some R[i] := List.getElem?_eq_getElem (by omega)
        rw [StR_get hR3 g1, g1]; rfl
      have hm := meltL_ptrs (S := s2) (L := 2 + r0.length) (g := fun i => R[i]?.getD []) (List.range n) hg
      have e : (List.range n).map (fun i => rowV (R[i]?.getD [])) = R.map rowV := by
        apply List.ext_getElem
        · simp [hR1]
        · intro i h1 h2; simp at h1 h2 ⊢; simp [h2]
      rw [e] at hm
      simp [view_cons, Fr.cfg1, hm]
      refine H R _ ⟨by omega, by omega, n, by omega, by omega, hR2⟩ ((killAll_ptrs (by omega) (List.range n) s2 ⟨_, hR3⟩).le ?_)
      have : n * n ≤ 10 * 10 := Nat.mul_le_mul (by omega) (by omega)
      omega
  -- not of that way: rows are plain
  have hT1 : 1 ≤ T.length := by omega
  have hT2 : T.length ≤ M := by omega
  have hw1' : 1 ≤ w := by omega
  have hw2' : w ≤ M := by omega
  have hwl : w ≤ sizeLine := Nat.le_trans (show w ≤ 1000 by omega) (by decide)
  have hT0 : TabOk M T := ⟨hT1, hT2, w, hw1', hw2', hT⟩
  by_cases w3 : way = 3
  · subst w3
    by_cases hn1 : (1 : Int) < n
    · obtain ⟨y0, j0, hy0, e0, _, _⟩ := item_in (f := rowV) (T := T) (i := 0) (by omega) (by omega)
      obtain ⟨y2, j2, hy2, e2, _, _⟩ := item_in (f := rowV) (T := T) (i := -2) (by omega) (by omega)
      obtain ⟨_, j1, _, _, e1, hj1⟩ := item_in (f := rowV) (T := T) (i := -1) (by omega) (by omega)
      have hy0' := hT y0 hy0
      have hy2' := hT y2 hy2
      rw [List.length_map, hTl] at e1
      have c1 : ∀ x : Int, (-2000 ≤ x) → x ≤ 2000 → (-2000 ≤ (if x - 1 > -1000 then x - 1 else -1000)) ∧ (if x - 1 > -1000 then x - 1 else -1000) ≤ 2000 := by intro x h1 h2; split <;> omega
      simp [hn1, tst_ow, se_ow, e0, e2, e1, rowV, zipL_map, okO_val, okO_nl]
      rw [lcK_map (g := fun q : Int × Int => MV.int (if (if q.2 < q.1 then q.2 else q.1) - 1 > -1000 then (if q.2 < q.1 then q.2 else q.1) - 1 else -1000)) (y0.zip y2) (by
        intro q hq
        refine ⟨_, rfl, rfl, ?_⟩
        simp)]
      have hzl : (y0.zip y2).length = w := by simp [hy0'.1, hy2'.1]
      obtain ⟨T2, eT2, es⟩ : ∃ T2, T2 = T.set j1 ((y0.zip y2).map fun q : Int × Int => if (if q.2 < q.1 then q.2 else q.1) - 1 > -1000 then (if q.2 < q.1 then q.2 else q.1) - 1 else -1000) ∧ (T.map rowV).set j1 (.lst 0 ((y0.zip y2).map fun q : Int × Int => MV.int (if (if q.2 < q.1 then q.2 else q.1) - 1 > -1000 then (if q.2 < q.1 then q.2 else q.1) - 1 else -1000))) = T2.map rowV := ⟨_, rfl, set_rowV T j1 _ _⟩
      simp at es
      simp [hwl, hzl, okO_val, okO_nl, colsLt_lst, hcm, se_ow, hTl, e1, es, tst_ow, Fr.cfg1, meltL_rows, killAll_rows]
      refine H _ S4 ?_ (hS4.le (by omega))
      rw [eT2]
      refine TabOk.set hT1 hT2 hw1' hw2' hT j1 ?_
      refine ⟨by simp [hy0'.1, hy2'.1], ?_⟩
      intro e he
      obtain ⟨q, hq, rfl⟩ := List.mem_map.mp he
      have h1 := hy0'.2 q.1 (List.of_mem_zip hq).1
      have h2 := hy2'.2 q.2 (List.of_mem_zip hq).2
      split <;> split <;> omega
    · simp [hn1, tst_ow, Fr.cfg1, meltL_rows, killAll_rows]
      exact H T S4 hT0 (hS4.le (by omega))
  by_cases w4 : way = 4
  · subst w4
    have hrow : ∀ x ∈ T, item (x.map .int) 0 = some (.int (x.headD 0)) := fun x hx => by
      have := (hT x hx).1
      cases x with
      | nil => simp at this; omega
      | cons h r => exact item_0 _ _
    simp [tst_ow, se_ow, seO_ow]
    rw [lcK_map (g := fun x : List Int => rowV (mxR x)) T (by
      intro x hx
      refine ⟨_, rfl, rfl, ?_⟩
      have hxl : x.length ≤ sizeLine := by rw [(hT x hx).1]; exact hwl
      simp [rowV]
      rw [lcK_map (g := fun e => MV.int (if e > x.headD 0 then e else x.headD 0)) x (by
        intro e he
        refine ⟨_, rfl, rfl, ?_⟩
        simp [hrow x hx])]
      simp [hxl, mxR, Function.comp_def])]
    have e4 : T.map (fun x => rowV (mxR x)) = (T.map mxR).map rowV := by simp [Function.comp_def]
    have h4l : (T.map mxR).length = T.length := by simp
    have h4 : ∀ y ∈ T.map mxR, RowOk w y := by
      intro y hy
      obtain ⟨x, hx, rfl⟩ := List.mem_map.mp hy
      refine ⟨by simp [mxR, (hT x hx).1], fun e he => ?_⟩
      obtain ⟨z, hz, rfl⟩ := List.mem_map.mp he
      have h1 := (hT x hx).2 z hz
      have h2 : -2000 ≤ x.headD 0 ∧ x.headD 0 ≤ 2000 := by
        cases x with
        | nil => simp
        | cons a r => exact (hT _ hx).2 a List.mem_cons_self
      split <;> omega
    rw [e4]
    generalize T.map mxR = T2 at h4l h4
    simp [h4l, hTl, hns, okO_nl, colsLtL_rows hcm, tst_ow, Fr.cfg1, meltL_rows, killAll_rows]
    exact H _ S4 ⟨by omega, by omega, w, hw1', hw2', h4⟩ (hS4.le (by omega))
  by_cases w5 : way = 5
  · subst w5
    by_cases hn1 : (2 : Int) < n
    · obtain ⟨y0, j0, hy0, e0, _, _⟩ := item_in (f := rowV) (T := T) (i := 0) (by omega) (by omega)
      obtain ⟨y2, j2, hy2, e2, _, _⟩ := item_in (f := rowV) (T := T) (i := 1) (by omega) (by omega)
      obtain ⟨_, j1, _, _, e1, hj1⟩ := item_in (f := rowV) (T := T) (i := 2) (by omega) (by omega)
      have hy0' := hT y0 hy0
      have hy2' := hT y2 hy2
      rw [List.length_map, hTl] at e1
      have hzl : (y0.zip y2).length = w := by simp [hy0'.1, hy2'.1]
      have ef : ∀ i : Int, bop .fdiv (.int i) (.int 2) = some (.val (.int (i / 2))) := fun i => bop_fdiv (by decide) (by decide)
      simp [hn1, tst_ow, se_ow, e0, e2, e1, rowV, zipL_map, okO_val, okO_nl]
      refine lcK_draw (P := fun _ v => ∃ x : Int, v = .int x ∧ (-2000 ≤ x ∧ x ≤ 2000)) (N := fun _ => 1) (M := B + w) (y0.zip y2) B S4 hS4 (by
        rw [sum_const, hzl]; omega) ?_ ?_
      · intro q hq b2 s2 hs2 hb2
        refine ⟨_, rfl, rfl, ?_⟩
        simp [ef]
        refine draw_spec hd hf (by omega) (by omega) (by omega) (by omega) (by omega) hs2 fun i S' h0 h1 hS' => ?_
        simp
        have h1 := (hTb y0 hy0).2 q.1 (List.of_mem_zip hq).1
        have h2 := (hTb y2 hy2).2 q.2 (List.of_mem_zip hq).2
        refine ⟨?_, hS'⟩
        omega
      · intro ys s3 hys hs3
        obtain ⟨zs, rfl, hz⟩ := hys.pull
        have hzl2 : zs.length = w := by rw [← hz.len, hzl]
        rw [sum_const, hzl] at hs3
        obtain ⟨T2, eT2, es⟩ : ∃ T2, T2 = T.set j1 zs ∧ (T.map rowV).set j1 (.lst 0 (zs.map .int)) = T2.map rowV := by
          have := set_rowV T j1 zs id
          rw [List.map_id] at this
          exact ⟨_, rfl, this⟩
        simp [hwl, hzl2, okO_val, okO_nl, colsLt_lst, hcm, se_ow, hTl, e1, es, tst_ow, Fr.cfg1, meltL_rows, killAll_rows, colsLtL_ints]
        exact H _ s3 (eT2 ▸ TabOk.set hT1 hT2 hw1' hw2' hT j1 ⟨hzl2, hz.all fun _ _ h => h⟩) (hs3.le (by omega))
    · simp [hn1, tst_ow, Fr.cfg1, meltL_rows, killAll_rows]
      exact H T S4 hT0 (hS4.le (by omega))
  simp [tst_ow, w3, w4, w5, w6, Fr.cfg1, meltL_rows, killAll_rows]
  exact H T S4 hT0 (hS4.le (by omega))
end
end Mv

end
section
set_option Elab.async false
set_option linter.all false
set_option maxRecDepth 100000
namespace Mv
open PySem
namespace L
def is_table_of : Df := ⟨["thing"], 3, (.cons (.ifS (.orE (.nt (.call "is_list" (.cons false (.nm 0) .nil) [])) (.cons false (.cmp .eq (.bi .len (.cons false (.nm 0) .nil)) (.cn (.int 0))) (.cons false (.nt (.bi .all (.cons false (.lc (.andE (.call "is_list" (.cons false (.nm 1) .nil) []) (.cons false (.cmp .gt (.bi .len (.cons false (.nm 1) .nil)) (.cn (.int 0))) .nil)) (.nm 1) (.val (.nm 0)) .nil [1]) .nil))) .nil))) (.cons (.ret (some (.cn (.bl false)))) .nil) .nil) (.cons (.ifS (.nt (.bi .all (.cons false (.lc (.cmp .eq (.bi .len (.cons false (.nm 1) .nil)) (.bi .len (.cons false (.sub (.nm 0) (.cn (.int 0))) .nil))) (.nm 1) (.val (.nm 0)) .nil [1]) .nil))) (.cons (.ret (some (.cn (.bl false)))) .nil) .nil) (.cons (.ret (some (.bi .all (.cons false (.lc (.bi .all (.cons false (.lc (.call "is_whole" (.cons false (.nm 2) .nil) []) (.nm 2) (.val (.nm 1)) .nil [2]) .nil)) (.nm 1) (.val (.nm 0)) .nil [1]) .nil)))) .nil))), 0⟩
def check_table : Df := ⟨["table"], 1, (.cons (.ifS (.nt (.call "is_table_of" (.cons false (.nm 0) .nil) [])) (.cons (.raise "BadTable" (.nm 0)) .nil) .nil) .nil), 0⟩
def is_state : Df := ⟨["table", "many", "thing"], 4, (.cons (.ifS (.orE (.nt (.call "is_row" (.cons false (.nm 2) (.cons false (.cn (.int 2)) .nil)) [])) (.cons false (.nt (.call "is_index" (.cons false (.sub (.nm 2) (.cn (.int 0))) (.cons false (.bi .len (.cons false (.sub (.nm 0) (.cn (.int 0))) .nil)) .nil)) [])) (.cons false (.nt (.call "is_row" (.cons false (.sub (.nm 2) (.cn (.int 1))) (.cons false (.bi .len (.cons false (.nm 0) .nil)) .nil)) [])) .nil))) (.cons (.ret (some (.cn (.bl false)))) .nil) .nil) (.cons (.ret (some (.bi .all (.cons false (.lc (.call "is_index" (.cons false (.nm 3) (.cons false (.nm 1) .nil)) []) (.nm 3) (.val (.sub (.nm 2) (.cn (.int 1)))) .nil [3]) .nil)))) .nil)), 0⟩
def first_bad_state : Df := ⟨["table", "machine"], 4, (.cons (.ifS (.orE (.nt (.call "is_list" (.cons false (.nm 1) .nil) [])) (.cons false (.cmp .eq (.bi .len (.cons false (.nm 1) .nil)) (.cn (.int 0))) .nil)) (.cons (.ret (some (.cn (.int 0)))) .nil) .nil) (.cons (.for_ (.cons (.nm 2) (.cons (.nm 3) (.nil))) (.by_ .enumerate (.cons false (.nm 1) .nil)) (.cons (.ifS (.nt (.call "is_state" (.cons false (.nm 0) (.cons false (.bi .len (.cons false (.nm 1) .nil)) (.cons false (.nm 3) .nil))) [])) (.cons (.ret (some (.nm 2))) .nil) .nil) .nil)) (.cons (.ret (some (.cn (.non)))) .nil))), 0⟩
def check_machine : Df := ⟨["table", "machine"], 3, (.cons (.expr (.call "check_table" (.cons false (.nm 0) .nil) [])) (.cons (.set 2 false (.call "first_bad_state" (.cons false (.nm 0) (.cons false (.nm 1) .nil)) [])) (.cons (.ifS (.cmp .isnot (.nm 2) (.cn (.non))) (.cons (.raise "BadMachine" (.nm 2)) .nil) .nil) .nil))), 0⟩
def walked : Df := ⟨["machine", "state", "rows"], 5, (.cons (.set 3 true (.lst .nil)) (.cons (.for_ (.nm 4) (.val (.nm 2)) (.cons (.append 3 (.tup (.cons false (.nm 4) (.cons false (.sub (.sub (.nm 0) (.nm 1)) (.cn (.int 0))) .nil)))) (.cons (.set 1 false (.sub (.sub (.sub (.nm 0) (.nm 1)) (.cn (.int 1))) (.nm 4))) .nil))) (.cons (.ret (some (.tup (.cons false (.nm 3) (.cons false (.nm 1) .nil))))) .nil))), 0⟩
def _law_handed : Df := ⟨["stream", "table"], 3, (.cons (.ret (some (.call "_law_loose" (.cons false (.nm 0) (.cons false (.bi .tuple (.cons false (.lc (.call "_law_loose" (.cons false (.nm 0) (.cons false (.bi .tuple (.cons false (.nm 2) .nil)) .nil)) []) (.nm 2) (.val (.nm 1)) .nil [2]) .nil)) .nil)) []))) .nil), 0⟩
def _law_machine : Df := ⟨["stream", "table", "most"], 6, (.cons (.set 3 false (.bin .add (.cn (.int 1)) (.call "_law_draw" (.cons false (.nm 0) (.cons false (.nm 2) .nil)) []))) (.cons (.ret (some (.lc (.tup (.cons false (.call "_law_draw" (.cons false (.nm 0) (.cons false (.bi .len (.cons false (.sub (.nm 1) (.cn (.int 0))) .nil)) .nil)) []) (.cons false (.lc (.call "_law_draw" (.cons false (.nm 0) (.cons false (.nm 3) .nil)) []) (.nm 4) (.val (.nm 1)) .nil [4]) .nil))) (.nm 5) (.by_ .range (.cons false (.nm 3) .nil)) .nil [5]))) .nil)), 0⟩
def _law_machine_handed : Df := ⟨["stream", "machine"], 4, (.cons (.ret (some (.call "_law_loose" (.cons false (.nm 0) (.cons false (.bi .tuple (.cons false (.lc (.call "_law_loose" (.cons false (.nm 0) (.cons false (.tup (.cons false (.nm 2) (.cons false (.call "_law_loose" (.cons false (.nm 0) (.cons false (.bi .tuple (.cons false (.nm 3) .nil)) .nil)) []) .nil))) .nil)) []) (.cons (.nm 2) (.cons (.nm 3) (.nil))) (.val (.nm 1)) .nil [2, 3]) .nil)) .nil)) []))) .nil), 0⟩
end L
/-- a list or a tuple of these -/
def isSq (v : MV) (xs : List MV) : Prop := v = .tup xs ∨ ∃ c, v = .lst c xs
structure SqF (v : MV) (xs : List MV) : Prop where
  lt : isAny v [.list, .tuple] = some true
  wk : walkV v = some xs
  len : biF .len [v] = some (.val (.int xs.length))
  lk : ∀ S vs, lkL S (v :: vs) = (lkL S vs).map (v :: ·)
  look : ∀ S, look S v = some v
  sub : ∀ i, subV v (.int i) = item xs i
  enum : walkF .enumerate [v] = some (enumL 0 xs)
  tupl : biF .tuple [v] = some (.val (.tup xs))
theorem isSq.f {v : MV} {xs : List MV} (h : isSq v xs) : SqF v xs := by
  rcases h with rfl | ⟨c, rfl⟩
  · exact ⟨rfl, rfl, rfl, fun S vs => lkL_tup S xs vs, fun S => rfl, fun i => rfl, rfl, rfl⟩
  · exact ⟨rfl, rfl, rfl, fun S vs => lkL_lst S c xs vs, fun S => rfl, fun i => rfl, rfl, rfl⟩
theorem isSq_lst (c : Nat) (xs : List MV) : isSq (.lst c xs) xs := .inr ⟨c, rfl⟩
theorem isSq_tup (xs : List MV) : isSq (.tup xs) xs := .inl rfl
def RowL (v : MV) (r : List Int) : Prop := isSq v (r.map .int)
def TabL (v : MV) (T : List (List Int)) : Prop := ∃ xs, isSq v xs ∧ F2 RowL xs T
def StL (v : MV) (q : Int × List Int) : Prop := ∃ y, isSq v [.int q.1, y] ∧ RowL y q.2
def MacL (v : MV) (m : List (Int × List Int)) : Prop := ∃ xs, isSq v xs ∧ F2 StL xs m
/-- as data -/
def rD (r : List Int) : PyData := .list (r.map .int)
def tD (T : List (List Int)) : PyData := .list (T.map rD)
def mD (m : List (Int × List Int)) : PyData := .list (m.map fun q => .tuple [.int q.1, rD q.2])
def mN (m : List (Int × List Int)) : PyData := .list (m.map fun q => .list [.int q.1, rD q.2])

theorem nf_seq {d : PyData} {ys : List PyData} (h : nf d = .list ys) (c : Nat) : ∃ xs, isSq (cv c d) (cvs c xs) ∧ nfs xs = ys ∧ (d = .list xs ∨ d = .tuple xs) := by
  cases d with
  | list xs => exact ⟨xs, isSq_lst _ _, by simpa [nf] using h, .inl rfl⟩
  | tuple xs => exact ⟨xs, isSq_tup _, by simpa [nf] using h, .inr rfl⟩
  | _ => simp [nf] at h
theorem nf_int {d : PyData} {i : Int} (h : nf d = .int i) : d = .int i := by
  cases d <;> simp [nf] at h
  rw [h]
theorem nfs_ints {xs : List PyData} : ∀ {r : List Int}, nfs xs = r.map .int → xs = r.map .int := by
  induction xs with
  | nil => intro r h; cases r <;> simp [nfs] at h ⊢
  | cons x xs ih =>
    intro r h
    cases r with
    | nil => simp [nfs] at h
    | cons i r =>
      simp [nfs] at h
      rw [nf_int h.1, ih h.2]; rfl
theorem RowL_of {d : PyData} {r : List Int} (h : nf d = rD r) (c : Nat) : RowL (cv c d) r := by
  obtain ⟨xs, h1, h2, _⟩ := nf_seq h c
  rw [nfs_ints h2, cvs_ints] at h1
  exact h1
theorem TabL_of {d : PyData} {T : List (List Int)} (h : nf d = tD T) (c : Nat) : TabL (cv c d) T := by
  obtain ⟨xs, h1, h2, h3⟩ := nf_seq h c
  refine ⟨_, h1, ?_⟩
  clear h h1 h3
  induction xs generalizing T with
  | nil => cases T with
    | nil => exact .nil
    | cons r T => simp [nfs] at h2
  | cons x xs ih => cases T with
    | nil => simp [nfs] at h2
    | cons r T =>
      simp [nfs] at h2
      exact .cons (RowL_of h2.1 c) (ih h2.2)
theorem StL_of {d : PyData} {q : Int × List Int} (h : nf d = .list [.int q.1, rD q.2]) (c : Nat) : StL (cv c d) q := by
  obtain ⟨xs, h1, h2, _⟩ := nf_seq h c
  match xs, h2 with
  | [a, b], h2 =>
    simp [nfs] at h2
    obtain rfl := nf_int h2.1
    exact ⟨cv c b, h1, RowL_of h2.2 c⟩
  | [], h2 => simp [nfs] at h2
  | [a], h2 => simp [nfs] at h2
  | a :: b :: e :: r, h2 => simp [nfs] at h2
theorem MacL_of {d : PyData} {m : List (Int × List Int)} (h : nf d = mN m) (c : Nat) : MacL (cv c d) m := by
  obtain ⟨xs, h1, h2, h3⟩ := nf_seq h c
  refine ⟨_, h1, ?_⟩
  clear h h1 h3
  induction xs generalizing m with
  | nil => cases m with
    | nil => exact .nil
    | cons r T => simp [nfs] at h2
  | cons x xs ih => cases m with
    | nil => simp [nfs] at h2
    | cons r T =>
      simp [nfs] at h2
      exact .cons (StL_of h2.1 c) (ih h2.2)
theorem nfs_ints' : ∀ r : List Int, nfs (r.map .int) = r.map .int
  | [] => rfl
  | i :: r => by simp [nfs, nf, nfs_ints' r]
theorem nf_rD (r : List Int) : nf (rD r) = rD r := by simp [rD, nf, nfs_ints']
theorem nf_tD (T : List (List Int)) : nf (tD T) = tD T := by
  simp only [tD, nf]
  congr 1
  induction T with
  | nil => rfl
  | cons r T ih => simp [nfs, nf_rD, ih]
theorem nf_mD (m : List (Int × List Int)) : nf (mD m) = mN m := by
  simp only [mD, mN, nf]
  congr 1
  induction m with
  | nil => rfl
  | cons r T ih => simp [nfs, nf, nf_rD, ih]
theorem cv_tD (T : List (List Int)) : cv 0 (tD T) = .lst 0 (T.map rowV) := by
  simp only [tD, cv_list]
  congr 1
  induction T with
  | nil => rfl
  | cons r T ih => simp [ih, rD, rowV, cvs_ints]

theorem nzs_ints : ∀ r : List Int, nzs (r.map .int) = r.length
  | [] => rfl
  | i :: r => by simp [nzs, nz, nzs_ints r]; omega
theorem nz_rD (r : List Int) : nz (rD r) = r.length + 1 := by simp [rD, nz, nzs_ints]
theorem depths_ints : ∀ r : List Int, PyData.depthAll (r.map .int) = 0 := depthAll_ints
theorem nz_tD {T : List (List Int)} {w : Nat} (h : ∀ r ∈ T, RowOk w r) : nz (tD T) = T.length * (w + 1) + 1 := by
  simp only [tD, nz]
  congr 1
  induction T with
  | nil => simp [nzs]
  | cons r T ih =>
    have := ih fun x hx => h x (List.mem_cons_of_mem _ hx)
    simp only [List.map_cons, nzs, this, nz_rD, (h r List.mem_cons_self).1, List.length_cons, Nat.add_mul]
    omega
theorem dep_tD (T : List (List Int)) : PyData.depth (tD T) ≤ 2 := by
  have : PyData.depthAll (T.map rD) ≤ 1 := by
    induction T with
    | nil => simp [PyData.depthAll]
    | cons r T ih => simp only [List.map_cons, PyData.depthAll, rD, PyData.depth, depthAll_ints]; omega
  simp only [tD, PyData.depth]; omega
theorem fls_ints {r : List Int} (h : ∀ e ∈ r, -2000 ≤ e ∧ e ≤ 2000) : fls (r.map .int) = true := by
  induction r with
  | nil => rfl
  | cons i r ih =>
    have h1 := h i List.mem_cons_self
    simp only [List.map_cons, fls, fl, ih fun e he => h e (List.mem_cons_of_mem _ he), Bool.and_true, decide_eq_true_eq]
    omega
theorem fl_tD {M : Nat} {T : List (List Int)} (h : TabOk M T) : fl (tD T) = true := by
  obtain ⟨g1, g2, w, g3, g4, h⟩ := h
  clear g1 g2
  show fls (T.map rD) = true
  induction T with
  | nil => rfl
  | cons r T ih =>
    have h1 := fls_ints (h r List.mem_cons_self).2
    have h2 := ih fun x hx => h x (List.mem_cons_of_mem _ hx)
    simp only [List.map_cons, fls, h2, rD, fl, h1, Bool.and_true]

/-- a machine over n rows and w columns -/
def MacOk (n w : Nat) (m : List (Int × List Int)) : Prop := 1 ≤ m.length ∧ m.length ≤ 6 ∧ ∀ q ∈ m, 0 ≤ q.1 ∧ q.1 < w ∧ q.2.length = n ∧ ∀ e ∈ q.2, 0 ≤ e ∧ e < m.length
def stV (q : Int × List Int) : MV := .tup [.int q.1, .lst 0 (q.2.map .int)]
theorem cv_mD (m : List (Int × List Int)) : cv 0 (mD m) = .lst 0 (m.map stV) := by
  simp only [mD, cv_list]
  congr 1
  induction m with
  | nil => rfl
  | cons r T ih =>
    simp only [List.map_cons, cvs_cons, ih]
    simp [rD, stV, cvs_ints]
theorem nz_mD {n w : Nat} {m : List (Int × List Int)} (h : MacOk n w m) : nz (mD m) = m.length * (n + 3) + 1 := by
  obtain ⟨g1, g2, h⟩ := h
  simp only [mD, nz]
  congr 1
  have h' : ∀ q ∈ m, q.2.length = n := fun q hq => (h q hq).2.2.1
  clear h g1 g2
  induction m with
  | nil => simp [nzs]
  | cons r T ih =>
    have := ih fun x hx => h' x (List.mem_cons_of_mem _ hx)
    simp only [List.map_cons, nzs, nz, this, nz_rD, h' r List.mem_cons_self, List.length_cons, Nat.add_mul]
    omega
end Mv

end
section
set_option Elab.async false
set_option linter.all false
set_option maxRecDepth 100000
namespace Mv
open PySem
theorem sum_le {β : Type} {N : β → Nat} {K : Nat} : ∀ {xs : List β}, (∀ x ∈ xs, N x ≤ K) → (xs.map N).sum ≤ xs.length * K
  | [], _ => by simp
  | x :: xs, h => by
    have h1 := h x List.mem_cons_self
    have h2 := sum_le (xs := xs) fun y hy => h y (List.mem_cons_of_mem _ hy)
    simp [Nat.add_mul]; omega
theorem F2_rows {T : List (List Int)} {zs : List PyData} (h : F2 (fun r z => nf z = rD r) T zs) : nfs zs = T.map rD := by
  induction h with
  | nil => rfl
  | cons a _ ih => simp [nfs, a, ih]
theorem F2_sts {m : List (Int × List Int)} {zs : List PyData} (h : F2 (fun q z => nf z = .list [.int q.1, rD q.2]) m zs) : nfs zs = m.map fun q => .list [.int q.1, rD q.2] := by
  induction h with
  | nil => rfl
  | cons a _ ih => simp [nfs, a, ih]
theorem nzs_map {β : Type} {f : β → PyData} {K : Nat} : ∀ {xs : List β}, (∀ x ∈ xs, nz (f x) = K) → nzs (xs.map f) = xs.length * K
  | [], _ => by simp [nzs]
  | x :: xs, h => by
    have h1 := h x List.mem_cons_self
    have h2 := nzs_map (xs := xs) fun y hy => h y (List.mem_cons_of_mem _ hy)
    simp [nzs, h1, h2, Nat.add_mul]; omega
theorem deps_mN (m : List (Int × List Int)) : PyData.depthAll (m.map fun q => PyData.list [.int q.1, rD q.2]) ≤ 2 := by
  induction m with
  | nil => simp [PyData.depthAll]
  | cons q m ih =>
    have e : PyData.depth (rD q.2) = 1 := by simp [rD, PyData.depth, depthAll_ints]
    simp only [List.map_cons, PyData.depthAll, PyData.depth, e]; omega
section
variable {p : Pg} {fuel : Nat}
theorem handed_run (hp : p.get "_law_handed" = some L._law_handed) (hl : p.get "_law_loose" = some L._law_loose) (hd : p.get "_law_draw" = some L._law_draw) (hf : 64 ≤ fuel) {k cm : Nat} (hk : 6 < k) (hcm : 0 < cm) {M : Nat} (hM : M ≤ 10)
    {T : List (List Int)} (hT : TabOk M T) {b : Nat} {S : Store} (hS : StAt b S) (hb : b + 1000 < 2 ^ 40) {Q : MV → Store → Prop} {tq : Tk Q}
    (H : ∀ d' S', nf d' = tD T → StAt (b + 300) S' → Q (cv 0 d') S') :
    Wp (callN p fuel k "_law_handed" [.ptr 1, .lst 0 (T.map rowV)] 0 cm S) Q tq := by
  obtain ⟨g1, g2, w, g3, g4, g5⟩ := hT
  rw [callN_run hp (by omega) rfl rfl, Wp_endR]
  simp [L._law_handed, slots0, Fr.cfg1]
  have hTw : T.length * (w + 1) ≤ 10 * 11 := Nat.mul_le_mul (by omega) (by omega)
  refine lcK_draw (P := fun r v => ∃ z, v = cv 0 z ∧ nf z = rD r) (N := fun _ => w + 1) (M := b + 110) T b S hS (by rw [sum_const]; omega) ?_ ?_
  · intro r hr b1 s1 hs1 hb1
    have hrl := (g5 r hr).1
    refine ⟨_, rfl, rfl, ?_⟩
    simp [rowV]
    have e : MV.tup (r.map .int) = cv 0 (.tuple (r.map .int)) := by simp [cvs_ints]
    have en : nz (.tuple (r.map .int)) = w + 1 := by simp [nz, nzs_ints, hrl]
    rw [e]
    refine loose_run hl hd hf hcm _ _ b1 s1 (by rw [en]; exact Nat.le_trans (show w + 1 ≤ 1000 by omega) (by decide)) (by simp [PyData.depth, depthAll_ints]; omega) hs1 (by rw [en]; omega) fun d' S' h1 h2 => ?_
    rw [en] at h2
    simp
    exact ⟨⟨d', rfl, by rw [h1]; simp [nf, rD, nfs_ints']⟩, h2⟩
  · intro ys s2 hys hs2
    obtain ⟨zs, rfl, hz⟩ := hys.pull
    have hzl : zs.length = T.length := hz.len.symm
    have hzs : zs.length ≤ sizeLine := Nat.le_trans (show zs.length ≤ 1000 by omega) (by decide)
    have hn := F2_rows hz
    rw [sum_const] at hs2
    simp [hzs]
    have e : MV.tup (zs.map (cv 0)) = cv 0 (.tuple zs) := by simp [cvs_map]
    have en : nz (.tuple zs) = T.length * (w + 1) + 1 := by
      rw [← nf_nz]; simp only [nf, nz, hn]
      rw [nzs_map (K := w + 1) fun r hr => by rw [nz_rD, (g5 r hr).1]]
    have ed : PyData.depth (.tuple zs) ≤ 2 := by
      rw [← nf_dep]; simp only [nf, hn]; exact dep_tD T
    rw [e]
    refine loose_run hl hd hf hcm _ _ _ s2 (by rw [en]; exact Nat.le_trans (show _ ≤ 1000 by omega) (by decide)) (by omega) hs2 (by rw [en]; omega) fun d' S' h1 h2 => ?_
    rw [en] at h2
    simp
    exact H d' S' (by rw [h1]; simp [nf, hn, tD]) (h2.le (by omega))

theorem machine_run (hp : p.get "_law_machine" = some L._law_machine) (hd : p.get "_law_draw" = some L._law_draw) (hf : 64 ≤ fuel) {k cm : Nat} (hk : 1 < k) (hcm : 0 < cm) {M : Nat} (hM : M ≤ 10)
    {T : List (List Int)} (hT : TabOk M T) {b : Nat} {S : Store} (hS : StAt b S) (hb : b + 1000 < 2 ^ 40) {Q : MV → Store → Prop} {tq : Tk Q}
    (H : ∀ m S', MacOk T.length (T.headD []).length m → StAt (b + 100) S' → Q (.lst 0 (m.map stV)) S') :
    Wp (callN p fuel k "_law_machine" [.ptr 1, .lst 0 (T.map rowV), .int 6] 0 cm S) Q tq := by
  obtain ⟨g1, g2, w, g3, g4, g5⟩ := hT
  rw [callN_run hp (by omega) rfl rfl, Wp_endR]
  simp [L._law_machine, slots0, seO_un]
  refine draw_spec hd hf (by omega) hcm (by omega) (by omega) (by omega) hS fun i1 S1 hi10 hi11 hS1 => ?_
  obtain ⟨n, hn⟩ : ∃ n : Nat, 1 + i1 = n := ⟨(1 + i1).toNat, by omega⟩
  have hTl : T.length ≤ sizeLine := Nat.le_trans (show _ ≤ 1000 by omega) (by decide)
  have hnl : n ≤ sizeLine := Nat.le_trans (show _ ≤ 1000 by omega) (by decide)
  obtain ⟨r0, hr0, hr1⟩ : ∃ r0, item (T.map rowV) 0 = some (rowV r0) ∧ r0.length = w ∧ (T.headD []).length = w := by
    cases T with
    | nil => simp at g1
    | cons r T => exact ⟨r, item_0 _ _, (g5 r List.mem_cons_self).1, (g5 r List.mem_cons_self).1⟩
  rw [hr1.2] at H
  have hnT : n * (1 + T.length) ≤ 6 * 11 := Nat.mul_le_mul (by omega) (by omega)
  simp [hn, Fr.cfg1, walkF_range1 n (show n ≤ 1000000 by omega)]
  refine lcK_draw (P := fun _ v => ∃ q : Int × List Int, v = stV q ∧ (0 ≤ q.1 ∧ q.1 < w ∧ q.2.length = T.length ∧ ∀ e ∈ q.2, 0 ≤ e ∧ e < n)) (N := fun _ => 1 + T.length) (M := b + 1 + 66) (List.range n) (b + 1) S1 hS1 (by
    rw [sum_const, List.length_range]; omega) ?_ ?_
  · intro j _ b1 s1 hs1 hb1
    refine ⟨_, rfl, rfl, ?_⟩
    simp [hr0, rowV, hr1.1]
    refine draw_spec hd hf (by omega) hcm (by omega) (by omega) (by omega) hs1 fun c s2 hc0 hc1 hs2 => ?_
    simp
    refine lcK_draw (P := fun _ v => ∃ x : Int, v = .int x ∧ (0 ≤ x ∧ x < n)) (N := fun _ => 1) (M := b1 + 1 + T.length) T (b1 + 1) s2 hs2 (by rw [sum_const]; omega) ?_ ?_
    · intro r _ b3 s3 hs3 hb3
      refine ⟨_, rfl, rfl, ?_⟩
      simp
      refine draw_spec hd hf (by omega) hcm (by omega) (by omega) (by omega) hs3 fun x s4 hx0 hx1 hs4 => ?_
      simp
      exact ⟨⟨hx0, hx1⟩, hs4⟩
    · intro ys s3 hys hs3
      obtain ⟨zs, rfl, hz⟩ := hys.pull
      have hzl : zs.length = T.length := hz.len.symm
      rw [sum_const] at hs3
      simp [hzl, hTl]
      exact ⟨⟨c, zs, rfl, hc0, hc1, hzl, hz.all fun _ _ h => h⟩, hs3.le (by omega)⟩
  · intro ys s3 hys hs3
    obtain ⟨zs, rfl, hz⟩ := hys.pull
    have hzl : zs.length = n := by rw [← hz.len, List.length_range]
    rw [sum_const, List.length_range] at hs3
    simp [hzl, hnl]
    exact H zs s3 ⟨by omega, by omega, fun q hq => by have := (hz.all fun _ _ h => h) q hq; rw [hzl]; exact this⟩ (hs3.le (by omega))

theorem machine_handed_run (hp : p.get "_law_machine_handed" = some L._law_machine_handed) (hl : p.get "_law_loose" = some L._law_loose) (hd : p.get "_law_draw" = some L._law_draw) (hf : 64 ≤ fuel) {k cm : Nat} (hk : 6 < k) (hcm : 0 < cm)
    {m : List (Int × List Int)} {n w : Nat} (hn : n ≤ 10) (hm : MacOk n w m) {b : Nat} {S : Store} (hS : StAt b S) (hb : b + 1000 < 2 ^ 40) {Q : MV → Store → Prop} {tq : Tk Q}
    (H : ∀ d' S', nf d' = mN m → StAt (b + 300) S' → Q (cv 0 d') S') :
    Wp (callN p fuel k "_law_machine_handed" [.ptr 1, .lst 0 (m.map stV)] 0 cm S) Q tq := by
  obtain ⟨g1, g2, g3⟩ := hm
  rw [callN_run hp (by omega) rfl rfl, Wp_endR]
  simp [L._law_machine_handed, slots0, Fr.cfg1]
  have hmw : m.length * (2 * n + 4) ≤ 6 * 24 := Nat.mul_le_mul (by omega) (by omega)
  have hmw2 : m.length * (n + 3) ≤ 6 * 13 := Nat.mul_le_mul (by omega) (by omega)
  refine lcK_draw (P := fun q v => ∃ z, v = cv 0 z ∧ nf z = .list [.int q.1, rD q.2]) (N := fun _ => 2 * n + 4) (M := b + 144) m b S hS (by rw [sum_const]; omega) ?_ ?_
  · intro q hq b1 s1 hs1 hb1
    have hql := (g3 q hq).2.2.1
    refine ⟨_, rfl, rfl, ?_⟩
    simp [stV]
    have e : MV.tup (q.2.map .int) = cv 0 (.tuple (q.2.map .int)) := by simp [cvs_ints]
    have en : nz (.tuple (q.2.map .int)) = n + 1 := by simp [nz, nzs_ints, hql]
    rw [e]
    refine loose_run hl hd hf hcm _ _ b1 s1 (by rw [en]; exact Nat.le_trans (show n + 1 ≤ 1000 by omega) (by decide)) (by simp [PyData.depth, depthAll_ints]; omega) hs1 (by rw [en]; omega) fun d' S' h1 h2 => ?_
    have h1' : nf d' = rD q.2 := by rw [h1]; simp [nf, rD, nfs_ints']
    rw [en] at h2
    simp
    have e : MV.tup [.int q.1, cv 0 d'] = cv 0 (.tuple [.int q.1, d']) := by simp
    have en : nz (.tuple [.int q.1, d']) = n + 3 := by simp [nz, nzs]; rw [← nf_nz, h1', nz_rD, hql]; omega
    have ed : PyData.depth (.tuple [.int q.1, d']) ≤ 2 := by
      simp only [PyData.depth, PyData.depthAll]
      rw [← nf_dep d', h1']; simp [rD, PyData.depth, depthAll_ints]
    rw [e]
    refine loose_run hl hd hf hcm _ _ _ S' (by rw [en]; exact Nat.le_trans (show n + 3 ≤ 1000 by omega) (by decide)) (by omega) h2 (by rw [en]; omega) fun d2 S2 h3 h4 => ?_
    rw [en] at h4
    simp
    exact ⟨⟨d2, rfl, by rw [h3]; simp [nf, nfs, h1']⟩, h4.le (by omega)⟩
  · intro ys s2 hys hs2
    obtain ⟨zs, rfl, hz⟩ := hys.pull
    have hzl : zs.length = m.length := hz.len.symm
    have hzs : zs.length ≤ sizeLine := Nat.le_trans (show zs.length ≤ 1000 by omega) (by decide)
    have hn := F2_sts hz
    rw [sum_const] at hs2
    simp [hzs]
    have e : MV.tup (zs.map (cv 0)) = cv 0 (.tuple zs) := by simp [cvs_map]
    have en : nz (.tuple zs) = m.length * (n + 3) + 1 := by
      rw [← nf_nz]; simp only [nf, nz, hn]
      rw [nzs_map (K := n + 3) fun r hr => by simp [nz, nzs, nz_rD, (g3 r hr).2.2.1]; omega]
    have ed : PyData.depth (.tuple zs) ≤ 3 := by
      rw [← nf_dep]; simp only [nf, hn, PyData.depth]
      have := deps_mN m
      omega
    rw [e]
    refine loose_run hl hd hf hcm _ _ _ s2 (by rw [en]; exact Nat.le_trans (show _ ≤ 1000 by omega) (by decide)) (by omega) hs2 (by rw [en]; omega) fun d' S' h1 h2 => ?_
    rw [en] at h2
    simp
    exact H d' S' (by rw [h1]; simp [nf, hn, mN]) (h2.le (by omega))
end
end Mv

end
section
set_option Elab.async false
set_option linter.all false
set_option maxRecDepth 100000
namespace Mv
open PySem
theorem lcK_F2 {α β : Type} {t : Tg} {c : Env → Store → R Bool} {b : Env → Store → R α} {env : Env} {S : Store} {P : MV → β → Prop} {g : β → α} {tk : Tk (c, b)} :
    ∀ {xs : List MV} {T : List β}, F2 P xs T → (∀ x y, y ∈ T → P x y → ∃ env', bind t x env = some env' ∧ c env' S = some (.ok true S) ∧ b env' S = some (.ok (g y) S)) → lcK t c b xs env S tk = some (.ok (T.map g) S) := by
  intro xs T h
  induction h with
  | nil => intro _; rfl
  | @cons x y xs ys a h ih =>
    intro H
    obtain ⟨env', h1, h2, h3⟩ := H x y List.mem_cons_self a
    rw [lcK_cons, h1]
    have := ih fun x z hz hp => H x z (List.mem_cons_of_mem _ hz) hp
    simp [h2, h3, this]
theorem biF_all_map {β : Type} (c : Nat) (g : β → Bool) (T : List β) : biF .all [.lst c (T.map fun x => MV.bl (g x))] = some (.val (.bl (T.all g))) := by
  have : ∀ T : List β, allBls (T.map fun x => MV.bl (g x)) = some (T.map g) := fun T => by
    induction T with
    | nil => rfl
    | cons x T ih =>
      show (allBls (T.map fun x => MV.bl (g x))).map _ = _
      rw [ih]; rfl
  show (match allBls (T.map fun x => MV.bl (g x)) with | some bs => some (OV.val (.bl (bs.all id))) | none => none) = _
  rw [this]
  simp
theorem biF_all_true {β : Type} (c : Nat) (T : List β) : biF .all [.lst c (T.map fun _ => MV.bl true)] = some (.val (.bl true)) := by
  rw [biF_all_map c (fun _ => true) T]; simp
theorem F2.item {β : Type} {P : MV → β → Prop} : ∀ {xs : List MV} {T : List β}, F2 P xs T → ∀ {i : Nat} {y : β}, T[i]? = some y → ∃ x, item xs (i : Int) = some x ∧ P x y := by
  intro xs T h
  induction h with
  | nil => intro i y h; simp at h
  | @cons x z xs T a h ih =>
    intro i y hy
    cases i with
    | zero =>
      simp at hy
      exact ⟨x, item_nat (x :: xs) 0, hy ▸ a⟩
    | succ i =>
      obtain ⟨x', h1, h2⟩ := ih (by simpa using hy)
      refine ⟨x', ?_, h2⟩
      rw [item_nat] at h1 ⊢
      simpa using h1
structure Base (p : Pg) (fuel : Nat) : Prop where
  fu : 64 ≤ fuel
  is_list : p.get "is_list" = some L.is_list
  is_whole : p.get "is_whole" = some L.is_whole
  is_number : p.get "is_number" = some L.is_number
  is_row : p.get "is_row" = some L.is_row
  is_table_of : p.get "is_table_of" = some L.is_table_of
  check_table : p.get "check_table" = some L.check_table
  stream : p.get "_law_stream" = some L._law_stream
  draw : p.get "_law_draw" = some L._law_draw
  same : p.get "_law_same" = some L._law_same
  loose : p.get "_law_loose" = some L._law_loose
  copied : p.get "_law_copied" = some L._law_copied
  table : p.get "_law_table" = some L._law_table
  handed : p.get "_law_handed" = some L._law_handed
section
variable {p : Pg} {fuel : Nat}
theorem is_number_run (B : Base p fuel) {k : Nat} (hk : 1 < k) (i : Int) (col cm : Nat) (S : Store) : callN p fuel k "is_number" [.int i] col cm S = some (.ok (.bl (decide (0 ≤ i))) S) := by
  rw [callN_run B.is_number (by omega) rfl rfl]
  simp [L.is_number, slots0, Fr.cfg1, is_whole_run B.is_whole (show 0 < k - 1 by omega) (.int i) true false rfl rfl]
theorem is_table_of_run (B : Base p fuel) {k : Nat} (hk : 1 < k) {v : MV} {T : List (List Int)} {M : Nat} (hv : TabL v T) (hT : TabOk M T) (hM : M ≤ 1000) (col cm : Nat) (S : Store) :
    callN p fuel k "is_table_of" [v] col cm S = some (.ok (.bl true) S) := by
  obtain ⟨g1, g2, w, g3, g4, g5⟩ := hT
  obtain ⟨xs, hx, hxs⟩ := hv
  have f := hx.f
  have hxl : xs.length = T.length := hxs.len
  have hTl : T.length ≤ sizeLine := Nat.le_trans (show T.length ≤ 1000 by omega) (by decide)
  have hwl : w ≤ sizeLine := Nat.le_trans (show w ≤ 1000 by omega) (by decide)
  obtain ⟨x0, i0, hx0⟩ : ∃ x0, item xs 0 = some x0 ∧ ∃ r, RowL x0 r ∧ r ∈ T := by
    cases T with
    | nil => simp at g1
    | cons r T =>
      obtain ⟨x, h1, h2⟩ := hxs.item (i := 0) (y := r) rfl
      exact ⟨x, h1, r, h2, List.mem_cons_self⟩
  obtain ⟨r0, hr0, hr0T⟩ := hx0
  have f0 := hr0.f
  have hr0l := (g5 r0 hr0T).1
  rw [callN_run B.is_table_of (by omega) rfl rfl]
  have il : ∀ v xs (h : SqF v xs) (col cm : Nat) (S : Store), callN p fuel (k - 1) "is_list" [v] col cm S = some (.ok (.bl true) S) := fun v xs h col cm S => is_list_run B.is_list (by omega) v true h.lt col cm S
  have ne : ¬ (T = []) := by rintro rfl; simp at g1
  simp [L.is_table_of, slots0, tst_un, il _ _ f, f.lk, f.len, f.wk, hxl, ne, f.look, f.sub]
  rw [lcK_F2 (g := fun _ => MV.bl true) hxs (by
    intro x r hr hxr
    refine ⟨_, rfl, rfl, ?_⟩
    have e := isSq.f hxr
    have hp : (0 : Int) < ((r.map MV.int).length : Nat) := by have := (g5 r hr).1; simp; omega
    simp [il _ _ e, e.lk, e.len]
    simpa using hp)]
  simp [hTl, biF_all_true, tst_un, f.wk]
  rw [lcK_F2 (g := fun _ => MV.bl true) hxs (by
    intro x r hr hxr
    refine ⟨_, rfl, rfl, ?_⟩
    have e := isSq.f hxr
    simp [e.lk, e.len, f.look, f.sub, i0, f0.lk, f0.len, (g5 r hr).1, hr0l])]
  simp [hTl, biF_all_true, Fr.cfg1, f.wk]
  rw [lcK_F2 (g := fun _ => MV.bl true) hxs (by
    intro x r hr hxr
    refine ⟨_, rfl, rfl, ?_⟩
    have e := isSq.f hxr
    simp [e.wk]
    rw [lcK_map (g := fun _ => MV.bl true) r (by
      intro i hi
      refine ⟨_, rfl, rfl, ?_⟩
      simp [is_whole_run B.is_whole (show 0 < k - 1 by omega) (.int i) true false rfl rfl])]
    simp [(g5 r hr).1, hwl, biF_all_true])]
  simp [hTl, biF_all_true]
theorem check_table_run (B : Base p fuel) {k : Nat} (hk : 2 < k) {v : MV} {T : List (List Int)} {M : Nat} (hv : TabL v T) (hT : TabOk M T) (hM : M ≤ 1000) (col cm : Nat) (S : Store) :
    callN p fuel k "check_table" [v] col cm S = some (.ok .non S) := by
  rw [callN_run B.check_table (by omega) rfl rfl]
  simp [L.check_table, slots0, tst_un, is_table_of_run B (show 1 < k - 1 by omega) hv hT hM]
end
end Mv

end
section
set_option Elab.async false
set_option linter.all false
set_option maxRecDepth 100000
namespace Mv
open PySem
def sqD : PyData → Option (List PyData)
  | .list xs => some xs
  | .tuple xs => some xs
  | _ => none
theorem sqD_isSq {d : PyData} {xs : List PyData} (h : sqD d = some xs) (c : Nat) : isSq (cv c d) (cvs c xs) := by
  cases d <;> simp [sqD] at h
  · subst h; exact isSq_lst _ _
  · subst h; exact isSq_tup _
theorem sqD_none {d : PyData} (h : sqD d = none) (c : Nat) : isAny (cv c d) [.list, .tuple] = some false := by
  cases d <;> simp [sqD] at h <;> rfl
def isIx (n : Int) : PyData → Bool
  | .int i => decide (0 ≤ i) && decide (i < n)
  | _ => false
def okS (n w : Nat) (many : Nat) (d : PyData) : Bool :=
  match sqD d with
  | some [a, b] => isIx w a && (match sqD b with
    | some fs => decide (fs.length = n) && fs.all (isIx many)
    | none => false)
  | _ => false
def fbL {β : Type} (okf : β → Bool) : Nat → List β → Option Nat
  | _, [] => none
  | k, x :: xs => if okf x then fbL okf (k + 1) xs else some k
def fb (n w : Nat) (d : PyData) : Option Nat :=
  match sqD d with
  | some (x :: xs) => fbL (okS n w (x :: xs).length) 0 (x :: xs)
  | _ => some 0
def fbV : Option Nat → MV
  | none => .non
  | some i => .int i
theorem bindS_cons_tup (t r : Tg) (x : MV) (xs : List MV) (sl : Sl) : bindS (.cons t r) (.tup (x :: xs)) sl = (bindS t x sl).bind fun sl' => bindS r (.tup xs) sl' := by
  show (match bindS t x sl with | some sl' => _ | none => none) = _
  cases bindS t x sl <;> rfl
@[simp] theorem bindS_nil_tup (sl : Sl) : bindS .nil (.tup []) sl = some sl := (rfl)
theorem forK_find {β : Type} {t : Tg} {b : Sl → Store → R Fl} {f : β → MV} {okf : β → Bool} {Sh : Sl → Prop} {bad : Nat → R Fl} {S : Store} {tk : Tk b} (hbad : ∀ i (g : Fl → Store → R Fl), (∀ v S, g (.rt v) S = some (.ok (.rt v) S)) → (bad i).lb g = bad i) :
    ∀ (xs : List β) (i : Nat) (sl : Sl), Sh sl → (∀ x ∈ xs, ∀ (i : Nat) (sl : Sl), Sh sl → ∃ sl', bindS t (.tup [.int i, f x]) sl = some sl' ∧ (okf x = true → ∃ sl2, Sh sl2 ∧ b sl' S = some (.ok (.nx sl2) S)) ∧ (okf x = false → b sl' S = bad i)) →
    (∀ j, fbL okf i xs = some j → forK t b (enumL i (xs.map f)) sl S tk = bad j) ∧ (fbL okf i xs = none → ∃ sl2, Sh sl2 ∧ forK t b (enumL i (xs.map f)) sl S tk = some (.ok (.nx sl2) S))
  | [], i, sl, hs, _ => ⟨fun j h => (nomatch h), fun _ => ⟨sl, hs, rfl⟩⟩
  | x :: xs, i, sl, hs, h => by
    obtain ⟨sl', h1, h2, h3⟩ := h x List.mem_cons_self i sl hs
    show (∀ j, (if okf x then fbL okf (i + 1) xs else some i) = some j → forK t b (.tup [.int i, f x] :: enumL (i + 1) (xs.map f)) sl S tk = bad j) ∧ ((if okf x then fbL okf (i + 1) xs else some i) = none → ∃ sl2, Sh sl2 ∧ forK t b (.tup [.int i, f x] :: enumL (i + 1) (xs.map f)) sl S tk = some (.ok (.nx sl2) S))
    rw [forK_cons, h1]
    cases hx : okf x with
    | true =>
      obtain ⟨sl2, hs2, h4⟩ := h2 hx
      have ih := forK_find (tk := tk) hbad xs (i + 1) sl2 hs2 fun z hz => h z (List.mem_cons_of_mem _ hz)
      simp [h4]
      exact ih
    | false =>
      simp [h3 hx]
      rw [hbad]
      intro v S; rfl
section
variable {p : Pg} {fuel : Nat}
theorem is_number_run' (B : Base p fuel) {k : Nat} (hk : 1 < k) (c : Nat) (d : PyData) (col cm : Nat) (S : Store) : callN p fuel k "is_number" [cv c d] col cm S = some (.ok (.bl (match d with | .int i => decide (0 ≤ i) | _ => false)) S) := by
  cases d with
  | int i => exact is_number_run B hk i col cm S
  | bool i =>
    rw [callN_run B.is_number (by omega) rfl rfl]
    simp [L.is_number, slots0, Fr.cfg1, is_whole_run B.is_whole (show 0 < k - 1 by omega) (.bl i) true true rfl rfl]
  | none =>
    rw [callN_run B.is_number (by omega) rfl rfl]
    simp [L.is_number, slots0, Fr.cfg1, is_whole_run B.is_whole (show 0 < k - 1 by omega) .non false false rfl rfl]
  | str x =>
    rw [callN_run B.is_number (by omega) rfl rfl]
    simp [L.is_number, slots0, Fr.cfg1, is_whole_run B.is_whole (show 0 < k - 1 by omega) (.str x) false false rfl rfl]
  | list x =>
    rw [callN_run B.is_number (by omega) rfl rfl]
    simp [L.is_number, slots0, Fr.cfg1, is_whole_run B.is_whole (show 0 < k - 1 by omega) (.lst c (cvs c x)) false false rfl rfl]
  | tuple x =>
    rw [callN_run B.is_number (by omega) rfl rfl]
    simp [L.is_number, slots0, Fr.cfg1, is_whole_run B.is_whole (show 0 < k - 1 by omega) (.tup (cvs c x)) false false rfl rfl]
  | dict x =>
    rw [callN_run B.is_number (by omega) rfl rfl]
    simp [L.is_number, slots0, Fr.cfg1, is_whole_run B.is_whole (show 0 < k - 1 by omega) (.dct c false []) false false rfl rfl]
theorem is_index_run (B : Base p fuel) (hp : p.get "is_index" = some L.is_index) {k : Nat} (hk : 2 < k) (c : Nat) (d : PyData) (n : Int) (col cm : Nat) (S : Store) : callN p fuel k "is_index" [cv c d, .int n] col cm S = some (.ok (.bl (isIx n d)) S) := by
  rw [callN_run hp (by omega) rfl rfl]
  have e := is_number_run' B (show 1 < k - 1 by omega) c d col cm S
  cases d with
  | int i =>
    have e' : callN p fuel (k - 1) "is_number" [.int i] col cm S = some (.ok (.bl (decide (0 ≤ i))) S) := e
    by_cases h : 0 ≤ i <;> simp [L.is_index, slots0, Fr.cfg1, e', h, isIx]
  | _ =>
    simp at e
    simp [L.is_index, slots0, Fr.cfg1, e, isIx]
theorem is_row_run (B : Base p fuel) {k : Nat} (hk : 1 < k) (c : Nat) (d : PyData) (n : Int) (col cm : Nat) (S : Store) : callN p fuel k "is_row" [cv c d, .int n] col cm S = some (.ok (.bl (match sqD d with | some xs => decide ((xs.length : Int) = n) | none => false)) S) := by
  rw [callN_run B.is_row (by omega) rfl rfl]
  cases h : sqD d with
  | none =>
    have e := is_list_run (fuel := fuel) B.is_list (show 0 < k - 1 by omega) (cv c d) false (sqD_none h c) col cm S
    simp [L.is_row, slots0, Fr.cfg1, e]
  | some xs =>
    have f := (sqD_isSq h c).f
    have e := is_list_run (fuel := fuel) B.is_list (show 0 < k - 1 by omega) (cv c d) true f.lt col cm S
    simp [L.is_row, slots0, Fr.cfg1, e, f.lk, f.len]

theorem TabOk.row0 {M : Nat} {T : List (List Int)} (hT : TabOk M T) {xs : List MV} (hxs : F2 RowL xs T) : ∃ x0 w, item xs 0 = some x0 ∧ SqF x0 ((T.headD []).map .int) ∧ (T.headD []).length = w ∧ 1 ≤ w ∧ w ≤ M ∧ ∀ r ∈ T, RowOk w r := by
  obtain ⟨g1, g2, w, g3, g4, g5⟩ := hT
  cases T with
  | nil => simp at g1
  | cons r T =>
    obtain ⟨x, h1, h2⟩ := hxs.item (i := 0) (y := r) rfl
    exact ⟨x, w, h1, isSq.f h2, (g5 r List.mem_cons_self).1, g3, g4, g5⟩
theorem is_state_run (B : Base p fuel) (hp : p.get "is_state" = some L.is_state) (hi : p.get "is_index" = some L.is_index) {k : Nat} (hk : 3 < k) {v : MV} {T : List (List Int)} {M : Nat} (hv : TabL v T) (hT : TabOk M T) (hM : M ≤ 1000) (many : Nat) (c : Nat) (d : PyData) (hd : nz d ≤ sizeLine) (col cm : Nat) (S : Store) :
    callN p fuel k "is_state" [v, .int many, cv c d] col cm S = some (.ok (.bl (okS T.length (T.headD []).length many d)) S) := by
  obtain ⟨xs, hx, hxs⟩ := hv
  have f := hx.f
  have hxl : xs.length = T.length := hxs.len
  obtain ⟨x0, w, i0, f0, hw, _⟩ := hT.row0 hxs
  rw [callN_run hp (by omega) rfl rfl]
  have er := fun (d : PyData) (n : Int) => is_row_run (fuel := fuel) B (show 1 < k - 1 by omega) c d n col cm S
  have ei := fun (d : PyData) (n : Int) => is_index_run (fuel := fuel) B hi (show 2 < k - 1 by omega) c d n col cm S
  have bad : ∀ d : PyData, okS T.length (T.headD []).length many d = false → (match sqD d with | some xs => decide ((xs.length : Int) = 2) | none => false) = false →
      endR (exs ⟨callN p fuel (k - 1), col, cm, p.hs, fuel, cm⟩ L.is_state.body (slots0 L.is_state [v, .int many, cv c d]) S) = some (.ok (.bl (okS T.length (T.headD []).length many d)) S) := by
    intro d h1 h2
    rw [h1]
    simp [L.is_state, slots0, tst_un, er, Fr.cfg1]
    rw [h2]
    simp [tst_un, Fr.cfg1]
  cases h : sqD d with
  | none => exact bad d (by simp [okS, h]) (by simp [h])
  | some ys =>
    match ys, h with
    | [a, b], h =>
      have g := (sqD_isSq h c).f
      have hab : okS T.length (T.headD []).length many d = (isIx w a && (match sqD b with | some fs => decide (fs.length = T.length) && fs.all (isIx many) | none => false)) := by simp only [okS, h, hw]
      rw [hab]
      simp [L.is_state, slots0, tst_un, er, h, g.look, g.sub, f.look, f.sub, i0, f0.lk, f0.len, f.lk, f.len, hw, hxl]
      have ei' := ei a w
      rw [show (w : Int) = ((T.headD []).length : Nat) from by rw [hw]] at ei'
      simp at ei'
      simp [ei']
      cases hia : isIx w a with
      | false =>
        have : isIx ((T.head?.getD []).length : Nat) a = false := by rw [← hia, ← hw]; simp
        simp [this, Fr.cfg1]
      | true =>
        have : isIx ((T.head?.getD []).length : Nat) a = true := by rw [← hia, ← hw]; simp
        simp [this, er, g.look, g.sub, f.lk, f.len, hxl]
        cases hb : sqD b with
        | none => simp [Fr.cfg1]
        | some fs =>
          have gb := (sqD_isSq hb c).f
          by_cases hl : fs.length = T.length
          · have hl' : (fs.length : Int) = T.length := by omega
            have hTl : T.length ≤ sizeLine := Nat.le_trans (show T.length ≤ 1000 by have := hT.2.1; omega) (by decide)
            simp [hl, Fr.cfg1, g.look, g.sub, gb.wk]
            rw [cvs_map, lcK_map (g := fun y => MV.bl (isIx many y)) fs (by
              intro y hy
              refine ⟨_, rfl, rfl, ?_⟩
              simp [ei])]
            simp [hl, hTl, biF_all_map]
          · have hl' : ¬ (fs.length : Int) = T.length := by omega
            simp [hl, hl', Fr.cfg1]
    | [], h => exact bad d (by simp [okS, h]) (by simp [h])
    | [a], h => exact bad d (by simp [okS, h]) (by simp [h])
    | a :: b :: e :: r, h => exact bad d (by simp [okS, h]) (by simp [h]; omega)
end
end Mv

end
section
set_option Elab.async false
set_option linter.all false
set_option maxRecDepth 100000
namespace Mv
open PySem
namespace L
def is_machine : Df := ⟨["table", "thing"], 2, (.cons (.expr (.call "check_table" (.cons false (.nm 0) .nil) [])) (.cons (.ret (some (.cmp .is_ (.call "first_bad_state" (.cons false (.nm 0) (.cons false (.nm 1) .nil)) []) (.cn (.non))))) .nil)), 0⟩
def check_rows : Df := ⟨["table", "rows"], 4, (.cons (.ifS (.nt (.call "is_list" (.cons false (.nm 1) .nil) [])) (.cons (.raise "BadRows" (.cn (.int 0))) .nil) .nil) (.cons (.for_ (.cons (.nm 2) (.cons (.nm 3) (.nil))) (.by_ .enumerate (.cons false (.nm 1) .nil)) (.cons (.ifS (.nt (.call "is_index" (.cons false (.nm 3) (.cons false (.bi .len (.cons false (.nm 0) .nil)) .nil)) [])) (.cons (.raise "BadRows" (.nm 2)) .nil) .nil) .nil)) .nil)), 0⟩
def answered : Df := ⟨["table", "machine", "rows"], 3, (.cons (.expr (.call "check_machine" (.cons false (.nm 0) (.cons false (.nm 1) .nil)) [])) (.cons (.expr (.call "check_rows" (.cons false (.nm 0) (.cons false (.nm 2) .nil)) [])) (.cons (.ret (some (.sub (.call "walked" (.cons false (.nm 1) (.cons false (.cn (.int 0)) (.cons false (.nm 2) .nil))) []) (.cn (.int 0))))) .nil))), 0⟩
def total_of : Df := ⟨["table", "cells"], 4, (.cons (.ret (some (.bi .sum (.cons false (.lc (.sub (.sub (.nm 0) (.nm 2)) (.nm 3)) (.cons (.nm 2) (.cons (.nm 3) (.nil))) (.val (.nm 1)) .nil [2, 3]) .nil)))) .nil), 0⟩
def sum_of : Df := ⟨["table", "machine", "rows"], 3, (.cons (.ret (some (.call "total_of" (.cons false (.nm 0) (.cons false (.call "answered" (.cons false (.nm 0) (.cons false (.nm 1) (.cons false (.nm 2) .nil))) []) .nil)) []))) .nil), 0⟩
def _law_first_bad : Df := ⟨["table", "thing"], 6, (.cons (.ifS (.orE (.nt (.isi (.nm 1) true [.list, .tuple])) (.cons false (.cmp .eq (.bi .len (.cons false (.nm 1) .nil)) (.cn (.int 0))) .nil)) (.cons (.ret (some (.cn (.int 0)))) .nil) .nil) (.cons (.for_ (.cons (.nm 2) (.cons (.nm 3) (.nil))) (.by_ .enumerate (.cons false (.nm 1) .nil)) (.cons (.set 4 false (.andE (.isi (.nm 3) true [.list, .tuple]) (.cons false (.cmp .eq (.bi .len (.cons false (.nm 3) .nil)) (.cn (.int 2))) (.cons false (.call "_law_is_whole" (.cons false (.sub (.nm 3) (.cn (.int 0))) .nil) []) (.cons false (.chain .le .lt (.cn (.int 0)) (.sub (.nm 3) (.cn (.int 0))) (.bi .len (.cons false (.sub (.nm 0) (.cn (.int 0))) .nil))) .nil))))) (.cons (.set 4 false (.andE (.nm 4) (.cons false (.isi (.sub (.nm 3) (.cn (.int 1))) true [.list, .tuple]) (.cons false (.cmp .eq (.bi .len (.cons false (.sub (.nm 3) (.cn (.int 1))) .nil)) (.bi .len (.cons false (.nm 0) .nil))) .nil)))) (.cons (.ifS (.orE (.nt (.nm 4)) (.cons false (.nt (.bi .all (.cons false (.lc (.andE (.call "_law_is_whole" (.cons false (.nm 5) .nil) []) (.cons false (.chain .le .lt (.cn (.int 0)) (.nm 5) (.bi .len (.cons false (.nm 1) .nil))) .nil)) (.nm 5) (.val (.sub (.nm 3) (.cn (.int 1)))) .nil [5]) .nil))) .nil)) (.cons (.ret (some (.nm 2))) .nil) .nil) .nil)))) (.cons (.ret (some (.cn (.non)))) .nil))), 0⟩
end L
structure MBase (p : Pg) (fuel : Nat) : Prop extends Base p fuel where
  is_index : p.get "is_index" = some L.is_index
  is_state : p.get "is_state" = some L.is_state
  first_bad_state : p.get "first_bad_state" = some L.first_bad_state
  check_machine : p.get "check_machine" = some L.check_machine
  machine : p.get "_law_machine" = some L._law_machine
  machine_handed : p.get "_law_machine_handed" = some L._law_machine_handed
  law_walk : p.get "_law_walk" = some L.walked
theorem lb_rt (v : MV) (S : Store) (g : Fl → Store → R Fl) (h : ∀ v S, g (.rt v) S = some (.ok (.rt v) S)) : R.lb (some (.ok (.rt v) S)) g = some (.ok (.rt v) S) := h v S
section
variable {p : Pg} {fuel : Nat}
theorem first_bad_run (B : MBase p fuel) {k : Nat} (hk : 4 < k) {v : MV} {T : List (List Int)} {M : Nat} (hv : TabL v T) (hT : TabOk M T) (hM : M ≤ 1000) (c : Nat) (d : PyData) (hd : nz d ≤ 1000) (col cm : Nat) (S : Store) :
    callN p fuel k "first_bad_state" [v, cv c d] col cm S = some (.ok (fbV (fb T.length (T.headD []).length d)) S) := by
  rw [callN_run B.first_bad_state (by omega) rfl rfl]
  cases h : sqD d with
  | none =>
    have e := is_list_run (fuel := fuel) B.is_list (show 0 < k - 1 by omega) (cv c d) false (sqD_none h c) col cm S
    simp [L.first_bad_state, slots0, tst_un, e, Fr.cfg1, fb, h, fbV]
  | some xs =>
    have f := (sqD_isSq h c).f
    have e := is_list_run (fuel := fuel) B.is_list (show 0 < k - 1 by omega) (cv c d) true f.lt col cm S
    cases xs with
    | nil => simp [L.first_bad_state, slots0, tst_un, e, Fr.cfg1, fb, h, fbV, f.lk, f.len]
    | cons x xs =>
      have hne : ¬ ((xs.length : Int) + 1 = 0) := by omega
      have hfd : fb T.length (T.headD []).length d = fbL (okS T.length (T.headD []).length (x :: xs).length) 0 (x :: xs) := by simp only [fb, h]
      rw [hfd]
      have hnz : nzs (x :: xs) ≤ 1000 := by
        cases d <;> simp [sqD] at h
        · subst h; simp only [nz] at hd; omega
        · subst h; simp only [nz] at hd; omega
      simp [L.first_bad_state, slots0, tst_un, e, f.lk, f.len, hne, seW_by, seL_un, oldL_eq, f.enum]
      have key := forK_find (t := .cons (.nm 2) (.cons (.nm 3) .nil)) (b := fun sl S => exs ⟨callN p fuel (k - 1), col, cm, p.hs, fuel, cm⟩ (.cons (.ifS (.nt (.call "is_state" (.cons false (.nm 0) (.cons false (.bi .len (.cons false (.nm 1) .nil)) (.cons false (.nm 3) .nil))) [])) (.cons (.ret (some (.nm 2))) .nil) .nil) .nil) sl S)
        (f := cv c) (okf := okS T.length (T.headD []).length (x :: xs).length) (Sh := fun sl => ∃ s2 s3, sl = [.val v, .val (cv c d), s2, s3] ∧ s2.isOwn = false ∧ s3.isOwn = false) (bad := fun i => some (.ok (.rt (.int i)) S)) (S := S) (tk := .mk)
        (fun i g hg => lb_rt _ _ g hg) (x :: xs) 0 [.val v, .val (cv c d), .un, .un] ⟨_, _, rfl, rfl, rfl⟩ (by
          rintro y hy i sl ⟨s2, s3, rfl, hs2, hs3⟩
          have es := is_state_run (fuel := fuel) B.toBase B.is_state B.is_index (show 3 < k - 1 by omega) hv hT hM (x :: xs).length c y (Nat.le_trans (nz_mem hy) (Nat.le_trans hnz (by decide))) col cm S
          simp at es
          refine ⟨_, by simp [bindS_cons_tup]; rfl, ?_, ?_⟩
          · intro ho
            simp at ho
            refine ⟨_, ⟨.val (.int i), .val (cv c y), rfl, rfl, rfl⟩, ?_⟩
            simp [tst_un, f.lk, f.len, es, ho]
          · intro ho
            simp at ho
            simp [tst_un, f.lk, f.len, es, ho, Fr.cfg1])
      rw [← cvs_map] at key
      simp at key
      generalize hg : fbL (okS T.length (T.head?.getD []).length (xs.length + 1)) 0 (x :: xs) = o at key
      cases o with
      | some j =>
        have := key.1 j rfl
        simp [this, fbV]
      | none =>
        obtain ⟨sl2, _, h2⟩ := key.2 rfl
        simp [h2, fbV, Fr.cfg1]
theorem check_machine_run (B : MBase p fuel) {k : Nat} (hk : 5 < k) {v : MV} {T : List (List Int)} {M : Nat} (hv : TabL v T) (hT : TabOk M T) (hM : M ≤ 1000) (c : Nat) (d : PyData) (hd : nz d ≤ 1000) (col cm : Nat) (S : Store) :
    callN p fuel k "check_machine" [v, cv c d] col cm S = match fb T.length (T.headD []).length d with | none => some (.ok .non S) | some i => some (.exc "BadMachine" (.int i) S) := by
  have e1 := check_table_run (fuel := fuel) B.toBase (show 2 < k - 1 by omega) hv hT hM col cm S
  have e2 := first_bad_run (fuel := fuel) B (show 4 < k - 1 by omega) hv hT hM c d hd col cm S
  rw [callN_run B.check_machine (by omega) rfl rfl]
  cases h : fb T.length (T.headD []).length d with
  | none =>
    rw [h] at e2
    simp [L.check_machine, slots0, se_un, seO_un, tst_un, e1, e2, fbV, isNon]
  | some i =>
    rw [h] at e2
    simp [L.check_machine, slots0, se_un, seO_un, tst_un, e1, e2, fbV, isNon, Fr.cfg1]

def stp (m : List (Int × List Int)) (s : Int) : Int × List Int := m[s.toNat]?.getD (0, [])
def wk (m : List (Int × List Int)) : Int → List Int → List (Int × Int) × Int
  | s, [] => ([], s)
  | s, r :: rs => ((r, (stp m s).1) :: (wk m ((stp m s).2[r.toNat]?.getD 0) rs).1, (wk m ((stp m s).2[r.toNat]?.getD 0) rs).2)
def celV (q : Int × Int) : MV := .tup [.int q.1, .int q.2]
theorem stp_in {n w : Nat} {m : List (Int × List Int)} (hm : MacOk n w m) {s : Int} (h0 : 0 ≤ s) (h1 : s < m.length) {xs : List MV} (hxs : F2 StL xs m) :
    ∃ x y, item xs s = some x ∧ SqF x [.int (stp m s).1, y] ∧ SqF y ((stp m s).2.map .int) ∧ 0 ≤ (stp m s).1 ∧ (stp m s).1 < w ∧ ∀ r : Int, 0 ≤ r → r < n →
      item ((stp m s).2.map .int) r = some (.int ((stp m s).2[r.toNat]?.getD 0)) ∧ 0 ≤ (stp m s).2[r.toNat]?.getD 0 ∧ (stp m s).2[r.toNat]?.getD 0 < m.length := by
  obtain ⟨i, rfl⟩ : ∃ i : Nat, s = i := ⟨s.toNat, by omega⟩
  have hi : i < m.length := by omega
  have e : m[i]? = some m[i] := List.getElem?_eq_getElem hi
  have es : stp m i = m[i] := by simp [stp, e]
  obtain ⟨x, h2, y, h3, h4⟩ := hxs.item e
  have hq := hm.2.2 m[i] (List.getElem_mem hi)
  rw [es]
  refine ⟨x, y, h2, h3.f, isSq.f h4, hq.1, hq.2.1, ?_⟩
  intro r hr0 hr1
  obtain ⟨j, rfl⟩ : ∃ j : Nat, r = j := ⟨r.toNat, by omega⟩
  have hj : j < m[i].2.length := by rw [hq.2.2.1]; omega
  have ej : m[i].2[j]? = some m[i].2[j] := List.getElem?_eq_getElem hj
  have := hq.2.2.2 _ (List.getElem_mem hj)
  rw [item_nat]
  simp [ej]
  exact this
theorem wk_in {n w : Nat} {m : List (Int × List Int)} (hm : MacOk n w m) : ∀ (rows : List Int) (s : Int), 0 ≤ s → s < m.length → (∀ r ∈ rows, 0 ≤ r ∧ r < n) → (∀ q ∈ (wk m s rows).1, 0 ≤ q.1 ∧ q.1 < n ∧ 0 ≤ q.2 ∧ q.2 < w) ∧ (wk m s rows).1.length = rows.length
  | [], s, _, _, _ => ⟨fun q hq => (nomatch hq), rfl⟩
  | r :: rs, s, h0, h1, hr => by
    have hi : s.toNat < m.length := by omega
    have e : m[s.toNat]? = some m[s.toNat] := List.getElem?_eq_getElem hi
    have es : stp m s = m[s.toNat] := by simp [stp, e]
    have hq := hm.2.2 m[s.toNat] (List.getElem_mem hi)
    have hr0 := hr r List.mem_cons_self
    have hj : r.toNat < m[s.toNat].2.length := by rw [hq.2.2.1]; omega
    have ej : m[s.toNat].2[r.toNat]? = some m[s.toNat].2[r.toNat] := List.getElem?_eq_getElem hj
    have hf := hq.2.2.2 _ (List.getElem_mem hj)
    have ih := wk_in hm rs ((stp m s).2[r.toNat]?.getD 0) (by rw [es, ej]; exact hf.1) (by rw [es, ej]; exact hf.2) fun x hx => hr x (List.mem_cons_of_mem _ hx)
    refine ⟨?_, by simp only [wk, List.length_cons, ih.2]⟩
    intro q hq'
    rcases List.mem_cons.mp hq' with rfl | hq'
    · rw [es]; exact ⟨hr0.1, hr0.2, hq.1, hq.2.1⟩
    · exact ih.1 q hq'
theorem walked_run {x : Str} (hp : p.get x = some L.walked) {k : Nat} (hk : 0 < k) {v rv : MV} {n w : Nat} {m : List (Int × List Int)} (hm : MacOk n w m) (hv : MacL v m) {rows : List Int} (hrv : RowL rv rows) (hr : ∀ r ∈ rows, 0 ≤ r ∧ r < n) (hl : rows.length ≤ 1000)
    {s : Int} {cm : Nat} (hrc : colsLt cm rv = true) (h0 : 0 ≤ s) (h1 : s < m.length) (col : Nat) (S : Store) :
    callN p fuel k x [v, .int s, rv] col cm S = some (.ok (.tup [.lst col ((wk m s rows).1.map celV), .int (wk m s rows).2]) S) := by
  obtain ⟨xs, hx, hxs⟩ := hv
  have f := hx.f
  have fr := isSq.f hrv
  rw [callN_run hp hk rfl rfl]
  have loop : ∀ (rs : List Int) (s : Int) (acc : List MV) (s4 : SV), s4.isOwn = false → 0 ≤ s → s < m.length → (∀ r ∈ rs, 0 ≤ r ∧ r < n) → acc.length + rs.length ≤ 1000 →
      ∃ s4', forK (.nm 4) (fun sl S => exs ⟨callN p fuel (k - 1), col, cm, p.hs, fuel, cm⟩ (.cons (.append 3 (.tup (.cons false (.nm 4) (.cons false (.sub (.sub (.nm 0) (.nm 1)) (.cn (.int 0))) .nil)))) (.cons (.set 1 false (.sub (.sub (.sub (.nm 0) (.nm 1)) (.cn (.int 1))) (.nm 4))) .nil)) sl S)
        (rs.map .int) [.val v, .val (.int s), .val rv, .ol acc, s4] S = some (.ok (.nx [.val v, .val (.int (wk m s rs).2), .val rv, .ol (acc ++ (wk m s rs).1.map celV), s4']) S) := by
    intro rs
    induction rs with
    | nil => intro s acc s4 _ _ _ _ _; exact ⟨s4, by simp [wk]⟩
    | cons r rs ih =>
      intro s acc s4 hs4 h0 h1 hr hl
      have hr0 := hr r List.mem_cons_self
      obtain ⟨x, y, i1, fx, fy, _, _, hall⟩ := stp_in hm h0 h1 hxs
      obtain ⟨i2, h2, h3⟩ := hall r hr0.1 hr0.2
      obtain ⟨s4', ih⟩ := ih ((stp m s).2[r.toNat]?.getD 0) (acc ++ [celV (r, (stp m s).1)]) (.val (.int r)) rfl h2 h3 (fun z hz => hr z (List.mem_cons_of_mem _ hz)) (by simp at hl ⊢; omega)
      refine ⟨s4', ?_⟩
      simp only [List.length_cons] at hl
      have hal : acc.length < sizeLine := Nat.lt_of_lt_of_le (show acc.length < 1001 by omega) (by decide)
      simp only [List.map_cons]
      rw [forK_cons]
      simp [celV] at ih
      simp [se_ow, seO_ow, f.look, f.sub, i1, fx.look, fx.sub, fy.look, fy.sub, i2, okO_val, colsLt_tup, colsLtL_cons, colsLtL_nilP, hal, ih, wk, celV, Function.comp_def]
  obtain ⟨s4', e⟩ := loop rows s [] .un rfl h0 h1 hr (by simpa using hl)
  simp at e
  simp [L.walked, slots0, seO_un, seW_val, se_ow, okO_val, old_eq, fr.wk, hrc, e, Fr.cfg1]

def rb (n : Nat) (d : PyData) : Option Nat :=
  match sqD d with
  | some xs => fbL (isIx n) 0 xs
  | none => some 0
theorem check_rows_run (B : MBase p fuel) (hp : p.get "check_rows" = some L.check_rows) {k : Nat} (hk : 3 < k) {v : MV} {T : List (List Int)} (hv : TabL v T) (c : Nat) (d : PyData) (col cm : Nat) (S : Store) :
    callN p fuel k "check_rows" [v, cv c d] col cm S = match rb T.length d with | none => some (.ok .non S) | some i => some (.exc "BadRows" (.int i) S) := by
  obtain ⟨xs, hx, hxs⟩ := hv
  have f := hx.f
  have hxl : xs.length = T.length := hxs.len
  rw [callN_run hp (by omega) rfl rfl]
  cases h : sqD d with
  | none =>
    have e := is_list_run (fuel := fuel) B.is_list (show 0 < k - 1 by omega) (cv c d) false (sqD_none h c) col cm S
    simp [L.check_rows, slots0, tst_un, e, Fr.cfg1, rb, h]
  | some ys =>
    have g := (sqD_isSq h c).f
    have e := is_list_run (fuel := fuel) B.is_list (show 0 < k - 1 by omega) (cv c d) true g.lt col cm S
    simp [L.check_rows, slots0, tst_un, e, rb, h, g.lk, seW_by, seL_un, oldL_eq, g.enum]
    have key := forK_find (t := .cons (.nm 2) (.cons (.nm 3) .nil)) (b := fun sl S => exs ⟨callN p fuel (k - 1), col, cm, p.hs, fuel, cm⟩ (.cons (.ifS (.nt (.call "is_index" (.cons false (.nm 3) (.cons false (.bi .len (.cons false (.nm 0) .nil)) .nil)) [])) (.cons (.raise "BadRows" (.nm 2)) .nil) .nil) .nil) sl S)
      (f := cv c) (okf := isIx T.length) (Sh := fun sl => ∃ s2 s3, sl = [.val v, .val (cv c d), s2, s3] ∧ s2.isOwn = false ∧ s3.isOwn = false) (bad := fun i => some (.exc "BadRows" (.int i) S)) (S := S) (tk := .mk)
      (fun i g hg => rfl) ys 0 [.val v, .val (cv c d), .un, .un] ⟨_, _, rfl, rfl, rfl⟩ (by
        rintro y hy i sl ⟨s2, s3, rfl, hs2, hs3⟩
        have es := is_index_run (fuel := fuel) B.toBase B.is_index (show 2 < k - 1 by omega) c y T.length col cm S
        refine ⟨_, by simp [bindS_cons_tup]; rfl, ?_, ?_⟩
        · intro ho
          refine ⟨_, ⟨.val (.int i), .val (cv c y), rfl, rfl, rfl⟩, ?_⟩
          simp [tst_un, f.lk, f.len, hxl, es, ho]
        · intro ho
          simp [tst_un, f.lk, f.len, hxl, es, ho, Fr.cfg1])
    rw [← cvs_map] at key
    generalize hg : fbL (isIx T.length) 0 ys = o at key
    cases o with
    | some j =>
      have := key.1 j rfl
      simp [this]
    | none =>
      obtain ⟨sl2, _, h2⟩ := key.2 rfl
      simp [h2]
theorem fbL_none {β : Type} {okf : β → Bool} : ∀ {xs : List β} {k : Nat}, (∀ x ∈ xs, okf x = true) → fbL okf k xs = none
  | [], _, _ => rfl
  | x :: xs, k, h => by
    show (if okf x then fbL okf (k + 1) xs else some k) = none
    rw [h x List.mem_cons_self]
    exact fbL_none fun z hz => h z (List.mem_cons_of_mem _ hz)
theorem fbL_map {β γ : Type} {okf : β → Bool} {okg : γ → Bool} {f : γ → β} (h : ∀ x, okf (f x) = okg x) : ∀ (xs : List γ) (k : Nat), fbL okf k (xs.map f) = fbL okg k xs
  | [], _ => rfl
  | x :: xs, k => by
    show (if okf (f x) then fbL okf (k + 1) (xs.map f) else some k) = if okg x then fbL okg (k + 1) xs else some k
    rw [h x, fbL_map h xs]
theorem sqD_nf (d : PyData) : sqD (nf d) = (sqD d).map nfs := by cases d <;> rfl
theorem isIx_nf (n : Int) (d : PyData) : isIx n (nf d) = isIx n d := by cases d <;> rfl
theorem okS_nf (n w many : Nat) (d : PyData) : okS n w many (nf d) = okS n w many d := by
  simp only [okS, sqD_nf]
  cases sqD d with
  | none => rfl
  | some xs =>
    match xs with
    | [a, b] =>
      simp only [Option.map_some, nfs, isIx_nf, sqD_nf]
      cases sqD b with
      | none => rfl
      | some fs =>
        simp only [Option.map_some, nfs_map, List.length_map, List.all_map]
        congr 2
        congr 1
        funext z
        exact isIx_nf many z
    | [] => rfl
    | [a] => rfl
    | a :: b :: c :: r => simp [nfs]
theorem fb_nf (n w : Nat) (d : PyData) : fb n w (nf d) = fb n w d := by
  simp only [fb, sqD_nf]
  cases sqD d with
  | none => rfl
  | some xs =>
    cases xs with
    | nil => rfl
    | cons x xs =>
      simp only [Option.map_some, nfs]
      have := fbL_map (okf := okS n w (nf x :: nfs xs).length) (okg := okS n w (x :: xs).length) (f := nf) (fun z => by rw [okS_nf]; simp) (x :: xs) 0
      rw [← this, nfs_map]; rfl
theorem rb_nf (n : Nat) (d : PyData) : rb n (nf d) = rb n d := by
  simp only [rb, sqD_nf]
  cases sqD d with
  | none => rfl
  | some xs =>
    simp only [Option.map_some, nfs_map]
    exact fbL_map (fun z => isIx_nf _ z) xs 0
theorem fb_mN {n w : Nat} {m : List (Int × List Int)} (hm : MacOk n w m) : fb n w (mN m) = none := by
  obtain ⟨h1, h2, h3⟩ := hm
  cases m with
  | nil => simp at h1
  | cons q m =>
    show fbL (okS n w _) 0 _ = none
    refine fbL_none ?_
    intro x hx
    obtain ⟨q', hq', rfl⟩ := List.mem_map.mp (show x ∈ (q :: m).map fun q => PyData.list [.int q.1, rD q.2] from hx)
    have hq := h3 q' hq'
    have hl : ((q :: m).map fun q => PyData.list [.int q.1, rD q.2]).length = (q :: m).length := by simp
    simp only [okS, sqD, rD, isIx]
    simp only [List.length_map, hq.2.2.1, decide_true, Bool.true_and]
    simp only [hq.1, hq.2.1, decide_true, Bool.true_and, Bool.and_true, List.all_map, List.all_eq_true]
    intro e he
    have := hq.2.2.2 e he
    simp only [Function.comp, isIx, Bool.and_eq_true, decide_eq_true_eq]
    simp only [List.length_cons] at this
    simp
    omega
theorem rb_rD {n : Nat} {rows : List Int} (h : ∀ r ∈ rows, 0 ≤ r ∧ r < n) : rb n (rD rows) = none := by
  show fbL _ 0 _ = none
  refine fbL_none ?_
  intro x hx
  obtain ⟨r, hr, rfl⟩ := List.mem_map.mp hx
  have := h r hr
  simp only [isIx, Bool.and_eq_true, decide_eq_true_eq]
  exact this
def tget (T : List (List Int)) (q : Int × Int) : Int := ((T[q.1.toNat]?.getD [])[q.2.toNat]?).getD 0
theorem tget_in {M : Nat} {T : List (List Int)} (hT : TabOk M T) {xs : List MV} (hxs : F2 RowL xs T) {q : Int × Int} (h : 0 ≤ q.1 ∧ q.1 < T.length ∧ 0 ≤ q.2 ∧ q.2 < (T.headD []).length) :
    ∃ x ys, item xs q.1 = some x ∧ SqF x ys ∧ item ys q.2 = some (.int (tget T q)) ∧ -2000 ≤ tget T q ∧ tget T q ≤ 2000 := by
  obtain ⟨x0, w, i0, f0, hw, hw1, hw2, hall⟩ := hT.row0 hxs
  obtain ⟨a, b⟩ := q
  obtain ⟨i, rfl⟩ : ∃ i : Nat, a = i := ⟨a.toNat, by have := h.1; simp at this; omega⟩
  obtain ⟨j, rfl⟩ : ∃ j : Nat, b = j := ⟨b.toNat, by have := h.2.2.1; simp at this; omega⟩
  have hi : i < T.length := by have := h.2.1; simp at this; omega
  have hr := hall T[i] (List.getElem_mem hi)
  have hj : j < T[i].length := by have := h.2.2.2; rw [hr.1]; rw [hw] at this; simp at this; omega
  have e : T[i]? = some T[i] := List.getElem?_eq_getElem hi
  have e2 : T[i][j]? = some T[i][j] := List.getElem?_eq_getElem hj
  obtain ⟨x, h2, h3⟩ := hxs.item e
  refine ⟨x, _, h2, isSq.f h3, ?_, ?_⟩
  · rw [item_nat]; simp [tget, e, e2]
  · simp [tget, e, e2]; exact hr.2 _ (List.getElem_mem hj)
theorem allInts_map {β : Type} (g : β → Int) : ∀ xs : List β, allInts (xs.map fun q => MV.int (g q)) = some (xs.map g)
  | [] => rfl
  | x :: xs => by
    show (allInts (xs.map fun q => MV.int (g q))).map _ = _
    rw [allInts_map g xs]; rfl
theorem biF_sum_map {β : Type} (c : Nat) (g : β → Int) (xs : List β) : biF .sum [.lst c (xs.map fun q => MV.int (g q))] = some (.val (.int (xs.map g).sum)) := by
  show (match allInts (xs.map fun q => MV.int (g q)) with | some ns => some (OV.val (.int ns.sum)) | none => none) = _
  rw [allInts_map]
theorem total_of_run (hp : p.get "total_of" = some L.total_of) {k : Nat} (hk : 0 < k) {v : MV} {T : List (List Int)} {M : Nat} (hv : TabL v T) (hT : TabOk M T) {cells : List (Int × Int)} (hc : ∀ q ∈ cells, 0 ≤ q.1 ∧ q.1 < T.length ∧ 0 ≤ q.2 ∧ q.2 < (T.headD []).length) (hl : cells.length ≤ 1000)
    (c col cm : Nat) (S : Store) : callN p fuel k "total_of" [v, .lst c (cells.map celV)] col cm S = some (.ok (.int (cells.map (tget T)).sum) S) := by
  obtain ⟨xs, hx, hxs⟩ := hv
  have f := hx.f
  rw [callN_run hp hk rfl rfl]
  have hl' : cells.length ≤ sizeLine := Nat.le_trans hl (by decide)
  simp [L.total_of, slots0, Fr.cfg1]
  rw [lcK_map (g := fun q => MV.int (tget T q)) cells (by
    intro q hq
    obtain ⟨x, ys, i1, fx, i2, _⟩ := tget_in hT hxs (hc q hq)
    refine ⟨_, rfl, rfl, ?_⟩
    simp [f.look, f.sub, i1, fx.look, fx.sub, i2])]
  simp [hl', biF_sum_map]

structure MBase79 (p : Pg) (fuel : Nat) : Prop extends MBase p fuel where
  check_rows : p.get "check_rows" = some L.check_rows
  walked : p.get "walked" = some L.walked
  answered : p.get "answered" = some L.answered
  total_of : p.get "total_of" = some L.total_of
  sum_of : p.get "sum_of" = some L.sum_of
  is_machine : p.get "is_machine" = some L.is_machine
  law_is_whole : p.get "_law_is_whole" = some L._law_is_whole
  law_first_bad : p.get "_law_first_bad" = some L._law_first_bad
theorem answered_bm (B : MBase79 p fuel) {k : Nat} (hk : 6 < k) {v : MV} {T : List (List Int)} {M : Nat} (hv : TabL v T) (hT : TabOk M T) (hM : M ≤ 1000) (c : Nat) (d : PyData) (hd : nz d ≤ 1000) {i : Nat} (hfb : fb T.length (T.headD []).length d = some i) (rv : MV) (col cm : Nat) (S : Store) :
    callN p fuel k "answered" [v, cv c d, rv] col cm S = some (.exc "BadMachine" (.int i) S) := by
  have e1 := check_machine_run (fuel := fuel) B.toMBase (show 5 < k - 1 by omega) hv hT hM c d hd col cm S
  rw [hfb] at e1
  rw [callN_run B.answered (by omega) rfl rfl]
  simp at e1
  simp [L.answered, slots0, se_un, e1]
theorem answered_br (B : MBase79 p fuel) {k : Nat} (hk : 6 < k) {v : MV} {T : List (List Int)} {M : Nat} (hv : TabL v T) (hT : TabOk M T) (hM : M ≤ 1000) (c : Nat) (d : PyData) (hd : nz d ≤ 1000) (hfb : fb T.length (T.headD []).length d = none) (c2 : Nat) (d2 : PyData) {i : Nat} (hrb : rb T.length d2 = some i) (col cm : Nat) (S : Store) :
    callN p fuel k "answered" [v, cv c d, cv c2 d2] col cm S = some (.exc "BadRows" (.int i) S) := by
  have e1 := check_machine_run (fuel := fuel) B.toMBase (show 5 < k - 1 by omega) hv hT hM c d hd col cm S
  have e2 := check_rows_run (fuel := fuel) B.toMBase B.check_rows (show 3 < k - 1 by omega) hv c2 d2 col cm S
  rw [hfb] at e1
  rw [hrb] at e2
  rw [callN_run B.answered (by omega) rfl rfl]
  simp at e1 e2
  simp [L.answered, slots0, se_un, e1, e2]
theorem answered_ok (B : MBase79 p fuel) {k : Nat} (hk : 6 < k) {v : MV} {T : List (List Int)} {M : Nat} (hv : TabL v T) (hT : TabOk M T) (hM : M ≤ 1000) (c : Nat) (d : PyData) (hd : nz d ≤ 1000) {m : List (Int × List Int)} (hm : MacOk T.length (T.headD []).length m) (hdm : nf d = mN m)
    {c2 : Nat} {d2 : PyData} {rows : List Int} (hr : nf d2 = rD rows) (hrr : ∀ r ∈ rows, 0 ≤ r ∧ r < T.length) (hl : rows.length ≤ 1000) {cm : Nat} (hc2 : c2 < cm) (col : Nat) (S : Store) :
    callN p fuel k "answered" [v, cv c d, cv c2 d2] col cm S = some (.ok (.lst col ((wk m 0 rows).1.map celV)) S) := by
  have e1 := check_machine_run (fuel := fuel) B.toMBase (show 5 < k - 1 by omega) hv hT hM c d hd col cm S
  have e2 := check_rows_run (fuel := fuel) B.toMBase B.check_rows (show 3 < k - 1 by omega) hv c2 d2 col cm S
  rw [← fb_nf, hdm, fb_mN hm] at e1
  rw [← rb_nf, hr, rb_rD hrr] at e2
  have e3 := walked_run (fuel := fuel) B.walked (show 0 < k - 1 by omega) hm (MacL_of hdm c) (RowL_of hr c2) hrr hl (colsLt_cv hc2 d2) (Int.le_refl 0) (by have := hm.1; omega) col S
  rw [callN_run B.answered (by omega) rfl rfl]
  simp at e1 e2 e3
  simp [L.answered, slots0, se_un, e1, e2, e3, Fr.cfg1]
end
end Mv

end
section
set_option Elab.async false
set_option linter.all false
set_option maxRecDepth 100000
namespace Mv
open PySem
section
variable {p : Pg} {fuel : Nat}
theorem sum_of_bm (B : MBase79 p fuel) {k : Nat} (hk : 7 < k) {v : MV} {T : List (List Int)} {M : Nat} (hv : TabL v T) (hT : TabOk M T) (hM : M ≤ 1000) (c : Nat) (d : PyData) (hd : nz d ≤ 1000) {i : Nat} (hfb : fb T.length (T.headD []).length d = some i) (rv : MV) (col cm : Nat) (S : Store) :
    callN p fuel k "sum_of" [v, cv c d, rv] col cm S = some (.exc "BadMachine" (.int i) S) := by
  have e1 := answered_bm (fuel := fuel) B (show 6 < k - 1 by omega) hv hT hM c d hd hfb rv col cm S
  rw [callN_run B.sum_of (by omega) rfl rfl]
  simp [L.sum_of, slots0, Fr.cfg1, e1]
theorem sum_of_br (B : MBase79 p fuel) {k : Nat} (hk : 7 < k) {v : MV} {T : List (List Int)} {M : Nat} (hv : TabL v T) (hT : TabOk M T) (hM : M ≤ 1000) (c : Nat) (d : PyData) (hd : nz d ≤ 1000) (hfb : fb T.length (T.headD []).length d = none) (c2 : Nat) (d2 : PyData) {i : Nat} (hrb : rb T.length d2 = some i) (col cm : Nat) (S : Store) :
    callN p fuel k "sum_of" [v, cv c d, cv c2 d2] col cm S = some (.exc "BadRows" (.int i) S) := by
  have e1 := answered_br (fuel := fuel) B (show 6 < k - 1 by omega) hv hT hM c d hd hfb c2 d2 hrb col cm S
  rw [callN_run B.sum_of (by omega) rfl rfl]
  simp [L.sum_of, slots0, Fr.cfg1, e1]
theorem sum_of_ok (B : MBase79 p fuel) {k : Nat} (hk : 7 < k) {v : MV} {T : List (List Int)} {M : Nat} (hv : TabL v T) (hT : TabOk M T) (hM : M ≤ 1000) (c : Nat) (d : PyData) (hd : nz d ≤ 1000) {m : List (Int × List Int)} (hm : MacOk T.length (T.headD []).length m) (hdm : nf d = mN m)
    {c2 : Nat} {d2 : PyData} {rows : List Int} (hr : nf d2 = rD rows) (hrr : ∀ r ∈ rows, 0 ≤ r ∧ r < T.length) (hl : rows.length ≤ 1000) {cm : Nat} (hc2 : c2 < cm) (col : Nat) (S : Store) :
    callN p fuel k "sum_of" [v, cv c d, cv c2 d2] col cm S = some (.ok (.int ((wk m 0 rows).1.map (tget T)).sum) S) := by
  have e1 := answered_ok (fuel := fuel) B (show 6 < k - 1 by omega) hv hT hM c d hd hm hdm hr hrr hl hc2 col S
  have hw := wk_in hm rows 0 (by omega) (by have := hm.1; omega) hrr
  have e2 := total_of_run (fuel := fuel) B.total_of (show 0 < k - 1 by omega) hv hT (cells := (wk m 0 rows).1) hw.1 (by rw [hw.2]; exact hl) col col cm S
  rw [callN_run B.sum_of (by omega) rfl rfl]
  simp [L.sum_of, slots0, Fr.cfg1, e1, e2]
theorem is_machine_run (B : MBase79 p fuel) {k : Nat} (hk : 5 < k) {v : MV} {T : List (List Int)} {M : Nat} (hv : TabL v T) (hT : TabOk M T) (hM : M ≤ 1000) (c : Nat) (d : PyData) (hd : nz d ≤ 1000) (col cm : Nat) (S : Store) :
    callN p fuel k "is_machine" [v, cv c d] col cm S = some (.ok (.bl (fb T.length (T.headD []).length d).isNone) S) := by
  have e1 := check_table_run (fuel := fuel) B.toBase (show 2 < k - 1 by omega) hv hT hM col cm S
  have e2 := first_bad_run (fuel := fuel) B.toMBase (show 4 < k - 1 by omega) hv hT hM c d hd col cm S
  rw [callN_run B.is_machine (by omega) rfl rfl]
  simp at e2
  cases h : fb T.length (T.headD []).length d <;> simp at h <;> rw [h] at e2 <;> simp [L.is_machine, slots0, se_un, e1, e2, fbV, isNon, Fr.cfg1]
def isI : PyData → Bool
  | .int _ => true
  | _ => false
def farOk (n many : Nat) (b : PyData) : Bool :=
  match sqD b with
  | some fs => decide (fs.length = n) && fs.all (isIx many)
  | none => false
theorem okS_two {n w many : Nat} {d a b : PyData} (h : sqD d = some [a, b]) : okS n w many d = (isIx w a && farOk n many b) := by
  unfold okS farOk
  rw [h]
  try rfl
/-- what the law asks of one state -/
theorem law_whole_run (B : MBase79 p fuel) {k : Nat} (hk : 0 < k) (c : Nat) (d : PyData) (col cm : Nat) (S : Store) :
    callN p fuel k "_law_is_whole" [cv c d] col cm S = some (.ok (.bl (isI d)) S) := by
  rw [callN_run B.law_is_whole hk rfl rfl]
  cases d <;> simp [L._law_is_whole, slots0, Fr.cfg1, isI]
def inR (n : Int) : PyData → Bool
  | .int i => decide (0 ≤ i) && decide (i < n)
  | _ => false
theorem inR_eq (n : Int) (d : PyData) : inR n d = isIx n d := by cases d <;> rfl
/-- whether the far states are such -/
theorem far_eval (B : MBase79 p fuel) {k : Nat} (hk : 0 < k) (c : Nat) (many : Nat) (fs : List PyData) (hfs : fs.length ≤ sizeLine) (C : Cfg) (hC : C.call = callN p fuel k) (env : Env) (hl : env.length = 6) (v1 : MV) (e1 : env[1]? = some (some v1)) (xs1 : List MV) (f1 : SqF v1 xs1) (hx1 : xs1.length = many) (e5 : env[5]? = some none) (S : Store) (tk : Tk _) :
    lcK (.nm 5) (evTs C .nil) (fun e s => fzR C.col (evO C (.andE (.call "_law_is_whole" (.cons false (.nm 5) .nil) []) (.cons false (.chain .le .lt (.cn (.int 0)) (.nm 5) (.bi .len (.cons false (.nm 1) .nil))) .nil)) e s)) (cvs c fs) env S tk = some (.ok (fs.map fun y => MV.bl (isIx many y)) S) := by
  match env, hl with
  | [a, b, c', d, e, g], _ =>
    simp at e1 e5
    subst e1
    rw [cvs_map]
    refine lcK_map (g := fun y => MV.bl (isIx many y)) fs ?_
    intro y hy
    refine ⟨_, rfl, rfl, ?_⟩
    have ew := fun (col cm : Nat) (S : Store) => law_whole_run (fuel := fuel) B hk c y col cm S
    cases y with
    | int i =>
      simp [isI] at ew
      by_cases h0 : 0 ≤ i <;> simp [hC, ew, f1.lk, f1.len, hx1, isIx, h0]
    | _ =>
      simp [isI] at ew
      simp [hC, ew, isIx]
theorem law_first_bad_run (B : MBase79 p fuel) {k : Nat} (hk : 1 < k) {v : MV} {T : List (List Int)} {M : Nat} (hv : TabL v T) (hT : TabOk M T) (hM : M ≤ 1000) (c : Nat) (d : PyData) (hd : nz d ≤ 1000) (col cm : Nat) (S : Store) :
    callN p fuel k "_law_first_bad" [v, cv c d] col cm S = some (.ok (fbV (fb T.length (T.headD []).length d)) S) := by
  obtain ⟨xs0, hx, hxs⟩ := hv
  have f0 := hx.f
  have hxl : xs0.length = T.length := hxs.len
  obtain ⟨x0, w, i0, f1, hw, _⟩ := hT.row0 hxs
  rw [callN_run B.law_first_bad (by omega) rfl rfl]
  cases h : sqD d with
  | none => simp [L._law_first_bad, slots0, tst_un, sqD_none h c, Fr.cfg1, fb, h, fbV]
  | some xs =>
    have f := (sqD_isSq h c).f
    cases xs with
    | nil => simp [L._law_first_bad, slots0, tst_un, f.lt, Fr.cfg1, fb, h, fbV, f.lk, f.len]
    | cons x xs =>
      have hne : ¬ ((xs.length : Int) + 1 = 0) := by omega
      have hfd : fb T.length (T.headD []).length d = fbL (okS T.length (T.headD []).length (x :: xs).length) 0 (x :: xs) := by simp only [fb, h]
      rw [hfd]
      have hnz : nzs (x :: xs) ≤ 1000 := by
        cases d <;> simp [sqD] at h
        · subst h; simp only [nz] at hd; omega
        · subst h; simp only [nz] at hd; omega
      simp [L._law_first_bad, slots0, tst_un, f.lt, f.lk, f.len, hne, seW_by, seL_un, oldL_eq, f.enum]
      have key := forK_find (t := .cons (.nm 2) (.cons (.nm 3) .nil)) (b := fun sl S => exs ⟨callN p fuel (k - 1), col, cm, p.hs, fuel, cm⟩ (.cons (.set 4 false (.andE (.isi (.nm 3) true [.list, .tuple]) (.cons false (.cmp .eq (.bi .len (.cons false (.nm 3) .nil)) (.cn (.int 2))) (.cons false (.call "_law_is_whole" (.cons false (.sub (.nm 3) (.cn (.int 0))) .nil) []) (.cons false (.chain .le .lt (.cn (.int 0)) (.sub (.nm 3) (.cn (.int 0))) (.bi .len (.cons false (.sub (.nm 0) (.cn (.int 0))) .nil))) .nil))))) (.cons (.set 4 false (.andE (.nm 4) (.cons false (.isi (.sub (.nm 3) (.cn (.int 1))) true [.list, .tuple]) (.cons false (.cmp .eq (.bi .len (.cons false (.sub (.nm 3) (.cn (.int 1))) .nil)) (.bi .len (.cons false (.nm 0) .nil))) .nil)))) (.cons (.ifS (.orE (.nt (.nm 4)) (.cons false (.nt (.bi .all (.cons false (.lc (.andE (.call "_law_is_whole" (.cons false (.nm 5) .nil) []) (.cons false (.chain .le .lt (.cn (.int 0)) (.nm 5) (.bi .len (.cons false (.nm 1) .nil))) .nil)) (.nm 5) (.val (.sub (.nm 3) (.cn (.int 1)))) .nil [5]) .nil))) .nil)) (.cons (.ret (some (.nm 2))) .nil) .nil) .nil))) sl S)
        (f := cv c) (okf := okS T.length (T.headD []).length (x :: xs).length) (Sh := fun sl => ∃ s2 s3 s4, sl = [.val v, .val (cv c d), s2, s3, s4, .un] ∧ s2.isOwn = false ∧ s3.isOwn = false ∧ s4.isOwn = false) (bad := fun i => some (.ok (.rt (.int i)) S)) (S := S) (tk := .mk)
        (fun i g hg => lb_rt _ _ g hg) (x :: xs) 0 [.val v, .val (cv c d), .un, .un, .un, .un] ⟨_, _, _, rfl, rfl, rfl, rfl⟩ (by
          rintro y hy i sl ⟨s2, s3, s4, rfl, hs2, hs3, hs4⟩
          have hyn : nz y ≤ sizeLine := Nat.le_trans (nz_mem hy) (Nat.le_trans hnz (by decide))
          refine ⟨_, by simp [bindS_cons_tup]; rfl, ?_⟩
          have fin : ∀ (bv : Bool), okS T.length (T.headD []).length (x :: xs).length y = bv →
              exs ⟨callN p fuel (k - 1), col, cm, p.hs, fuel, cm⟩ (.cons (.set 4 false (.andE (.isi (.nm 3) true [.list, .tuple]) (.cons false (.cmp .eq (.bi .len (.cons false (.nm 3) .nil)) (.cn (.int 2))) (.cons false (.call "_law_is_whole" (.cons false (.sub (.nm 3) (.cn (.int 0))) .nil) []) (.cons false (.chain .le .lt (.cn (.int 0)) (.sub (.nm 3) (.cn (.int 0))) (.bi .len (.cons false (.sub (.nm 0) (.cn (.int 0))) .nil))) .nil))))) (.cons (.set 4 false (.andE (.nm 4) (.cons false (.isi (.sub (.nm 3) (.cn (.int 1))) true [.list, .tuple]) (.cons false (.cmp .eq (.bi .len (.cons false (.sub (.nm 3) (.cn (.int 1))) .nil)) (.bi .len (.cons false (.nm 0) .nil))) .nil)))) (.cons (.ifS (.orE (.nt (.nm 4)) (.cons false (.nt (.bi .all (.cons false (.lc (.andE (.call "_law_is_whole" (.cons false (.nm 5) .nil) []) (.cons false (.chain .le .lt (.cn (.int 0)) (.nm 5) (.bi .len (.cons false (.nm 1) .nil))) .nil)) (.nm 5) (.val (.sub (.nm 3) (.cn (.int 1)))) .nil [5]) .nil))) .nil)) (.cons (.ret (some (.nm 2))) .nil) .nil) .nil))) [.val v, .val (cv c d), .val (.int i), .val (cv c y), s4, .un] S =
              if bv then some (.ok (.nx [.val v, .val (cv c d), .val (.int i), .val (cv c y), .val (.bl true), .un]) S) else some (.ok (.rt (.int i)) S) := by
            rintro bv rfl
            have ew := fun (d : PyData) => law_whole_run (fuel := fuel) B (show 0 < k - 1 by omega) c d col cm S
            have al := anyOwn_not (s := s4) [.un] hs4
            cases hy2 : sqD y with
            | none => simp [seO_un, tst_un, al, sqD_none hy2 c, okS, hy2, Fr.cfg1, view_cons]
            | some ys =>
              have g := (sqD_isSq hy2 c).f
              match ys, hy2, g with
              | [], hy2, g => simp [seO_un, tst_un, al, g.lt, g.lk, g.len, okS, hy2, Fr.cfg1, view_cons]
              | [a], hy2, g => simp [seO_un, tst_un, al, g.lt, g.lk, g.len, okS, hy2, Fr.cfg1, view_cons]
              | a :: b :: e :: r, hy2, g =>
                have hn : ¬ ((r.length : Int) + 1 + 1 + 1 = 2) := by omega
                simp [seO_un, tst_un, al, g.lt, g.lk, g.len, okS, hy2, Fr.cfg1, view_cons, hn]
              | [a, b], hy2, g =>
                rw [okS_two hy2, hw]
                have hw' : (T.head?.getD []).length = w := by rw [← hw]; simp
                have ea := ew a
                cases hia : isIx w a with
                | false =>
                  have ea2 : isI a = false ∨ ∃ i : Int, a = .int i ∧ (¬ 0 ≤ i ∨ ¬ i < w) := by
                    cases a <;> simp [isIx, isI] at hia ⊢
                    omega
                  rcases ea2 with ea2 | ⟨ia, rfl, ea2⟩
                  · rw [ea2] at ea
                    simp [seO_un, tst_un, al, g.lt, g.lk, g.len, g.look, g.sub, ea, Fr.cfg1, view_cons]
                  · simp [isI] at ea
                    by_cases h0 : 0 ≤ ia
                    · have h1 : ¬ ia < w := by omega
                      simp [seO_un, tst_un, al, g.lt, g.lk, g.len, g.look, g.sub, ea, Fr.cfg1, view_cons, h0, h1, f0.look, f0.sub, i0, f1.lk, f1.len, hw']
                    · simp [seO_un, tst_un, al, g.lt, g.lk, g.len, g.look, g.sub, ea, Fr.cfg1, view_cons, h0]
                | true =>
                  obtain ⟨ia, rfl, h0, h1⟩ : ∃ i : Int, a = .int i ∧ 0 ≤ i ∧ i < w := by
                    cases a <;> simp [isIx] at hia ⊢
                    exact hia
                  simp [isI] at ea
                  cases hb : sqD b with
                  | none => simp [seO_un, tst_un, al, g.lt, g.lk, g.len, g.look, g.sub, ea, Fr.cfg1, view_cons, h0, h1, f0.look, f0.sub, i0, f1.lk, f1.len, hw', sqD_none hb c, farOk, hb]
                  | some fs =>
                    have gb := (sqD_isSq hb c).f
                    by_cases hl : fs.length = T.length
                    · have hTl : T.length ≤ sizeLine := Nat.le_trans (show T.length ≤ 1000 by have := hT.2.1; omega) (by decide)
                      simp [seO_un, tst_un, al, g.lt, g.lk, g.len, g.look, g.sub, ea, Fr.cfg1, view_cons, h0, h1, f0.look, f0.sub, i0, f1.lk, f1.len, hw', gb.lt, gb.lk, gb.len, hl, f0.lk, f0.len, hxl, gb.wk]
                      have fe := far_eval B (show 0 < k - 1 by omega) c (x :: xs).length fs (by rw [hl]; exact hTl) ⟨callN p fuel (k - 1), col, cm, p.hs⟩ rfl [some v, some (cv c d), some (.int i), some (cv c y), some (.bl true), none] rfl (cv c d) rfl (cvs c (x :: xs)) f (by simp) rfl S .mk
                      rw [fe]
                      simp [hl, hTl, biF_all_map, farOk, hb]
                      cases hall : fs.all (isIx (xs.length + 1)) <;> simp [Fr.cfg1] <;> simpa using hall
                    · have hl' : ¬ (fs.length : Int) = T.length := by omega
                      simp [seO_un, tst_un, al, g.lt, g.lk, g.len, g.look, g.sub, ea, Fr.cfg1, view_cons, h0, h1, f0.look, f0.sub, i0, f1.lk, f1.len, hw', gb.lt, gb.lk, gb.len, hl, hl', f0.lk, f0.len, hxl, farOk, hb]
          constructor
          · intro ho
            exact ⟨_, ⟨.val (.int i), .val (cv c y), .val (.bl true), rfl, rfl, rfl, rfl⟩, by have := fin true ho; simpa using this⟩
          · intro ho
            have := fin false ho; simpa using this)
      rw [← cvs_map] at key
      simp at key
      generalize hg : fbL (okS T.length (T.head?.getD []).length (xs.length + 1)) 0 (x :: xs) = o at key
      cases o with
      | some j =>
        have := key.1 j rfl
        simp [this, fbV]
      | none =>
        obtain ⟨sl2, _, h2⟩ := key.2 rfl
        simp [h2, fbV, Fr.cfg1]
end
end Mv

end
section
set_option Elab.async false
set_option linter.all false
set_option maxRecDepth 100000
namespace Mv
open PySem
namespace L
def _law_bent_machine : Df := ⟨["stream", "table", "machine"], 9, (.cons (.par [(3, false), (4, false)] (.cons false (.call "_law_draw" (.cons false (.nm 0) (.cons false (.bi .len (.cons false (.nm 2) .nil)) .nil)) []) (.cons false (.call "_law_pick" (.cons false (.nm 0) (.cons false (.lst (.cons false (.cn (.non)) (.cons false (.neg (.cn (.int 1))) (.cons false (.cn (.bl true)) (.cons false (.cn (.str "0")) (.cons false (.bi .len (.cons false (.sub (.nm 1) (.cn (.int 0))) .nil)) (.cons false (.bi .len (.cons false (.nm 2) .nil)) (.cons false (.lst (.cons false (.cn (.int 0)) .nil)) .nil)))))))) .nil)) []) .nil))) (.cons (.setT (.cons (.nm 5) (.cons (.nm 6) (.nil))) (.sub (.nm 2) (.nm 3))) (.cons (.set 7 false (.call "_law_draw" (.cons false (.nm 0) (.cons false (.bi .len (.cons false (.nm 6) .nil)) .nil)) [])) (.cons (.set 8 false (.lst (.cons false (.cn (.non)) (.cons false (.cn (.int 5)) (.cons false (.tup (.cons false (.nm 5) .nil)) (.cons false (.tup (.cons false (.nm 5) (.cons false (.nm 6) (.cons false (.cn (.int 0)) .nil)))) (.cons false (.tup (.cons false (.nm 4) (.cons false (.nm 6) .nil))) (.cons false (.tup (.cons false (.nm 5) (.cons false (.nm 4) .nil))) (.cons false (.tup (.cons false (.nm 5) (.cons false (.bin .add (.bin .add (.slc (.nm 6) none (some (.nm 7))) (.lst (.cons false (.nm 4) .nil))) (.slc (.nm 6) (some (.bin .add (.nm 7) (.cn (.int 1)))) none)) .nil))) (.cons false (.tup (.cons false (.nm 5) (.cons false (.slc (.nm 6) (some (.cn (.int 1))) none) .nil))) (.cons false (.tup (.cons false (.nm 6) (.cons false (.nm 5) .nil))) .nil))))))))))) (.cons (.ret (some (.bin .add (.bin .add (.slc (.nm 2) none (some (.nm 3))) (.lst (.cons false (.call "_law_pick" (.cons false (.nm 0) (.cons false (.nm 8) .nil)) []) .nil))) (.slc (.nm 2) (some (.bin .add (.nm 3) (.cn (.int 1)))) none)))) .nil))))), 0⟩
end L
theorem slc_to (c : Nat) (xs : List MV) (k : Nat) : slcV (.lst c xs) none (some (k : Int)) = some (.nl (xs.take k)) := by
  show some (OV.nl ((xs.drop (HT.sIx xs.length 0 none)).take (HT.sIx xs.length xs.length (some (k : Int)) - HT.sIx xs.length 0 none))) = _
  rw [HT.sIx_none, HT.sIx_nat]
  simp
theorem slc_from (c : Nat) (xs : List MV) (k : Nat) : slcV (.lst c xs) (some (k : Int)) none = some (.nl (xs.drop k)) := by
  show some (OV.nl ((xs.drop (HT.sIx xs.length 0 (some (k : Int)))).take (HT.sIx xs.length xs.length none - HT.sIx xs.length 0 (some (k : Int))))) = _
  rw [HT.sIx_none, HT.sIx_nat]
  by_cases h : k ≤ xs.length
  · rw [Nat.min_eq_left h, List.take_of_length_le (by simp)]
  · rw [Nat.min_eq_right (by omega), List.drop_eq_nil_of_le (by omega), List.drop_eq_nil_of_le (show xs.length ≤ k by omega)]; simp
theorem bop_addL {c c' : Nat} {xs ys : List MV} (h : xs.length + ys.length ≤ 1000) : bop .add (.lst c xs) (.lst c' ys) = some (.nl (xs ++ ys)) := by
  have : xs.length + ys.length ≤ sizeLine := Nat.le_trans h (by decide)
  simp only [bop]
  rw [if_pos this]
/-- the law's data: small -/
def Tame (n k : Nat) (d : PyData) : Prop := fl d = true ∧ nz d ≤ n ∧ PyData.depth d ≤ k
theorem Tame.le {n n' k k' : Nat} {d : PyData} (h : Tame n k d) (h1 : n ≤ n') (h2 : k ≤ k') : Tame n' k' d := ⟨h.1, Nat.le_trans h.2.1 h1, Nat.le_trans h.2.2 h2⟩
theorem Tame.int {i : Int} (h : i.natAbs < 10 ^ 12) : Tame 1 0 (.int i) := ⟨by simp [fl]; omega, by simp [nz], by simp [PyData.depth]⟩
theorem Tame.none : Tame 1 0 .none := ⟨rfl, by simp [nz], by simp [PyData.depth]⟩
theorem Tame.bool (b : Bool) : Tame 1 0 (.bool b) := ⟨rfl, by simp [nz], by simp [PyData.depth]⟩
theorem Tame.str {x : Str} (h : flStr x = true) : Tame 1 0 (.str x) := ⟨h, by simp [nz], by simp [PyData.depth]⟩
/-- several such -/
def Tames (n k : Nat) (ds : List PyData) : Prop := fls ds = true ∧ nzs ds ≤ n ∧ PyData.depthAll ds ≤ k
theorem Tames.nil {k : Nat} : Tames 0 k [] := ⟨rfl, by simp [nzs], by simp [PyData.depthAll]⟩
theorem Tames.cons {n n' k : Nat} {d : PyData} {ds : List PyData} (h : Tame n k d) (h' : Tames n' k ds) : Tames (n + n') k (d :: ds) :=
  ⟨by simp [fls, h.1, h'.1], by simp only [nzs]; have := h.2.1; have := h'.2.1; omega, by simp only [PyData.depthAll]; have := h.2.2; have := h'.2.2; omega⟩
theorem Tames.list {n k : Nat} {ds : List PyData} (h : Tames n k ds) : Tame (n + 1) (k + 1) (.list ds) := ⟨h.1, by simp only [nz]; have := h.2.1; omega, by simp only [PyData.depth]; have := h.2.2; omega⟩
theorem Tames.tuple {n k : Nat} {ds : List PyData} (h : Tames n k ds) : Tame (n + 1) (k + 1) (.tuple ds) := ⟨h.1, by simp only [nz]; have := h.2.1; omega, by simp only [PyData.depth]; have := h.2.2; omega⟩
theorem Tames.append {n n' k : Nat} {ds es : List PyData} (h : Tames n k ds) (h' : Tames n' k es) : Tames (n + n') k (ds ++ es) := by
  induction ds generalizing n with
  | nil => exact ⟨h'.1, Nat.le_trans h'.2.1 (by omega), h'.2.2⟩
  | cons d ds ih =>
    have h1 : fl d = true ∧ fls ds = true := by simpa [fls] using h.1
    have h2 : nz d + nzs ds ≤ n := h.2.1
    have h3 : max (PyData.depth d) (PyData.depthAll ds) ≤ k := h.2.2
    have := ih (n := nzs ds) ⟨h1.2, Nat.le_refl _, by omega⟩
    refine ⟨by simp [fls, h1.1, this.1], ?_, ?_⟩
    · have := this.2.1; simp only [List.cons_append, nzs]; omega
    · have := this.2.2; simp only [List.cons_append, PyData.depthAll]; omega
theorem Tames.of {n k K : Nat} : ∀ {ds : List PyData}, (∀ d ∈ ds, Tame n k d) → ds.length ≤ K → Tames (K * n) k ds
  | [], _, _ => ⟨rfl, by simp [nzs], by simp [PyData.depthAll]⟩
  | d :: ds, h, hl => by
    obtain ⟨K, rfl⟩ : ∃ j, K = j + 1 := ⟨K - 1, by simp at hl; omega⟩
    have h1 := Tames.of (K := K) (fun z hz => h z (List.mem_cons_of_mem _ hz)) (by simp at hl; omega)
    have := Tames.cons (h d List.mem_cons_self) h1
    exact ⟨this.1, by have := this.2.1; rw [Nat.add_mul]; omega, this.2.2⟩
theorem Tames.ints {r : List Int} {n : Nat} (h : ∀ e ∈ r, e.natAbs < 10 ^ 12) (hl : r.length ≤ n) : Tames n 0 (r.map .int) := by
  have := Tames.of (n := 1) (k := 0) (K := n) (ds := r.map .int) (fun d hd => by
    obtain ⟨e, he, rfl⟩ := List.mem_map.mp hd
    exact Tame.int (h e he)) (by simpa using hl)
  simpa using this
theorem Tames.kle {n k k' : Nat} {ds : List PyData} (h : Tames n k ds) (h' : k ≤ k') : Tames n k' ds := ⟨h.1, h.2.1, Nat.le_trans h.2.2 h'⟩
def stD (q : Int × List Int) : PyData := .tuple [.int q.1, rD q.2]
theorem cv_stD (q : Int × List Int) : cv 0 (stD q) = stV q := by simp [stD, stV, rD, cvs_ints]
theorem cvs_stD (m : List (Int × List Int)) : m.map stV = cvs 0 (m.map stD) := by
  rw [cvs_map, List.map_map]
  exact List.map_congr_left fun q _ => (cv_stD q).symm
theorem Tame.st {n w : Nat} {m : List (Int × List Int)} (hm : MacOk n w m) (hn : n ≤ 10) (hw : w ≤ 10) {q : Int × List Int} (hq : q ∈ m) : Tame 13 2 (stD q) ∧ Tame 1 0 (.int q.1) ∧ Tames 10 0 (q.2.map .int) := by
  obtain ⟨h1, h2, h3⟩ := hm
  have h := h3 q hq
  have t1 := Tame.int (i := q.1) (by omega)
  have t2 := Tames.ints (r := q.2) (n := 10) (fun e he => by have := h.2.2.2 e he; omega) (by omega)
  refine ⟨?_, t1, t2⟩
  have := ((Tames.cons (t1.le (Nat.le_refl 1) (Nat.zero_le 1)) (Tames.cons (t2.list) Tames.nil))).tuple
  exact this.le (by omega) (by omega)
theorem Tames.take {n k : Nat} {ds : List PyData} (h : Tames n k ds) (j : Nat) : Tames n k (ds.take j) := by
  induction ds generalizing n j with
  | nil => simpa using h
  | cons d ds ih =>
    cases j with
    | zero => exact ⟨rfl, by simp [nzs], by simp [PyData.depthAll]⟩
    | succ j =>
      have h1 : fl d = true ∧ fls ds = true := by simpa [fls] using h.1
      have h2 : nz d + nzs ds ≤ n := h.2.1
      have h3 : max (PyData.depth d) (PyData.depthAll ds) ≤ k := h.2.2
      have := ih (n := nzs ds) ⟨h1.2, Nat.le_refl _, by omega⟩ j
      refine ⟨by simp [fls, h1.1, this.1], ?_, ?_⟩
      · have := this.2.1; simp only [List.take_succ_cons, nzs]; omega
      · have := this.2.2; simp only [List.take_succ_cons, PyData.depthAll]; omega
theorem Tames.drop {n k : Nat} {ds : List PyData} (h : Tames n k ds) (j : Nat) : Tames n k (ds.drop j) := by
  induction ds generalizing n j with
  | nil => simpa using h
  | cons d ds ih =>
    cases j with
    | zero => simpa using h
    | succ j =>
      have h1 : fl d = true ∧ fls ds = true := by simpa [fls] using h.1
      have h2 : nz d + nzs ds ≤ n := h.2.1
      have h3 : max (PyData.depth d) (PyData.depthAll ds) ≤ k := h.2.2
      have := ih (n := nzs ds) ⟨h1.2, Nat.le_refl _, by omega⟩ j
      exact ⟨this.1, by have := this.2.1; simp only [List.drop_succ_cons]; omega, this.2.2⟩
section
variable {p : Pg} {fuel : Nat}
theorem pickD (B : Base p fuel) (hp : p.get "_law_pick" = some L._law_pick) {cm : Nat} (hcm : 0 < cm) {k : Nat} (hk : 1 < k) {c : Nat} {ds : List PyData} (h0 : 0 < ds.length) (h1 : ds.length < 1000) {n j : Nat} (ht : ∀ d ∈ ds, Tame n j d)
    {b : Nat} (hb : b < 2 ^ 40) {S : Store} (hS : StAt b S) {Q : MV → Store → Prop} {t : Tk Q} (H : ∀ d S', d ∈ ds → Tame n j d → StAt (b + 1) S' → Q (cv 0 d) S') :
    Wp (callN p fuel k "_law_pick" [.ptr 1, .lst c (cvs 0 ds)] 0 cm S) Q t := by
  refine pick_run hp B.draw B.fu hcm hk (by simpa using h0) (by simp; omega) hb hS fun v S' hv hS' => ?_
  rw [cvs_map] at hv
  obtain ⟨d, hd, rfl⟩ := List.mem_map.mp hv
  exact H d S' hd (ht d hd) hS'
theorem bent_run (B : Base p fuel) (hp : p.get "_law_bent_machine" = some L._law_bent_machine) (hpk : p.get "_law_pick" = some L._law_pick) {k cm : Nat} (hk : 2 < k) (hcm : 0 < cm) {M : Nat} (hM : M ≤ 10)
    {T : List (List Int)} (hT : TabOk M T) {m : List (Int × List Int)} (hm : MacOk T.length (T.headD []).length m) {b : Nat} {S : Store} (hS : StAt b S) (hb : b + 1000 < 2 ^ 40) {Q : MV → Store → Prop} {tq : Tk Q}
    (H : ∀ d S', Tame 300 6 d → StAt (b + 4) S' → Q (cv 0 d) S') :
    Wp (callN p fuel k "_law_bent_machine" [.ptr 1, .lst 0 (T.map rowV), .lst 0 (m.map stV)] 0 cm S) Q tq := by
  have hm1 := hm.1
  have hm2 := hm.2.1
  have hTl : T.length ≤ 10 := Nat.le_trans hT.2.1 hM
  obtain ⟨r0, i0, hr0, hwl⟩ : ∃ r0, item (T.map rowV) 0 = some (rowV r0) ∧ r0.length = (T.headD []).length ∧ r0.length ≤ 10 := by
    obtain ⟨g1, g2, w, g3, g4, g5⟩ := hT
    cases T with
    | nil => simp at g1
    | cons r T => exact ⟨r, item_0 _ _, rfl, by have := (g5 r List.mem_cons_self).1; omega⟩
  rw [callN_run hp (by omega) rfl rfl, Wp_endR]
  simp [L._law_bent_machine, slots0, se_un]
  refine draw_spec B.draw B.fu (by omega) hcm (by omega) (by omega) (by omega) hS fun i1 S1 hi10 hi11 hS1 => ?_
  obtain ⟨at_, rfl⟩ : ∃ j : Nat, i1 = j := ⟨i1.toNat, by omega⟩
  simp [se_un, i0, rowV]
  have e1 : [MV.non, .int (-1), .bl true, .str "0", .int (r0.length : Nat), .int (m.length : Nat), .lst 0 [.int 0]] = cvs 0 [.none, .int (-1), .bool true, .str "0", .int (r0.length : Nat), .int (m.length : Nat), .list [.int 0]] := rfl
  rw [e1]
  refine pickD B hpk hcm (by omega) (n := 2) (j := 1) (by simp) (by simp) (fun d hd => ?_) (by omega) hS1 fun odd S2 _ hodd hS2 => ?_
  · simp at hd
    rcases hd with rfl | rfl | rfl | rfl | rfl | rfl | rfl
    · exact Tame.none.le (by omega) (by omega)
    · exact (Tame.int (by decide)).le (by omega) (by omega)
    · exact (Tame.bool _).le (by omega) (by omega)
    · exact (Tame.str (by decide +kernel)).le (by omega) (by omega)
    · exact (Tame.int (by omega)).le (by omega) (by omega)
    · exact (Tame.int (by omega)).le (by omega) (by omega)
    · exact (Tames.cons (Tame.int (by decide)) Tames.nil).list
  have hat : at_ < m.length := by omega
  have ea : m[at_]? = some m[at_] := List.getElem?_eq_getElem hat
  have hq := hm.2.2 m[at_] (List.getElem_mem hat)
  obtain ⟨tq1, tq2, tq3⟩ := Tame.st hm hTl (by omega) (List.getElem_mem hat)
  generalize m[at_] = q at ea hq tq1 tq2 tq3
  have hql : q.2.length ≤ 10 := by omega
  have hg1 := hT.1
  have i1 : item (m.map stV) (at_ : Int) = some (stV q) := by rw [item_nat]; simp [ea]
  simp [putV, se_un, seO_un, i1, stV, bindS_cons_tup]
  refine draw_spec B.draw B.fu (by omega) hcm (by omega) (by omega) (by omega) hS2 fun i2 S3 hi20 hi21 hS3 => ?_
  obtain ⟨pl, rfl⟩ : ∃ j : Nat, i2 = j := ⟨i2.toNat, by omega⟩
  have s1 : ∀ xs : List MV, slcV (.lst 0 xs) (some ((pl : Int) + 1)) none = some (.nl (xs.drop (pl + 1))) := fun xs => slc_from 0 xs (pl + 1)
  have s2 : ∀ xs : List MV, slcV (.lst 0 xs) (some ((at_ : Int) + 1)) none = some (.nl (xs.drop (at_ + 1))) := fun xs => slc_from 0 xs (at_ + 1)
  have s3 : ∀ xs : List MV, slcV (.lst 0 xs) (some 1) none = some (.nl (xs.drop 1)) := fun xs => slc_from 0 xs 1
  have a1 : ∀ v : MV, bop .add (.lst 0 ((q.2.map .int).take pl)) (.lst 0 [v]) = some (.nl ((q.2.map .int).take pl ++ [v])) := fun v => bop_addL (by simp; omega)
  have a2 : ∀ v : MV, bop .add (.lst 0 ((q.2.map .int).take pl ++ [v])) (.lst 0 ((q.2.map .int).drop (pl + 1))) = some (.nl ((q.2.map .int).take pl ++ [v] ++ (q.2.map .int).drop (pl + 1))) := fun v => bop_addL (by simp; omega)
  have a3 : ∀ v : MV, bop .add (.lst 0 ((m.map stV).take at_)) (.lst 0 [v]) = some (.nl ((m.map stV).take at_ ++ [v])) := fun v => bop_addL (by simp; omega)
  have a4 : ∀ v : MV, bop .add (.lst 0 ((m.map stV).take at_ ++ [v])) (.lst 0 ((m.map stV).drop (at_ + 1))) = some (.nl ((m.map stV).take at_ ++ [v] ++ (m.map stV).drop (at_ + 1))) := fun v => bop_addL (by simp; omega)
  simp [seO_un, Fr.cfg1, slc_to, s1, s2, s3, a1, a2, a3, a4, -List.map_take, -List.map_drop]
  have e2 : [MV.non, MV.int 5, MV.tup [MV.int q.1], MV.tup [MV.int q.1, MV.lst 0 (q.2.map MV.int), MV.int 0], MV.tup [cv 0 odd, MV.lst 0 (q.2.map MV.int)], MV.tup [MV.int q.1, cv 0 odd],
      MV.tup [MV.int q.1, MV.lst 0 ((q.2.map MV.int).take pl ++ cv 0 odd :: (q.2.map MV.int).drop (pl + 1))], MV.tup [MV.int q.1, MV.lst 0 (q.2.map MV.int).tail], MV.tup [MV.lst 0 (q.2.map MV.int), MV.int q.1]] =
      cvs 0 [.none, .int 5, .tuple [.int q.1], .tuple [.int q.1, .list (q.2.map .int), .int 0], .tuple [odd, .list (q.2.map .int)], .tuple [.int q.1, odd],
        .tuple [.int q.1, .list ((q.2.map .int).take pl ++ odd :: (q.2.map .int).drop (pl + 1))], .tuple [.int q.1, .list ((q.2.map .int).drop 1)], .tuple [.list (q.2.map .int), .int q.1]] := by
    simp [cvs_map, Function.comp_def, List.map_take, List.map_drop]
  rw [e2]
  have o1 := hodd.le (show 2 ≤ 3 by omega) (show 1 ≤ 2 by omega)
  have l1 := (tq3.list).le (show 11 ≤ 12 by omega) (show 1 ≤ 2 by omega)
  have i1' := tq2.le (show 1 ≤ 1 by omega) (show 0 ≤ 2 by omega)
  have z0 := (Tame.int (i := 0) (by decide)).le (show 1 ≤ 1 by omega) (show 0 ≤ 2 by omega)
  have b1 : Tames 25 1 ((q.2.map PyData.int).take pl ++ odd :: (q.2.map PyData.int).drop (pl + 1)) := by
    have := ((tq3.take pl).kle (show 0 ≤ 1 by omega)).append (Tames.cons hodd ((tq3.drop (pl + 1)).kle (show 0 ≤ 1 by omega)))
    exact ⟨this.1, Nat.le_trans this.2.1 (by omega), this.2.2⟩
  refine pickD B hpk hcm (by omega) (n := 40) (j := 3) (by simp) (by simp) (fun d hd => ?_) (by omega) hS3 fun x S4 _ hx hS4 => ?_
  · simp only [List.mem_cons, List.not_mem_nil, or_false] at hd
    rcases hd with rfl | rfl | rfl | rfl | rfl | rfl | rfl | rfl | rfl
    · exact Tame.none.le (by omega) (by omega)
    · exact (Tame.int (by decide)).le (by omega) (by omega)
    · exact (Tames.cons i1' Tames.nil).tuple.le (by omega) (by omega)
    · exact (Tames.cons i1' (Tames.cons l1 (Tames.cons z0 Tames.nil))).tuple.le (by omega) (by omega)
    · exact (Tames.cons o1 (Tames.cons l1 Tames.nil)).tuple.le (by omega) (by omega)
    · exact (Tames.cons i1' (Tames.cons o1 Tames.nil)).tuple.le (by omega) (by omega)
    · exact (Tames.cons i1' (Tames.cons b1.list Tames.nil)).tuple.le (by omega) (by omega)
    · exact (Tames.cons i1' (Tames.cons (((tq3.drop 1).list).le (show 11 ≤ 12 by omega) (show 1 ≤ 2 by omega)) Tames.nil)).tuple.le (by omega) (by omega)
    · exact (Tames.cons l1 (Tames.cons i1' Tames.nil)).tuple.le (by omega) (by omega)
  simp [seO_un, Fr.cfg1, slc_to, s1, s2, s3, a1, a2, a3, a4, -List.map_take, -List.map_drop]
  have e3 : MV.lst 0 ((m.map stV).take at_ ++ cv 0 x :: (m.map stV).drop (at_ + 1)) = cv 0 (.list ((m.map stD).take at_ ++ x :: (m.map stD).drop (at_ + 1))) := by
    simp only [cvs_stD, cv_list, cvs_append, cvs_cons]
    simp only [cvs_map, List.map_take, List.map_drop]
  rw [e3]
  refine H _ S4 ?_ (hS4.le (by omega))
  have ts : Tames 78 2 (m.map stD) := Tames.of (K := 6) (n := 13) (fun d hd => by
    obtain ⟨q, hq, rfl⟩ := List.mem_map.mp hd
    exact (Tame.st hm hTl (by omega) hq).1) (by simpa using hm2)
  have := (((ts.take at_).kle (show 2 ≤ 3 by omega)).append (Tames.cons hx ((ts.drop (at_ + 1)).kle (show 2 ≤ 3 by omega)))).list
  exact this.le (by omega) (by omega)
end
end Mv

end
section
set_option Elab.async false
set_option linter.all false
set_option maxRecDepth 100000
namespace Mv
open PySem
namespace L
def _law_rows_right : Df := ⟨["stream", "table", "machine"], 19, (.cons (.set 3 false (.lc (.call "_law_draw" (.cons false (.nm 0) (.cons false (.bi .len (.cons false (.nm 1) .nil)) .nil)) []) (.nm 4) (.by_ .range (.cons false (.call "_law_draw" (.cons false (.nm 0) (.cons false (.cn (.int 41)) .nil)) []) .nil)) .nil [4])) (.cons (.par [(5, false), (6, false)] (.cons false (.call "_law_draw" (.cons false (.nm 0) (.cons false (.bin .add (.bi .len (.cons false (.nm 3) .nil)) (.cn (.int 1))) .nil)) []) (.cons false (.call "_law_pick" (.cons false (.nm 0) (.cons false (.lst (.cons false (.cn (.non)) (.cons false (.neg (.cn (.int 1))) (.cons false (.cn (.bl true)) (.cons false (.cn (.str "0")) (.cons false (.bi .len (.cons false (.nm 1) .nil)) (.cons false (.lst (.cons false (.cn (.int 0)) .nil)) .nil))))))) .nil)) []) .nil))) (.cons (.set 7 false (.lst (.cons false (.tup (.cons false (.nm 3) (.cons false (.cn (.non)) .nil))) (.cons false (.tup (.cons false (.bin .add (.bin .add (.bin .add (.slc (.nm 3) none (some (.nm 5))) (.lst (.cons false (.nm 6) .nil))) (.slc (.nm 3) (some (.nm 5)) none)) (.lst (.cons false (.cn (.non)) .nil))) (.cons false (.nm 5) .nil))) (.cons false (.tup (.cons false (.cn (.non)) (.cons false (.cn (.int 0)) .nil))) (.cons false (.tup (.cons false (.cn (.int 5)) (.cons false (.cn (.int 0)) .nil))) (.cons false (.tup (.cons false (.cn (.str "00")) (.cons false (.cn (.int 0)) .nil))) (.cons false (.tup (.cons false (.dct false .nil .nil) (.cons false (.cn (.int 0)) .nil))) .nil)))))))) (.cons (.for_ (.cons (.nm 8) (.cons (.nm 9) (.nil))) (.val (.nm 7)) (.cons (.par [(10, false), (11, false)] (.cons false (.lst (.cons false (.call "_law_handed" (.cons false (.nm 0) (.cons false (.nm 1) .nil)) []) (.cons false (.call "_law_machine_handed" (.cons false (.nm 0) (.cons false (.nm 2) .nil)) []) .nil))) (.cons false (.call "_law_loose" (.cons false (.nm 0) (.cons false (.call "_law_copied" (.cons false (.nm 8) .nil) []) .nil)) []) .nil))) (.cons (.set 12 false (.bi .repr (.cons false (.lst (.cons false (.nm 10) (.cons false (.nm 11) .nil))) .nil))) (.cons (.setR 13 true (.lst (.cons false (.met (.call "answered" (.cons false (.sub (.nm 10) (.cn (.int 0))) (.cons false (.sub (.nm 10) (.cn (.int 1))) (.cons false (.nm 11) .nil))) [])) .nil))) (.cons (.append 13 (.met (.call "answered" (.cons false (.nm 11) (.cons false (.call "_law_copied" (.cons false (.nm 2) .nil) []) (.cons false (.call "_law_copied" (.cons false (.nm 1) .nil) []) .nil))) [2, 1, 0]))) (.cons (.append 13 (.met (.call "sum_of" (.cons false (.sub (.nm 10) (.cn (.int 0))) (.cons false (.sub (.nm 10) (.cn (.int 1))) (.cons false (.nm 11) .nil))) []))) (.cons (.append 13 (.met (.call "sum_of" (.cons false (.nm 11) (.cons false (.call "_law_copied" (.cons false (.nm 2) .nil) []) (.cons false (.call "_law_copied" (.cons false (.nm 1) .nil) []) .nil))) [2, 1, 0]))) (.cons (.set 14 false (.bin .mul (.lst (.cons false (.tup (.cons false (.cn (.str "rows")) (.cons false (.nm 9) .nil))) .nil)) (.cn (.int 4)))) (.cons (.ifS (.cmp .is_ (.nm 9) (.cn (.non))) (.cons (.set 15 false (.sub (.call "_law_walk" (.cons false (.nm 2) (.cons false (.cn (.int 0)) (.cons false (.nm 8) .nil))) []) (.cn (.int 0)))) (.cons (.set 16 false (.bi .sum (.cons false (.lc (.sub (.sub (.nm 1) (.nm 17)) (.nm 18)) (.cons (.nm 17) (.cons (.nm 18) (.nil))) (.val (.nm 15)) .nil [17, 18]) .nil))) (.cons (.set 14 false (.lst (.cons false (.tup (.cons false (.cn (.str "told")) (.cons false (.nm 15) .nil))) (.cons false (.tup (.cons false (.cn (.str "told")) (.cons false (.nm 15) .nil))) (.cons false (.tup (.cons false (.cn (.str "told")) (.cons false (.nm 16) .nil))) (.cons false (.tup (.cons false (.cn (.str "told")) (.cons false (.nm 16) .nil))) .nil)))))) .nil))) .nil) (.cons (.ifS (.orE (.nt (.call "_law_same" (.cons false (.nm 13) (.cons false (.nm 14) .nil)) [])) (.cons false (.cmp .ne (.bi .repr (.cons false (.lst (.cons false (.nm 10) (.cons false (.nm 11) .nil))) .nil)) (.nm 12)) .nil)) (.cons (.ret (some (.cn (.bl false)))) .nil) .nil) (.cons (.ifS (.cmp .is_ (.nm 9) (.cn (.non))) (.cons (.spoil (.lst (.cons false (.sub (.sub (.nm 13) (.cn (.int 0))) (.cn (.int 1))) .nil))) (.cons (.ifS (.nt (.call "_law_same" (.cons false (.call "answered" (.cons false (.sub (.nm 10) (.cn (.int 0))) (.cons false (.sub (.nm 10) (.cn (.int 1))) (.cons false (.nm 11) .nil))) []) (.cons false (.sub (.sub (.nm 14) (.cn (.int 0))) (.cn (.int 1))) .nil)) [])) (.cons (.ret (some (.cn (.bl false)))) .nil) .nil) .nil)) .nil) .nil))))))))))) (.cons (.ret (some (.cn (.bl true)))) .nil))))), 1⟩
end L
section
variable (f : Fr) (sl : Sl) (S : Store)
@[simp] theorem ex_setR (i : Nat) (own : Bool) (e : ME) : ex f (.setR i own e) sl S = need (decide (f.lo < f.be)) ((seO f.reg e sl S).lb fun o S1 => need (decide (i < sl.length)) (some (.ok (.nx (sl.set i (putO f.lo own o))) S1))) := by
  show (if f.lo < f.be then (seO f.reg e sl S).bind _ else none) = _
  rw [need_eq]
  congr 1
  · refine bind_ext fun o S1 => ?_
    exact need_eq _ _
  · congr 1
    refine bind_ext fun o S1 => ?_
    exact need_eq _ _
@[simp] theorem ex_spoil (e : ME) : ex f (.spoil e) sl S = need (decide (f.lo < f.be)) ((se f.reg e sl S).lb fun v S1 => need (spOk f.lo v && decide (nodes v ≤ 4194304) && decide (dep v ≤ 20)) (some (.ok (.nx (sl.map (wipeS f.lo))) S1))) := by
  show (if f.lo < f.be then (se f.reg e sl S).bind _ else none) = _
  have e2 : ∀ (c : Bool) (x : R Fl), (if c = true then x else none) = need c x := fun c x => by cases c <;> rfl
  rw [need_eq]
  congr 1
  · refine bind_ext fun o S1 => ?_
    exact e2 _ _
  · congr 1
    refine bind_ext fun o S1 => ?_
    exact e2 _ _
end
@[simp] theorem perm210 (a b c : MV) : perm [2, 1, 0] [a, b, c] = [c, b, a] := (rfl)
@[simp] theorem reg_mk (call : Str → List MV → Nat → Nat → Store → R MV) (col be : Nat) (hs : List (Str × Str × Str)) (fuel lo : Nat) : Fr.reg ⟨call, col, be, hs, fuel, lo⟩ = ⟨call, lo, be, hs, fuel, lo⟩ := (rfl)
theorem old_reg (call : Str → List MV → Nat → Nat → Store → R MV) (col cm : Nat) (hs : List (Str × Str × Str)) (fuel : Nat) {v : MV} (h : colsLt cm v = true) : Fr.old ⟨call, col, cm + 1, hs, fuel, cm⟩ v = true := by
  simp [Fr.old, h]
theorem oldL_reg (call : Str → List MV → Nat → Nat → Store → R MV) (col cm : Nat) (hs : List (Str × Str × Str)) (fuel : Nat) {v : List MV} (h : colsLtL cm v = true) : Fr.oldL ⟨call, col, cm + 1, hs, fuel, cm⟩ v = true := by
  simp [Fr.oldL, h]
/-- the colour that calls begin with -/
def cmOf (f : Fr) (sl : Sl) : Nat := if anyOwn sl then f.be + 1 else f.be
@[simp] theorem cmOf_pos {f : Fr} {sl : Sl} (h : 0 < f.be) : 0 < cmOf f sl := by
  unfold cmOf; split <;> omega
theorem seO_g (f : Fr) (sl : Sl) (S : Store) (e : ME) : seO f e sl S = guardR f.be sl (okO f.be sl) ((evO ⟨f.call, f.col, cmOf f sl, f.hs⟩ e (view f.be sl) S).lb fun o S1 => some (.ok (o.fzd f.col) S1)) := rfl
theorem se_g (f : Fr) (sl : Sl) (S : Store) (e : ME) : se f e sl S = (guardR f.be sl (okO f.be sl) ((evO ⟨f.call, f.col, cmOf f sl, f.hs⟩ e (view f.be sl) S).lb fun o S1 => some (.ok (o.fzd f.col) S1))).lb fun o S1 => some (.ok (o.fz f.col) S1) := rfl
theorem tst_g (f : Fr) (sl : Sl) (S : Store) (e : ME) : tst f e sl S = guardR f.be sl (fun _ => true) ((evO ⟨f.call, f.col, cmOf f sl, f.hs⟩ e (view f.be sl) S).lb fun o S1 => lift (truth (o.fz f.col)) S1) := by
  unfold tst
  rw [fzR_eq, bind_lb, R.lb_assoc]
  rfl
/-- a slot that is not owned -/
def ov : Option MV → SV
  | none => .un
  | some v => .val v
@[simp] theorem ov_un : ov none = .un := (rfl)
@[simp] theorem ov_val (v : MV) : ov (some v) = .val v := (rfl)
@[simp] theorem anyOwn_ov (o : Option MV) (r : Sl) : anyOwn (ov o :: r) = anyOwn r := by cases o <;> simp
@[simp] theorem view_ov (b : Nat) (o : Option MV) (r : Sl) : view b (ov o :: r) = o :: view b r := by cases o <;> simp
theorem wipe_ov (lo : Nat) (o : Option MV) : ∃ o', wipeS lo (ov o) = ov o' := by
  cases o with
  | none => exact ⟨none, rfl⟩
  | some v =>
    show ∃ o', (if colsLt lo v = true then SV.val v else .un) = ov o'
    split
    · exact ⟨some v, rfl⟩
    · exact ⟨none, rfl⟩
theorem wipe_old {lo : Nat} {v : MV} (h : colsLt lo v = true) : wipeS lo (.val v) = .val v := by
  show (if _ then _ else _) = _
  rw [if_pos h]
theorem wipe_val (lo : Nat) (v : MV) : wipeS lo (.val v) = if colsLt lo v = true then .val v else .un := rfl
theorem wipe_olP (lo : Nat) (xs : List MV) : wipeS lo (.ol xs) = if colsLtL lo xs = true then .ol xs else .un := rfl
@[simp] theorem wipe_un (lo : Nat) : wipeS lo .un = .un := (rfl)
@[simp] theorem bop_mul4 (c : Nat) (x : MV) : bop .mul (.lst c [x]) (.int 4) = some (.nl [x, x, x, x]) := bop_mulL (n := 4) (by decide)
@[simp] theorem bop_mul2 (c : Nat) (x : MV) : bop .mul (.lst c [x]) (.int 2) = some (.nl [x, x]) := bop_mulL (n := 2) (by decide)
def celD (q : Int × Int) : PyData := .tuple [.int q.1, .int q.2]
theorem cvs_celD (c : Nat) (cs : List (Int × Int)) : cvs c (cs.map celD) = cs.map celV := by
  rw [cvs_map, List.map_map]
  exact List.map_congr_left fun q _ => by simp [celD, celV]
theorem colsLtL_cells (b : Nat) (cs : List (Int × Int)) : colsLtL b (cs.map celV) = true := by
  induction cs with
  | nil => rfl
  | cons q cs ih => simp [colsLtL, celV, colsLt_tup, colsLtL_cons, colsLtL_nilP]; simpa [celV] using ih
theorem spoil_cells (lo : Nat) (cs : List (Int × Int)) (h : cs.length ≤ 4000000) : (spOk lo (.lst lo [.lst lo (cs.map celV)]) && decide (nodes (.lst lo [.lst lo (cs.map celV)]) ≤ 4194304) && decide (dep (.lst lo [.lst lo (cs.map celV)]) ≤ 20)) = true := by
  have h1 : spOkL lo (cs.map celV) = true := by
    clear h
    induction cs with
    | nil => rfl
    | cons q cs ih => simp [spOkL, celV, spOk]; simpa [celV] using ih
  have h2 : nodesL (cs.map celV) = 0 := by
    clear h h1
    induction cs with
    | nil => rfl
    | cons q cs ih => simp [nodesL, celV, nodes]; simpa [celV] using ih
  have h3 : depL (cs.map celV) ≤ 1 := by
    clear h h1 h2
    induction cs with
    | nil => simp [depL]
    | cons q cs ih =>
      simp only [List.map_cons, depL]
      have : dep (celV q) = 1 := by simp [celV, dep, depL]
      omega
  have h4 : cs.length ≤ 4194304 := by omega
  have h5 : max (depL (cs.map celV) + 1) 0 + 1 ≤ 20 := by omega
  simp [spOk, spOkL, nodes, nodesL, dep, depL, h1, h2, h4]
  omega
theorem Tame.nf {n k : Nat} {d d' : PyData} (h : Tame n k d) (e : Mv.nf d' = Mv.nf d) : Tame n k d' := by
  refine ⟨?_, ?_, ?_⟩
  · rw [← nf_fl d', e, nf_fl]; exact h.1
  · rw [← nf_nz d', e, nf_nz]; exact h.2.1
  · rw [← nf_dep d', e, nf_dep]; exact h.2.2
theorem Tame.table {M : Nat} (hM : M ≤ 10) {T : List (List Int)} (hT : TabOk M T) : Tame 111 2 (tD T) := by
  refine ⟨fl_tD hT, ?_, dep_tD T⟩
  obtain ⟨g1, g2, w, g3, g4, g5⟩ := hT
  rw [nz_tD g5]
  have : T.length * (w + 1) ≤ 10 * 11 := Nat.mul_le_mul (by omega) (by omega)
  omega
theorem Tame.machine {n w : Nat} {m : List (Int × List Int)} (hm : MacOk n w m) (hn : n ≤ 10) (hw : w ≤ 10) : Tame 79 3 (mD m) := by
  have ts : Tames 78 2 (m.map stD) := Tames.of (K := 6) (n := 13) (fun d hd => by
    obtain ⟨q, hq, rfl⟩ := List.mem_map.mp hd
    exact (Tame.st hm hn hw hq).1) (by simpa using hm.2.1)
  exact ts.list
theorem Tames.cells {n w : Nat} {cs : List (Int × Int)} (h : ∀ q ∈ cs, 0 ≤ q.1 ∧ q.1 < n ∧ 0 ≤ q.2 ∧ q.2 < w) (hn : n ≤ 1000) (hw : w ≤ 1000) (hl : cs.length ≤ 40) : Tames 120 1 (cs.map celD) :=
  Tames.of (K := 40) (n := 3) (fun d hd => by
    obtain ⟨q, hq, rfl⟩ := List.mem_map.mp hd
    have := h q hq
    exact (Tames.cons (Tame.int (by omega)) (Tames.cons (Tame.int (by omega)) Tames.nil)).tuple) (by simpa using hl)
theorem toPDs_cells (cs : List (Int × Int)) : toPDs (cs.map celV) = some (cs.map celD) := by
  induction cs with
  | nil => rfl
  | cons q cs ih =>
    show (match toPD (celV q), toPDs (cs.map celV) with | some d, some ds => some (d :: ds) | _, _ => none) = _
    rw [ih]; rfl
theorem fbL_lt {β : Type} {okf : β → Bool} : ∀ {xs : List β} {k j : Nat}, fbL okf k xs = some j → j < k + xs.length
  | [], _, _, h => (nomatch h)
  | x :: xs, k, j, h => by
    have h' : (if okf x then fbL okf (k + 1) xs else some k) = some j := h
    split at h'
    · have := fbL_lt h'; simp only [List.length_cons]; omega
    · simp at h'; simp only [List.length_cons]; omega
theorem rb_lt {n i : Nat} {d : PyData} (h : rb n d = some i) : i ≤ nz d := by
  cases d <;> simp [rb, sqD] at h
  all_goals first
    | omega
    | (have := fbL_lt h; rename_i xs; have := len_nzs xs; simp only [nz]; omega)
theorem fb_lt {n w i : Nat} {d : PyData} (h : fb n w d = some i) : i ≤ nz d := by
  have key : ∀ xs : List PyData, (match some xs with | some (x :: xs) => fbL (okS n w (x :: xs).length) 0 (x :: xs) | _ => some 0) = some i → i ≤ nzs xs := fun xs h => by
    cases xs with
    | nil => simp at h; omega
    | cons x xs =>
      have := fbL_lt h
      have := len_nzs (x :: xs)
      omega
  cases d with
  | list xs => have := key xs h; simp only [nz]; omega
  | tuple xs => have := key xs h; simp only [nz]; omega
  | _ => simp [fb, sqD] at h; omega
theorem pair_tame {x : Str} (hx : flStr x = true) {n k : Nat} {d : PyData} (h : Tame n k d) : Tame (n + 2) (k + 1) (.tuple [.str x, d]) :=
  (Tames.cons ((Tame.str hx).le (Nat.le_refl 1) (Nat.zero_le k)) (Tames.cons h Tames.nil)).tuple.le (by omega) (by omega)
section
variable {p : Pg} {fuel : Nat}
structure Law79 (p : Pg) (fuel : Nat) : Prop extends MBase79 p fuel where
  pick : p.get "_law_pick" = some L._law_pick
  bent : p.get "_law_bent_machine" = some L._law_bent_machine
  rows_right : p.get "_law_rows_right" = some L._law_rows_right
  hsM : handled p.hs "BadMachine" = some "machine"
  hsR : handled p.hs "BadRows" = some "rows"
theorem callN_reg {k : Nat} {x : Str} {d : Df} (h : p.get x = some d) (hk : 0 < k) {vs : List MV} (hl : vs.length = d.ps.length) {col cm : Nat} {S : Store} {Q : MV → Store → Prop} {t : Tk Q}
    (H : Wp (exs ⟨callN p fuel (k - 1), col, cm + d.rg, p.hs, fuel, cm⟩ d.body (slots0 d vs) S) fun r S' => colsLt cm (flV r) = true ∧ Q (flV r) S') : Wp (callN p fuel k x vs col cm S) Q t := by
  rw [callN_eq h hk]
  unfold runDf
  rw [if_pos hl]
  obtain ⟨r, S', h1, h2, h3⟩ := H.ex
  rw [h1]
  cases r with
  | nx sl =>
    show Wp (if d.rg = 0 ∨ colsLt cm MV.non = true then ok MV.non S' else none) Q t
    rw [if_pos (.inr h2)]; exact h3
  | rt v =>
    show Wp (if d.rg = 0 ∨ colsLt cm v = true then ok v S' else none) Q t
    rw [if_pos (.inr h2)]; exact h3
/-- rows to be asked for: the thing, the first wrong place -/
def caseV (q : PyData × Option Nat) : MV := .tup [cv 0 q.1, fbV q.2]
theorem rows_right_run (B : Law79 p fuel) {k cm : Nat} (hk : 20 < k) (hcm : 0 < cm) {M : Nat} (hM : M ≤ 10) {T : List (List Int)} (hT : TabOk M T) {m : List (Int × List Int)} (hm : MacOk T.length (T.headD []).length m)
    {b : Nat} {S : Store} (hS : StAt b S) (hb : b + 10000 < 2 ^ 40) {Q : MV → Store → Prop} {tq : Tk Q} (H : ∀ S', StAt (b + 9000) S' → Q (.bl true) S') :
    Wp (callN p fuel k "_law_rows_right" [.ptr 1, .lst 0 (T.map rowV), .lst 0 (m.map stV)] 0 cm S) Q tq := by
  have hTl : T.length ≤ 10 := Nat.le_trans hT.2.1 hM
  have hT1 : 1 ≤ T.length := hT.1
  refine callN_reg B.rows_right (by omega) rfl ?_
  rw [show cm + L._law_rows_right.rg = cm + 1 from rfl]
  simp [L._law_rows_right, slots0, se_un, seO_un]
  refine draw_spec B.draw B.fu (by omega) (by omega) (by omega) (by omega) (by omega) hS fun i1 S1 hi10 hi11 hS1 => ?_
  obtain ⟨nr, rfl⟩ : ∃ j : Nat, i1 = j := ⟨i1.toNat, by omega⟩
  simp [walkF_range1 nr (show nr ≤ 1000000 by omega)]
  refine lcK_draw (P := fun _ v => ∃ x : Int, v = .int x ∧ (0 ≤ x ∧ x < T.length)) (N := fun _ => 1) (M := b + 1 + nr) (List.range nr) (b + 1) S1 hS1 (by rw [sum_const, List.length_range]; omega) ?_ ?_
  · intro j _ b1 s1 hs1 hb1
    refine ⟨_, rfl, rfl, ?_⟩
    simp
    refine draw_spec B.draw B.fu (by omega) (by omega) (by omega) (by omega) (by omega) hs1 fun x s2 hx0 hx1 hs2 => ?_
    simp
    exact ⟨⟨hx0, hx1⟩, hs2⟩
  intro ys S2 hys hS2
  obtain ⟨rows, rfl, hz⟩ := hys.pull
  have hrl : rows.length = nr := by rw [← hz.len, List.length_range]
  have hrows : ∀ r ∈ rows, 0 ≤ r ∧ r < T.length := hz.all fun _ _ h => h
  rw [sum_const, List.length_range] at hS2
  have hnl : nr ≤ sizeLine := Nat.le_trans (show nr ≤ 1000 by omega) (by decide)
  simp [hrl, hnl, se_un]
  refine draw_spec B.draw B.fu (by omega) (by omega) (by omega) (by omega) (by omega) hS2 fun i2 S3 hi20 hi21 hS3 => ?_
  obtain ⟨at_, rfl⟩ : ∃ j : Nat, i2 = j := ⟨i2.toNat, by omega⟩
  simp [se_un]
  have e1 : [MV.non, MV.int (-1), .bl true, .str "0", .int (T.length : Nat), .lst 0 [.int 0]] = cvs 0 [.none, .int (-1), .bool true, .str "0", .int (T.length : Nat), .list [.int 0]] := rfl
  rw [e1]
  refine pickD B.toBase B.pick (by omega) (by omega) (n := 2) (j := 1) (by simp) (by simp) (fun d hd => ?_) (by omega) hS3 fun odd S4 hodd0 hodd hS4 => ?_
  · simp at hd
    rcases hd with rfl | rfl | rfl | rfl | rfl | rfl
    · exact Tame.none.le (by omega) (by omega)
    · exact (Tame.int (by decide)).le (by omega) (by omega)
    · exact (Tame.bool _).le (by omega) (by omega)
    · exact (Tame.str (by decide +kernel)).le (by omega) (by omega)
    · exact (Tame.int (by omega)).le (by omega) (by omega)
    · exact (Tames.cons (Tame.int (by decide)) Tames.nil).list
  have hoddx : isIx T.length odd = false := by
    simp at hodd0
    rcases hodd0 with rfl | rfl | rfl | rfl | rfl | rfl <;> simp [isIx]
  have a1 : ∀ v : MV, bop .add (.lst 0 ((rows.map .int).take at_)) (.lst 0 [v]) = some (.nl ((rows.map .int).take at_ ++ [v])) := fun v => bop_addL (by simp; omega)
  have a2 : ∀ v : MV, bop .add (.lst 0 ((rows.map .int).take at_ ++ [v])) (.lst 0 ((rows.map .int).drop at_)) = some (.nl ((rows.map .int).take at_ ++ [v] ++ (rows.map .int).drop at_)) := fun v => bop_addL (by simp; omega)
  have a3 : ∀ v w : MV, bop .add (.lst 0 ((rows.map .int).take at_ ++ v :: (rows.map .int).drop at_)) (.lst 0 [w]) = some (.nl ((rows.map .int).take at_ ++ v :: (rows.map .int).drop at_ ++ [w])) := fun v w => bop_addL (by simp; omega)
  simp [putV, se_un, seO_un, slc_to, slc_from, a1, a2, a3, seW_val, -List.map_take, -List.map_drop]
  let Cs : List (PyData × Option Nat) := [(rD rows, none), (.list ((rows.map .int).take at_ ++ odd :: ((rows.map .int).drop at_ ++ [.none])), some at_), (.none, some 0), (.int 5, some 0), (.str "00", some 0), (.dict [], some 0)]
  have eC : [MV.tup [MV.lst 0 (rows.map MV.int), MV.non], MV.tup [MV.lst 0 ((rows.map MV.int).take at_ ++ cv 0 odd :: ((rows.map MV.int).drop at_ ++ [MV.non])), MV.int at_], MV.tup [MV.non, MV.int 0], MV.tup [MV.int 5, MV.int 0], MV.tup [MV.str "00", MV.int 0], MV.tup [MV.dct 0 false [], MV.int 0]] = Cs.map caseV := by
    simp [Cs, caseV, fbV, rD, cvs_map, Function.comp_def, List.map_take, List.map_drop]
  have hCs : ∀ q ∈ Cs, Tame 100 3 q.1 ∧ rb T.length q.1 = q.2 ∧ (q.2 = none → q.1 = rD rows) := by
    have ti := Tames.ints (r := rows) (n := 40) (fun e he => by have := hrows e he; omega) (by omega)
    have tl : Tames 90 1 ((rows.map PyData.int).take at_ ++ odd :: ((rows.map PyData.int).drop at_ ++ [.none])) := by
      have := ((ti.take at_).kle (show 0 ≤ 1 by omega)).append (Tames.cons hodd (((ti.drop at_).kle (show 0 ≤ 1 by omega)).append (Tames.cons (Tame.none.le (Nat.le_refl 1) (show 0 ≤ 1 by omega)) Tames.nil)))
      exact ⟨this.1, Nat.le_trans this.2.1 (by omega), this.2.2⟩
    intro q hq
    simp only [Cs, List.mem_cons, List.not_mem_nil, or_false] at hq
    rcases hq with rfl | rfl | rfl | rfl | rfl | rfl
    · exact ⟨ti.list.le (by omega) (by omega), rb_rD hrows, fun _ => rfl⟩
    · refine ⟨tl.list.le (by omega) (by omega), ?_, fun h => (nomatch h)⟩
      show fbL (isIx T.length) 0 _ = some at_
      have hat : at_ ≤ rows.length := by omega
      have : ∀ (k : Nat) (rs : List Int) (j : Nat) (tl : List PyData), (∀ r ∈ rs, 0 ≤ r ∧ r < T.length) → j ≤ rs.length → fbL (isIx T.length) k ((rs.map PyData.int).take j ++ odd :: tl) = some (k + j) := by
        intro k rs
        induction rs generalizing k with
        | nil =>
          intro j tl _ hj
          have : j = 0 := by simpa using hj
          subst this
          show (if isIx T.length odd then fbL (isIx T.length) (k + 1) tl else some k) = some (k + 0)
          rw [hoddx]; rfl
        | cons r rs ih =>
          intro j tl h hj
          cases j with
          | zero =>
            show (if isIx T.length odd then fbL (isIx T.length) (k + 1) tl else some k) = some (k + 0)
            rw [hoddx]; rfl
          | succ j =>
            show (if isIx T.length (.int r) then fbL (isIx T.length) (k + 1) ((rs.map PyData.int).take j ++ odd :: tl) else some k) = some (k + (j + 1))
            have hr := h r List.mem_cons_self
            have : isIx T.length (.int r) = true := by simp only [isIx, Bool.and_eq_true, decide_eq_true_eq]; exact hr
            rw [if_pos this, ih (k + 1) j tl (fun z hz => h z (List.mem_cons_of_mem _ hz)) (by simpa using hj)]
            congr 1; omega
      have := this 0 rows at_ ((rows.map PyData.int).drop at_ ++ [.none]) hrows hat
      simpa using this
    · exact ⟨Tame.none.le (by omega) (by omega), rfl, fun h => (nomatch h)⟩
    · exact ⟨(Tame.int (by decide)).le (by omega) (by omega), rfl, fun h => (nomatch h)⟩
    · exact ⟨(Tame.str (by decide +kernel)).le (by omega) (by omega), rfl, fun h => (nomatch h)⟩
    · exact ⟨⟨rfl, by simp [nz], by simp [PyData.depth, PyData.depthKv]⟩, rfl, fun h => (nomatch h)⟩
  have hCl : Cs.length = 6 := rfl
  clear_value Cs
  rw [eC]
  have hCc : colsLt cm (.lst 0 (Cs.map caseV)) = true := by
    rw [colsLt_lst]
    have : ∀ l : List (PyData × Option Nat), colsLtL cm (l.map caseV) = true := fun l => by
      induction l with
      | nil => rfl
      | cons q l ih =>
        have h2 : colsLt cm (fbV q.2) = true := by cases q.2 <;> rfl
        simp [colsLtL_cons, caseV, colsLt_tup, colsLtL_nilP, colsLt_cv hcm, h2]
        simpa [caseV] using ih
    rw [this]; simp [hcm]
  simp [old_reg _ _ _ _ _ hCc]
  -- what stays
  have vTe : MV.lst 0 (T.map rowV) = cv 0 (tD T) := (cv_tD T).symm
  have vMe : MV.lst 0 (m.map stV) = cv 0 (mD m) := (cv_mD m).symm
  have twl : (T.headD []).length ≤ 10 := by
    obtain ⟨g1, g2, w, g3, g4, g5⟩ := hT
    cases T with
    | nil => simp at g1
    | cons r T => have := (g5 r List.mem_cons_self).1; simp; omega
  have tmT := Tame.table hM hT
  have tmM := Tame.machine hm hTl twl
  have TabT : TabL (.lst 0 (T.map rowV)) T := by rw [vTe]; exact TabL_of (nf_tD T) 0
  have MacM : MacL (.lst 0 (m.map stV)) m := by rw [vMe]; exact MacL_of (nf_mD m) 0
  have cT : colsLt cm (.lst 0 (T.map rowV)) = true := by rw [vTe]; exact colsLt_cv hcm _
  have cM : colsLt cm (.lst 0 (m.map stV)) = true := by rw [vMe]; exact colsLt_cv hcm _
  have cpT : ∀ cm' S, callN p fuel (k - 1) "_law_copied" [.lst 0 (T.map rowV)] 0 cm' S = some (.ok (.lst 0 (T.map rowV)) S) := fun cm' S => by
    rw [vTe]; exact copied_run B.copied 0 0 cm' S (k - 1) (tD T) tmT.1 (Nat.le_trans tmT.2.1 (by decide)) (by have := tmT.2.2; omega)
  have cpM : ∀ cm' S, callN p fuel (k - 1) "_law_copied" [.lst 0 (m.map stV)] 0 cm' S = some (.ok (.lst 0 (m.map stV)) S) := fun cm' S => by
    rw [vMe]; exact copied_run B.copied 0 0 cm' S (k - 1) (mD m) tmM.1 (Nat.le_trans tmM.2.1 (by decide)) (by have := tmM.2.2; omega)
  have hM1 : M ≤ 1000 := by omega
  have fbM : fb T.length (T.headD []).length (mD m) = none := by rw [← fb_nf, nf_mD, fb_mN hm]
  let I : Nat → Sl → Store → Prop := fun b1 sl S => StAt b1 S ∧ ∃ (o3 o4 o5 o6 o7 o8 o9 o10 o11 o12 : Option MV) (s13 : SV) (o14 o15 o16 o17 o18 : Option MV),
    sl = [.val (.ptr 1), .val (.lst 0 (T.map rowV)), .val (.lst 0 (m.map stV)), ov o3, ov o4, ov o5, ov o6, ov o7, ov o8, ov o9, ov o10, ov o11, ov o12, s13, ov o14, ov o15, ov o16, ov o17, ov o18]
  refine forK_draw (I := I) (N := fun _ => 1000) (M := b + 100 + 6000) Cs (b + 100) _ S4 ⟨hS4.le (by omega), some _, none, some _, some _, some _, none, none, none, none, none, .un, none, none, none, none, none, rfl⟩ (by rw [sum_const, hCl]; omega) ?_ ?_
  · rintro ⟨t, wr⟩ hq b1 sl1 s1 ⟨hs1, o3, o4, o5, o6, o7, o8, o9, o10, o11, o12, s13, o14, o15, o16, o17, o18, rfl⟩ hb1
    obtain ⟨tmt, hrb, hwn⟩ := hCs _ hq
    simp only at tmt hrb hwn
    refine ⟨_, by simp [caseV, bindS_cons_tup]; rfl, ?_⟩
    have cpt : ∀ cm' S, callN p fuel (k - 1) "_law_copied" [cv 0 t] 0 cm' S = some (.ok (cv 0 t) S) := fun cm' S =>
      copied_run B.copied 0 0 cm' S (k - 1) t tmt.1 (Nat.le_trans tmt.2.1 (by decide)) (by have := tmt.2.2; omega)
    simp [se_g, view_cons]
    refine handed_run B.handed B.loose B.draw B.fu (by omega) (by simp) hM hT hs1 (by omega) fun h0 s2 hh0 hs2 => ?_
    simp
    refine machine_handed_run B.machine_handed B.loose B.draw B.fu (by omega) (by simp) hTl hm hs2 (by omega) fun h1 s3 hh1 hs3 => ?_
    simp [okO_nl, okO_val, colsLtL_cons, colsLtL_nilP, colsLt_cv (show 0 < cm + 1 by omega), se_g, view_cons, cpt]
    refine loose_run B.loose B.draw B.fu (by simp) _ t _ s3 (Nat.le_trans tmt.2.1 (by decide)) (by have := tmt.2.2; omega) hs3 (by have := tmt.2.1; omega) fun mi s4 hmi hs4 => ?_
    have tm0 : Tame 111 2 h0 := tmT.nf (by rw [hh0, nf_tD])
    have tm1 : Tame 79 3 h1 := tmM.nf (by rw [hh1, nf_mD])
    have tmi : Tame 100 3 mi := tmt.nf hmi
    have tall : Tame 300 5 (.list [.list [h0, h1], mi]) := (Tames.cons (Tames.cons (tm0.le (Nat.le_refl _) (by omega)) (Tames.cons tm1 Tames.nil)).list (Tames.cons (tmi.le (Nat.le_refl _) (by omega)) Tames.nil)).list.le (by omega) (by omega)
    have er : biF .repr [MV.lst 0 [MV.lst 0 [cv 0 h0, cv 0 h1], cv 0 mi]] = some (.val (.str (PyData.shown (.list [.list [h0, h1], mi])))) := by
      have : MV.lst 0 [MV.lst 0 [cv 0 h0, cv 0 h1], cv 0 mi] = cv 0 (.list [.list [h0, h1], mi]) := rfl
      rw [this]
      exact repr_cv (toPD_cv 0 _ tall.1) tall.1 (by have := tall.2.1; omega) (by have := tall.2.2; omega)
    have sok := strOk_shown _ tall.1
    generalize PyData.shown (.list [.list [h0, h1], mi]) = ss at er sok
    have hs4' : StAt (b1 + 900) s4 := hs4.le (by have := tmt.2.1; omega)
    have Tab0 : TabL (cv 0 h0) T := TabL_of hh0 0
    have fb1 : fb T.length (T.headD []).length h1 = none := by rw [← fb_nf, hh1, fb_mN hm]
    have rbm : rb T.length mi = wr := by rw [← rb_nf, hmi, rb_nf, hrb]
    have esame : pyEq (.str ss) (.str ss) = some true := by rw [pyEq_str sok sok]; simp
    simp [okO_nl, okO_val, colsLtL_cons, colsLtL_nilP, colsLt_cv (show 0 < cm + 1 by omega), se_g, seO_g, view_cons, putV, er]
    cases wr with
    | some i =>
      have an1 : ∀ col cm' S, callN p fuel (k - 1) "answered" [cv 0 h0, cv 0 h1, cv 0 mi] col cm' S = some (.exc "BadRows" (.int i) S) := fun col cm' S =>
        answered_br B.toMBase79 (by omega) Tab0 hT hM1 0 h1 (by have := tm1.2.1; omega) fb1 0 mi rbm col cm' S
      have an2 : ∀ col cm' S, callN p fuel (k - 1) "answered" [.lst 0 (T.map rowV), .lst 0 (m.map stV), cv 0 mi] col cm' S = some (.exc "BadRows" (.int i) S) := fun col cm' S => by
        have := answered_br B.toMBase79 (show 6 < k - 1 by omega) TabT hT hM1 0 (mD m) (by have := tmM.2.1; omega) fbM 0 mi rbm col cm' S
        rw [cv_mD] at this; exact this
      have su1 : ∀ col cm' S, callN p fuel (k - 1) "sum_of" [cv 0 h0, cv 0 h1, cv 0 mi] col cm' S = some (.exc "BadRows" (.int i) S) := fun col cm' S =>
        sum_of_br B.toMBase79 (by omega) Tab0 hT hM1 0 h1 (by have := tm1.2.1; omega) fb1 0 mi rbm col cm' S
      have su2 : ∀ col cm' S, callN p fuel (k - 1) "sum_of" [.lst 0 (T.map rowV), .lst 0 (m.map stV), cv 0 mi] col cm' S = some (.exc "BadRows" (.int i) S) := fun col cm' S => by
        have := sum_of_br B.toMBase79 (show 7 < k - 1 by omega) TabT hT hM1 0 (mD m) (by have := tmM.2.1; omega) fbM 0 mi rbm col cm' S
        rw [cv_mD] at this; exact this
      have sm : ∀ c c' cm' S, callN p fuel (k - 1) "_law_same" [.lst c [.tup [.str "rows", .int i], .tup [.str "rows", .int i], .tup [.str "rows", .int i], .tup [.str "rows", .int i]], .lst c' [.tup [.str "rows", .int i], .tup [.str "rows", .int i], .tup [.str "rows", .int i], .tup [.str "rows", .int i]]] 0 cm' S = some (.ok (.bl true) S) := fun c c' cm' S => by
        have hi : i ≤ 100 := Nat.le_trans (rb_lt hrb) tmt.2.1
        have tp := pair_tame (x := "rows") (by decide +kernel) (Tame.int (i := (i : Int)) (by omega))
        have tw := (Tames.cons tp (Tames.cons tp (Tames.cons tp (Tames.cons tp Tames.nil)))).list
        exact same_run B.same 0 cm' S (k - 1) _ _ _ tw.1 (Nat.le_trans tw.2.1 (by decide)) (by have := tw.2.2; omega) rfl rfl
      simp [okO_nl, okO_val, colsLt_tup, colsLtL_cons, colsLtL_nilP, colsLt_cv (show 0 < cm + 1 by omega), se_g, seO_g, tst_g, view_cons, putV, er, an1, an2, su1, su2, metR_exc B.hsR, fbV, cpT, cpM, isNon, sm, esame]
      exact ⟨hs4'.le (by omega), o3, o4, o5, o6, o7, some _, some _, some _, some _, some _, _, some _, o15, o16, o17, o18, rfl⟩
    | none =>
      obtain rfl := hwn rfl
      have hmir : nf mi = rD rows := by rw [hmi, nf_rD]
      have hwi := wk_in hm rows 0 (by omega) (by have := hm.1; omega) hrows
      have hrl' : rows.length ≤ 1000 := by omega
      have an1 : ∀ col cm' S, 0 < cm' → callN p fuel (k - 1) "answered" [cv 0 h0, cv 0 h1, cv 0 mi] col cm' S = some (.ok (.lst col ((wk m 0 rows).1.map celV)) S) := fun col cm' S hc =>
        answered_ok B.toMBase79 (by omega) Tab0 hT hM1 0 h1 (by have := tm1.2.1; omega) hm hh1 hmir hrows hrl' hc col S
      have an2 : ∀ col cm' S, 0 < cm' → callN p fuel (k - 1) "answered" [.lst 0 (T.map rowV), .lst 0 (m.map stV), cv 0 mi] col cm' S = some (.ok (.lst col ((wk m 0 rows).1.map celV)) S) := fun col cm' S hc => by
        have := answered_ok B.toMBase79 (show 6 < k - 1 by omega) TabT hT hM1 0 (mD m) (by have := tmM.2.1; omega) hm (nf_mD m) hmir hrows hrl' hc col S
        rw [cv_mD] at this; exact this
      have su1 : ∀ col cm' S, 0 < cm' → callN p fuel (k - 1) "sum_of" [cv 0 h0, cv 0 h1, cv 0 mi] col cm' S = some (.ok (.int ((wk m 0 rows).1.map (tget T)).sum) S) := fun col cm' S hc =>
        sum_of_ok B.toMBase79 (by omega) Tab0 hT hM1 0 h1 (by have := tm1.2.1; omega) hm hh1 hmir hrows hrl' hc col S
      have su2 : ∀ col cm' S, 0 < cm' → callN p fuel (k - 1) "sum_of" [.lst 0 (T.map rowV), .lst 0 (m.map stV), cv 0 mi] col cm' S = some (.ok (.int ((wk m 0 rows).1.map (tget T)).sum) S) := fun col cm' S hc => by
        have := sum_of_ok B.toMBase79 (show 7 < k - 1 by omega) TabT hT hM1 0 (mD m) (by have := tmM.2.1; omega) hm (nf_mD m) hmir hrows hrl' hc col S
        rw [cv_mD] at this; exact this
      have wkr : ∀ cm' S, 0 < cm' → callN p fuel (k - 1) "_law_walk" [.lst 0 (m.map stV), .int 0, cv 0 (rD rows)] 0 cm' S = some (.ok (.tup [.lst 0 ((wk m 0 rows).1.map celV), .int (wk m 0 rows).2]) S) := fun cm' S hc =>
        walked_run B.law_walk (show 0 < k - 1 by omega) hm MacM (RowL_of (nf_rD rows) 0) hrows hrl' (colsLt_cv hc _) (Int.le_refl 0) (by have := hm.1; omega) 0 S
      have hcl : (wk m 0 rows).1.length ≤ 40 := by rw [hwi.2]; omega
      have hcell := hwi.1
      have tcel := Tames.cells hcell (by omega) (by omega) hcl
      have hsum : ∀ cs : List (Int × Int), (∀ q ∈ cs, 0 ≤ q.1 ∧ q.1 < T.length ∧ 0 ≤ q.2 ∧ q.2 < (T.headD []).length) → -(2000 * (cs.length : Int)) ≤ (cs.map (tget T)).sum ∧ (cs.map (tget T)).sum ≤ 2000 * (cs.length : Int) := fun cs h => by
        induction cs with
        | nil => simp
        | cons q cs ih =>
          have h1 := ih fun z hz => h z (List.mem_cons_of_mem _ hz)
          obtain ⟨xs, hx, hxs⟩ := TabT
          obtain ⟨_, _, _, _, _, h2, h3⟩ := tget_in hT hxs (h q List.mem_cons_self)
          simp only [List.map_cons, List.sum_cons, List.length_cons]
          omega
      have htot := hsum _ hcell
      have etot : ∀ cs : List (Int × Int), biF .sum [.lst 0 (cs.map fun q => MV.int (tget T q))] = some (.val (.int (cs.map (tget T)).sum)) := fun cs => biF_sum_map 0 (tget T) cs
      generalize hcells : (wk m 0 rows).1 = cells at an1 an2 su1 su2 wkr hcl hcell tcel htot
      generalize htt : (cells.map (tget T)).sum = tot at su1 su2 htot
      have hcl' : cells.length ≤ sizeLine := Nat.le_trans hcl (by decide)
      have sm : ∀ c c' c1 c2 c3 c4 cm' S, callN p fuel (k - 1) "_law_same" [.lst c [.tup [.str "told", .lst c1 (cells.map celV)], .tup [.str "told", .lst c2 (cells.map celV)], .tup [.str "told", .int tot], .tup [.str "told", .int tot]], .lst c' [.tup [.str "told", .lst c3 (cells.map celV)], .tup [.str "told", .lst c4 (cells.map celV)], .tup [.str "told", .int tot], .tup [.str "told", .int tot]]] 0 cm' S = some (.ok (.bl true) S) := fun c c' c1 c2 c3 c4 cm' S => by
        have tp1 := pair_tame (x := "told") (by decide +kernel) tcel.list
        have tp2 := pair_tame (x := "told") (by decide +kernel) ((Tame.int (i := tot) (by omega)).le (Nat.le_refl 1) (show 0 ≤ 2 by omega))
        have tw := (Tames.cons tp1 (Tames.cons tp1 (Tames.cons tp2 (Tames.cons tp2 Tames.nil)))).list
        have e : ∀ c c1 c2, toPD (.lst c [.tup [.str "told", .lst c1 (cells.map celV)], .tup [.str "told", .lst c2 (cells.map celV)], .tup [.str "told", .int tot], .tup [.str "told", .int tot]]) = some (.list [.tuple [.str "told", .list (cells.map celD)], .tuple [.str "told", .list (cells.map celD)], .tuple [.str "told", .int tot], .tuple [.str "told", .int tot]]) := fun c c1 c2 => by
          simp [toPD, toPDs, toPDs_cells]
        exact same_run B.same 0 cm' S (k - 1) _ _ _ tw.1 (Nat.le_trans tw.2.1 (by decide)) (by have := tw.2.2; omega) (e _ _ _) (e _ _ _)
      have sm2 : ∀ c c' cm' S, callN p fuel (k - 1) "_law_same" [.lst c (cells.map celV), .lst c' (cells.map celV)] 0 cm' S = some (.ok (.bl true) S) := fun c c' cm' S => by
        have tw := tcel.list
        have e : ∀ c, toPD (.lst c (cells.map celV)) = some (.list (cells.map celD)) := fun c => by simp [toPD, toPDs_cells]
        exact same_run B.same 0 cm' S (k - 1) _ _ _ tw.1 (Nat.le_trans tw.2.1 (by decide)) (by have := tw.2.2; omega) (e _) (e _)
      simp [okO_nl, okO_val, colsLt_tup, colsLt_lst, colsLtL_cons, colsLtL_nilP, colsLtL_cells, colsLt_cv (show 0 < cm + 1 by omega), se_g, seO_g, tst_g, view_cons, putV, er, an1, an2, su1, su2, wkr, fbV, cpT, cpM, isNon, sm, sm2, esame]
      rw [lcK_map (g := fun q => MV.int (tget T q)) cells (by
        intro q hq
        obtain ⟨xs, hx, hxs⟩ := TabT
        have f := hx.f
        obtain ⟨x, ys, i1, fx, i2, _⟩ := tget_in hT hxs (hcell q hq)
        refine ⟨_, rfl, rfl, ?_⟩
        simp [f.sub, i1, fx.look, fx.sub, i2])]
      have sp := spoil_cells cm cells (by omega)
      obtain ⟨o3', w3⟩ := wipe_ov cm o3
      obtain ⟨o4', w4⟩ := wipe_ov cm o4
      obtain ⟨o5', w5⟩ := wipe_ov cm o5
      obtain ⟨o6', w6⟩ := wipe_ov cm o6
      obtain ⟨o7', w7⟩ := wipe_ov cm o7
      obtain ⟨o17', w17⟩ := wipe_ov cm o17
      obtain ⟨o18', w18⟩ := wipe_ov cm o18
      simp [hcl', etot, htt, okO_nl, okO_val, colsLt_tup, colsLt_lst, colsLtL_cons, colsLtL_nilP, colsLtL_cells, colsLt_cv (show 0 < cm + 1 by omega), se_g, seO_g, tst_g, view_cons, putV, er, an1, an2, su1, su2, wkr, fbV, cpT, cpM, isNon, sm, sm2, esame, sp,
        wipe_val, wipe_olP, w3, w4, w5, w6, w7, w17, w18, cT, cM, colsLt_cv hcm, hcm]
      exact ⟨hs4'.le (by omega), o3', o4', o5', o6', o7', some _, some _, some _, some _, some _, _, some _, some _, some _, o17', o18', rfl⟩
  · rintro sl2 s2 ⟨hs2, o3, o4, o5, o6, o7, o8, o9, o10, o11, o12, s13, o14, o15, o16, o17, o18, rfl⟩
    simp [Fr.cfg1]
    refine H s2 (hs2.le ?_)
    rw [sum_const, hCl]; omega
end
end Mv

end
section
set_option Elab.async false
set_option linter.all false
set_option maxRecDepth 100000
namespace Mv
open PySem
namespace L
def law79 : Df := ⟨["script"], 16, (.cons (.set 1 false (.call "_law_stream" (.cons false (.nm 0) .nil) [])) (.cons (.for_ (.nm 2) (.by_ .range (.cons false (.cn (.int 7)) .nil)) (.cons (.set 3 false (.call "_law_table" (.cons false (.nm 1) (.cons false (.cn (.int 4)) .nil)) [])) (.cons (.set 4 false (.call "_law_machine" (.cons false (.nm 1) (.cons false (.nm 3) (.cons false (.cn (.int 6)) .nil))) [])) (.cons (.set 5 false (.bi .repr (.cons false (.lst (.cons false (.nm 3) (.cons false (.nm 4) .nil))) .nil))) (.cons (.ifS (.nt (.call "_law_rows_right" (.cons false (.nm 1) (.cons false (.nm 3) (.cons false (.nm 4) .nil))) [])) (.cons (.ret (some (.cn (.bl false)))) .nil) .nil) (.cons (.set 6 true (.lst (.cons false (.nm 4) (.cons false (.slc (.nm 4) none (some (.cn (.int 1)))) (.cons false (.rv (.nm 4)) (.cons false (.lst .nil) (.cons false (.cn (.non)) (.cons false (.cn (.int 5)) (.cons false (.cn (.str "ab")) (.cons false (.dct false .nil .nil) (.cons false (.lst (.cons false (.cn (.non)) .nil)) .nil))))))))))) (.cons (.extend 6 (.lc (.call "_law_bent_machine" (.cons false (.nm 1) (.cons false (.nm 3) (.cons false (.nm 4) .nil))) []) (.nm 7) (.by_ .range (.cons false (.cn (.int 6)) .nil)) .nil [7])) (.cons (.frz [6]) (.cons (.for_ (.nm 8) (.val (.nm 6)) (.cons (.par [(9, false), (10, false)] (.cons false (.call "_law_first_bad" (.cons false (.nm 3) (.cons false (.nm 8) .nil)) []) (.cons false (.call "_law_loose" (.cons false (.nm 1) (.cons false (.call "_law_copied" (.cons false (.nm 8) .nil) []) .nil)) []) .nil))) (.cons (.par [(11, false), (12, false)] (.cons false (.bi .repr (.cons false (.nm 10) .nil)) (.cons false (.lst (.cons false (.call "is_machine" (.cons false (.call "_law_handed" (.cons false (.nm 1) (.cons false (.nm 3) .nil)) []) (.cons false (.nm 10) .nil)) []) (.cons false (.call "is_machine" (.cons false (.nm 10) (.cons false (.call "_law_copied" (.cons false (.nm 3) .nil) []) .nil)) [1, 0]) .nil))) .nil))) (.cons (.ifS (.orE (.nt (.call "_law_same" (.cons false (.nm 12) (.cons false (.bin .mul (.lst (.cons false (.cmp .is_ (.nm 9) (.cn (.non))) .nil)) (.cn (.int 2))) .nil)) [])) (.cons false (.cmp .ne (.bi .repr (.cons false (.nm 10) .nil)) (.nm 11)) .nil)) (.cons (.ret (some (.cn (.bl false)))) .nil) .nil) (.cons (.ifS (.cmp .isnot (.nm 9) (.cn (.non))) (.cons (.set 13 true (.lst (.cons false (.met (.call "answered" (.cons false (.call "_law_copied" (.cons false (.nm 3) .nil) []) (.cons false (.nm 10) (.cons false (.cn (.non)) .nil))) [])) .nil))) (.cons (.append 13 (.met (.call "sum_of" (.cons false (.cn (.non)) (.cons false (.nm 10) (.cons false (.call "_law_copied" (.cons false (.nm 3) .nil) []) .nil))) [2, 1, 0]))) (.cons (.ifS (.nt (.call "_law_same" (.cons false (.nm 13) (.cons false (.bin .mul (.lst (.cons false (.tup (.cons false (.cn (.str "machine")) (.cons false (.nm 9) .nil))) .nil)) (.cn (.int 2))) .nil)) [])) (.cons (.ret (some (.cn (.bl false)))) .nil) .nil) .nil))) .nil) .nil))))) (.cons (.ifS (.cmp .ne (.bi .repr (.cons false (.lst (.cons false (.nm 3) (.cons false (.nm 4) .nil))) .nil)) (.nm 5)) (.cons (.ret (some (.cn (.bl false)))) .nil) .nil) .nil)))))))))) (.cons (.par [(14, false), (15, false)] (.cons false (.lst (.cons false (.lst (.cons false (.cn (.int 3)) (.cons false (.cn (.int 0)) .nil))) (.cons false (.lst (.cons false (.cn (.int 5)) (.cons false (.cn (.int 1)) .nil))) .nil))) (.cons false (.lst (.cons false (.tup (.cons false (.cn (.int 0)) (.cons false (.lst (.cons false (.cn (.int 0)) (.cons false (.cn (.int 1)) .nil))) .nil))) (.cons false (.tup (.cons false (.cn (.int 1)) (.cons false (.lst (.cons false (.cn (.int 0)) (.cons false (.cn (.int 1)) .nil))) .nil))) .nil))) .nil))) (.cons (.set 12 false (.lst (.cons false (.call "answered" (.cons false (.nm 14) (.cons false (.nm 15) (.cons false (.lst (.cons false (.cn (.int 0)) (.cons false (.cn (.int 0)) (.cons false (.cn (.int 1)) .nil)))) .nil))) []) (.cons false (.call "sum_of" (.cons false (.nm 14) (.cons false (.nm 15) (.cons false (.lst (.cons false (.cn (.int 0)) (.cons false (.cn (.int 0)) (.cons false (.cn (.int 1)) .nil)))) .nil))) []) (.cons false (.call "is_machine" (.cons false (.nm 14) (.cons false (.lst (.cons false (.tup (.cons false (.cn (.int 0)) (.cons false (.lst (.cons false (.cn (.int 0)) (.cons false (.cn (.int 0)) .nil))) .nil))) .nil)) .nil)) []) (.cons false (.call "answered" (.cons false (.nm 14) (.cons false (.nm 15) (.cons false (.lst .nil) .nil))) []) .nil)))))) (.cons (.ret (some (.call "_law_same" (.cons false (.nm 12) (.cons false (.lst (.cons false (.lst (.cons false (.tup (.cons false (.cn (.int 0)) (.cons false (.cn (.int 0)) .nil))) (.cons false (.tup (.cons false (.cn (.int 0)) (.cons false (.cn (.int 0)) .nil))) (.cons false (.tup (.cons false (.cn (.int 1)) (.cons false (.cn (.int 0)) .nil))) .nil)))) (.cons false (.cn (.int 11)) (.cons false (.cn (.bl true)) (.cons false (.lst .nil) .nil))))) .nil)) []))) .nil))))), 0⟩
end L
@[simp] theorem look_cv (S : Store) (c : Nat) (d : PyData) : look S (cv c d) = some (cv c d) := by cases d <;> rfl
@[simp] theorem lkL_cv (S : Store) (c : Nat) (d : PyData) (vs : List MV) : lkL S (cv c d :: vs) = (lkL S vs).map (cv c d :: ·) := by
  show (match look S (cv c d), lkL S vs with | some x, some xs => some (x :: xs) | _, _ => none) = _
  rw [look_cv]
  cases lkL S vs <;> rfl
@[simp] theorem perm10 (a b : MV) : perm [1, 0] [a, b] = [b, a] := (rfl)
theorem slc_to1 (c : Nat) (xs : List MV) : slcV (.lst c xs) none (some 1) = some (.nl (xs.take 1)) := slc_to c xs 1
theorem isNon_fbV (o : Option Nat) : isNon (fbV o) = o.isNone := by cases o <;> rfl
theorem frz_ov (c : Nat) (o : Option MV) : SV.frz c (ov o) = ov o := by cases o <;> rfl
theorem colsLt_dct0 {b : Nat} (h : 0 < b) : colsLt b (.dct 0 false []) = true := by simp [colsLt, colsLtD, h]
theorem colsLtL_sts {b : Nat} (h : 0 < b) (m : List (Int × List Int)) : colsLtL b (m.map stV) = true := by
  rw [cvs_stD]; exact colsLtL_cv h _
section
variable {p : Pg} {fuel : Nat}
theorem law79_run (B : Law79 p fuel) (hp : p.get "law" = some L.law79) {k cm : Nat} (hk : 30 < k) (hcm : 0 < cm) (ns : List Int) (hl : ns.length ≤ 63) (hb : ∀ z ∈ ns, Builtin.Int.intBits z ≤ 1048576) :
    Wp (callN p fuel k "law" [.scr (ns.map .int)] 0 cm []) fun v _ => v = .bl true := by
  rw [callN_run hp (by omega) rfl rfl, Wp_endR]
  obtain ⟨S0, eS, hS0⟩ := stream_run (fuel := fuel) B.stream (show 0 < k - 1 by omega) cm ns hl hb
  have e7 : walkF .range [.int 7] = some ((List.range 7).map fun k => MV.int (k : Nat)) := walkF_range1 7 (by decide)
  have e6 : walkF .range [.int 6] = some ((List.range 6).map fun k => MV.int (k : Nat)) := walkF_range1 6 (by decide)
  simp [L.law79, slots0, seO_un, eS, seW_by, seL_un, oldL_eq]
  rw [e7]
  simp only [lift_someP, Wp_ok, lb_ok, need_t, oldL_eq]
  let I : Nat → Sl → Store → Prop := fun b1 sl S => StAt b1 S ∧ ∃ (o2 o3 o4 o5 o6 o7 o8 o9 o10 o11 o12 : Option MV) (s13 : SV) (o14 o15 : Option MV),
    sl = [.val (.scr (ns.map .int)), .val (.ptr 1), ov o2, ov o3, ov o4, ov o5, ov o6, ov o7, ov o8, ov o9, ov o10, ov o11, ov o12, s13, ov o14, ov o15]
  refine forK_draw (I := I) (N := fun _ => 30000) (M := 210000) (List.range 7) 0 _ S0 ⟨hS0, none, none, none, none, none, none, none, none, none, none, none, .un, none, none, rfl⟩ (by rw [sum_const]; simp) ?_ ?_
  · rintro turn _ b1 sl1 s1 ⟨hs1, o2, o3, o4, o5, o6, o7, o8, o9, o10, o11, o12, s13, o14, o15, rfl⟩ hb1
    refine ⟨_, rfl, ?_⟩
    have cpos : 0 < cm := hcm
    simp [seO_g, se_g, view_cons]
    refine table_run B.table B.draw B.fu (by omega) (by simp [hcm]) (M := 4) (by decide) (by decide) hs1 (by omega) fun T s2 hT hs2 => ?_
    have hTl : T.length ≤ 10 := Nat.le_trans hT.2.1 (by decide)
    have vTe : MV.lst 0 (T.map rowV) = cv 0 (tD T) := (cv_tD T).symm
    have cT : colsLt cm (.lst 0 (T.map rowV)) = true := by rw [vTe]; exact colsLt_cv hcm _
    simp [okO_nl, okO_val, cT, seO_g, se_g, view_cons]
    refine machine_run B.machine B.draw B.fu (by omega) (by simp [hcm]) (M := 4) (by decide) hT hs2 (by omega) fun m s3 hm hs3 => ?_
    have vMe : MV.lst 0 (m.map stV) = cv 0 (mD m) := (cv_mD m).symm
    have cM : colsLt cm (.lst 0 (m.map stV)) = true := by rw [vMe]; exact colsLt_cv hcm _
    have twl : (T.headD []).length ≤ 10 := by
      obtain ⟨g1, g2, w, g3, g4, g5⟩ := hT
      cases T with
      | nil => simp at g1
      | cons r T => have := (g5 r List.mem_cons_self).1; simp; omega
    have tmT := Tame.table (show 4 ≤ 10 by decide) hT
    have tmM := Tame.machine hm hTl twl
    have TabT : TabL (.lst 0 (T.map rowV)) T := by rw [vTe]; exact TabL_of (nf_tD T) 0
    have tall : Tame 300 5 (.list [tD T, mD m]) := (Tames.cons (tmT.le (Nat.le_refl _) (show 2 ≤ 3 by omega)) (Tames.cons tmM Tames.nil)).list.le (by omega) (by omega)
    have er : biF .repr [MV.lst 0 [MV.lst 0 (T.map rowV), MV.lst 0 (m.map stV)]] = some (.val (.str (PyData.shown (.list [tD T, mD m])))) := by
      have : MV.lst 0 [MV.lst 0 (T.map rowV), MV.lst 0 (m.map stV)] = cv 0 (.list [tD T, mD m]) := by rw [vTe, vMe]; rfl
      rw [this]
      exact repr_cv (toPD_cv 0 _ tall.1) tall.1 (by have := tall.2.1; omega) (by have := tall.2.2; omega)
    have sok := strOk_shown _ tall.1
    generalize PyData.shown (.list [tD T, mD m]) = ss at er sok
    have esame : pyEq (.str ss) (.str ss) = some true := by rw [pyEq_str sok sok]; simp
    have cpT : ∀ cm' S, callN p fuel (k - 1) "_law_copied" [.lst 0 (T.map rowV)] 0 cm' S = some (.ok (.lst 0 (T.map rowV)) S) := fun cm' S => by
      rw [vTe]; exact copied_run B.copied 0 0 cm' S (k - 1) (tD T) tmT.1 (Nat.le_trans tmT.2.1 (by decide)) (by have := tmT.2.2; omega)
    simp [okO_nl, okO_val, cT, cM, seO_g, se_g, tst_g, view_cons, er]
    refine rows_right_run B (by omega) (by simp [hcm]) (M := 4) (by decide) hT hm hs3 (by omega) fun s4 hs4 => ?_
    have ct1 : colsLtL cm ((m.map stV).take 1) = true := by rw [← List.map_take]; exact colsLtL_sts hcm _
    have ct2 : colsLtL cm (m.map stV).reverse = true := by rw [← List.map_reverse]; exact colsLtL_sts hcm _
    have eL : [MV.lst 0 (m.map stV), MV.lst 0 ((m.map stV).take 1), MV.lst 0 (m.map stV).reverse, MV.lst 0 [], MV.non, MV.int 5, MV.str "ab", MV.dct 0 false [], MV.lst 0 [MV.non]] =
        cvs 0 [mD m, .list ((m.map stD).take 1), .list (m.map stD).reverse, .list [], .none, .int 5, .str "ab", .dict [], .list [.none]] := by
      simp only [cvs_cons, cvs_nil, cv_mD, cv_list, cv_none, cv_int, cv_str, cv_dict]
      rw [cvs_stD]
      simp [cvs_map]
    have hds0 : ∀ d ∈ [mD m, .list ((m.map stD).take 1), .list (m.map stD).reverse, .list [], .none, .int 5, .str "ab", .dict [], .list [.none]], Tame 300 6 d := by
      have ts : ∀ d ∈ m.map stD, Tame 13 2 d := fun d hd => by
        obtain ⟨q, hq, rfl⟩ := List.mem_map.mp hd
        exact (Tame.st hm hTl twl hq).1
      have t6 : (m.map stD).length ≤ 6 := by simpa using hm.2.1
      intro d hd
      simp only [List.mem_cons, List.not_mem_nil, or_false] at hd
      rcases hd with rfl | rfl | rfl | rfl | rfl | rfl | rfl | rfl | rfl
      · exact tmM.le (by omega) (by omega)
      · exact ((Tames.of (K := 6) ts t6).take 1).list.le (by omega) (by omega)
      · exact (Tames.of (K := 6) (n := 13) (k := 2) (fun d hd => ts d (List.mem_reverse.mp hd)) (by simpa using t6)).list.le (by omega) (by omega)
      · exact (Tames.nil (k := 0)).list.le (by omega) (by omega)
      · exact Tame.none.le (by omega) (by omega)
      · exact (Tame.int (by decide)).le (by omega) (by omega)
      · exact (Tame.str (by decide +kernel)).le (by omega) (by omega)
      · exact ⟨rfl, by simp [nz], by simp [PyData.depth, PyData.depthKv]⟩
      · exact (Tames.cons Tame.none Tames.nil).list.le (by omega) (by omega)
    generalize hd0 : [mD m, .list ((m.map stD).take 1), .list (m.map stD).reverse, .list [], .none, .int 5, .str "ab", .dict [], .list [.none]] = ds0 at hds0 eL
    have hd0l : ds0.length = 9 := by rw [← hd0]; rfl
    have cLd : colsLtL cm (cvs 0 ds0) = true := colsLtL_cv hcm _
    simp [eL, e6, cLd, hd0l, okO_nl, okO_val, cT, cM, ct1, ct2, colsLt_dct0 hcm, colsLt_lst, colsLtL_cons, colsLtL_nilP, hcm, seO_g, se_g, tst_g, view_cons, slc_to1, -List.map_take, -List.map_reverse]
    refine lcK_draw (P := fun _ v => ∃ d, v = cv 0 d ∧ Tame 300 6 d) (N := fun _ => 4) (M := b1 + 400 + 100 + 9000 + 24) (List.range 6) _ s4 hs4 (by rw [sum_const, List.length_range]; omega) ?_ ?_
    · intro j _ b2 s5 hs5 hb2
      refine ⟨_, rfl, rfl, ?_⟩
      simp
      refine bent_run B.toBase B.bent B.pick (by omega) (by simp [hcm]) (M := 4) (by decide) hT hm hs5 (by omega) fun d s6 hd hs6 => ?_
      simp
      exact ⟨⟨d, rfl, hd⟩, hs6⟩
    intro ys s5 hys hs5
    obtain ⟨zs, rfl, hz⟩ := hys.pull
    have hzl : zs.length = 6 := by rw [← hz.len, List.length_range]
    rw [sum_const, List.length_range] at hs5
    have cz : colsLtL cm (zs.map (cv 0)) = true := by rw [← cvs_map]; exact colsLtL_cv hcm _
    obtain ⟨ds, eds, hds, hdl⟩ : ∃ ds : List PyData, cvs 0 ds0 ++ zs.map (cv 0) = ds.map (cv 0) ∧ (∀ d ∈ ds, Tame 300 6 d) ∧ ds.length = 15 := by
      refine ⟨ds0 ++ zs, by rw [cvs_map, List.map_append], fun d hd => ?_, by simp [hd0l, hzl]⟩
      rcases List.mem_append.mp hd with hd | hd
      · exact hds0 d hd
      · exact (hz.all fun _ _ h => h) d hd
    have cds : colsLtL cm (ds.map (cv 0)) = true := by rw [← cvs_map]; exact colsLtL_cv hcm _
    simp [hzl, hd0l, okO_nl, okO_val, cz, colsLt_lst, hcm, frzAt, SV.frz, eds, cds, seW_val, se_g, old_eq, view_cons]
    let J : Nat → Sl → Store → Prop := fun b1 sl S => StAt b1 S ∧ ∃ (o7 o8 o9 o10 o11 o12 : Option MV) (s13 : SV) (o14 o15 : Option MV),
      sl = [.val (.scr (ns.map .int)), .val (.ptr 1), .val (.int turn), .val (.lst 0 (T.map rowV)), .val (.lst 0 (m.map stV)), .val (.str ss), .val (.lst 0 (ds.map (cv 0))), ov o7, ov o8, ov o9, ov o10, ov o11, ov o12, s13, ov o14, ov o15]
    refine forK_draw (I := J) (N := fun _ => 1000) (M := b1 + 9600 + 15000) ds (b1 + 9600) _ s5 ⟨hs5.le (by omega), o7, o8, o9, o10, o11, o12, s13, o14, o15, rfl⟩ (by rw [sum_const, hdl]; omega) ?_ ?_
    · rintro d hd b2 sl2 s6 ⟨hs6, o7, o8, o9, o10, o11, o12, s13, o14, o15, rfl⟩ hb2
      have tmd := hds d hd
      refine ⟨_, rfl, ?_⟩
      have cpd : ∀ cm' S, callN p fuel (k - 1) "_law_copied" [cv 0 d] 0 cm' S = some (.ok (cv 0 d) S) := fun cm' S =>
        copied_run B.copied 0 0 cm' S (k - 1) d tmd.1 (Nat.le_trans tmd.2.1 (by decide)) (by have := tmd.2.2; omega)
      have fbr : ∀ cm' S, callN p fuel (k - 1) "_law_first_bad" [.lst 0 (T.map rowV), cv 0 d] 0 cm' S = some (.ok (fbV (fb T.length (T.headD []).length d)) S) := fun cm' S =>
        law_first_bad_run B.toMBase79 (by omega) TabT hT (by decide) 0 d (by have := tmd.2.1; omega) 0 cm' S
      have cfb : colsLt cm (fbV (fb T.length (T.headD []).length d)) = true := by cases fb T.length (T.headD []).length d <;> rfl
      generalize hfb : fb T.length (T.headD []).length d = wr at fbr cfb
      simp [se_g, view_cons, fbr, okO_val, cfb, cpd]
      refine loose_run B.loose B.draw B.fu (by simp [hcm]) _ d _ s6 (Nat.le_trans tmd.2.1 (by decide)) (by have := tmd.2.2; omega) hs6 (by have := tmd.2.1; omega) fun mi s7 hmi hs7 => ?_
      have tmi : Tame 300 6 mi := tmd.nf hmi
      have fbm : fb T.length (T.headD []).length mi = wr := by rw [← fb_nf, hmi, fb_nf, hfb]
      have er2 : biF .repr [cv 0 mi] = some (.val (.str (PyData.shown mi))) := repr_cv (toPD_cv 0 _ tmi.1) tmi.1 (by have := tmi.2.1; omega) (by have := tmi.2.2; omega)
      have sok2 := strOk_shown _ tmi.1
      generalize PyData.shown mi = s2t at er2 sok2
      have esame2 : pyEq (.str s2t) (.str s2t) = some true := by rw [pyEq_str sok2 sok2]; simp
      simp [okO_nl, okO_val, cfb, colsLt_cv hcm, putV, se_g, er2, view_cons]
      refine handed_run B.handed B.loose B.draw B.fu (by omega) (by simp [hcm]) (M := 4) (by decide) hT hs7 (by have := tmd.2.1; omega) fun hh s8 hhh hs8 => ?_
      have Tabh : TabL (cv 0 hh) T := TabL_of hhh 0
      have im1 : ∀ cm' S, callN p fuel (k - 1) "is_machine" [cv 0 hh, cv 0 mi] 0 cm' S = some (.ok (.bl wr.isNone) S) := fun cm' S => by
        rw [← fbm]; exact is_machine_run B.toMBase79 (by omega) Tabh hT (by decide) 0 mi (by have := tmi.2.1; omega) 0 cm' S
      have im2 : ∀ cm' S, callN p fuel (k - 1) "is_machine" [.lst 0 (T.map rowV), cv 0 mi] 0 cm' S = some (.ok (.bl wr.isNone) S) := fun cm' S => by
        rw [← fbm]; exact is_machine_run B.toMBase79 (by omega) TabT hT (by decide) 0 mi (by have := tmi.2.1; omega) 0 cm' S
      have sm1 : ∀ (x : Bool) cm' S, callN p fuel (k - 1) "_law_same" [.lst 0 [.bl x, .bl x], .lst 0 [.bl x, .bl x]] 0 cm' S = some (.ok (.bl true) S) := fun x cm' S => by
        have tw := (Tames.cons (Tame.bool x) (Tames.cons (Tame.bool x) Tames.nil)).list
        exact same_run B.same 0 cm' S (k - 1) _ _ _ tw.1 (Nat.le_trans tw.2.1 (by decide)) (by have := tw.2.2; omega) rfl rfl
      have hs8' : StAt (b2 + 1000) s8 := hs8.le (by have := tmd.2.1; omega)
      cases wr with
      | none =>
        simp [okO_nl, okO_val, colsLt_lst, colsLt_tup, colsLtL_cons, colsLtL_nilP, colsLt_cv hcm, hcm, putV, seO_g, se_g, tst_g, er2, view_cons, im1, im2, cpT, fbV, isNon, sm1, esame2]
        exact ⟨hs8', o7, some _, some _, some _, some _, some _, _, o14, o15, rfl⟩
      | some i =>
        have hi : i ≤ 300 := Nat.le_trans (fb_lt hfb) tmd.2.1
        have ab1 : ∀ cm' S, callN p fuel (k - 1) "answered" [.lst 0 (T.map rowV), cv 0 mi, .non] 0 cm' S = some (.exc "BadMachine" (.int i) S) := fun cm' S =>
          answered_bm B.toMBase79 (by omega) TabT hT (by decide) 0 mi (by have := tmi.2.1; omega) fbm _ 0 cm' S
        have ab2 : ∀ cm' S, callN p fuel (k - 1) "sum_of" [.lst 0 (T.map rowV), cv 0 mi, .non] 0 cm' S = some (.exc "BadMachine" (.int i) S) := fun cm' S =>
          sum_of_bm B.toMBase79 (by omega) TabT hT (by decide) 0 mi (by have := tmi.2.1; omega) fbm _ 0 cm' S
        have sm3 : ∀ c c' cm' S, callN p fuel (k - 1) "_law_same" [.lst c [.tup [.str "machine", .int i], .tup [.str "machine", .int i]], .lst c' [.tup [.str "machine", .int i], .tup [.str "machine", .int i]]] 0 cm' S = some (.ok (.bl true) S) := fun c c' cm' S => by
          have tp := pair_tame (x := "machine") (by decide +kernel) (Tame.int (i := (i : Int)) (by omega))
          have tw := (Tames.cons tp (Tames.cons tp Tames.nil)).list
          exact same_run B.same 0 cm' S (k - 1) _ _ _ tw.1 (Nat.le_trans tw.2.1 (by decide)) (by have := tw.2.2; omega) rfl rfl
        simp [okO_nl, okO_val, colsLt_lst, colsLt_tup, colsLtL_cons, colsLtL_nilP, colsLt_cv hcm, hcm, putV, seO_g, se_g, tst_g, er2, view_cons, im1, im2, cpT, fbV, isNon, sm1, esame2, ab1, ab2, metR_exc B.hsM, sm3]
        exact ⟨hs8', o7, some _, some _, some _, some _, some _, _, o14, o15, rfl⟩
    · rintro sl2 s6 ⟨hs6, o7, o8, o9, o10, o11, o12, s13, o14, o15, rfl⟩
      rw [sum_const, hdl] at hs6
      simp [okO_nl, okO_val, cT, cM, colsLt_lst, colsLtL_cons, colsLtL_nilP, hcm, seO_g, se_g, tst_g, view_cons, er, esame]
      exact ⟨hs6.le (by omega), some _, some _, some _, some _, some _, o7, o8, o9, o10, o11, o12, s13, o14, o15, rfl⟩
  · rintro sl2 s2 ⟨hs2, o2, o3, o4, o5, o6, o7, o8, o9, o10, o11, o12, s13, o14, o15, rfl⟩
    have hT1 : TabOk 4 [[3, 0], [5, 1]] := ⟨by decide, by decide, 2, by decide, by decide, by simp [RowOk]⟩
    have hm1 : MacOk 2 2 [(0, [0, 1]), (1, [0, 1])] := ⟨by decide, by decide, by simp⟩
    have vT1 : MV.lst 0 [.lst 0 [.int 3, .int 0], .lst 0 [.int 5, .int 1]] = cv 0 (tD [[3, 0], [5, 1]]) := rfl
    have vM1 : MV.lst 0 [.tup [.int 0, .lst 0 [.int 0, .int 1]], .tup [.int 1, .lst 0 [.int 0, .int 1]]] = cv 0 (mD [(0, [0, 1]), (1, [0, 1])]) := rfl
    have TabT : TabL (MV.lst 0 [.lst 0 [.int 3, .int 0], .lst 0 [.int 5, .int 1]]) [[3, 0], [5, 1]] := by rw [vT1]; exact TabL_of (nf_tD _) 0
    have an1 : ∀ cm' S, 0 < cm' → callN p fuel (k - 1) "answered" [.lst 0 [.lst 0 [.int 3, .int 0], .lst 0 [.int 5, .int 1]], .lst 0 [.tup [.int 0, .lst 0 [.int 0, .int 1]], .tup [.int 1, .lst 0 [.int 0, .int 1]]], .lst 0 [.int 0, .int 0, .int 1]] 0 cm' S = some (.ok (.lst 0 [.tup [.int 0, .int 0], .tup [.int 0, .int 0], .tup [.int 1, .int 0]]) S) := fun cm' S hc =>
      answered_ok B.toMBase79 (show 6 < k - 1 by omega) TabT hT1 (by decide) 0 (mD [(0, [0, 1]), (1, [0, 1])]) (by decide) hm1 (nf_mD _) (c2 := 0) (d2 := rD [0, 0, 1]) (rows := [0, 0, 1]) (nf_rD _) (by simp) (by decide) hc 0 S
    have an2 : ∀ cm' S, 0 < cm' → callN p fuel (k - 1) "answered" [.lst 0 [.lst 0 [.int 3, .int 0], .lst 0 [.int 5, .int 1]], .lst 0 [.tup [.int 0, .lst 0 [.int 0, .int 1]], .tup [.int 1, .lst 0 [.int 0, .int 1]]], .lst 0 []] 0 cm' S = some (.ok (.lst 0 []) S) := fun cm' S hc =>
      answered_ok B.toMBase79 (show 6 < k - 1 by omega) TabT hT1 (by decide) 0 (mD [(0, [0, 1]), (1, [0, 1])]) (by decide) hm1 (nf_mD _) (c2 := 0) (d2 := rD []) (rows := []) (nf_rD _) (by simp) (by decide) hc 0 S
    have su1 : ∀ cm' S, 0 < cm' → callN p fuel (k - 1) "sum_of" [.lst 0 [.lst 0 [.int 3, .int 0], .lst 0 [.int 5, .int 1]], .lst 0 [.tup [.int 0, .lst 0 [.int 0, .int 1]], .tup [.int 1, .lst 0 [.int 0, .int 1]]], .lst 0 [.int 0, .int 0, .int 1]] 0 cm' S = some (.ok (.int 11) S) := fun cm' S hc =>
      sum_of_ok B.toMBase79 (show 7 < k - 1 by omega) TabT hT1 (by decide) 0 (mD [(0, [0, 1]), (1, [0, 1])]) (by decide) hm1 (nf_mD _) (c2 := 0) (d2 := rD [0, 0, 1]) (rows := [0, 0, 1]) (nf_rD _) (by simp) (by decide) hc 0 S
    have im1 : ∀ cm' S, callN p fuel (k - 1) "is_machine" [.lst 0 [.lst 0 [.int 3, .int 0], .lst 0 [.int 5, .int 1]], .lst 0 [.tup [.int 0, .lst 0 [.int 0, .int 0]]]] 0 cm' S = some (.ok (.bl true) S) := fun cm' S =>
      is_machine_run B.toMBase79 (show 5 < k - 1 by omega) TabT hT1 (by decide) 0 (mD [(0, [0, 0])]) (by decide) 0 cm' S
    have sm : ∀ cm' S, callN p fuel (k - 1) "_law_same" [.lst 0 [.lst 0 [.tup [.int 0, .int 0], .tup [.int 0, .int 0], .tup [.int 1, .int 0]], .int 11, .bl true, .lst 0 []], .lst 0 [.lst 0 [.tup [.int 0, .int 0], .tup [.int 0, .int 0], .tup [.int 1, .int 0]], .int 11, .bl true, .lst 0 []]] 0 cm' S = some (.ok (.bl true) S) := fun cm' S => by
      have hd : PyData.depth (.list [.list [.tuple [.int 0, .int 0], .tuple [.int 0, .int 0], .tuple [.int 1, .int 0]], .int 11, .bool true, .list []]) ≤ 10 := by decide
      exact same_run B.same 0 cm' S (k - 1) (.list [.list [.tuple [.int 0, .int 0], .tuple [.int 0, .int 0], .tuple [.int 1, .int 0]], .int 11, .bool true, .list []]) _ _ (by decide) (by decide) (by omega) rfl rfl
    simp [okO_nl, okO_val, colsLt_lst, colsLt_tup, colsLtL_cons, colsLtL_nilP, hcm, putV, seO_g, se_g, tst_g, view_cons, an1, an2, su1, im1, sm, Fr.cfg1]
end
end Mv

end
section
set_option maxRecDepth 100000
namespace Mv.K79
open PySem
def d_is_list : Df := ⟨["thing"], 1, (.cons (.ret (some (.isi (.nm 0) true [.list, .tuple]))) .nil), 0⟩
def d_is_whole : Df := ⟨["thing"], 1, (.cons (.ret (some (.andE (.isi (.nm 0) false [.int]) (.cons false (.nt (.isi (.nm 0) false [.bool])) .nil)))) .nil), 0⟩
def d_is_number : Df := ⟨["thing"], 1, (.cons (.ret (some (.andE (.call "is_whole" (.cons false (.nm 0) .nil) []) (.cons false (.cmp .ge (.nm 0) (.cn (.int 0))) .nil)))) .nil), 0⟩
def d_is_row : Df := ⟨["thing", "many"], 2, (.cons (.ret (some (.andE (.call "is_list" (.cons false (.nm 0) .nil) []) (.cons false (.cmp .eq (.bi .len (.cons false (.nm 0) .nil)) (.nm 1)) .nil)))) .nil), 0⟩
def d_is_index : Df := ⟨["thing", "many"], 2, (.cons (.ret (some (.andE (.call "is_number" (.cons false (.nm 0) .nil) []) (.cons false (.cmp .lt (.nm 0) (.nm 1)) .nil)))) .nil), 0⟩
def d_is_table_of : Df := ⟨["thing"], 3, (.cons (.ifS (.orE (.nt (.call "is_list" (.cons false (.nm 0) .nil) [])) (.cons false (.cmp .eq (.bi .len (.cons false (.nm 0) .nil)) (.cn (.int 0))) (.cons false (.nt (.bi .all (.cons false (.lc (.andE (.call "is_list" (.cons false (.nm 1) .nil) []) (.cons false (.cmp .gt (.bi .len (.cons false (.nm 1) .nil)) (.cn (.int 0))) .nil)) (.nm 1) (.val (.nm 0)) .nil [1]) .nil))) .nil))) (.cons (.ret (some (.cn (.bl false)))) .nil) .nil) (.cons (.ifS (.nt (.bi .all (.cons false (.lc (.cmp .eq (.bi .len (.cons false (.nm 1) .nil)) (.bi .len (.cons false (.sub (.nm 0) (.cn (.int 0))) .nil))) (.nm 1) (.val (.nm 0)) .nil [1]) .nil))) (.cons (.ret (some (.cn (.bl false)))) .nil) .nil) (.cons (.ret (some (.bi .all (.cons false (.lc (.bi .all (.cons false (.lc (.call "is_whole" (.cons false (.nm 2) .nil) []) (.nm 2) (.val (.nm 1)) .nil [2]) .nil)) (.nm 1) (.val (.nm 0)) .nil [1]) .nil)))) .nil))), 0⟩
def d_check_table : Df := ⟨["table"], 1, (.cons (.ifS (.nt (.call "is_table_of" (.cons false (.nm 0) .nil) [])) (.cons (.raise "BadTable" (.nm 0)) .nil) .nil) .nil), 0⟩
def d_is_state : Df := ⟨["table", "many", "thing"], 4, (.cons (.ifS (.orE (.nt (.call "is_row" (.cons false (.nm 2) (.cons false (.cn (.int 2)) .nil)) [])) (.cons false (.nt (.call "is_index" (.cons false (.sub (.nm 2) (.cn (.int 0))) (.cons false (.bi .len (.cons false (.sub (.nm 0) (.cn (.int 0))) .nil)) .nil)) [])) (.cons false (.nt (.call "is_row" (.cons false (.sub (.nm 2) (.cn (.int 1))) (.cons false (.bi .len (.cons false (.nm 0) .nil)) .nil)) [])) .nil))) (.cons (.ret (some (.cn (.bl false)))) .nil) .nil) (.cons (.ret (some (.bi .all (.cons false (.lc (.call "is_index" (.cons false (.nm 3) (.cons false (.nm 1) .nil)) []) (.nm 3) (.val (.sub (.nm 2) (.cn (.int 1)))) .nil [3]) .nil)))) .nil)), 0⟩
def d_first_bad_state : Df := ⟨["table", "machine"], 4, (.cons (.ifS (.orE (.nt (.call "is_list" (.cons false (.nm 1) .nil) [])) (.cons false (.cmp .eq (.bi .len (.cons false (.nm 1) .nil)) (.cn (.int 0))) .nil)) (.cons (.ret (some (.cn (.int 0)))) .nil) .nil) (.cons (.for_ (.cons (.nm 2) (.cons (.nm 3) (.nil))) (.by_ .enumerate (.cons false (.nm 1) .nil)) (.cons (.ifS (.nt (.call "is_state" (.cons false (.nm 0) (.cons false (.bi .len (.cons false (.nm 1) .nil)) (.cons false (.nm 3) .nil))) [])) (.cons (.ret (some (.nm 2))) .nil) .nil) .nil)) (.cons (.ret (some (.cn (.non)))) .nil))), 0⟩
def d_check_machine : Df := ⟨["table", "machine"], 3, (.cons (.expr (.call "check_table" (.cons false (.nm 0) .nil) [])) (.cons (.set 2 false (.call "first_bad_state" (.cons false (.nm 0) (.cons false (.nm 1) .nil)) [])) (.cons (.ifS (.cmp .isnot (.nm 2) (.cn (.non))) (.cons (.raise "BadMachine" (.nm 2)) .nil) .nil) .nil))), 0⟩
def d_is_machine : Df := ⟨["table", "thing"], 2, (.cons (.expr (.call "check_table" (.cons false (.nm 0) .nil) [])) (.cons (.ret (some (.cmp .is_ (.call "first_bad_state" (.cons false (.nm 0) (.cons false (.nm 1) .nil)) []) (.cn (.non))))) .nil)), 0⟩
def d_check_rows : Df := ⟨["table", "rows"], 4, (.cons (.ifS (.nt (.call "is_list" (.cons false (.nm 1) .nil) [])) (.cons (.raise "BadRows" (.cn (.int 0))) .nil) .nil) (.cons (.for_ (.cons (.nm 2) (.cons (.nm 3) (.nil))) (.by_ .enumerate (.cons false (.nm 1) .nil)) (.cons (.ifS (.nt (.call "is_index" (.cons false (.nm 3) (.cons false (.bi .len (.cons false (.nm 0) .nil)) .nil)) [])) (.cons (.raise "BadRows" (.nm 2)) .nil) .nil) .nil)) .nil)), 0⟩
def d_walked : Df := ⟨["machine", "state", "rows"], 5, (.cons (.set 3 true (.lst .nil)) (.cons (.for_ (.nm 4) (.val (.nm 2)) (.cons (.append 3 (.tup (.cons false (.nm 4) (.cons false (.sub (.sub (.nm 0) (.nm 1)) (.cn (.int 0))) .nil)))) (.cons (.set 1 false (.sub (.sub (.sub (.nm 0) (.nm 1)) (.cn (.int 1))) (.nm 4))) .nil))) (.cons (.ret (some (.tup (.cons false (.nm 3) (.cons false (.nm 1) .nil))))) .nil))), 0⟩
def d_answered : Df := ⟨["table", "machine", "rows"], 3, (.cons (.expr (.call "check_machine" (.cons false (.nm 0) (.cons false (.nm 1) .nil)) [])) (.cons (.expr (.call "check_rows" (.cons false (.nm 0) (.cons false (.nm 2) .nil)) [])) (.cons (.ret (some (.sub (.call "walked" (.cons false (.nm 1) (.cons false (.cn (.int 0)) (.cons false (.nm 2) .nil))) []) (.cn (.int 0))))) .nil))), 0⟩
def d_total_of : Df := ⟨["table", "cells"], 4, (.cons (.ret (some (.bi .sum (.cons false (.lc (.sub (.sub (.nm 0) (.nm 2)) (.nm 3)) (.cons (.nm 2) (.cons (.nm 3) (.nil))) (.val (.nm 1)) .nil [2, 3]) .nil)))) .nil), 0⟩
def d_sum_of : Df := ⟨["table", "machine", "rows"], 3, (.cons (.ret (some (.call "total_of" (.cons false (.nm 0) (.cons false (.call "answered" (.cons false (.nm 0) (.cons false (.nm 1) (.cons false (.nm 2) .nil))) []) .nil)) []))) .nil), 0⟩
def d__law_stream : Df := ⟨["script"], 1, (.cons (.ret (some (.cell (.lst (.cons false (.cell (.bi .list (.cons false (.nm 0) .nil))) (.cons false (.cn (.int 0)) (.cons false (.cn (.int 0)) (.cons false (.cn (.int 19)) .nil)))))))) .nil), 0⟩
def d__law_draw : Df := ⟨["stream", "many"], 5, (.cons (.setCell (.nm 0) (.cn (.int 2)) (.bin .add (.sub (.nm 0) (.cn (.int 2))) (.cn (.int 1)))) (.cons (.whl (.andE (.cmp .eq (.sub (.nm 0) (.cn (.int 1))) (.cn (.int 0))) (.cons false (.cmp .ne (.sub (.nm 0) (.cn (.int 0))) (.lst .nil)) .nil)) (.cons (.set 2 false (.bi .abs (.cons false (.mth .pop (.sub (.nm 0) (.cn (.int 0))) (.cons false (.cn (.int 0)) .nil)) .nil))) (.cons (.setCell (.nm 0) (.cn (.int 3)) (.bin .mod (.bi .int (.cons false (.bin .add (.bin .add (.bin .mul (.sub (.nm 0) (.cn (.int 3))) (.cn (.int 6151))) (.nm 2)) (.cn (.int 7))) .nil)) (.cn (.int 2147483629)))) (.cons (.setCell (.nm 0) (.cn (.int 1)) (.ite (.cmp .ge (.nm 2) (.bin .pow (.cn (.int 10)) (.cn (.int 18)))) (.nm 2) (.cn (.int 0)))) .nil)))) (.cons (.ifS (.cmp .gt (.sub (.nm 0) (.cn (.int 1))) (.cn (.int 0))) (.cons (.set 3 false (.bin .mod (.bi .int (.cons false (.sub (.nm 0) (.cn (.int 1))) .nil)) (.nm 1))) (.cons (.setCell (.nm 0) (.cn (.int 1)) (.bin .fdiv (.sub (.nm 0) (.cn (.int 1))) (.nm 1))) (.cons (.ret (some (.nm 3))) .nil))) .nil) (.cons (.set 4 false (.bin .mod (.bi .int (.cons false (.bin .pow (.bin .add (.bin .add (.sub (.nm 0) (.cn (.int 3))) (.bin .mul (.cn (.int 8191)) (.sub (.nm 0) (.cn (.int 2))))) (.cn (.int 50021))) (.cn (.int 5))) .nil)) (.cn (.int 2147483587)))) (.cons (.ret (some (.bin .mod (.bin .mod (.bi .int (.cons false (.bin .pow (.bin .add (.bin .add (.bin .mul (.nm 4) (.cn (.int 40009))) (.bin .mul (.cn (.int 20011)) (.sub (.nm 0) (.cn (.int 2))))) (.cn (.int 31))) (.cn (.int 3))) .nil)) (.cn (.int 1000000009))) (.nm 1)))) .nil))))), 0⟩
def d__law_pick : Df := ⟨["stream", "things"], 2, (.cons (.ret (some (.sub (.nm 1) (.call "_law_draw" (.cons false (.nm 0) (.cons false (.bi .len (.cons false (.nm 1) .nil)) .nil)) [])))) .nil), 0⟩
def d__law_same : Df := ⟨["found", "due"], 4, (.cons (.ifS (.isi (.nm 1) true [.list, .tuple]) (.cons (.ifS (.orE (.cmp .ne (.isi (.nm 0) false [.list]) (.isi (.nm 1) false [.list])) (.cons false (.cmp .ne (.isi (.nm 0) false [.tuple]) (.isi (.nm 1) false [.tuple])) .nil)) (.cons (.ret (some (.cn (.bl false)))) .nil) .nil) (.cons (.ret (some (.andE (.cmp .eq (.bi .len (.cons false (.nm 0) .nil)) (.bi .len (.cons false (.nm 1) .nil))) (.cons false (.bi .all (.cons false (.lc (.call "_law_same" (.cons false (.nm 2) (.cons false (.nm 3) .nil)) []) (.cons (.nm 2) (.cons (.nm 3) (.nil))) (.by_ .zip (.cons false (.nm 0) (.cons false (.nm 1) .nil))) .nil [2, 3]) .nil)) .nil)))) .nil)) .nil) (.cons (.ifS (.isi (.nm 1) false [.dict]) (.cons (.ret (some (.andE (.isi (.nm 0) false [.dict]) (.cons false (.call "_law_same" (.cons false (.bi .listItems (.cons false (.nm 0) .nil)) (.cons false (.bi .listItems (.cons false (.nm 1) .nil)) .nil)) []) .nil)))) .nil) .nil) (.cons (.ifS (.orE (.isi (.nm 1) false [.bool]) (.cons false (.isi (.nm 0) false [.bool]) .nil)) (.cons (.ret (some (.andE (.isi (.nm 1) false [.bool]) (.cons false (.isi (.nm 0) false [.bool]) (.cons false (.cmp .eq (.nm 0) (.nm 1)) .nil))))) .nil) .nil) (.cons (.ifS (.orE (.cmp .is_ (.nm 1) (.cn (.non))) (.cons false (.cmp .is_ (.nm 0) (.cn (.non))) .nil)) (.cons (.ret (some (.andE (.cmp .is_ (.nm 1) (.cn (.non))) (.cons false (.cmp .is_ (.nm 0) (.cn (.non))) .nil)))) .nil) .nil) (.cons (.ifS (.orE (.cmp .ne (.isi (.nm 1) false [.int]) (.isi (.nm 0) false [.int])) (.cons false (.cmp .ne (.isi (.nm 1) false [.str]) (.isi (.nm 0) false [.str])) .nil)) (.cons (.ret (some (.cn (.bl false)))) .nil) .nil) (.cons (.ret (some (.andE (.nt (.isi (.nm 0) true [.list, .tuple, .dict])) (.cons false (.cmp .eq (.nm 0) (.nm 1)) .nil)))) .nil)))))), 0⟩
def d__law_loose : Df := ⟨["stream", "thing"], 4, (.cons (.ifS (.isi (.nm 1) true [.list, .tuple]) (.cons (.set 2 false (.lc (.call "_law_loose" (.cons false (.nm 0) (.cons false (.nm 3) .nil)) []) (.nm 3) (.val (.nm 1)) .nil [3])) (.cons (.ret (some (.ite (.cmp .eq (.call "_law_draw" (.cons false (.nm 0) (.cons false (.cn (.int 2)) .nil)) []) (.cn (.int 0))) (.nm 2) (.bi .tuple (.cons false (.nm 2) .nil))))) .nil)) .nil) (.cons (.ret (some (.nm 1))) .nil)), 0⟩
def d__law_copied : Df := ⟨["thing"], 4, (.cons (.ifS (.isi (.nm 0) true [.list, .tuple]) (.cons (.set 1 false (.lc (.call "_law_copied" (.cons false (.nm 2) .nil) []) (.nm 2) (.val (.nm 0)) .nil [2])) (.cons (.ret (some (.ite (.isi (.nm 0) false [.list]) (.nm 1) (.bi .tuple (.cons false (.nm 1) .nil))))) .nil)) .nil) (.cons (.ifS (.isi (.nm 0) false [.dict]) (.cons (.ret (some (.bi (.dict false) (.cons false (.lc (.tup (.cons false (.nm 3) (.cons false (.call "_law_copied" (.cons false (.sub (.nm 0) (.nm 3)) .nil) []) .nil))) (.nm 3) (.val (.nm 0)) .nil [3]) .nil)))) .nil) .nil) (.cons (.ret (some (.nm 0))) .nil))), 0⟩
def d__law_is_whole : Df := ⟨["thing"], 1, (.cons (.ret (some (.andE (.isi (.nm 0) false [.int]) (.cons false (.nt (.isi (.nm 0) false [.bool])) .nil)))) .nil), 0⟩
def d__law_table : Df := ⟨["stream", "most"], 14, (.cons (.par [(2, false), (3, false), (4, false)] (.cons false (.bin .add (.cn (.int 1)) (.call "_law_draw" (.cons false (.nm 0) (.cons false (.nm 1) .nil)) [])) (.cons false (.bin .add (.cn (.int 1)) (.call "_law_draw" (.cons false (.nm 0) (.cons false (.nm 1) .nil)) [])) (.cons false (.call "_law_draw" (.cons false (.nm 0) (.cons false (.cn (.int 7)) .nil)) []) .nil)))) (.cons (.set 5 false (.sub (.lst (.cons false (.cn (.int 2)) (.cons false (.cn (.int 5)) (.cons false (.cn (.int 1000)) (.cons false (.cn (.int 9)) (.cons false (.cn (.int 9)) (.cons false (.cn (.int 9)) (.cons false (.cn (.int 1)) .nil)))))))) (.nm 4))) (.cons (.set 6 true (.lc (.lc (.bin .sub (.call "_law_draw" (.cons false (.nm 0) (.cons false (.bin .add (.bin .mul (.cn (.int 2)) (.nm 5)) (.cn (.int 1))) .nil)) []) (.nm 5)) (.nm 7) (.by_ .range (.cons false (.nm 3) .nil)) .nil [7]) (.nm 8) (.by_ .range (.cons false (.nm 2) .nil)) .nil [8])) (.cons (.ifS (.andE (.cmp .eq (.nm 4) (.cn (.int 3))) (.cons false (.cmp .gt (.nm 2) (.cn (.int 1))) .nil)) (.cons (.setSub 6 (.neg (.cn (.int 1))) (.lc (.bi .max (.cons false (.neg (.cn (.int 1000))) (.cons false (.bin .sub (.bi .min (.cons false (.nm 9) .nil)) (.cn (.int 1))) .nil))) (.nm 9) (.by_ .zipl (.cons false (.sub (.nm 6) (.cn (.int 0))) (.cons false (.sub (.nm 6) (.neg (.cn (.int 2)))) .nil))) .nil [9])) .nil) .nil) (.cons (.ifS (.cmp .eq (.nm 4) (.cn (.int 4))) (.cons (.set 6 true (.lc (.lc (.bi .max (.cons false (.sub (.nm 9) (.cn (.int 0))) (.cons false (.nm 10) .nil))) (.nm 10) (.val (.nm 9)) .nil [10]) (.nm 9) (.val (.nm 6)) .nil [9])) .nil) .nil) (.cons (.ifS (.andE (.cmp .eq (.nm 4) (.cn (.int 5))) (.cons false (.cmp .gt (.nm 2) (.cn (.int 2))) .nil)) (.cons (.setSub 6 (.cn (.int 2)) (.lc (.bin .sub (.bin .fdiv (.bin .add (.nm 11) (.nm 12)) (.cn (.int 2))) (.call "_law_draw" (.cons false (.nm 0) (.cons false (.cn (.int 2)) .nil)) [])) (.cons (.nm 11) (.cons (.nm 12) (.nil))) (.by_ .zip (.cons false (.sub (.nm 6) (.cn (.int 0))) (.cons false (.sub (.nm 6) (.cn (.int 1))) .nil))) .nil [11, 12])) .nil) .nil) (.cons (.ifS (.cmp .eq (.nm 4) (.cn (.int 6))) (.cons (.set 3 false (.nm 2)) (.cons (.set 6 true (.lc (.cell (.bin .mul (.lst (.cons false (.cn (.int 0)) .nil)) (.nm 2))) (.nm 8) (.by_ .range (.cons false (.nm 2) .nil)) .nil [8])) (.cons (.for_ (.nm 8) (.by_ .range (.cons false (.nm 2) .nil)) (.cons (.for_ (.nm 13) (.by_ .range (.cons false (.nm 8) .nil)) (.cons (.setCell (.sub (.nm 6) (.nm 8)) (.nm 13) (.bin .sub (.call "_law_draw" (.cons false (.nm 0) (.cons false (.cn (.int 3)) .nil)) []) (.cn (.int 1)))) (.cons (.setCell (.sub (.nm 6) (.nm 13)) (.nm 8) (.neg (.sub (.sub (.nm 6) (.nm 8)) (.nm 13)))) .nil))) .nil)) .nil))) .nil) (.cons (.ret (some (.melt (.nm 6)))) .nil)))))))), 0⟩
def d__law_handed : Df := ⟨["stream", "table"], 3, (.cons (.ret (some (.call "_law_loose" (.cons false (.nm 0) (.cons false (.bi .tuple (.cons false (.lc (.call "_law_loose" (.cons false (.nm 0) (.cons false (.bi .tuple (.cons false (.nm 2) .nil)) .nil)) []) (.nm 2) (.val (.nm 1)) .nil [2]) .nil)) .nil)) []))) .nil), 0⟩
def d__law_machine : Df := ⟨["stream", "table", "most"], 6, (.cons (.set 3 false (.bin .add (.cn (.int 1)) (.call "_law_draw" (.cons false (.nm 0) (.cons false (.nm 2) .nil)) []))) (.cons (.ret (some (.lc (.tup (.cons false (.call "_law_draw" (.cons false (.nm 0) (.cons false (.bi .len (.cons false (.sub (.nm 1) (.cn (.int 0))) .nil)) .nil)) []) (.cons false (.lc (.call "_law_draw" (.cons false (.nm 0) (.cons false (.nm 3) .nil)) []) (.nm 4) (.val (.nm 1)) .nil [4]) .nil))) (.nm 5) (.by_ .range (.cons false (.nm 3) .nil)) .nil [5]))) .nil)), 0⟩
def d__law_machine_handed : Df := ⟨["stream", "machine"], 4, (.cons (.ret (some (.call "_law_loose" (.cons false (.nm 0) (.cons false (.bi .tuple (.cons false (.lc (.call "_law_loose" (.cons false (.nm 0) (.cons false (.tup (.cons false (.nm 2) (.cons false (.call "_law_loose" (.cons false (.nm 0) (.cons false (.bi .tuple (.cons false (.nm 3) .nil)) .nil)) []) .nil))) .nil)) []) (.cons (.nm 2) (.cons (.nm 3) (.nil))) (.val (.nm 1)) .nil [2, 3]) .nil)) .nil)) []))) .nil), 0⟩
def d__law_walk : Df := ⟨["machine", "state", "rows"], 5, (.cons (.set 3 true (.lst .nil)) (.cons (.for_ (.nm 4) (.val (.nm 2)) (.cons (.append 3 (.tup (.cons false (.nm 4) (.cons false (.sub (.sub (.nm 0) (.nm 1)) (.cn (.int 0))) .nil)))) (.cons (.set 1 false (.sub (.sub (.sub (.nm 0) (.nm 1)) (.cn (.int 1))) (.nm 4))) .nil))) (.cons (.ret (some (.tup (.cons false (.nm 3) (.cons false (.nm 1) .nil))))) .nil))), 0⟩
def d__law_first_bad : Df := ⟨["table", "thing"], 6, (.cons (.ifS (.orE (.nt (.isi (.nm 1) true [.list, .tuple])) (.cons false (.cmp .eq (.bi .len (.cons false (.nm 1) .nil)) (.cn (.int 0))) .nil)) (.cons (.ret (some (.cn (.int 0)))) .nil) .nil) (.cons (.for_ (.cons (.nm 2) (.cons (.nm 3) (.nil))) (.by_ .enumerate (.cons false (.nm 1) .nil)) (.cons (.set 4 false (.andE (.isi (.nm 3) true [.list, .tuple]) (.cons false (.cmp .eq (.bi .len (.cons false (.nm 3) .nil)) (.cn (.int 2))) (.cons false (.call "_law_is_whole" (.cons false (.sub (.nm 3) (.cn (.int 0))) .nil) []) (.cons false (.chain .le .lt (.cn (.int 0)) (.sub (.nm 3) (.cn (.int 0))) (.bi .len (.cons false (.sub (.nm 0) (.cn (.int 0))) .nil))) .nil))))) (.cons (.set 4 false (.andE (.nm 4) (.cons false (.isi (.sub (.nm 3) (.cn (.int 1))) true [.list, .tuple]) (.cons false (.cmp .eq (.bi .len (.cons false (.sub (.nm 3) (.cn (.int 1))) .nil)) (.bi .len (.cons false (.nm 0) .nil))) .nil)))) (.cons (.ifS (.orE (.nt (.nm 4)) (.cons false (.nt (.bi .all (.cons false (.lc (.andE (.call "_law_is_whole" (.cons false (.nm 5) .nil) []) (.cons false (.chain .le .lt (.cn (.int 0)) (.nm 5) (.bi .len (.cons false (.nm 1) .nil))) .nil)) (.nm 5) (.val (.sub (.nm 3) (.cn (.int 1)))) .nil [5]) .nil))) .nil)) (.cons (.ret (some (.nm 2))) .nil) .nil) .nil)))) (.cons (.ret (some (.cn (.non)))) .nil))), 0⟩
def d__law_bent_machine : Df := ⟨["stream", "table", "machine"], 9, (.cons (.par [(3, false), (4, false)] (.cons false (.call "_law_draw" (.cons false (.nm 0) (.cons false (.bi .len (.cons false (.nm 2) .nil)) .nil)) []) (.cons false (.call "_law_pick" (.cons false (.nm 0) (.cons false (.lst (.cons false (.cn (.non)) (.cons false (.neg (.cn (.int 1))) (.cons false (.cn (.bl true)) (.cons false (.cn (.str "0")) (.cons false (.bi .len (.cons false (.sub (.nm 1) (.cn (.int 0))) .nil)) (.cons false (.bi .len (.cons false (.nm 2) .nil)) (.cons false (.lst (.cons false (.cn (.int 0)) .nil)) .nil)))))))) .nil)) []) .nil))) (.cons (.setT (.cons (.nm 5) (.cons (.nm 6) (.nil))) (.sub (.nm 2) (.nm 3))) (.cons (.set 7 false (.call "_law_draw" (.cons false (.nm 0) (.cons false (.bi .len (.cons false (.nm 6) .nil)) .nil)) [])) (.cons (.set 8 false (.lst (.cons false (.cn (.non)) (.cons false (.cn (.int 5)) (.cons false (.tup (.cons false (.nm 5) .nil)) (.cons false (.tup (.cons false (.nm 5) (.cons false (.nm 6) (.cons false (.cn (.int 0)) .nil)))) (.cons false (.tup (.cons false (.nm 4) (.cons false (.nm 6) .nil))) (.cons false (.tup (.cons false (.nm 5) (.cons false (.nm 4) .nil))) (.cons false (.tup (.cons false (.nm 5) (.cons false (.bin .add (.bin .add (.slc (.nm 6) none (some (.nm 7))) (.lst (.cons false (.nm 4) .nil))) (.slc (.nm 6) (some (.bin .add (.nm 7) (.cn (.int 1)))) none)) .nil))) (.cons false (.tup (.cons false (.nm 5) (.cons false (.slc (.nm 6) (some (.cn (.int 1))) none) .nil))) (.cons false (.tup (.cons false (.nm 6) (.cons false (.nm 5) .nil))) .nil))))))))))) (.cons (.ret (some (.bin .add (.bin .add (.slc (.nm 2) none (some (.nm 3))) (.lst (.cons false (.call "_law_pick" (.cons false (.nm 0) (.cons false (.nm 8) .nil)) []) .nil))) (.slc (.nm 2) (some (.bin .add (.nm 3) (.cn (.int 1)))) none)))) .nil))))), 0⟩
def d__law_rows_right : Df := ⟨["stream", "table", "machine"], 19, (.cons (.set 3 false (.lc (.call "_law_draw" (.cons false (.nm 0) (.cons false (.bi .len (.cons false (.nm 1) .nil)) .nil)) []) (.nm 4) (.by_ .range (.cons false (.call "_law_draw" (.cons false (.nm 0) (.cons false (.cn (.int 41)) .nil)) []) .nil)) .nil [4])) (.cons (.par [(5, false), (6, false)] (.cons false (.call "_law_draw" (.cons false (.nm 0) (.cons false (.bin .add (.bi .len (.cons false (.nm 3) .nil)) (.cn (.int 1))) .nil)) []) (.cons false (.call "_law_pick" (.cons false (.nm 0) (.cons false (.lst (.cons false (.cn (.non)) (.cons false (.neg (.cn (.int 1))) (.cons false (.cn (.bl true)) (.cons false (.cn (.str "0")) (.cons false (.bi .len (.cons false (.nm 1) .nil)) (.cons false (.lst (.cons false (.cn (.int 0)) .nil)) .nil))))))) .nil)) []) .nil))) (.cons (.set 7 false (.lst (.cons false (.tup (.cons false (.nm 3) (.cons false (.cn (.non)) .nil))) (.cons false (.tup (.cons false (.bin .add (.bin .add (.bin .add (.slc (.nm 3) none (some (.nm 5))) (.lst (.cons false (.nm 6) .nil))) (.slc (.nm 3) (some (.nm 5)) none)) (.lst (.cons false (.cn (.non)) .nil))) (.cons false (.nm 5) .nil))) (.cons false (.tup (.cons false (.cn (.non)) (.cons false (.cn (.int 0)) .nil))) (.cons false (.tup (.cons false (.cn (.int 5)) (.cons false (.cn (.int 0)) .nil))) (.cons false (.tup (.cons false (.cn (.str "00")) (.cons false (.cn (.int 0)) .nil))) (.cons false (.tup (.cons false (.dct false .nil .nil) (.cons false (.cn (.int 0)) .nil))) .nil)))))))) (.cons (.for_ (.cons (.nm 8) (.cons (.nm 9) (.nil))) (.val (.nm 7)) (.cons (.par [(10, false), (11, false)] (.cons false (.lst (.cons false (.call "_law_handed" (.cons false (.nm 0) (.cons false (.nm 1) .nil)) []) (.cons false (.call "_law_machine_handed" (.cons false (.nm 0) (.cons false (.nm 2) .nil)) []) .nil))) (.cons false (.call "_law_loose" (.cons false (.nm 0) (.cons false (.call "_law_copied" (.cons false (.nm 8) .nil) []) .nil)) []) .nil))) (.cons (.set 12 false (.bi .repr (.cons false (.lst (.cons false (.nm 10) (.cons false (.nm 11) .nil))) .nil))) (.cons (.setR 13 true (.lst (.cons false (.met (.call "answered" (.cons false (.sub (.nm 10) (.cn (.int 0))) (.cons false (.sub (.nm 10) (.cn (.int 1))) (.cons false (.nm 11) .nil))) [])) .nil))) (.cons (.append 13 (.met (.call "answered" (.cons false (.nm 11) (.cons false (.call "_law_copied" (.cons false (.nm 2) .nil) []) (.cons false (.call "_law_copied" (.cons false (.nm 1) .nil) []) .nil))) [2, 1, 0]))) (.cons (.append 13 (.met (.call "sum_of" (.cons false (.sub (.nm 10) (.cn (.int 0))) (.cons false (.sub (.nm 10) (.cn (.int 1))) (.cons false (.nm 11) .nil))) []))) (.cons (.append 13 (.met (.call "sum_of" (.cons false (.nm 11) (.cons false (.call "_law_copied" (.cons false (.nm 2) .nil) []) (.cons false (.call "_law_copied" (.cons false (.nm 1) .nil) []) .nil))) [2, 1, 0]))) (.cons (.set 14 false (.bin .mul (.lst (.cons false (.tup (.cons false (.cn (.str "rows")) (.cons false (.nm 9) .nil))) .nil)) (.cn (.int 4)))) (.cons (.ifS (.cmp .is_ (.nm 9) (.cn (.non))) (.cons (.set 15 false (.sub (.call "_law_walk" (.cons false (.nm 2) (.cons false (.cn (.int 0)) (.cons false (.nm 8) .nil))) []) (.cn (.int 0)))) (.cons (.set 16 false (.bi .sum (.cons false (.lc (.sub (.sub (.nm 1) (.nm 17)) (.nm 18)) (.cons (.nm 17) (.cons (.nm 18) (.nil))) (.val (.nm 15)) .nil [17, 18]) .nil))) (.cons (.set 14 false (.lst (.cons false (.tup (.cons false (.cn (.str "told")) (.cons false (.nm 15) .nil))) (.cons false (.tup (.cons false (.cn (.str "told")) (.cons false (.nm 15) .nil))) (.cons false (.tup (.cons false (.cn (.str "told")) (.cons false (.nm 16) .nil))) (.cons false (.tup (.cons false (.cn (.str "told")) (.cons false (.nm 16) .nil))) .nil)))))) .nil))) .nil) (.cons (.ifS (.orE (.nt (.call "_law_same" (.cons false (.nm 13) (.cons false (.nm 14) .nil)) [])) (.cons false (.cmp .ne (.bi .repr (.cons false (.lst (.cons false (.nm 10) (.cons false (.nm 11) .nil))) .nil)) (.nm 12)) .nil)) (.cons (.ret (some (.cn (.bl false)))) .nil) .nil) (.cons (.ifS (.cmp .is_ (.nm 9) (.cn (.non))) (.cons (.spoil (.lst (.cons false (.sub (.sub (.nm 13) (.cn (.int 0))) (.cn (.int 1))) .nil))) (.cons (.ifS (.nt (.call "_law_same" (.cons false (.call "answered" (.cons false (.sub (.nm 10) (.cn (.int 0))) (.cons false (.sub (.nm 10) (.cn (.int 1))) (.cons false (.nm 11) .nil))) []) (.cons false (.sub (.sub (.nm 14) (.cn (.int 0))) (.cn (.int 1))) .nil)) [])) (.cons (.ret (some (.cn (.bl false)))) .nil) .nil) .nil)) .nil) .nil))))))))))) (.cons (.ret (some (.cn (.bl true)))) .nil))))), 1⟩
def d_law : Df := ⟨["script"], 16, (.cons (.set 1 false (.call "_law_stream" (.cons false (.nm 0) .nil) [])) (.cons (.for_ (.nm 2) (.by_ .range (.cons false (.cn (.int 7)) .nil)) (.cons (.set 3 false (.call "_law_table" (.cons false (.nm 1) (.cons false (.cn (.int 4)) .nil)) [])) (.cons (.set 4 false (.call "_law_machine" (.cons false (.nm 1) (.cons false (.nm 3) (.cons false (.cn (.int 6)) .nil))) [])) (.cons (.set 5 false (.bi .repr (.cons false (.lst (.cons false (.nm 3) (.cons false (.nm 4) .nil))) .nil))) (.cons (.ifS (.nt (.call "_law_rows_right" (.cons false (.nm 1) (.cons false (.nm 3) (.cons false (.nm 4) .nil))) [])) (.cons (.ret (some (.cn (.bl false)))) .nil) .nil) (.cons (.set 6 true (.lst (.cons false (.nm 4) (.cons false (.slc (.nm 4) none (some (.cn (.int 1)))) (.cons false (.rv (.nm 4)) (.cons false (.lst .nil) (.cons false (.cn (.non)) (.cons false (.cn (.int 5)) (.cons false (.cn (.str "ab")) (.cons false (.dct false .nil .nil) (.cons false (.lst (.cons false (.cn (.non)) .nil)) .nil))))))))))) (.cons (.extend 6 (.lc (.call "_law_bent_machine" (.cons false (.nm 1) (.cons false (.nm 3) (.cons false (.nm 4) .nil))) []) (.nm 7) (.by_ .range (.cons false (.cn (.int 6)) .nil)) .nil [7])) (.cons (.frz [6]) (.cons (.for_ (.nm 8) (.val (.nm 6)) (.cons (.par [(9, false), (10, false)] (.cons false (.call "_law_first_bad" (.cons false (.nm 3) (.cons false (.nm 8) .nil)) []) (.cons false (.call "_law_loose" (.cons false (.nm 1) (.cons false (.call "_law_copied" (.cons false (.nm 8) .nil) []) .nil)) []) .nil))) (.cons (.par [(11, false), (12, false)] (.cons false (.bi .repr (.cons false (.nm 10) .nil)) (.cons false (.lst (.cons false (.call "is_machine" (.cons false (.call "_law_handed" (.cons false (.nm 1) (.cons false (.nm 3) .nil)) []) (.cons false (.nm 10) .nil)) []) (.cons false (.call "is_machine" (.cons false (.nm 10) (.cons false (.call "_law_copied" (.cons false (.nm 3) .nil) []) .nil)) [1, 0]) .nil))) .nil))) (.cons (.ifS (.orE (.nt (.call "_law_same" (.cons false (.nm 12) (.cons false (.bin .mul (.lst (.cons false (.cmp .is_ (.nm 9) (.cn (.non))) .nil)) (.cn (.int 2))) .nil)) [])) (.cons false (.cmp .ne (.bi .repr (.cons false (.nm 10) .nil)) (.nm 11)) .nil)) (.cons (.ret (some (.cn (.bl false)))) .nil) .nil) (.cons (.ifS (.cmp .isnot (.nm 9) (.cn (.non))) (.cons (.set 13 true (.lst (.cons false (.met (.call "answered" (.cons false (.call "_law_copied" (.cons false (.nm 3) .nil) []) (.cons false (.nm 10) (.cons false (.cn (.non)) .nil))) [])) .nil))) (.cons (.append 13 (.met (.call "sum_of" (.cons false (.cn (.non)) (.cons false (.nm 10) (.cons false (.call "_law_copied" (.cons false (.nm 3) .nil) []) .nil))) [2, 1, 0]))) (.cons (.ifS (.nt (.call "_law_same" (.cons false (.nm 13) (.cons false (.bin .mul (.lst (.cons false (.tup (.cons false (.cn (.str "machine")) (.cons false (.nm 9) .nil))) .nil)) (.cn (.int 2))) .nil)) [])) (.cons (.ret (some (.cn (.bl false)))) .nil) .nil) .nil))) .nil) .nil))))) (.cons (.ifS (.cmp .ne (.bi .repr (.cons false (.lst (.cons false (.nm 3) (.cons false (.nm 4) .nil))) .nil)) (.nm 5)) (.cons (.ret (some (.cn (.bl false)))) .nil) .nil) .nil)))))))))) (.cons (.par [(14, false), (15, false)] (.cons false (.lst (.cons false (.lst (.cons false (.cn (.int 3)) (.cons false (.cn (.int 0)) .nil))) (.cons false (.lst (.cons false (.cn (.int 5)) (.cons false (.cn (.int 1)) .nil))) .nil))) (.cons false (.lst (.cons false (.tup (.cons false (.cn (.int 0)) (.cons false (.lst (.cons false (.cn (.int 0)) (.cons false (.cn (.int 1)) .nil))) .nil))) (.cons false (.tup (.cons false (.cn (.int 1)) (.cons false (.lst (.cons false (.cn (.int 0)) (.cons false (.cn (.int 1)) .nil))) .nil))) .nil))) .nil))) (.cons (.set 12 false (.lst (.cons false (.call "answered" (.cons false (.nm 14) (.cons false (.nm 15) (.cons false (.lst (.cons false (.cn (.int 0)) (.cons false (.cn (.int 0)) (.cons false (.cn (.int 1)) .nil)))) .nil))) []) (.cons false (.call "sum_of" (.cons false (.nm 14) (.cons false (.nm 15) (.cons false (.lst (.cons false (.cn (.int 0)) (.cons false (.cn (.int 0)) (.cons false (.cn (.int 1)) .nil)))) .nil))) []) (.cons false (.call "is_machine" (.cons false (.nm 14) (.cons false (.lst (.cons false (.tup (.cons false (.cn (.int 0)) (.cons false (.lst (.cons false (.cn (.int 0)) (.cons false (.cn (.int 0)) .nil))) .nil))) .nil)) .nil)) []) (.cons false (.call "answered" (.cons false (.nm 14) (.cons false (.nm 15) (.cons false (.lst .nil) .nil))) []) .nil)))))) (.cons (.ret (some (.call "_law_same" (.cons false (.nm 12) (.cons false (.lst (.cons false (.lst (.cons false (.tup (.cons false (.cn (.int 0)) (.cons false (.cn (.int 0)) .nil))) (.cons false (.tup (.cons false (.cn (.int 0)) (.cons false (.cn (.int 0)) .nil))) (.cons false (.tup (.cons false (.cn (.int 1)) (.cons false (.cn (.int 0)) .nil))) .nil)))) (.cons false (.cn (.int 11)) (.cons false (.cn (.bl true)) (.cons false (.lst .nil) .nil))))) .nil)) []))) .nil))))), 0⟩
def pg : Pg := ⟨[nm "is_list" d_is_list, nm "is_whole" d_is_whole, nm "is_number" d_is_number, nm "is_row" d_is_row, nm "is_index" d_is_index, nm "is_table_of" d_is_table_of, nm "check_table" d_check_table, nm "is_state" d_is_state, nm "first_bad_state" d_first_bad_state, nm "check_machine" d_check_machine, nm "is_machine" d_is_machine, nm "check_rows" d_check_rows, nm "walked" d_walked, nm "answered" d_answered, nm "total_of" d_total_of, nm "sum_of" d_sum_of, nm "_law_stream" d__law_stream, nm "_law_draw" d__law_draw, nm "_law_pick" d__law_pick, nm "_law_same" d__law_same, nm "_law_loose" d__law_loose, nm "_law_copied" d__law_copied, nm "_law_is_whole" d__law_is_whole, nm "_law_table" d__law_table, nm "_law_handed" d__law_handed, nm "_law_machine" d__law_machine, nm "_law_machine_handed" d__law_machine_handed, nm "_law_walk" d__law_walk, nm "_law_first_bad" d__law_first_bad, nm "_law_bent_machine" d__law_bent_machine, nm "_law_rows_right" d__law_rows_right, nm "law" d_law], [h3 "BadMachine" "machine" "index", h3 "BadRows" "rows" "index"]⟩
def kb : List (Str × List Str × Nat × List Nat) := [kq "is_whole" [] 1 [], kq "is_list" [] 1 [], kq "is_number" [] 1 [], kq "is_table_of" [] 1 [], kq "is_row" [] 2 [], kq "is_index" [] 2 [], kq "is_state" [] 3 [], kq "check_table" [] 1 [], kq "first_bad_state" [] 2 [], kq "check_machine" [] 2 [], kq "check_rows" [] 2 [], kq "walked" [] 3 [], kq "total_of" [] 2 [], kq "answered" [] 3 [], kq "_law_draw" [] 2 [], kq "_law_same" [] 2 [], kq "_law_loose" [] 2 [], kq "_law_copied" [] 1 [], kq "_law_is_whole" [] 1 [], kq "_law_pick" [] 2 [], kq "_law_handed" [] 2 [], kq "_law_machine_handed" [] 2 [], kq "answered" ["rows", "machine", "table"] 0 [2, 1, 0], kq "sum_of" [] 3 [], kq "sum_of" ["rows", "machine", "table"] 0 [2, 1, 0], kq "_law_walk" [] 3 [], kq "_law_stream" [] 1 [], kq "_law_table" [] 2 [], kq "_law_machine" [] 3 [], kq "_law_rows_right" [] 3 [], kq "_law_bent_machine" [] 3 [], kq "_law_first_bad" [] 2 [], kq "is_machine" [] 2 [], kq "is_machine" ["thing", "table"] 0 [1, 0]]
def exs : List (Str × Str) := [xq "BadTable" "table", xq "BadMachine" "index", xq "BadRows" "index"]
def N_is_list : List Str := ["thing"]
def N_is_whole : List Str := ["thing"]
def N_is_number : List Str := ["thing"]
def N_is_row : List Str := ["thing", "many"]
def N_is_index : List Str := ["thing", "many"]
def N_is_table_of : List Str := ["thing", "row", "entry"]
def N_check_table : List Str := ["table"]
def N_is_state : List Str := ["table", "many", "thing", "far"]
def N_first_bad_state : List Str := ["table", "machine", "index", "state"]
def N_check_machine : List Str := ["table", "machine", "wrong"]
def N_is_machine : List Str := ["table", "thing"]
def N_check_rows : List Str := ["table", "rows", "index", "row"]
def N_walked : List Str := ["machine", "state", "rows", "found", "row"]
def N_answered : List Str := ["table", "machine", "rows"]
def N_total_of : List Str := ["table", "cells", "row", "column"]
def N_sum_of : List Str := ["table", "machine", "rows"]
def N__law_stream : List Str := ["script"]
def N__law_draw : List Str := ["stream", "many", "cell", "digit", "mixed"]
def N__law_pick : List Str := ["stream", "things"]
def N__law_same : List Str := ["found", "due", "mine", "theirs"]
def N__law_loose : List Str := ["stream", "thing", "some", "one"]
def N__law_copied : List Str := ["thing", "some", "one", "key"]
def N__law_is_whole : List Str := ["thing"]
def N__law_table : List Str := ["stream", "most", "many", "wide", "way", "reach", "table", "k", "at", "row", "entry", "one", "other", "to"]
def N__law_handed : List Str := ["stream", "table", "row"]
def N__law_machine : List Str := ["stream", "table", "most", "many", "row", "state"]
def N__law_machine_handed : List Str := ["stream", "machine", "column", "nexts"]
def N__law_walk : List Str := ["machine", "state", "rows", "found", "row"]
def N__law_first_bad : List Str := ["table", "thing", "index", "state", "is_one", "far"]
def N__law_bent_machine : List Str := ["stream", "table", "machine", "at", "odd", "column", "nexts", "place", "odds"]
def N__law_rows_right : List Str := ["stream", "table", "machine", "rows", "turn", "at", "odd", "cases", "thing", "wrong", "handed", "mine", "was", "met", "due", "cells", "total", "row", "column"]
def N_law : List Str := ["script", "stream", "turn", "table", "machine", "kept", "things", "again", "thing", "wrong", "mine", "was", "found", "met", "one", "two"]
def nsOf : List (Str × List Str) := [nq "is_list" N_is_list, nq "is_whole" N_is_whole, nq "is_number" N_is_number, nq "is_row" N_is_row, nq "is_index" N_is_index, nq "is_table_of" N_is_table_of, nq "check_table" N_check_table, nq "is_state" N_is_state, nq "first_bad_state" N_first_bad_state, nq "check_machine" N_check_machine, nq "is_machine" N_is_machine, nq "check_rows" N_check_rows, nq "walked" N_walked, nq "answered" N_answered, nq "total_of" N_total_of, nq "sum_of" N_sum_of, nq "_law_stream" N__law_stream, nq "_law_draw" N__law_draw, nq "_law_pick" N__law_pick, nq "_law_same" N__law_same, nq "_law_loose" N__law_loose, nq "_law_copied" N__law_copied, nq "_law_is_whole" N__law_is_whole, nq "_law_table" N__law_table, nq "_law_handed" N__law_handed, nq "_law_machine" N__law_machine, nq "_law_machine_handed" N__law_machine_handed, nq "_law_walk" N__law_walk, nq "_law_first_bad" N__law_first_bad, nq "_law_bent_machine" N__law_bent_machine, nq "_law_rows_right" N__law_rows_right, nq "law" N_law]
def mlOf : List (Str × Bool) := [mq "is_list" false, mq "is_whole" false, mq "is_number" false, mq "is_row" false, mq "is_index" false, mq "is_table_of" false, mq "check_table" false, mq "is_state" false, mq "first_bad_state" false, mq "check_machine" false, mq "is_machine" false, mq "check_rows" false, mq "walked" false, mq "answered" false, mq "total_of" false, mq "sum_of" false, mq "_law_stream" false, mq "_law_draw" false, mq "_law_pick" false, mq "_law_same" false, mq "_law_loose" false, mq "_law_copied" false, mq "_law_is_whole" false, mq "_law_table" false, mq "_law_handed" false, mq "_law_machine" false, mq "_law_machine_handed" false, mq "_law_walk" false, mq "_law_first_bad" false, mq "_law_bent_machine" false, mq "_law_rows_right" true, mq "law" true]
def gen : Gen := ⟨pg, nsOf, mlOf, kb, exs, true⟩
end Mv.K79

end
set_option Elab.async false
set_option linter.all false
namespace Mv
open PySem
theorem law79_gen : Law79 K79.gen.pg 5000 where
  fu := by decide
  is_list := rfl
  is_whole := rfl
  is_number := rfl
  is_row := rfl
  is_table_of := rfl
  check_table := rfl
  stream := rfl
  draw := rfl
  same := rfl
  loose := rfl
  copied := rfl
  table := rfl
  handed := rfl
  is_index := rfl
  is_state := rfl
  first_bad_state := rfl
  check_machine := rfl
  machine := rfl
  machine_handed := rfl
  law_walk := rfl
  check_rows := rfl
  walked := rfl
  answered := rfl
  total_of := rfl
  sum_of := rfl
  is_machine := rfl
  law_is_whole := rfl
  law_first_bad := rfl
  pick := rfl
  bent := rfl
  rows_right := rfl
  hsM := rfl
  hsR := rfl
theorem law79_pure (ns : List Int) (h1 : ns.length ≤ 63) (h2 : ∀ z ∈ ns, Builtin.Int.intBits z ≤ 1048576) : ∃ S, callN K79.gen.pg 5000 60 "law" [.scr (ns.map MV.int)] 0 1 [] = some (.ok (.bl true) S) := by
  obtain ⟨v, S, e, rfl⟩ := (law79_run law79_gen rfl (k := 60) (cm := 1) (by decide) (by decide) ns h1 h2).ex
  exact ⟨S, e⟩
end Mv
open PySem PySem.W PyProof.Rows
set_option maxRecDepth 100000 in
set_option maxHeartbeats 8000000 in
theorem PySem.Challenge.cw_tableplays_k79_whole_machines_holds : PySem.Challenge.rw_tableplays_k79_whole_machines.Holds := by
  w_on; o_law; k_head; (case hw => w_witness2); k_fill
  refine Mv.walk_km Mv.K79.gen 5000 60 rfl rfl rfl ⟨⟨rfl, by decide, by decide⟩, rfl⟩ (fun P => by kernel_rfl) (fun P => by kernel_rfl) (fun P => by kernel_rfl) (by decide) (by rfl) rfl ?_
  exact Mv.law79_pure
