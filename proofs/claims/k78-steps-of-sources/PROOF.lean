import PyProof.Rows.All
import Wide.All
import OpenK.AllK
import Wide.FinOn
import PySem.Spec
import HandS.ForMost
import HandS.Exc
import HandS.WordsExc
import HandS.TupAny
import HandS.Style
import HandS.TupLe
import HandS.Flow
import HandS.Deep
import HandS.Text
import PyProof.Rows.SeqMore
import HandS.SortInts
import HandS.More
import KE.KDictPairs
import HandS.TupLen
import HandS.RaiseMore
import HandS.Small
import PyProof.DictUpdate
import HandS.IsInst
import HandS.Zip
import HandS.Walk
import HandS.Steps
import KE.KDictDisplayH
import HandS.SetFor
import HandS.HeadHook2
import HandS.HeadEnd
import HandS.Head2
import PySem.Challenge.RW_microwright_k78_whole_steps_of_sources
/- Mini: a small language of expressions and statements over plain data, and its interpreter. Own work. -/
set_option autoImplicit false
namespace Mini

/-- keys of dicts -/
inductive Ky where
  | i (n : Int)
  | s (x : List Nat)
  | t (xs : List (Sum Int (List Nat)))
  deriving DecidableEq

/-- plain data -/
inductive D where
  | non
  | bl (b : Bool)
  | int (i : Int)
  | str (s : List Nat)
  | tup (xs : List D)
  | lst (xs : List D)
  | dct (t : Bool) (kvs : List (Ky × D))

instance : Inhabited D := ⟨.non⟩

/-- what a mutable thing holds -/
inductive Cell where
  | lst (xs : List D)
  | dct (t : Bool) (kvs : List (Ky × D))
  | gone

def Cell.D : Cell → Option Mini.D
  | .lst xs => some (.lst xs)
  | .dct t kvs => some (.dct t kvs)
  | .gone => none

abbrev Heap := List Cell

/-- a value at run time: data, a mutable thing of the heap, a thing just made that nobody holds -/
inductive RV where
  | d (x : D)
  | ref (n : Nat)
  | nw (c : Cell)

abbrev Env := List (Option RV)

/-- an error: its class and its fields -/
structure Ex where
  cls : Nat
  fs : List (List Nat × D)

inductive Out (α : Type) where
  | ok (a : α)
  | exc (e : Ex) (h : Heap)
  | stuck

namespace Out
variable {α β : Type}
def bind : Out α → (α → Out β) → Out β
  | .ok a, f => f a
  | .exc e h, _ => .exc e h
  | .stuck, _ => .stuck
@[simp] theorem bind_ok (a : α) (f : α → Out β) : bind (.ok a) f = f a := rfl
@[simp] theorem bind_exc (e : Ex) (h : Heap) (f : α → Out β) : bind (.exc e h) f = .exc e h := rfl
@[simp] theorem bind_stuck (f : α → Out β) : bind .stuck f = .stuck := rfl
/-- an error can't be here -/
def calm : Out α → Out α
  | .ok a => .ok a
  | _ => .stuck
@[simp] theorem calm_ok (a : α) : calm (.ok a) = .ok a := rfl
def ofOpt : Option α → Out α
  | some a => .ok a
  | none => .stuck
@[simp] theorem ofOpt_some (a : α) : ofOpt (some a) = .ok a := rfl
@[simp] theorem ofOpt_none : (ofOpt none : Out α) = .stuck := rfl
end Out

instance : Monad Out where
  pure := .ok
  bind := Out.bind
@[simp] theorem Out.ok_bind {α β : Type} (a : α) (f : α → Out β) : (Out.ok a >>= f) = f a := rfl
@[simp] theorem Out.exc_bind {α β : Type} (e : Ex) (h : Heap) (f : α → Out β) : ((Out.exc e h : Out α) >>= f) = .exc e h := rfl
@[simp] theorem Out.stuck_bind {α β : Type} (f : α → Out β) : ((Out.stuck : Out α) >>= f) = .stuck := rfl

/-! ### the language -/
inductive Bin where
  | add | sub | mul | mod | fdiv | pow | band | bor | bxor
  deriving DecidableEq
inductive Cmp where
  | eq | ne | lt | le | gt | ge | in_ | nin | is_ | isn
  deriving DecidableEq
inductive Ty where
  | int | bool | str | tuple | list | dict
  deriving DecidableEq
/-- built-in functions of plain values -/
inductive Bi where
  | len | abs | int | str | sum | max | min | all | any | tuple | list | sorted | sset | lset | dict
  deriving DecidableEq
/-- methods -/
inductive Mt where
  | append | pop | get | update | count | index | join | replace | rfind | split | setdefault
  deriving DecidableEq
/-- targets: a name's slot, a tuple of targets -/
inductive Tg where
  | nm (i : Nat)
  | tp (ts : Tg)
  | nil
  | cons (t r : Tg)
  deriving DecidableEq

inductive C where
  | con (d : D)
  | var (i : Nat)
  | take (i : Nat)
  | bin (o : Bin) (a b : C)
  | neg (a : C)
  | cmp (o : Cmp) (a b : C)
  | chn (o p : Cmp) (a b c : C)
  | and_ (a b : C)
  | or_ (a b : C)
  | not_ (a : C)
  | ite (c a b : C)
  | tup (as : C)
  | lst (as : C)
  | dic (t : Bool) (as : C)
  | idx (a i : C)
  | sli (a lo hi : C)
  | rev (a : C)
  | call (f : Nat) (as : C)
  | bi (b : Bi) (as : C)
  | mt (m : Mt) (o as : C)
  | isi (a : C) (t : Ty)
  | comp (own : List Nat) (t : Tg) (it : C) (c : C) (e : C)
  | comp2 (own : List Nat) (t : Tg) (it : C) (c : C) (own2 : List Nat) (t2 : Tg) (it2 : C) (c2 : C) (e : C)
  | dcomp (own : List Nat) (t : Tg) (it : C) (c : C) (k e : C)
  -- what is walked alone
  | rng1 (a : C)
  | rng2 (a b : C)
  | zip2 (a b : C)
  | enu (a : C)
  | items (a : C)
  -- tests: of a value, and, or, not, none
  | te (a : C)
  | tand (a b : C)
  | tor (a b : C)
  | tnot (a : C)
  | tyes
  -- a slice's bound; a value that is walked
  | pv (a : C)
  | wv (a : C)
  -- lists of expressions
  | nil
  | cons (a r : C)

/-- a target of several at once: a name's slot (with a mutable thing of its own or not), a place -/
inductive L where
  | nm (m : Bool) (i : Nat)
  | sb (o i : C)

inductive S where
  | skip
  | seq (a b : S)
  | asg (m : Bool) (t : Tg) (e : C)
  | par (ls : List L) (as : C)
  | sub (o i e : C)
  | aug (i : Nat) (o : Bin) (e : C)
  | exp (e : C)
  | ret (e : C)
  | retn
  | ite (c : C) (a b : S)
  | whl (c : C) (b : S)
  | for_ (t : Tg) (it : C) (b : S)
  | brk
  | cnt
  | rse (c : Nat)

/-! ### data -/
mutual
def eqD : D → D → Bool
  | .non, .non => true
  | .bl a, .bl b => a == b
  | .bl a, .int j => (if a then 1 else 0) == j
  | .int i, .bl b => i == (if b then 1 else 0)
  | .int i, .int j => i == j
  | .str x, .str y => x == y
  | .lst xs, .lst ys => eqDs xs ys
  | .tup xs, .tup ys => eqDs xs ys
  | _, _ => false
def eqDs : List D → List D → Bool
  | [], [] => true
  | x :: xs, y :: ys => eqD x y && eqDs xs ys
  | _, _ => false
end

mutual
def depth : D → Nat
  | .tup xs => depths xs + 1
  | .lst xs => depths xs + 1
  | _ => 0
def depths : List D → Nat
  | [] => 0
  | x :: xs => max (depth x) (depths xs)
end

/- no dict in it: it may be compared -/
mutual
def noDct : D → Bool
  | .dct _ _ => false
  | .tup xs => noDcts xs
  | .lst xs => noDcts xs
  | _ => true
def noDcts : List D → Bool
  | [] => true
  | x :: xs => noDct x && noDcts xs
end

def LINE : Nat := 16777216

def keyFlat : D → Option (Sum Int (List Nat))
  | .int n => some (.inl n)
  | .str x => some (.inr x)
  | _ => none
def keysFlat : List D → Option (List (Sum Int (List Nat)))
  | [] => some []
  | x :: xs => match keyFlat x, keysFlat xs with
    | some a, some b => some (a :: b)
    | _, _ => none
def keyOf : D → Option Ky
  | .int n => some (.i n)
  | .str x => some (.s x)
  | .tup xs => (keysFlat xs).map .t
  | _ => none
def isT : Ky → Bool
  | .t _ => true
  | _ => false
/-- a key of a dict whose keys are tuples, or numbers and texts -/
def keyFor (t : Bool) (x : D) : Option Ky := (keyOf x).bind fun k => if isT k = t then some k else none
def flatD : Sum Int (List Nat) → D
  | .inl n => .int n
  | .inr x => .str x
def kyD : Ky → D
  | .i n => .int n
  | .s x => .str x
  | .t xs => .tup (xs.map flatD)

def dget (kvs : List (Ky × D)) (k : Ky) : Option D :=
  match kvs with
  | [] => none
  | (a, v) :: r => if a = k then some v else dget r k
def dput (kvs : List (Ky × D)) (k : Ky) (v : D) : List (Ky × D) :=
  if (kvs.any fun p => decide (p.1 = k)) = true then kvs.map (fun p => if p.1 = k then (p.1, v) else p) else kvs ++ [(k, v)]
def dmerge (kvs : List (Ky × D)) : List (Ky × D) → List (Ky × D)
  | [] => kvs
  | (k, v) :: r => dmerge (dput kvs k v) r

/-- the pairs that a dict is made of -/
def pairOf : D → Option (Ky × D)
  | .tup [k, v] => (keyFor false k).map fun a => (a, v)
  | _ => none
def pairsOf : List D → Option (List (Ky × D))
  | [] => some []
  | x :: xs => match pairOf x, pairsOf xs with
    | some a, some b => some (a :: b)
    | _, _ => none

/-- the place that an index means -/
def place (n : Nat) (i : Int) : Option Nat :=
  if 0 ≤ i then (if i < n then some i.toNat else none) else if -(n : Int) ≤ i then some (i + n).toNat else none
def atD {α : Type} (xs : List α) (i : Int) : Option α := (place xs.length i).bind fun j => xs[j]?

def cutIx (n d : Nat) : Option Int → Nat
  | none => d
  | some v => if v < 0 then (v + (n : Int)).toNat else min v.toNat n
def cut {α : Type} (xs : List α) (lo hi : Option Int) : List α :=
  (xs.drop (cutIx xs.length 0 lo)).take (cutIx xs.length xs.length hi - cutIx xs.length 0 lo)

/-- whether the one text stands in the other -/
def isPre : List Nat → List Nat → Bool
  | [], _ => true
  | _ :: _, [] => false
  | x :: xs, y :: ys => x == y && isPre xs ys
def isSub (x : List Nat) : List Nat → Bool
  | [] => isPre x []
  | y :: ys => isPre x (y :: ys) || isSub x ys

def ltStr : List Nat → List Nat → Bool
  | [], [] => false
  | [], _ :: _ => true
  | _ :: _, [] => false
  | x :: xs, y :: ys => if x < y then true else if y < x then false else ltStr xs ys

def strInt (i : Int) : List Nat := (PySem.Str.ofString (toString i)).cps.toList
def okS (x : List Nat) : Bool := decide (x.length ≤ LINE) && x.all (fun c => decide (c < 0x110000))

def truth : D → Option Bool
  | .non => some false
  | .bl b => some b
  | .int i => some (i != 0)
  | .str x => some !x.isEmpty
  | .tup xs => some !xs.isEmpty
  | .lst xs => some !xs.isEmpty
  | .dct _ _ => none

def tyOk : Ty → D → Bool
  | .int, .int _ => true
  | .int, .bl _ => true
  | .bool, .bl _ => true
  | .str, .str _ => true
  | .tuple, .tup _ => true
  | .list, .lst _ => true
  | .dict, .dct _ _ => true
  | _, _ => false

def isiV (t : Ty) : D → Option Bool
  | .dct true _ => none
  | x => some (tyOk t x)

/-! ### operators on values -/
def small (i : Int) : Bool := decide (-(2 ^ 64) < i) && decide (i < 2 ^ 64)

def bitI (f : Nat → Nat → Nat) (i j : Int) : Out RV :=
  if 0 ≤ i ∧ 0 ≤ j then .ok (.d (.int (f i.toNat j.toNat))) else .stuck

def binV : Bin → D → D → Out RV
  | .add, .int i, .int j => .ok (.d (.int (i + j)))
  | .add, .str x, .str y => if x.length + y.length ≤ LINE then .ok (.d (.str (x ++ y))) else .stuck
  | .add, .tup x, .tup y => if x.length + y.length ≤ LINE then .ok (.d (.tup (x ++ y))) else .stuck
  | .add, .lst x, .lst y => if x.length + y.length ≤ LINE then .ok (.nw (.lst (x ++ y))) else .stuck
  | .sub, .int i, .int j => .ok (.d (.int (i - j)))
  | .mul, .int i, .int j => if small i || small j then .ok (.d (.int (i * j))) else .stuck
  | .mod, .int i, .int j => if 0 < j then .ok (.d (.int (i % j))) else .stuck
  | .fdiv, .int i, .int j => if 0 < j ∧ j < 1073741824 then .ok (.d (.int (i / j))) else .stuck
  | .pow, .int i, .int j => if 0 ≤ j ∧ j ≤ 1000000 ∧ i.natAbs < 2 ^ 64 then .ok (.d (.int (i ^ j.toNat))) else .stuck
  | .band, .int i, .int j => bitI Nat.land i j
  | .bor, .int i, .int j => bitI Nat.lor i j
  | .bxor, .int i, .int j => bitI Nat.xor i j
  | _, _, _ => .stuck

def inD (x : D) : D → Option Bool
  | .str y => (match x with
    | .str [c] => some (y.contains c)
    | _ => none)
  | .tup ys => if noDct x && noDcts ys && decide (min (depths ys) (depth x) ≤ 60) then some (ys.any fun y => eqD y x) else none
  | .lst ys => if noDct x && noDcts ys && decide (min (depths ys) (depth x) ≤ 60) then some (ys.any fun y => eqD y x) else none
  | .dct t kvs => (keyFor t x).map fun k => (dget kvs k).isSome
  | _ => none

def isNon : D → Bool
  | .non => true
  | _ => false
def isD (x : D) : D → Option Bool
  | .non => some (isNon x)
  | .bl b => (match x with
    | .bl a => some (a == b)
    | _ => none)
  | _ => none

def cmpV : Cmp → D → D → Option Bool
  | .eq, x, y => if noDct x && noDct y && decide (min (depth x) (depth y) ≤ 60) then some (eqD x y) else none
  | .ne, x, y => if noDct x && noDct y && decide (min (depth x) (depth y) ≤ 60) then some (!eqD x y) else none
  | .lt, .int i, .int j => some (decide (i < j))
  | .le, .int i, .int j => some (decide (i ≤ j))
  | .gt, .int i, .int j => some (decide (j < i))
  | .ge, .int i, .int j => some (decide (j ≤ i))
  | .lt, .str x, .str y => some (ltStr x y)
  | .in_, x, y => inD x y
  | .nin, x, y => (inD x y).map (!·)
  | .is_, x, y => isD x y
  | .isn, x, y => (isD x y).map (!·)
  | _, _, _ => none

def idxV : D → D → Option D
  | .lst xs, .int i => atD xs i
  | .tup xs, .int i => atD xs i
  | .str xs, .int i => (atD xs i).map fun c => .str [c]
  | .dct t kvs, x => (keyFor t x).bind fun k => dget kvs k
  | _, _ => none

def sliV : D → Option Int → Option Int → Option RV
  | .lst xs, lo, hi => some (.nw (.lst (cut xs lo hi)))
  | .tup xs, lo, hi => some (.d (.tup (cut xs lo hi)))
  | .str xs, lo, hi => some (.d (.str (cut xs lo hi)))
  | _, _, _ => none

def revV : D → Option RV
  | .lst xs => some (.nw (.lst xs.reverse))
  | .tup xs => some (.d (.tup xs.reverse))
  | _ => none

def intsOf : List D → Option (List Int)
  | [] => some []
  | .int i :: r => (intsOf r).map (i :: ·)
  | _ => none
def blsOf : List D → Option (List Bool)
  | [] => some []
  | .bl i :: r => (blsOf r).map (i :: ·)
  | _ => none
def strsOf : List D → Option (List (List Nat))
  | [] => some []
  | .str i :: r => (strsOf r).map (i :: ·)
  | _ => none

/-- sorting by insertion -/
def insBy {α : Type} (lt : α → α → Bool) (x : α) : List α → List α
  | [] => [x]
  | y :: r => if lt x y then x :: y :: r else y :: insBy lt x r
def sortBy {α : Type} (lt : α → α → Bool) : List α → List α
  | [] => []
  | x :: r => insBy lt x (sortBy lt r)

/-- what is walked, as a list -/
def itemsV : D → Option (List D)
  | .lst xs => some xs
  | .tup xs => some xs
  | .str xs => some (xs.map fun c => .str [c])
  | _ => none

def dedup {α : Type} [DecidableEq α] : List α → List α
  | [] => []
  | x :: r => if x ∈ r then dedup r else x :: dedup r

def sortD (xs : List D) : Option (List D) :=
  match intsOf xs with
  | some ns => some ((sortBy (fun a b => decide (a < b)) ns).map .int)
  | none => match strsOf xs with
    | some ns => if ns.length < 64 then some ((sortBy ltStr ns).map .str) else none
    | none => none
def strKs : List (Ky × D) → Option (List (List Nat))
  | [] => some []
  | (.s x, _) :: r => (strKs r).map (x :: ·)
  | _ => none

def maxI : Int → List Int → Int
  | a, [] => a
  | a, b :: r => maxI (if b > a then b else a) r
def minI : Int → List Int → Int
  | a, [] => a
  | a, b :: r => minI (if b < a then b else a) r

def biV : Bi → List D → Option RV
  | .len, [.lst xs] => some (.d (.int xs.length))
  | .len, [.tup xs] => some (.d (.int xs.length))
  | .len, [.str xs] => some (.d (.int xs.length))
  | .abs, [.int i] => some (.d (.int (if i < 0 then -i else i)))
  | .int, [.int i] => some (.d (.int i))
  | .str, [.int i] => if i.natAbs.log2 < 1920 && okS (strInt i) then some (.d (.str (strInt i))) else none
  | .str, [.str x] => some (.d (.str x))
  | .sum, [.lst xs] => (intsOf xs).map fun ns => .d (.int ns.sum)
  | .max, [.int i, .int j] => some (.d (.int (if j > i then j else i)))
  | .min, [.int i, .int j] => some (.d (.int (if j < i then j else i)))
  | .max, [.lst xs] => (intsOf xs).bind fun
    | [] => none
    | a :: r => some (.d (.int (maxI a r)))
  | .min, [.lst xs] => (intsOf xs).bind fun
    | [] => none
    | a :: r => some (.d (.int (minI a r)))
  | .all, [.lst xs] => (blsOf xs).map fun bs => .d (.bl (bs.all id))
  | .any, [.lst xs] => (blsOf xs).map fun bs => .d (.bl (bs.any id))
  | .tuple, [.lst xs] => some (.d (.tup xs))
  | .tuple, [.tup xs] => some (.d (.tup xs))
  | .list, [.lst xs] => some (.nw (.lst xs))
  | .list, [.tup xs] => some (.nw (.lst xs))
  | .sorted, [.lst xs] => (sortD xs).map fun ys => .nw (.lst ys)
  | .sorted, [.dct false kvs] => (strKs kvs).bind fun ns => if ns.length < 64 then some (.nw (.lst ((sortBy ltStr ns).map .str))) else none
  | .sset, [.lst xs] => (strsOf xs).bind fun ns => if ns.length ≤ 4000 && decide ((dedup ns).length < 64) then some (.nw (.lst ((sortBy ltStr (dedup ns)).map .str))) else none
  | .lset, [.lst xs] => (strsOf xs).bind fun ns => if ns.length ≤ 4000 then some (.d (.int (dedup ns).length)) else none
  | .dict, [.dct false kvs] => if kvs.length ≤ LINE then some (.nw (.dct false kvs)) else none
  | .dict, [.lst xs] => (pairsOf xs).map fun ps => .nw (.dct false (dmerge [] ps))
  | .dict, [.tup xs] => (pairsOf xs).map fun ps => .nw (.dct false (dmerge [] ps))
  | _, _ => none

def nrm : RV → RV
  | .nw c => match c.D with
    | some x => .d x
    | none => .nw c
  | r => r

def view (h : Heap) : RV → Option D
  | .d x => some x
  | .ref n => (h[n]?).bind Cell.D
  | .nw c => c.D

def views (h : Heap) : List RV → Option (List D)
  | [] => some []
  | r :: rs => match view h r, views h rs with
    | some a, some b => some (a :: b)
    | _, _ => none

/-- methods that read -/
def mtV : Mt → D → List D → Option RV
  | .get, .dct t kvs, [k] => (keyFor t k).map fun a => .d ((dget kvs a).getD .non)
  | .get, .dct t kvs, [k, x] => (keyFor t k).map fun a => .d ((dget kvs a).getD x)
  | _, _, _ => none

/-- methods that write a list or a dict of the heap -/
def mtW : Mt → Cell → List D → Option (D × Cell)
  | .append, .lst xs, [x] => if xs.length < LINE then some (.non, .lst (xs ++ [x])) else none
  | .pop, .lst xs, [] => match xs.getLast? with
    | some y => some (y, .lst xs.dropLast)
    | none => none
  | .update, .dct false kvs, [.dct false more] => if kvs.length + more.length ≤ LINE then some (.non, .dct false (dmerge kvs more)) else none
  | _, _, _ => none
/-- of which kind the thing is that a method is called on -/
def onKind : Mt → D → Bool
  | .append, .lst _ => true
  | .pop, .lst _ => true
  | .get, .dct _ _ => true
  | .update, .dct _ _ => true
  | _, _ => false
def writes : Mt → Bool
  | .append => true
  | .pop => true
  | .update => true
  | .setdefault => true
  | _ => false

/-! ### names -/
mutual
def setTg : Tg → D → Env → Option Env
  | .nm i, x, env => some (env.set i (some (.d x)))
  | .tp ts, .tup xs, env => setTgs ts xs env
  | _, _, _ => none
def setTgs : Tg → List D → Env → Option Env
  | .nil, [], env => some env
  | .cons t r, x :: xs, env => (setTg t x env).bind fun e => setTgs r xs e
  | _, _, _ => none
end

def wipe (env : Env) : List Nat → Env
  | [] => env
  | v :: vs => (wipe env vs).set v none

/-- turn by turn: what is kept of the items -/
def mapGo (f : D → Heap → Out (List D × Heap)) : List D → Heap → Out (List D × Heap)
  | [], h => .ok ([], h)
  | x :: xs, h => f x h >>= fun (ys, h1) => mapGo f xs h1 >>= fun (zs, h2) => .ok (ys ++ zs, h2)

def rangeD (lo hi : Int) : List D := (List.range (hi - lo).toNat).map fun k : Nat => .int (lo + (k : Int))
def zipD : List D → List D → List D
  | x :: xs, y :: ys => .tup [x, y] :: zipD xs ys
  | _, _ => []
def enuD : Nat → List D → List D
  | _, [] => []
  | k, x :: xs => .tup [.int k, x] :: enuD (k + 1) xs

abbrev Calls := Nat → List RV → Heap → Out (RV × Heap)

def dataOf : RV → Option D
  | .d x => some x
  | _ => none
def datasOf : List RV → Option (List D)
  | [] => some []
  | r :: rs => match dataOf r, datasOf rs with
    | some a, some b => some (a :: b)
    | _, _ => none
def dictOf (t : Bool) : List D → Option (List (Ky × D))
  | [] => some []
  | k :: v :: r => match keyFor t k, dictOf t r with
    | some a, some b => some ((a, v) :: b)
    | _, _ => none
  | _ => none

section
variable (Φ : Calls)

mutual
/-- the value of an expression -/
def ev : C → Env → Heap → Out (RV × Heap)
  | .con d, _, h => .ok (.d d, h)
  | .var i, env, h => match env[i]? with
    | some (some r) => .ok (r, h)
    | _ => .stuck
  | .take i, env, h => match env[i]? with
    | some (some (.ref n)) => (match h[n]? with
      | some .gone => .stuck
      | some c => .ok (.nw c, h.set n .gone)
      | none => .stuck)
    | _ => .stuck
  | .bin o a b, env, h => ev a env h >>= fun (x, h1) => ev b env h1 >>= fun (y, h2) =>
    match view h2 (nrm x), view h2 (nrm y) with
    | some p, some q => binV o p q >>= fun r => .ok (r, h2)
    | _, _ => .stuck
  | .neg a, env, h => ev a env h >>= fun (x, h1) => match x with
    | .d (.int i) => .ok (.d (.int (-i)), h1)
    | _ => .stuck
  | .cmp o a b, env, h => ev a env h >>= fun (x, h1) => ev b env h1 >>= fun (y, h2) =>
    match view h2 (nrm x), view h2 (nrm y) with
    | some p, some q => (match cmpV o p q with
      | some k => .ok (.d (.bl k), h2)
      | none => .stuck)
    | _, _ => .stuck
  | .chn o p a b c, env, h => ev a env h >>= fun (x, h1) => ev b env h1 >>= fun (y, h2) =>
    match view h2 (nrm x), view h2 (nrm y) with
    | some u, some v => (match cmpV o u v with
      | some true => ev c env h2 >>= fun (z, h3) => (match view h3 (nrm y), view h3 (nrm z) with
        | some v', some w => (match cmpV p v' w with
          | some k => .ok (.d (.bl k), h3)
          | none => .stuck)
        | _, _ => .stuck)
      | some false => .ok (.d (.bl false), h2)
      | none => .stuck)
    | _, _ => .stuck
  | .and_ a b, env, h => ev a env h >>= fun (x, h1) => match x with
    | .d (.bl true) => ev b env h1
    | .d (.bl false) => .ok (.d (.bl false), h1)
    | _ => .stuck
  | .or_ a b, env, h => ev a env h >>= fun (x, h1) => match x with
    | .d (.bl false) => ev b env h1
    | .d (.bl true) => .ok (.d (.bl true), h1)
    | _ => .stuck
  | .not_ a, env, h => ev a env h >>= fun (x, h1) => match x with
    | .d (.bl b) => .ok (.d (.bl (!b)), h1)
    | _ => .stuck
  | .ite c a b, env, h => tst c env h >>= fun (k, h1) => if k then ev a env h1 else ev b env h1
  | .tup as, env, h => evs as env h >>= fun (xs, h1) => match datasOf xs with
    | some ds => if ds.length ≤ LINE then .ok (.d (.tup ds), h1) else .stuck
    | none => .stuck
  | .lst as, env, h => evs as env h >>= fun (xs, h1) => match datasOf xs with
    | some ds => if ds.length ≤ LINE then .ok (.nw (.lst ds), h1) else .stuck
    | none => .stuck
  | .dic t as, env, h => evs as env h >>= fun (xs, h1) => match datasOf xs with
    | some ds => (match dictOf t ds with
      | some kvs => if kvs.length ≤ 15 then .ok (.nw (.dct t (dmerge [] kvs)), h1) else .stuck
      | none => .stuck)
    | none => .stuck
  | .idx a i, env, h => ev a env h >>= fun (x, h1) => ev i env h1 >>= fun (y, h2) =>
    match view h2 (nrm x), view h2 (nrm y) with
    | some p, some q => (match idxV p q with
      | some v => .ok (.d v, h2)
      | none => .stuck)
    | _, _ => .stuck
  | .sli a lo hi, env, h => ev a env h >>= fun (x, h1) => part lo env h1 >>= fun (l, h2) => part hi env h2 >>= fun (u, h3) =>
    match view h3 (nrm x) with
    | some p => (match sliV p l u with
      | some r => .ok (r, h3)
      | none => .stuck)
    | none => .stuck
  | .rev a, env, h => ev a env h >>= fun (x, h1) => match view h1 (nrm x) with
    | some p => (match revV p with
      | some r => .ok (r, h1)
      | none => .stuck)
    | none => .stuck
  | .call f as, env, h => evs as env h >>= fun (xs, h1) => Φ f xs h1
  | .bi b as, env, h => evs as env h >>= fun (xs, h1) => match views h1 xs with
    | some ds => (match biV b ds with
      | some r => .ok (r, h1)
      | none => .stuck)
    | none => .stuck
  | .mt m o as, env, h => ev o env h >>= fun (x, h1) => if ((view h1 (nrm x)).map (onKind m)) = some true then evs as env h1 >>= fun (ys, h2) =>
    if writes m then
      match nrm x, datasOf ys with
      | .ref n, some ds => (match h2[n]? with
        | some c => (match mtW m c ds with
          | some (v, c') => .ok (.d v, h2.set n c')
          | none => .stuck)
        | none => .stuck)
      | _, _ => .stuck
    else
      match view h2 (nrm x), datasOf ys with
      | some p, some ds => (match mtV m p ds with
        | some r => .ok (r, h2)
        | none => .stuck)
      | _, _ => .stuck
    else .stuck
  | .isi a t, env, h => ev a env h >>= fun (x, h1) => match view h1 (nrm x) with
    | some p => (match isiV t p with
      | some k => .ok (.d (.bl k), h1)
      | none => .stuck)
    | none => .stuck
  | .comp own t it c e, env, h => walk it env h >>= fun (xs, h1) =>
    (mapGo (fun x h => match setTg t x (wipe env own) with
      | some env1 => tst c env1 h >>= fun (k, h2) => if k then ev e env1 h2 >>= fun (y, h3) => (match nrm y with
          | .d v => .ok ([v], h3)
          | _ => .stuck) else .ok ([], h2)
      | none => .stuck) xs h1).calm >>= fun (ys, h2) => if ys.length ≤ LINE then .ok (.nw (.lst ys), h2) else .stuck
  | .comp2 own t it c own2 t2 it2 c2 e, env, h => walk it env h >>= fun (xs, h1) =>
    (mapGo (fun x h => match setTg t x (wipe env own) with
      | some env1 => tst c env1 h >>= fun (k, h2) => if k then
          walk it2 env1 h2 >>= fun (zs, h3) => mapGo (fun z h => match setTg t2 z (wipe env1 own2) with
            | some env2 => tst c2 env2 h >>= fun (k2, h4) => if k2 then ev e env2 h4 >>= fun (y, h5) => (match nrm y with
                | .d v => .ok ([v], h5)
                | _ => .stuck) else .ok ([], h4)
            | none => .stuck) zs h3
        else .ok ([], h2)
      | none => .stuck) xs h1).calm >>= fun (ys, h2) => if ys.length ≤ LINE then .ok (.nw (.lst ys), h2) else .stuck
  | .dcomp own t it c k e, env, h => walk it env h >>= fun (xs, h1) =>
    (mapGo (fun x h => match setTg t x (wipe env own) with
      | some env1 => tst c env1 h >>= fun (g, h2) => if g then ev k env1 h2 >>= fun (u, h3) => ev e env1 h3 >>= fun (y, h4) => (match nrm u, nrm y with
          | .d a, .d v => .ok ([.tup [a, v]], h4)
          | _, _ => .stuck) else .ok ([], h2)
      | none => .stuck) xs h1).calm >>= fun (ys, h2) => match pairsOf ys with
      | some ps => if ps.length ≤ LINE then .ok (.nw (.dct false (dmerge [] ps)), h2) else .stuck
      | none => .stuck
  | _, _, _ => .stuck
/-- the values of arguments, from the left; what is new is held by nobody else then -/
def evs : C → Env → Heap → Out (List RV × Heap)
  | .nil, _, h => .ok ([], h)
  | .cons a r, env, h => ev a env h >>= fun (x, h1) => evs r env h1 >>= fun (xs, h2) => .ok (nrm x :: xs, h2)
  | _, _, _ => .stuck
/-- the answer of a test -/
def tst : C → Env → Heap → Out (Bool × Heap)
  | .tand a b, env, h => tst a env h >>= fun (k, h1) => if k then tst b env h1 else .ok (false, h1)
  | .tor a b, env, h => tst a env h >>= fun (k, h1) => if k then .ok (true, h1) else tst b env h1
  | .tnot a, env, h => tst a env h >>= fun (k, h1) => .ok (!k, h1)
  | .tyes, _, h => .ok (true, h)
  | .te c, env, h => ev c env h >>= fun (x, h1) => match (view h1 (nrm x)).bind truth with
    | some k => .ok (k, h1)
    | none => .stuck
  | _, _, _ => .stuck
/-- a slice's bound -/
def part : C → Env → Heap → Out (Option Int × Heap)
  | .nil, _, h => .ok (none, h)
  | .pv c, env, h => ev c env h >>= fun (x, h1) => match x with
    | .d (.int i) => .ok (some i, h1)
    | _ => .stuck
  | _, _, _ => .stuck
/-- what a loop or a comprehension walks -/
def walk : C → Env → Heap → Out (List D × Heap)
  | .rng1 a, env, h => ev a env h >>= fun (x, h1) => match x with
    | .d (.int i) => if -(LINE : Int) ≤ i ∧ i ≤ LINE then .ok (rangeD 0 i, h1) else .stuck
    | _ => .stuck
  | .rng2 a b, env, h => ev a env h >>= fun (x, h1) => ev b env h1 >>= fun (y, h2) => match x, y with
    | .d (.int i), .d (.int j) => if i ≤ LINE ∧ j ≤ LINE ∧ 0 ≤ i ∧ 0 ≤ j then .ok (rangeD i j, h2) else .stuck
    | _, _ => .stuck
  | .zip2 a b, env, h => ev a env h >>= fun (x, h1) => ev b env h1 >>= fun (y, h2) => match nrm x, nrm y with
    | .d (.lst xs), .d (.lst ys) => .ok (zipD xs ys, h2)
    | .d (.tup xs), .d (.tup ys) => .ok (zipD xs ys, h2)
    | _, _ => .stuck
  | .enu a, env, h => ev a env h >>= fun (x, h1) => match nrm x with
    | .d (.lst xs) => .ok (enuD 0 xs, h1)
    | _ => .stuck
  | .wv c, env, h => ev c env h >>= fun (x, h1) => match nrm x with
    | .d p => (match itemsV p with
      | some xs => .ok (xs, h1)
      | none => .stuck)
    | _ => .stuck
  | _, _, _ => .stuck
end
end
end Mini
/- Mini: statements and the run of a def. Own work. -/
set_option autoImplicit false
namespace Mini

inductive Fl where
  | nx
  | rt (r : RV)
  | bk
  | ct

abbrev SR := Fl × Env × Heap

/-- no other name holds it -/
def alone (n : Nat) (i : Nat) : Nat → Env → Bool
  | _, [] => true
  | k, some (.ref m) :: r => (!(m == n) || k == i) && alone n i (k + 1) r
  | k, _ :: r => alone n i (k + 1) r

/-- a mutable thing of one's own at a name: in the place of the one that it held, or new -/
def asgM (base i : Nat) (c : Cell) (env : Env) (h : Heap) : Env × Heap :=
  match env[i]? with
  | some (some (.ref n)) => if base ≤ n ∧ n < h.length ∧ alone n i 0 env = true then (env, h.set n c) else (env.set i (some (.ref h.length)), h ++ [c])
  | _ => (env.set i (some (.ref h.length)), h ++ [c])

def asgV (base : Nat) (m : Bool) (i : Nat) (r : RV) (env : Env) (h : Heap) : Out (Env × Heap) :=
  match m, r with
  | false, r => (match nrm r with
    | .d v => .ok (env.set i (some (.d v)), h)
    | _ => .stuck)
  | true, .nw c => .ok (asgM base i c env h)
  | _, _ => .stuck

/-- o[i] = v of a mutable thing; whether the index is a written tuple -/
def subV (tk : Bool) (c : Cell) (i v : D) : Option Cell :=
  match c, i with
  | .lst xs, .int k => (place xs.length k).map fun j => .lst (xs.set j v)
  | .dct t kvs, k => if t = tk then (keyFor t k).bind fun a => if kvs.length < LINE then some (.dct t (dput kvs a v)) else none else none
  | _, _ => none
def isTupC : C → Bool
  | .tup _ => true
  | _ => false

def augV (o : Bin) (x y : D) : Out D :=
  match o, x, y with
  | .add, .int i, .int j => .ok (.int (i + j))
  | .sub, .int i, .int j => .ok (.int (i - j))
  | .add, .str x, .str y => if x.length + y.length ≤ LINE then .ok (.str (x ++ y)) else .stuck
  | _, _, _ => .stuck

def forGo (f : D → Env → Heap → Out SR) : List D → Env → Heap → Out SR
  | [], env, h => .ok (.nx, env, h)
  | x :: xs, env, h => f x env h >>= fun (fl, e1, h1) => match fl with
    | .nx => forGo f xs e1 h1
    | .ct => forGo f xs e1 h1
    | .bk => .ok (.nx, e1, h1)
    | .rt r => .ok (.rt r, e1, h1)

def whlGo (t : Env → Heap → Out (Bool × Heap)) (f : Env → Heap → Out SR) : Nat → Env → Heap → Out SR
  | 0, _, _ => .stuck
  | n + 1, env, h => t env h >>= fun (k, h0) => if k then f env h0 >>= fun (fl, e1, h1) => (match fl with
      | .nx => whlGo t f n e1 h1
      | .ct => whlGo t f n e1 h1
      | .bk => .ok (.nx, e1, h1)
      | .rt r => .ok (.rt r, e1, h1))
    else .ok (.nx, env, h0)

/-- how many turns a while may take -/
def TURNS : Nat := 100000

section
variable (Φ : Calls)

/-- o[i] = v -/
def doSub (o i : C) (v : D) (env : Env) (h : Heap) : Out Heap :=
  ev Φ o env h >>= fun (x, h1) => ev Φ i env h1 >>= fun (y, h2) => match x, nrm y with
    | .ref n, .d k => (match h2[n]? with
      | some c => (match subV (isTupC i) c k v with
        | some c' => .ok (h2.set n c')
        | none => .stuck)
      | none => .stuck)
    | _, _ => .stuck

def isNm : L → Bool
  | .nm _ _ => true
  | _ => false

def isMut : L → Bool
  | .nm m _ => m
  | _ => false

/-- several targets at once, from the left -/
def doPar : List L → List RV → Env → Heap → Out (Env × Heap)
  | [], [], env, h => .ok (env, h)
  | .nm true i :: ls, .ref n :: rs, env, h => doPar ls rs (env.set i (some (.ref n))) h
  | .nm false i :: ls, .d v :: rs, env, h => doPar ls rs (env.set i (some (.d v))) h
  | .sb o i :: ls, .d v :: rs, env, h => doSub Φ o i v env h >>= fun h1 => doPar ls rs env h1
  | _, _, _, _ => .stuck

/-- the values at the right of several targets: what is new and will be changed is laid at once -/
def evw : List L → C → Env → Heap → Out (List RV × Heap)
  | [], .nil, _, h => .ok ([], h)
  | l :: ls, .cons a r, env, h => ev Φ a env h >>= fun (x, h1) => (match isMut l, x with
    | true, .nw c => evw ls r env (h1 ++ [c]) >>= fun (xs, h2) => .ok (.ref h1.length :: xs, h2)
    | false, x => evw ls r env h1 >>= fun (xs, h2) => .ok (nrm x :: xs, h2)
    | _, _ => .stuck)
  | _, _, _, _ => .stuck

def exS (base : Nat) : S → Env → Heap → Out SR
  | .skip, env, h => .ok (.nx, env, h)
  | .seq a b, env, h => exS base a env h >>= fun (fl, e1, h1) => match fl with
    | .nx => exS base b e1 h1
    | f => .ok (f, e1, h1)
  | .asg m (.nm i) e, env, h => ev Φ e env h >>= fun (x, h1) => asgV base m i x env h1 >>= fun (e2, h2) => .ok (.nx, e2, h2)
  | .asg _ t e, env, h => ev Φ e env h >>= fun (x, h1) => (match nrm x with
    | .d v => (match setTg t v env with
      | some e2 => .ok (.nx, e2, h1)
      | none => .stuck)
    | _ => .stuck)
  | .par ls as, env, h => evw Φ ls as env h >>= fun (xs, h1) => doPar Φ ls xs env h1 >>= fun (e2, h2) => .ok (.nx, e2, h2)
  | .sub o i e, env, h => ev Φ e env h >>= fun (z, h0) => (match nrm z with
    | .d v => doSub Φ o i v env h0 >>= fun h1 => .ok (.nx, env, h1)
    | _ => .stuck)
  | .aug i o e, env, h => (match env[i]? with
    | some (some (.d x)) => ev Φ e env h >>= fun (z, h1) => (match view h1 (nrm z) with
      | some y => augV o x y >>= fun v => .ok (.nx, env.set i (some (.d v)), h1)
      | none => .stuck)
    | some (some (.ref n)) => ev Φ e env h >>= fun (z, h1) => (match o, z, h1[n]? with
      | .add, .nw (.lst ys), some (.lst xs) => if xs.length + ys.length ≤ LINE then .ok (.nx, env, h1.set n (.lst (xs ++ ys))) else .stuck
      | _, _, _ => .stuck)
    | _ => .stuck)
  | .exp e, env, h => ev Φ e env h >>= fun (_, h1) => .ok (.nx, env, h1)
  | .ret e, env, h => ev Φ e env h >>= fun (x, h1) => .ok (.rt x, env, h1)
  | .retn, env, h => .ok (.rt (.d .non), env, h)
  | .ite c a b, env, h => tst Φ c env h >>= fun (k, h1) => if k then exS base a env h1 else exS base b env h1
  | .whl c b, env, h => whlGo (tst Φ c) (exS base b) TURNS env h
  | .for_ t it b, env, h => walk Φ it env h >>= fun (xs, h1) => forGo (fun x env h => match setTg t x env with
      | some e1 => exS base b e1 h
      | none => .stuck) xs env h1
  | .brk, env, h => .ok (.bk, env, h)
  | .cnt, env, h => .ok (.ct, env, h)
  | .rse c, _, h => .exc ⟨c, []⟩ h
end

structure Def where
  ar : Nat
  ns : Nat
  body : S

def startE (ns : Nat) (xs : List RV) : Env := xs.map some ++ List.replicate (ns - xs.length) none

/-- what is handed back, the def's own things gone -/
def exitF (n : Nat) (r : Out SR) : Out (RV × Heap) :=
  match r with
  | .ok (.rt (.d v), _, h) => .ok (.d v, h.take n)
  | .ok (.rt (.nw c), _, h) => .ok (.nw c, h.take n)
  | .ok (.nx, _, h) => .ok (.d .non, h.take n)
  | .exc e h => .exc e (h.take n)
  | _ => .stuck

def run (defs : Nat → Option Def) : Nat → Calls
  | 0 => fun _ _ _ => .stuck
  | d + 1 => fun f xs h => match defs f with
    | some g => if xs.length = g.ar then exitF h.length (exS (run defs d) h.length g.body (startE g.ns xs) h) else .stuck
    | none => .stuck
end Mini
set_option Elab.async false
set_option linter.all false
set_option maxRecDepth 100000
set_option maxHeartbeats 4000000
/- Mini: what stands for what in the layer's abstract heap. Own work. -/
namespace Mini
open PySem PySem.Spec PyProof.Rows L2

abbrev KF := PySem.W.Frag × World
abbrev kf (X : Cx) : KF := (X.K, X.w)
def toS (x : List Nat) : PySem.Str := ⟨x.toArray⟩

/-- a key, flat -/
def fkR : Sum Int (List Nat) → Key → Prop
  | .inl n, k => k = .inl n
  | .inr x, k => k = .inr (toS x) ∧ okS x = true
def fkRs : List (Sum Int (List Nat)) → List Key → Prop
  | [], [] => True
  | x :: xs, k :: ks => fkR x k ∧ fkRs xs ks
  | _, _ => False
def kyR : Ky → Key → Prop
  | .i n, k => k = .inl n
  | .s x, k => k = .inr (toS x) ∧ okS x = true
  | .t _, _ => False
def kyT : Ky → List Key → Prop
  | .t xs, ks => fkRs xs ks ∧ xs.length ≤ LINE
  | _, _ => False

/-- a dict that is read: tracked, or an object of the module -/
def SqD (K : KF) (H : Hp) (a : Addr) (kvs : List (Key × V)) : Prop :=
  Rd H a (.dK kvs) ∨ ∃ (es : Array DictEntry) (n : Nat), K.1.lookup a = some ⟨.type "dict", none, .dict es n, #[]⟩ ∧ (a == sysModules) = false ∧
    kvs.length ≤ sizeLine ∧ (kvs.map (·.1)).Nodup ∧ Paired (fun (p : Key × V) (e : DictEntry) => keyIs p.1 e.key = true ∧ RelV p.2 e.val ∧ e.hash = keyH K.2 p.1) kvs es.toList

/-- a tuple as it was made: no dict of its own; or one of the module -/
def SqP (K : KF) (H : Hp) (a : Addr) (xs : List V) : Prop :=
  (∃ o : Obj, H a = some (.frz o (.tup xs)) ∧ o.dict = none) ∨
    ∃ (o : Obj) (its : Array Value) (n : Nat), K.1.lookup a = some o ∧ (o.cls = .type "tuple" ∧ o.dict = none) ∧ o.data = .seq its n ∧ its.size ≤ sizeLine ∧ Vals xs its.toList
theorem SqP.sqT {K : KF} {H : Hp} {a : Addr} {xs : List V} (h : SqP K H a xs) : SqT K.1 H a xs := by
  rcases h with ⟨o, h, _⟩ | ⟨o, its, n, h1, ⟨h2, _⟩, h3⟩
  · exact .inl (.inr ⟨o, h⟩)
  · exact .inr ⟨o, its, n, h1, h2, h3⟩

mutual
/-- data, at the abstract heap -/
def Rep (K : KF) (H : Hp) : D → V → Prop
  | .non, v => v = .non
  | .bl b, v => v = .bl b
  | .int i, v => v = .int i
  | .str x, v => v = .str (toS x) ∧ okS x = true
  | .tup xs, v => ∃ a vs, v = .ref a ∧ SqP K H a vs ∧ xs.length ≤ LINE ∧ RepL K H xs vs
  | .lst xs, v => ∃ a vs, v = .ref a ∧ SqL K.1 H a vs ∧ xs.length ≤ LINE ∧ RepL K H xs vs
  | .dct false kvs, v => ∃ a ws, v = .ref a ∧ SqD K H a ws ∧ RepK K H kvs ws
  | .dct true kvs, v => ∃ a ws, v = .ref a ∧ Rd H a (.dT ws) ∧ RepT K H kvs ws
def RepL (K : KF) (H : Hp) : List D → List V → Prop
  | [], vs => vs = []
  | x :: xs, vs => ∃ v r, vs = v :: r ∧ Rep K H x v ∧ RepL K H xs r
def RepK (K : KF) (H : Hp) : List (Ky × D) → List (Key × V) → Prop
  | [], ws => ws = []
  | (k, x) :: r, ws => ∃ a v t, ws = (a, v) :: t ∧ kyR k a ∧ Rep K H x v ∧ RepK K H r t
def RepT (K : KF) (H : Hp) : List (Ky × D) → List (List Key × V) → Prop
  | [], ws => ws = []
  | (k, x) :: r, ws => ∃ a v t, ws = (a, v) :: t ∧ kyT k a ∧ Rep K H x v ∧ RepT K H r t
end

section
variable {K : KF} {H H' : Hp}
theorem Same.rd (e : Same H H') {a : Addr} {u : HO} (h : Rd H a u) : Rd H' a u := by
  rcases h with h | ⟨o, h⟩
  · exact .inl (e _ _ h)
  · exact .inr ⟨o, e _ _ h⟩
theorem Same.sqT (e : Same H H') {a : Addr} {xs : List V} (h : SqT K.1 H a xs) : SqT K.1 H' a xs := by
  rcases h with h | h
  · exact .inl (Same.rd e h)
  · exact .inr h
theorem Same.sqP (e : Same H H') {a : Addr} {xs : List V} (h : SqP K H a xs) : SqP K H' a xs := by
  rcases h with ⟨o, h, d⟩ | h
  · exact .inl ⟨o, e _ _ h, d⟩
  · exact .inr h
theorem SqP.at (e : Same H H') {a : Addr} {xs : List V} (h : SqP K H a xs) : SqT K.1 H' a xs := Same.sqT e h.sqT
theorem Same.sqL (e : Same H H') {a : Addr} {xs : List V} (h : SqL K.1 H a xs) : SqL K.1 H' a xs := e.seq h
theorem Same.sqD (e : Same H H') {a : Addr} {xs : List (Key × V)} (h : SqD K H a xs) : SqD K H' a xs := by
  rcases h with h | h
  · exact .inl (Same.rd e h)
  · exact .inr h
theorem same_new {H : Hp} {p : Addr} (h : H p = none) (o : HO) : Same H (upd H p o) := fun b u q => by rw [upd_ne (ne_of_none q h)]; exact q
mutual
theorem Rep.mono (e : Same H H') : ∀ {x : D} {v : V}, Rep K H x v → Rep K H' x v
  | .non, _, h => by simpa only [Rep] using h
  | .bl _, _, h => by simpa only [Rep] using h
  | .int _, _, h => by simpa only [Rep] using h
  | .str _, _, h => by simpa only [Rep] using h
  | .tup xs, v, h => by
    simp only [Rep] at h ⊢
    obtain ⟨a, vs, e1, hs, hl, hr⟩ := h
    exact ⟨a, vs, e1, Same.sqP e hs, hl, RepL.mono e hr⟩
  | .lst xs, v, h => by
    simp only [Rep] at h ⊢
    obtain ⟨a, vs, e1, hs, hl, hr⟩ := h
    exact ⟨a, vs, e1, Same.sqL e hs, hl, RepL.mono e hr⟩
  | .dct false kvs, v, h => by
    simp only [Rep] at h ⊢
    obtain ⟨a, ws, e1, hs, hr⟩ := h
    exact ⟨a, ws, e1, Same.sqD e hs, RepK.mono e hr⟩
  | .dct true kvs, v, h => by
    simp only [Rep] at h ⊢
    obtain ⟨a, ws, e1, hs, hr⟩ := h
    exact ⟨a, ws, e1, Same.rd e hs, RepT.mono e hr⟩
theorem RepL.mono (e : Same H H') : ∀ {xs : List D} {vs : List V}, RepL K H xs vs → RepL K H' xs vs
  | [], _, h => by simpa only [RepL] using h
  | x :: xs, vs, h => by
    simp only [RepL] at h ⊢
    obtain ⟨v, r, e1, h1, h2⟩ := h
    exact ⟨v, r, e1, Rep.mono e h1, RepL.mono e h2⟩
theorem RepK.mono (e : Same H H') : ∀ {xs : List (Ky × D)} {vs : List (Key × V)}, RepK K H xs vs → RepK K H' xs vs
  | [], _, h => by simpa only [RepK] using h
  | (k, x) :: xs, vs, h => by
    simp only [RepK] at h ⊢
    obtain ⟨a, v, r, e1, hk, h1, h2⟩ := h
    exact ⟨a, v, r, e1, hk, Rep.mono e h1, RepK.mono e h2⟩
theorem RepT.mono (e : Same H H') : ∀ {xs : List (Ky × D)} {vs : List (List Key × V)}, RepT K H xs vs → RepT K H' xs vs
  | [], _, h => by simpa only [RepT] using h
  | (k, x) :: xs, vs, h => by
    simp only [RepT] at h ⊢
    obtain ⟨a, v, r, e1, hk, h1, h2⟩ := h
    exact ⟨a, v, r, e1, hk, Rep.mono e h1, RepT.mono e h2⟩
end

theorem RepL.nil : RepL K H [] [] := by simp only [RepL]
theorem RepL.cons {x : D} {v : V} {xs : List D} {vs : List V} (h : Rep K H x v) (t : RepL K H xs vs) : RepL K H (x :: xs) (v :: vs) := by
  simp only [RepL]; exact ⟨v, vs, rfl, h, t⟩
theorem RepL.nil_inv {vs : List V} (h : RepL K H [] vs) : vs = [] := by simpa only [RepL] using h
theorem RepL.cons_inv {x : D} {xs : List D} {vs : List V} (h : RepL K H (x :: xs) vs) : ∃ v r, vs = v :: r ∧ Rep K H x v ∧ RepL K H xs r := by simpa only [RepL] using h
theorem RepL.length : ∀ {xs : List D} {vs : List V}, RepL K H xs vs → vs.length = xs.length
  | [], _, h => by rw [h.nil_inv]; rfl
  | x :: xs, vs, h => by
    obtain ⟨v, r, e, _, t⟩ := h.cons_inv
    subst e
    simp [RepL.length t]
theorem RepL.get : ∀ {xs : List D} {vs : List V} {i : Nat} {x : D}, RepL K H xs vs → xs[i]? = some x → ∃ v, vs[i]? = some v ∧ Rep K H x v
  | [], _, _, _, _, e => by simp at e
  | y :: xs, vs, i, x, h, e => by
    obtain ⟨v, r, e1, hx, t⟩ := h.cons_inv
    subst e1
    cases i with
    | zero => simp at e; subst e; exact ⟨v, by simp, hx⟩
    | succ i =>
      obtain ⟨u, h1, h2⟩ := RepL.get t (i := i) (x := x) (by simpa using e)
      exact ⟨u, by simpa using h1, h2⟩
theorem RepL.get' : ∀ {xs : List D} {vs : List V} {i : Nat} {v : V}, RepL K H xs vs → vs[i]? = some v → ∃ x, xs[i]? = some x ∧ Rep K H x v := by
  intro xs vs i v h e
  have hl := h.length
  have hi : i < xs.length := by
    rcases Nat.lt_or_ge i xs.length with q | q
    · exact q
    · rw [List.getElem?_eq_none (by omega)] at e; cases e
  obtain ⟨u, h1, h2⟩ := h.get (List.getElem?_eq_getElem hi)
  rw [e] at h1; cases h1
  exact ⟨_, List.getElem?_eq_getElem hi, h2⟩
theorem RepL.append : ∀ {xs ys : List D} {vs us : List V}, RepL K H xs vs → RepL K H ys us → RepL K H (xs ++ ys) (vs ++ us)
  | [], ys, vs, us, h, g => by rw [h.nil_inv]; exact g
  | x :: xs, ys, vs, us, h, g => by
    obtain ⟨v, r, e, hx, t⟩ := h.cons_inv
    subst e
    exact .cons hx (RepL.append t g)
theorem RepL.take : ∀ {xs : List D} {vs : List V} (n : Nat), RepL K H xs vs → RepL K H (xs.take n) (vs.take n)
  | _, _, 0, _ => by simpa using RepL.nil
  | [], vs, n + 1, h => by rw [h.nil_inv]; simpa using RepL.nil
  | x :: xs, vs, n + 1, h => by
    obtain ⟨v, r, e, hx, t⟩ := h.cons_inv
    subst e
    exact .cons hx (RepL.take n t)
theorem RepL.drop : ∀ {xs : List D} {vs : List V} (n : Nat), RepL K H xs vs → RepL K H (xs.drop n) (vs.drop n)
  | xs, vs, 0, h => h
  | [], vs, n + 1, h => by rw [h.nil_inv]; simpa using RepL.nil
  | x :: xs, vs, n + 1, h => by
    obtain ⟨v, r, e, hx, t⟩ := h.cons_inv
    subst e
    exact RepL.drop n t
theorem RepL.set : ∀ {xs : List D} {vs : List V} (n : Nat) {x : D} {v : V}, RepL K H xs vs → Rep K H x v → RepL K H (xs.set n x) (vs.set n v)
  | [], vs, n, _, _, h, _ => by rw [h.nil_inv]; simpa using RepL.nil
  | y :: xs, vs, 0, _, _, h, g => by
    obtain ⟨u, r, e, hx, t⟩ := h.cons_inv
    subst e
    exact .cons g t
  | y :: xs, vs, n + 1, _, _, h, g => by
    obtain ⟨u, r, e, hx, t⟩ := h.cons_inv
    subst e
    exact .cons hx (RepL.set n t g)
theorem RepL.reverse : ∀ {xs : List D} {vs : List V}, RepL K H xs vs → RepL K H xs.reverse vs.reverse
  | [], vs, h => by rw [h.nil_inv]; exact .nil
  | x :: xs, vs, h => by
    obtain ⟨v, r, e, hx, t⟩ := h.cons_inv
    subst e
    rw [List.reverse_cons, List.reverse_cons]
    exact RepL.append (RepL.reverse t) (.cons hx .nil)
theorem RepL.dropLast {xs : List D} {vs : List V} (h : RepL K H xs vs) : RepL K H xs.dropLast vs.dropLast := by
  rw [List.dropLast_eq_take, List.dropLast_eq_take, h.length]
  exact h.take _
end

/-! ### the state -/
def CellR (K : KF) (fz : Hp) : Cell → HO → Prop
  | .lst xs, o => ∃ vs, o = .lst vs ∧ xs.length ≤ LINE ∧ RepL K fz xs vs
  | .dct false kvs, o => ∃ ws, o = .dK ws ∧ kvs.length ≤ LINE ∧ RepK K fz kvs ws
  | .dct true kvs, o => ∃ ws, o = .dT ws ∧ kvs.length ≤ LINE ∧ RepT K fz kvs ws
  | .gone, _ => False
theorem CellR.mono {K : KF} {fz fz' : Hp} (e : Same fz fz') {c : Cell} {o : HO} (h : CellR K fz c o) : CellR K fz' c o := by
  cases c with
  | lst xs => obtain ⟨vs, e1, hl, r⟩ := h; exact ⟨vs, e1, hl, r.mono e⟩
  | dct t kvs =>
    cases t with
    | false => obtain ⟨ws, e1, hl, r⟩ := h; exact ⟨ws, e1, hl, r.mono e⟩
    | true => obtain ⟨ws, e1, hl, r⟩ := h; exact ⟨ws, e1, hl, r.mono e⟩
  | gone => exact h.elim

/-- a mutable thing of the heap that is not gone -/
def Live (h : Heap) (n : Nat) : Prop := ∃ c, h[n]? = some c ∧ c ≠ .gone

structure StH (K : KF) (fz fr : Hp) (rho : List Addr) (h : Heap) (H : Hp) : Prop where
  sub : Same fz H
  subF : Same fr H
  dis : ∀ (a : Addr) (o : HO), fr a = some o → fz a = none
  len : rho.length = h.length
  cells : ∀ (n : Nat) (c : Cell), h[n]? = some c → c ≠ .gone → ∃ a o, rho[n]? = some a ∧ H a = some o ∧ (fz a = none ∧ fr a = none) ∧ CellR K fz c o
  inj : ∀ (n m : Nat) (a : Addr), Live h n → Live h m → rho[n]? = some a → rho[m]? = some a → n = m

def RepR (K : KF) (fz : Hp) (rho : List Addr) : RV → V → Prop
  | .d x, v => Rep K fz x v
  | .ref n, v => ∃ a, rho[n]? = some a ∧ v = .ref a
  | .nw _, _ => False
def RepRs (K : KF) (fz : Hp) (rho : List Addr) : List RV → List V → Prop
  | [], vs => vs = []
  | r :: rs, vs => ∃ v t, vs = v :: t ∧ RepR K fz rho r v ∧ RepRs K fz rho rs t

/-- what an expression hands back -/
def ResR (K : KF) (fz fr : Hp) (rho : List Addr) (h : Heap) (H : Hp) : RV → V → Prop
  | .nw c, v => ∃ p o, v = .ref p ∧ H p = some o ∧ (fz p = none ∧ fr p = none) ∧ CellR K fz c o ∧ ∀ n : Nat, Live h n → rho[n]? ≠ some p
  | r, v => RepR K fz rho r v

def EnvR (K : KF) (fz : Hp) (rho : List Addr) (env : Env) (σ : L2.St) : Prop :=
  env.length = σ.length ∧ ∀ (i : Nat) (r : RV), env[i]? = some (some r) → ∃ v, σ[i]? = some (some v) ∧ RepR K fz rho r v

section
variable {K : KF} {fz fz' fr : Hp} {rho : List Addr} {h : Heap} {H : Hp}
theorem RepR.mono (e : Same fz fz') {r : RV} {v : V} (q : RepR K fz rho r v) : RepR K fz' rho r v := by
  cases r with
  | d x => exact Rep.mono e (show Rep K fz x v from q)
  | ref n => exact q
  | nw c => exact q.elim
theorem RepRs.mono (e : Same fz fz') : ∀ {rs : List RV} {vs : List V}, RepRs K fz rho rs vs → RepRs K fz' rho rs vs
  | [], _, q => q
  | r :: rs, vs, q => by
    obtain ⟨v, t, e1, h1, h2⟩ := q
    exact ⟨v, t, e1, h1.mono e, RepRs.mono e h2⟩
theorem RepRs.length : ∀ {rs : List RV} {vs : List V}, RepRs K fz rho rs vs → vs.length = rs.length
  | [], vs, q => by have e : vs = [] := q; rw [e]; rfl
  | r :: rs, vs, q => by
    obtain ⟨v, t, e1, h1, h2⟩ := q
    subst e1
    simp [RepRs.length h2]
theorem EnvR.mono {env : Env} {σ : L2.St} (e : Same fz fz') (q : EnvR K fz rho env σ) : EnvR K fz' rho env σ := ⟨q.1, fun i r hi => by
  obtain ⟨v, h1, h2⟩ := q.2 i r hi
  exact ⟨v, h1, h2.mono e⟩⟩
theorem EnvR.set {env : Env} {σ : L2.St} {i : Nat} {r : RV} {v : V} (q : EnvR K fz rho env σ) (hr : RepR K fz rho r v) : EnvR K fz rho (env.set i (some r)) (σ.set i (some v)) := ⟨by rw [List.length_set, List.length_set, q.1], fun j s hj => by
  by_cases e : i = j
  · subst e
    by_cases hi : i < env.length
    · rw [List.getElem?_set_self hi] at hj
      cases hj
      exact ⟨v, by rw [List.getElem?_set_self (by rw [← q.1]; exact hi)], hr⟩
    · rw [List.getElem?_eq_none (by simpa using hi)] at hj
      cases hj
  · rw [List.getElem?_set_ne e] at hj
    obtain ⟨u, h1, h2⟩ := q.2 j s hj
    exact ⟨u, by rw [List.getElem?_set_ne e]; exact h1, h2⟩⟩
theorem EnvR.unset {env : Env} {σ : L2.St} (i : Nat) (q : EnvR K fz rho env σ) : EnvR K fz rho (env.set i none) (σ.set i none) := ⟨by rw [List.length_set, List.length_set, q.1], fun j s hj => by
  by_cases e : i = j
  · subst e
    by_cases hi : i < env.length
    · rw [List.getElem?_set_self hi] at hj
      cases hj
    · rw [List.getElem?_eq_none (by simpa using hi)] at hj
      cases hj
  · rw [List.getElem?_set_ne e] at hj
    obtain ⟨u, h1, h2⟩ := q.2 j s hj
    exact ⟨u, by rw [List.getElem?_set_ne e]; exact h1, h2⟩⟩
theorem EnvR.wipe {env : Env} {σ : L2.St} (q : EnvR K fz rho env σ) : ∀ vs : List Nat, EnvR K fz rho (Mini.wipe env vs) (L2.wipe σ vs)
  | [] => q
  | v :: vs => (EnvR.wipe q vs).unset v
theorem StH.live_at (st : StH K fz fr rho h H) {n : Nat} (l : Live h n) : ∃ a o, rho[n]? = some a ∧ H a = some o ∧ (fz a = none ∧ fr a = none) := by
  obtain ⟨c, h1, h2⟩ := l
  obtain ⟨a, o, e1, e2, e3, _⟩ := st.cells n c h1 h2
  exact ⟨a, o, e1, e2, e3⟩
/-- a new thing is laid in the abstract heap -/
theorem StH.new (st : StH K fz fr rho h H) {p : Addr} {o : HO} (hp : H p = none) : StH K fz fr rho h (upd H p o) where
  sub := fun b u q => by rw [upd_ne (ne_of_none (st.sub b u q) hp)]; exact st.sub b u q
  subF := fun b u q => by rw [upd_ne (ne_of_none (st.subF b u q) hp)]; exact st.subF b u q
  dis := st.dis
  len := st.len
  cells := fun n c h1 h2 => by
    obtain ⟨a, u, e1, e2, e3, e4⟩ := st.cells n c h1 h2
    exact ⟨a, u, e1, by rw [upd_ne (ne_of_none e2 hp)]; exact e2, e3, e4⟩
  inj := st.inj
theorem StH.fz_none (st : StH K fz fr rho h H) {p : Addr} (hp : H p = none) : fz p = none := st.sub.free hp
theorem StH.fr_none (st : StH K fz fr rho h H) {p : Addr} (hp : H p = none) : fr p = none := st.subF.free hp
theorem StH.both (st : StH K fz fr rho h H) {p : Addr} (hp : H p = none) : fz p = none ∧ fr p = none := ⟨st.fz_none hp, st.fr_none hp⟩
theorem StH.rho_ne (st : StH K fz fr rho h H) {p : Addr} (hp : H p = none) : ∀ n : Nat, Live h n → rho[n]? ≠ some p := fun n l q => by
  obtain ⟨a, o, e1, e2, _⟩ := st.live_at l
  rw [e1] at q
  cases q
  rw [hp] at e2
  cases e2
/-- a thing that nobody changes any more -/
theorem StH.freeze (st : StH K fz fr rho h H) {p : Addr} {o : HO} (hp : H p = some o) (hf : fz p = none ∧ fr p = none) (hr : ∀ n : Nat, Live h n → rho[n]? ≠ some p) : Same fz (upd fz p o) ∧ StH K (upd fz p o) fr rho h H := by
  have s1 : Same fz (upd fz p o) := same_new hf.1 o
  refine ⟨s1, ⟨fun b u q => ?_, st.subF, fun b u q => ?_, st.len, fun n c h1 h2 => ?_, st.inj⟩⟩
  · by_cases e : b = p
    · subst e
      rw [upd_same] at q
      cases q
      exact hp
    · rw [upd_ne e] at q
      exact st.sub b u q
  · rw [upd_ne fun z => by rw [z, hf.2] at q; cases q]
    exact st.dis b u q
  · obtain ⟨a, u, e1, e2, e3, e4⟩ := st.cells n c h1 h2
    refine ⟨a, u, e1, e2, ⟨?_, e3.2⟩, e4.mono s1⟩
    rw [upd_ne fun z => hr n ⟨c, h1, h2⟩ (by rw [e1, z])]
    exact e3.1
theorem rd_upd {fz : Hp} {p : Addr} {o : HO} : Rd (upd fz p o) p o := .inl upd_same
/-- what is new is data, once nobody changes it -/
theorem cell_rep {c : Cell} {o : HO} {p : Addr} {x : D} (hc : CellR K fz c o) (hf : fz p = none) (e : c.D = some x) : Rep K (upd fz p o) x (.ref p) := by
  have s1 : Same fz (upd fz p o) := same_new hf o
  cases c with
  | lst xs =>
    cases e
    obtain ⟨vs, rfl, hl, hr⟩ := hc
    simp only [Rep]
    exact ⟨p, vs, rfl, .inl rd_upd, hl, hr.mono s1⟩
  | dct t kvs =>
    cases e
    cases t with
    | false =>
      obtain ⟨ws, rfl, hl, hr⟩ := hc
      simp only [Rep]
      exact ⟨p, ws, rfl, .inl rd_upd, hr.mono s1⟩
    | true =>
      obtain ⟨ws, rfl, hl, hr⟩ := hc
      simp only [Rep]
      exact ⟨p, ws, rfl, rd_upd, hr.mono s1⟩
  | gone => exact hc.elim
theorem cellD_of {c : Cell} {o : HO} (hc : CellR K fz c o) : ∃ x, c.D = some x := by
  cases c with
  | lst xs => exact ⟨_, rfl⟩
  | dct t kvs => exact ⟨_, rfl⟩
  | gone => exact hc.elim
/-- what is handed back, held by nobody else -/
theorem nrm_ok (st : StH K fz fr rho h H) {r : RV} {v : V} (q : ResR K fz fr rho h H r v) : ∃ fz', Same fz fz' ∧ StH K fz' fr rho h H ∧ RepR K fz' rho (nrm r) v := by
  cases r with
  | d x => exact ⟨fz, Same.refl _, st, q⟩
  | ref n => exact ⟨fz, Same.refl _, st, q⟩
  | nw c =>
    obtain ⟨p, o, rfl, hp, hf, hc, hr⟩ := q
    obtain ⟨x, e⟩ := cellD_of hc
    obtain ⟨s1, st1⟩ := st.freeze hp hf hr
    refine ⟨_, s1, st1, ?_⟩
    simp only [nrm, e]
    exact cell_rep hc hf.1 e

/-- what can be read at the abstract heap, its parts as they stay -/
def Top (K : KF) (fz H : Hp) : D → V → Prop
  | .lst xs, v => ∃ a vs, v = .ref a ∧ SqL K.1 H a vs ∧ xs.length ≤ LINE ∧ RepL K fz xs vs
  | .dct false kvs, v => ∃ a ws, v = .ref a ∧ SqD K H a ws ∧ RepK K fz kvs ws
  | .dct true kvs, v => ∃ a ws, v = .ref a ∧ Rd H a (.dT ws) ∧ RepT K fz kvs ws
  | x, v => Rep K fz x v
theorem Rep.top (e : Same fz H) {x : D} {v : V} (q : Rep K fz x v) : Top K fz H x v := by
  cases x with
  | tup xs => exact q
  | lst xs =>
    simp only [Rep] at q
    obtain ⟨a, vs, e1, hs, hl, hr⟩ := q
    exact ⟨a, vs, e1, Same.sqL e hs, hl, hr⟩
  | dct t kvs =>
    cases t with
    | false =>
      simp only [Rep] at q
      obtain ⟨a, ws, e1, hs, hr⟩ := q
      exact ⟨a, ws, e1, Same.sqD e hs, hr⟩
    | true =>
      simp only [Rep] at q
      obtain ⟨a, ws, e1, hs, hr⟩ := q
      exact ⟨a, ws, e1, Same.rd e hs, hr⟩
  | non => exact q
  | bl b => exact q
  | int i => exact q
  | str s => exact q
theorem Top.rep (e : Same fz H) {x : D} {v : V} (q : Top K fz H x v) : Rep K H x v := by
  cases x with
  | tup xs => exact Rep.mono e (show Rep K fz (.tup xs) v from q)
  | lst xs =>
    obtain ⟨a, vs, e1, hs, hl, hr⟩ := q
    simp only [Rep]
    exact ⟨a, vs, e1, hs, hl, hr.mono e⟩
  | dct t kvs =>
    cases t with
    | false =>
      obtain ⟨a, ws, e1, hs, hr⟩ := q
      simp only [Rep]
      exact ⟨a, ws, e1, hs, hr.mono e⟩
    | true =>
      obtain ⟨a, ws, e1, hs, hr⟩ := q
      simp only [Rep]
      exact ⟨a, ws, e1, hs, hr.mono e⟩
  | non => exact Rep.mono e (show Rep K fz .non v from q)
  | bl b => exact Rep.mono e (show Rep K fz (.bl b) v from q)
  | int i => exact Rep.mono e (show Rep K fz (.int i) v from q)
  | str s => exact Rep.mono e (show Rep K fz (.str s) v from q)
theorem view_top (st : StH K fz fr rho h H) {r : RV} {v : V} {x : D} (q : RepR K fz rho r v) (e : view h r = some x) : Top K fz H x v := by
  cases r with
  | d y =>
    cases e
    exact Rep.top st.sub q
  | ref n =>
    obtain ⟨a, ha, rfl⟩ := q
    simp only [view] at e
    cases hn : h[n]? with
    | none => rw [hn] at e; cases e
    | some c =>
      rw [hn] at e
      have ng : c ≠ .gone := by rintro rfl; cases e
      obtain ⟨a', o, e1, e2, e3, e4⟩ := st.cells n c hn ng
      rw [ha] at e1
      cases e1
      cases c with
      | lst xs =>
        cases e
        obtain ⟨vs, rfl, hl, hr⟩ := e4
        exact ⟨a, vs, rfl, .inl (.inl e2), hl, hr⟩
      | dct t kvs =>
        cases e
        cases t with
        | false =>
          obtain ⟨ws, rfl, hl, hr⟩ := e4
          exact ⟨a, ws, rfl, .inl (.inl e2), hr⟩
        | true =>
          obtain ⟨ws, rfl, hl, hr⟩ := e4
          exact ⟨a, ws, rfl, .inl e2, hr⟩
      | gone => exact absurd rfl ng
  | nw c => exact q.elim
end
end Mini
set_option Elab.async false
set_option linter.all false
set_option maxRecDepth 100000
set_option maxHeartbeats 4000000
/- Mini: readings of expressions by the interpreter; two operands. Own work. -/
namespace Mini
open PySem PySem.Spec PyProof.Rows L2

/-- what holds of an outcome -/
def OkO {α : Type} (o : Out α) (A : α → Prop) (B : Ex → Heap → Prop) : Prop :=
  match o with
  | .ok a => A a
  | .exc e h => B e h
  | .stuck => False
section
variable {α β : Type} {o : Out α} {A A' : α → Prop} {B B' : Ex → Heap → Prop}
theorem OkO.mono (q : OkO o A B) (ha : ∀ a, A a → A' a) (hb : ∀ e h, B e h → B' e h) : OkO o A' B' := by
  cases o with
  | ok a => exact ha a q
  | exc e h => exact hb e h q
  | stuck => exact q
theorem OkO.bind {f : α → Out β} {A : β → Prop} (q : OkO (o >>= f) A B) : OkO o (fun a => OkO (f a) A B) B := by
  cases o with
  | ok a => exact q
  | exc e h => exact q
  | stuck => exact q
theorem OkO.bind' {f : α → Out β} {A : β → Prop} (q : OkO o (fun a => OkO (f a) A B) B) : OkO (o >>= f) A B := by
  cases o with
  | ok a => exact q
  | exc e h => exact q
  | stuck => exact q
theorem OkO.calm (q : OkO o.calm A B) : OkO o A (fun _ _ => False) := by
  cases o with
  | ok a => exact q
  | exc e h => exact (show False from q).elim
  | stuck => exact q
theorem okO_some {x : Option α} {A : α → Prop} (q : OkO (match x with
    | some a => Out.ok a
    | none => Out.stuck) A B) : ∃ a, x = some a ∧ A a := by
  cases x with
  | none => exact (show False from q).elim
  | some a => exact ⟨a, rfl, q⟩
end

/-- an error by its class and fields -/
def ExR (K : KF) (ca : Nat → Addr) (e : Ex) (cls : Value) (d : Option Addr) : Prop := cls = .ref (ca e.cls) ∧ e.fs = [] ∧ d = none

/-- the wish of errors, from a state on -/
def WishAt (_ : KF) (_ : Nat → Addr) (_ : WX) (_ : Hp) (_ : List Addr) (_ : L2.St) (_ : Ex) (_ : Heap) : Prop := False
theorem WishAt.mono {K : KF} {ca : Nat → Addr} {W : WX} {fz fz1 : Hp} {rho : List Addr} {σ : L2.St} {e : Ex} {h' : Heap} (q : WishAt K ca W fz rho σ e h') (s : Same fz fz1) : WishAt K ca W fz1 rho σ e h' := q

section
variable (K : KF) (ca : Nat → Addr) (W : WX)
/-- the reading of an expression that the interpreter tells -/
def TEo (f : Env → Heap → Out (RV × Heap)) : TE := fun σ H Q => ∃ env h fz fr rho, StH K fz fr rho h H ∧ EnvR K fz rho env σ ∧
  OkO (f env h) (fun p => ∀ fz' v H', Same fz fz' → StH K fz' fr rho p.2 H' → ResR K fz' fr rho p.2 H' p.1 v → Q v H') (WishAt K ca W fz rho σ)
/-- .. of arguments -/
def TAo (f : Env → Heap → Out (List RV × Heap)) : TA := fun σ H Q => ∃ env h fz fr rho, StH K fz fr rho h H ∧ EnvR K fz rho env σ ∧
  OkO (f env h) (fun p => ∀ fz' vs H', Same fz fz' → StH K fz' fr rho p.2 H' → RepRs K fz' rho p.1 vs → Q vs H') (WishAt K ca W fz rho σ)
/-- .. of a test -/
def TTo (f : Env → Heap → Out (Bool × Heap)) : TT := fun σ H Q => ∃ env h fz fr rho, StH K fz fr rho h H ∧ EnvR K fz rho env σ ∧
  OkO (f env h) (fun p => ∀ fz' H', Same fz fz' → StH K fz' fr rho p.2 H' → Q p.1 H') (WishAt K ca W fz rho σ)
/-- .. of a slice's bound -/
def TOo (f : Env → Heap → Out (Option Int × Heap)) : TO := fun σ H Q => ∃ env h fz fr rho, StH K fz fr rho h H ∧ EnvR K fz rho env σ ∧
  OkO (f env h) (fun p => ∀ fz' H', Same fz fz' → StH K fz' fr rho p.2 H' → Q p.1 H') (WishAt K ca W fz rho σ)

/-- two operands: what is done with them -/
def rG (G : D → D → Out RV) : R2 := fun x y H Q => ∃ fz fr rho h p q, StH K fz fr rho h H ∧ Top K fz H p x ∧ Top K fz H q y ∧
  OkO (G p q) (fun r => ∀ fz' v H', Same fz fz' → StH K fz' fr rho h H' → ResR K fz' fr rho h H' r v → Q v H') (fun _ _ => False)
/-- .. whose answer is a truth value -/
def rB (G : D → D → Option Bool) : R2 := fun x y H Q => ∃ fz fr rho h p q k, StH K fz fr rho h H ∧ Top K fz H p x ∧ Top K fz H q y ∧ G p q = some k ∧ Q (.bl k) H
end

theorem PE.mono {X : Cx} {e : Expr} {t t' : TE} (h : PE X e t) (k : ∀ σ H Q, t' σ H Q → t σ H Q) : PE X e t' := ⟨fun pins s σ H Q I q => h.run pins s σ H Q I (k σ H Q q)⟩
theorem PT.mono {X : Cx} {e : Expr} {t t' : TT} (h : PT X e t) (k : ∀ σ H Q, t' σ H Q → t σ H Q) : PT X e t' := ⟨fun pins s σ H Q I q => h.run pins s σ H Q I (k σ H Q q)⟩
theorem PW.mono {X : Cx} {e : Expr} {t t' : TT} (h : PW X e t) (k : ∀ σ H Q, t' σ H Q → t σ H Q) : PW X e t' := ⟨fun wh pins s σ H Q I q => h.run wh pins s σ H Q I (k σ H Q q)⟩
theorem PA.mono {X : Cx} {e : List Expr} {t t' : TA} (h : PA X e t) (k : ∀ σ H Q, t' σ H Q → t σ H Q) : PA X e t' := ⟨fun pos pins s σ H Q I q => h.run pos pins s σ H Q I (k σ H Q q)⟩
theorem PO.mono {X : Cx} {e : Option Expr} {t t' : TO} (h : PO X e t) (k : ∀ σ H Q, t' σ H Q → t σ H Q) : PO X e t' := ⟨fun pins s σ H Q I q => h.run pins s σ H Q I (k σ H Q q)⟩
theorem PS.mono {X : Cx} {e : Stmt} {t t' : TS} (h : PS X e t) (k : ∀ D σ H, t' D σ H → t D σ H) : PS X e t' := ⟨fun pins s σ H D I q => h.run pins s σ H D I (k D σ H q)⟩
theorem PSs.mono {X : Cx} {e : List Stmt} {t t' : TS} (h : PSs X e t) (k : ∀ D σ H, t' D σ H → t D σ H) : PSs X e t' := ⟨fun pins s σ H D I q => h.run pins s σ H D I (k D σ H q)⟩

section
variable {K : KF} {ca : Nat → Addr} {W : WX}
/-- one step of a reading -/
theorem TEo.go {f : Env → Heap → Out (RV × Heap)} {σ : L2.St} {H : Hp} {Q : VK} {env : Env} {h : Heap} {fz fr : Hp} {rho : List Addr} {A : RV × Heap → Prop} (st : StH K fz fr rho h H) (er : EnvR K fz rho env σ)
    (q : OkO (f env h) A (WishAt K ca W fz rho σ)) (k : ∀ r h', A (r, h') → ∀ fz' v H', Same fz fz' → StH K fz' fr rho h' H' → EnvR K fz' rho env σ → ResR K fz' fr rho h' H' r v → Q v H') : TEo K ca W f σ H Q :=
  ⟨env, h, fz, fr, rho, st, er, q.mono (fun p a fz' v H' s st' rr => k p.1 p.2 a fz' v H' s st' (er.mono s) rr) fun _ _ z => z⟩
/-- .. what is handed back held by nobody else -/
theorem TEo.goN {f : Env → Heap → Out (RV × Heap)} {σ : L2.St} {H : Hp} {Q : VK} {env : Env} {h : Heap} {fz fr : Hp} {rho : List Addr} {A : RV × Heap → Prop} (st : StH K fz fr rho h H) (er : EnvR K fz rho env σ)
    (q : OkO (f env h) A (WishAt K ca W fz rho σ)) (k : ∀ r h', A (r, h') → ∀ fz' v H', Same fz fz' → StH K fz' fr rho h' H' → EnvR K fz' rho env σ → RepR K fz' rho (nrm r) v → Q v H') : TEo K ca W f σ H Q :=
  TEo.go st er q fun r h' a fz' v H' s st' er' rr => by
    obtain ⟨fz2, s2, st2, r2⟩ := nrm_ok st' rr
    exact k r h' a fz2 v H' (s.trans s2) st2 (er'.mono s2) r2
theorem TAo.go {f : Env → Heap → Out (List RV × Heap)} {σ : L2.St} {H : Hp} {Q : List V → Hp → Prop} {env : Env} {h : Heap} {fz fr : Hp} {rho : List Addr} {A : List RV × Heap → Prop} (st : StH K fz fr rho h H) (er : EnvR K fz rho env σ)
    (q : OkO (f env h) A (WishAt K ca W fz rho σ)) (k : ∀ r h', A (r, h') → ∀ fz' vs H', Same fz fz' → StH K fz' fr rho h' H' → EnvR K fz' rho env σ → RepRs K fz' rho r vs → Q vs H') : TAo K ca W f σ H Q :=
  ⟨env, h, fz, fr, rho, st, er, q.mono (fun p a fz' v H' s st' rr => k p.1 p.2 a fz' v H' s st' (er.mono s) rr) fun _ _ z => z⟩
theorem TTo.go {f : Env → Heap → Out (Bool × Heap)} {σ : L2.St} {H : Hp} {Q : Bool → Hp → Prop} {env : Env} {h : Heap} {fz fr : Hp} {rho : List Addr} {A : Bool × Heap → Prop} (st : StH K fz fr rho h H) (er : EnvR K fz rho env σ)
    (q : OkO (f env h) A (WishAt K ca W fz rho σ)) (k : ∀ r h', A (r, h') → ∀ fz' H', Same fz fz' → StH K fz' fr rho h' H' → EnvR K fz' rho env σ → Q r H') : TTo K ca W f σ H Q :=
  ⟨env, h, fz, fr, rho, st, er, q.mono (fun p a fz' H' s st' => k p.1 p.2 a fz' H' s st' (er.mono s)) fun _ _ z => z⟩
theorem TOo.go {f : Env → Heap → Out (Option Int × Heap)} {σ : L2.St} {H : Hp} {Q : Option Int → Hp → Prop} {env : Env} {h : Heap} {fz fr : Hp} {rho : List Addr} {A : Option Int × Heap → Prop} (st : StH K fz fr rho h H) (er : EnvR K fz rho env σ)
    (q : OkO (f env h) A (WishAt K ca W fz rho σ)) (k : ∀ r h', A (r, h') → ∀ fz' H', Same fz fz' → StH K fz' fr rho h' H' → EnvR K fz' rho env σ → Q r H') : TOo K ca W f σ H Q :=
  ⟨env, h, fz, fr, rho, st, er, q.mono (fun p a fz' H' s st' => k p.1 p.2 a fz' H' s st' (er.mono s)) fun _ _ z => z⟩
/-- the errors' wish behind a step -/
theorem OkO.wish {α : Type} {o : Out α} {A : α → Prop} {fz fz1 : Hp} {rho : List Addr} {σ : L2.St} (q : OkO o A (WishAt K ca W fz rho σ)) (s : Same fz fz1) : OkO o A (WishAt K ca W fz1 rho σ) := q.mono (fun _ a => a) fun _ _ z => z.mono s

/-- two operands -/
theorem two {fa fb : Env → Heap → Out (RV × Heap)} {G : D → D → Out RV} {σ : L2.St} {H : Hp} {Q : VK}
    (q : TEo K ca W (fun env h => fa env h >>= fun (x, h1) => fb env h1 >>= fun (y, h2) => match view h2 (nrm x), view h2 (nrm y) with
      | some p, some q => G p q >>= fun r => .ok (r, h2)
      | _, _ => .stuck) σ H Q) (hG : ∀ p q e h, G p q ≠ .exc e h) : tOp (rG K G) (TEo K ca W fa) (TEo K ca W fb) σ H Q := by
  obtain ⟨env, h, fz, fr, rho, st, er, q⟩ := q
  refine TEo.goN st er q.bind fun x h1 q1 fz1 v1 H1 s1 st1 er1 r1 => ?_
  refine TEo.goN st1 er1 (q1.bind.wish s1) fun y h2 q2 fz2 v2 H2 s2 st2 er2 r2 => ?_
  dsimp only at q2
  cases ex : view h2 (nrm x) with
  | none => rw [ex] at q2; exact (show False from q2).elim
  | some p =>
    cases ey : view h2 (nrm y) with
    | none => rw [ex, ey] at q2; exact (show False from q2).elim
    | some q =>
      rw [ex, ey] at q2
      have q3 := OkO.bind q2
      refine ⟨fz2, fr, rho, h2, p, q, st2, view_top st2 (r1.mono s2) ex, view_top st2 r2 ey, ?_⟩
      cases eg : G p q with
      | ok r =>
        rw [eg] at q3
        have q4 : ∀ fz' v H', Same fz fz' → StH K fz' fr rho h2 H' → ResR K fz' fr rho h2 H' r v → Q v H' := q3
        exact fun fz' v H' s' => q4 fz' v H' (s1.trans (s2.trans s'))
      | exc e h => exact absurd eg (hG _ _ _ _)
      | stuck => rw [eg] at q3; exact (show False from q3).elim
/-- .. compared, a subscript: a value that stands already -/
theorem twoB {fa fb : Env → Heap → Out (RV × Heap)} {G : D → D → Option Bool} {σ : L2.St} {H : Hp} {Q : VK}
    (q : TEo K ca W (fun env h => fa env h >>= fun (x, h1) => fb env h1 >>= fun (y, h2) => match view h2 (nrm x), view h2 (nrm y) with
      | some p, some q => (match G p q with
        | some k => .ok (.d (.bl k), h2)
        | none => .stuck)
      | _, _ => .stuck) σ H Q) : tOp (rB K G) (TEo K ca W fa) (TEo K ca W fb) σ H Q := by
  obtain ⟨env, h, fz, fr, rho, st, er, q⟩ := q
  refine TEo.goN st er q.bind fun x h1 q1 fz1 v1 H1 s1 st1 er1 r1 => ?_
  refine TEo.goN st1 er1 (q1.bind.wish s1) fun y h2 q2 fz2 v2 H2 s2 st2 er2 r2 => ?_
  dsimp only at q2
  cases ex : view h2 (nrm x) with
  | none => rw [ex] at q2; exact (show False from q2).elim
  | some p =>
    cases ey : view h2 (nrm y) with
    | none => rw [ex, ey] at q2; exact (show False from q2).elim
    | some q =>
      rw [ex, ey] at q2
      dsimp only at q2
      cases eg : G p q with
      | none => rw [eg] at q2; exact (show False from q2).elim
      | some k =>
        rw [eg] at q2
        refine ⟨fz2, fr, rho, h2, p, q, k, st2, view_top st2 (r1.mono s2) ex, view_top st2 r2 ey, eg, ?_⟩
        have q4 : ∀ fz' v H', Same fz fz' → StH K fz' fr rho h2 H' → ResR K fz' fr rho h2 H' (.d (.bl k)) v → Q v H' := q2
        exact q4 fz2 (.bl k) H2 (s1.trans s2) st2 (by show Rep K fz2 (.bl k) (.bl k); simp only [Rep])
end
end Mini
set_option Elab.async false
set_option linter.all false
set_option maxRecDepth 100000
set_option maxHeartbeats 4000000
/- Mini: the operators, by values. Own work. -/
namespace Mini
open PySem PySem.Spec PyProof.Rows L2

theorem line_eq : LINE = sizeLine := by rw [sizeLine_eq]; rfl
theorem Rep.int_inv {K : KF} {H : Hp} {i : Int} {v : V} (h : Rep K H (.int i) v) : v = .int i := by simpa only [Rep] using h
theorem Rep.bl_inv {K : KF} {H : Hp} {i : Bool} {v : V} (h : Rep K H (.bl i) v) : v = .bl i := by simpa only [Rep] using h
theorem Rep.non_inv {K : KF} {H : Hp} {v : V} (h : Rep K H .non v) : v = .non := by simpa only [Rep] using h
theorem Rep.str_inv {K : KF} {H : Hp} {i : List Nat} {v : V} (h : Rep K H (.str i) v) : v = .str (toS i) ∧ okS i = true := by simpa only [Rep] using h
theorem rep_int {K : KF} {H : Hp} {i : Int} : Rep K H (.int i) (.int i) := by simp only [Rep]
theorem rep_bl {K : KF} {H : Hp} {i : Bool} : Rep K H (.bl i) (.bl i) := by simp only [Rep]
theorem rep_non {K : KF} {H : Hp} : Rep K H .non .non := by simp only [Rep]
theorem rep_str {K : KF} {H : Hp} {x : List Nat} (h : okS x = true) : Rep K H (.str x) (.str (toS x)) := by simp only [Rep]; exact ⟨trivial, h⟩
theorem toS_len (x : List Nat) : (toS x).length = x.length := by simp [toS, PySem.Str.length]
theorem toS_app (x y : List Nat) : toS x ++ toS y = toS (x ++ y) := by
  show PySem.Str.append _ _ = _
  simp [toS, PySem.Str.append]
theorem toS_inj {x y : List Nat} (h : toS x = toS y) : x = y := by
  have h1 := congrArg (fun z : PySem.Str => z.cps.toList) h
  simpa [toS] using h1
theorem toS_eq {x y : List Nat} : (toS x = toS y) ↔ x = y := ⟨toS_inj, fun h => h ▸ rfl⟩
theorem toS_cps (x : List Nat) : (toS x).cps.toList = x := by simp [toS]
theorem okS_len {x : List Nat} (h : okS x = true) : x.length ≤ LINE := by
  unfold okS at h
  simp only [Bool.and_eq_true, decide_eq_true_eq] at h
  exact h.1
theorem okS_line {x : List Nat} (h : okS x = true) : (toS x).length ≤ sizeLine := by rw [toS_len, ← line_eq]; exact okS_len h
theorem okS_all {x : List Nat} (h : okS x = true) : ∀ c ∈ x, c < 0x110000 := by
  unfold okS at h
  simp only [Bool.and_eq_true, List.all_eq_true, decide_eq_true_eq] at h
  exact h.2
theorem okS_mk {x : List Nat} (h1 : x.length ≤ LINE) (h2 : ∀ c ∈ x, c < 0x110000) : okS x = true := by
  unfold okS
  simp only [Bool.and_eq_true, List.all_eq_true, decide_eq_true_eq]
  exact ⟨h1, h2⟩
theorem okS_app {x y : List Nat} (hx : okS x = true) (hy : okS y = true) (h : x.length + y.length ≤ LINE) : okS (x ++ y) = true :=
  okS_mk (by rw [List.length_append]; exact h) fun c hc => (List.mem_append.mp hc).elim (okS_all hx c) (okS_all hy c)

/-! ### frozen results -/
section
variable {K : KF} {fz fz' fr : Hp} {rho : List Addr} {h : Heap} {H : Hp}
/-- a new tuple -/
theorem StH.newTup (st : StH K fz fr rho h H) {xs : List D} {vs : List V} (hr : RepL K fz xs vs) (hl : xs.length ≤ LINE) {p : Addr} {o : Obj} (hp : H p = none) (ho : o.dict = none) :
    Same fz (upd fz p (.frz o (.tup vs))) ∧ StH K (upd fz p (.frz o (.tup vs))) fr rho h (upd H p (.frz o (.tup vs))) ∧ Rep K (upd fz p (.frz o (.tup vs))) (.tup xs) (.ref p) := by
  have st1 := st.new (o := .frz o (.tup vs)) hp
  have hf := st.both hp
  obtain ⟨s1, st2⟩ := st1.freeze (p := p) (o := .frz o (.tup vs)) upd_same hf (st.rho_ne hp)
  refine ⟨s1, st2, ?_⟩
  simp only [Rep]
  exact ⟨p, vs, rfl, .inl ⟨o, upd_same, ho⟩, hl, hr.mono s1⟩
/-- a tuple is laid -/
theorem invTup {X : Cx} {pins : List (Addr × Obj)} {σ : L2.St} {H : Hp} {s : Shared} (I : Inv X pins σ H s) {vs : List V} {its : List Value} (r : Vals vs its) (hz : vs.length ≤ sizeLine) {Q : VK}
    (q : ∀ p o, H p = none → o.dict = none → Q (.ref p) (upd H p (.frz o (.tup vs)))) : EP X pins σ Q (.ref s.heap.objs.size) { s with heap := s.heap.push { cls := .type "tuple", data := .seq its.toArray } } :=
  ⟨.ref s.heap.objs.size, _, I.laid (t' := s.toks) (o := .frz { cls := .type "tuple", data := .seq its.toArray } (.tup vs)) (fun b ob q => Heap.get?_push_of_some _ q) (Nat.le_refl _) ⟨Heap.get?_push_size _ rfl, hz, its, r, IsTup.new _ _⟩, rfl, q _ _ (I.hok.fresh (Nat.le_refl _)) rfl⟩
/-- a new list, held by nobody -/
theorem StH.newLst (st : StH K fz fr rho h H) {xs : List D} {vs : List V} (hr : RepL K fz xs vs) (hl : xs.length ≤ LINE) {p : Addr} (hp : H p = none) :
    StH K fz fr rho h (upd H p (.lst vs)) ∧ ResR K fz fr rho h (upd H p (.lst vs)) (.nw (.lst xs)) (.ref p) :=
  ⟨st.new hp, p, .lst vs, rfl, upd_same, st.both hp, ⟨vs, rfl, hl, hr⟩, st.rho_ne hp⟩
end

/-! ### arithmetic -/
def opOf : Bin → Operator
  | .add => .Add
  | .sub => .Sub
  | .mul => .Mult
  | .mod => .Mod
  | .fdiv => .FloorDiv
  | .pow => .Pow
  | .band => .BitAnd
  | .bor => .BitOr
  | .bxor => .BitXor

def rCatP (K : PySem.W.Frag) : R2 := fun x y H Q => ∃ a b xs ys, x = .ref a ∧ y = .ref b ∧ SqT K H a xs ∧ SqT K H b ys ∧ xs.length + ys.length ≤ sizeLine ∧
  (xs = [] → Q (.ref b) H) ∧ (ys = [] → Q (.ref a) H) ∧ (∀ p o, H p = none → o.dict = none → Q (.ref p) (upd H p (.frz o (.tup (xs ++ ys)))))
theorem op_catP {X : Cx} : OpR X (binaryOp .Add) (rCatP X.K) := by
  intro pins s σ H x y v u Q I rx ry h
  obtain ⟨a, b, xs, ys, rfl, rfl, ha, hb, hz, q0, q1, q2⟩ := h
  cases rx
  cases ry
  obtain ⟨its, r1, p1, _⟩ := I.tuple ha
  obtain ⟨its2, r2, p2, _⟩ := I.tuple hb
  by_cases hx : its = []
  · subst hx
    cases r1
    exact cat_tup0 p1 p2 ⟨.ref b, H, I, rfl, q0 rfl⟩
  · exact HT.cat_tup p1 p2 hx (fun z => ⟨.ref a, H, I, rfl, q1 (r2.nil_iff.mp z)⟩) (fun z => invTup I (r1.append r2) (by rw [List.length_append]; exact hz) q2) (by rw [← r1.length, ← r2.length]; exact hz)
def rCatL (K : PySem.W.Frag) : R2 := fun x y H Q => ∃ l b xs zs, x = .ref l ∧ y = .ref b ∧ SqL K H l xs ∧ SqL K H b zs ∧ xs.length + zs.length ≤ sizeLine ∧ ∀ p, H p = none → Q (.ref p) (upd H p (.lst (xs ++ zs)))
theorem op_catL {X : Cx} : OpR X (binaryOp .Add) (rCatL X.K) := by
  intro pins s σ H x y v u Q I rx ry h
  obtain ⟨l, b, xs, zs, rfl, rfl, hH, hB, hz, q⟩ := h
  cases rx
  cases ry
  obtain ⟨its, r, pl, _⟩ := I.list hH
  obtain ⟨its2, r2, pl2, _⟩ := I.list hB
  obtain ⟨⟨cls, dd, data, sl⟩, n, ho, hc, hdn, hd⟩ := id pl
  obtain ⟨⟨cls2, dd2, data2, sl2⟩, n2, ho2, hc2, hdn2, hd2⟩ := id pl2
  simp only at hc hd hc2 hd2 hdn hdn2
  subst hc hd hc2 hd2 hdn hdn2
  have e : its.toArray ++ its2.toArray = (its ++ its2).toArray := by simp
  have l1 := r.length
  have l2 := r2.length
  refine concat_meets ⟨_, ho, rfl⟩ ⟨_, ho2, rfl⟩ noFill_list_add seq_list_add PySem.F.slot_list_add PySem.F.entry_list_add (PySem.F.args_list_add_2 _ _) (list_addW l b its.toArray its2.toArray n n2 none none sl sl2 (by simp only [List.size_toArray]; omega)) ⟨ho, ho2, ?_⟩
  rw [e]
  refine ⟨.ref _, upd H s.heap.objs.size (.lst (xs ++ zs)), ?_, rfl, q _ (I.hok.fresh (Nat.le_refl _))⟩
  exact I.laid (t' := s.toks) (fun b o e => Heap.get?_push_of_some _ e) (Nat.le_refl _) ⟨by rw [List.length_append]; omega, its ++ its2, 0, r.append r2, Heap.get?_push_size _ rfl⟩

theorem bitAnd_nat {i j : Int} (h : 0 ≤ i ∧ 0 ≤ j) : Builtin.bitAnd i j = (Nat.land i.toNat j.toNat : Nat) := PyProof.Rows.bitAnd_pp h.1 h.2
theorem bitOr_nat {i j : Int} (h : 0 ≤ i ∧ 0 ≤ j) : Builtin.bitOr i j = (Nat.lor i.toNat j.toNat : Nat) := Bits.bitOr_pp h.1 h.2
theorem bitXor_nat {i j : Int} (h : 0 ≤ i ∧ 0 ≤ j) : Builtin.bitXor i j = (Nat.xor i.toNat j.toNat : Nat) := Bits.bitXor_pp h.1 h.2

section
variable {X : Cx}
theorem res_int {K : KF} {fz fr : Hp} {rho : List Addr} {h : Heap} {H : Hp} {i : Int} : ResR K fz fr rho h H (.d (.int i)) (.int i) := by show Rep K fz (.int i) (.int i); exact rep_int
theorem res_bl {K : KF} {fz fr : Hp} {rho : List Addr} {h : Heap} {H : Hp} {i : Bool} : ResR K fz fr rho h H (.d (.bl i)) (.bl i) := by show Rep K fz (.bl i) (.bl i); exact rep_bl
theorem res_str {K : KF} {fz fr : Hp} {rho : List Addr} {h : Heap} {H : Hp} {x : List Nat} (ok : okS x = true) : ResR K fz fr rho h H (.d (.str x)) (.str (toS x)) := (show Rep K fz (.str x) (.str (toS x)) from rep_str ok)

theorem RepL.nil_iff {K : KF} {H : Hp} {xs : List D} {vs : List V} (h : RepL K H xs vs) : vs = [] ↔ xs = [] := by
  cases xs with
  | nil => simp [h.nil_inv]
  | cons x xs =>
    obtain ⟨v, r, e, _, _⟩ := h.cons_inv
    simp [e]

theorem op_bin (o : Bin) : OpR X (binaryOp (opOf o)) (rG (kf X) (binV o)) := by
  intro pins s σ H x y v u Q I rx ry ⟨fz, fr, rho, h, p, q, st, tx, ty, g⟩
  have two_ints : ∀ {i j : Int}, p = .int i → q = .int j → x = .int i ∧ y = .int j := fun {i j} e1 e2 => by
    subst e1; subst e2
    exact ⟨(show Rep (kf X) fz (.int i) x from tx).int_inv, (show Rep (kf X) fz (.int j) y from ty).int_inv⟩
  have fin : ∀ {k : Int}, (∀ fz' v H', Same fz fz' → StH (kf X) fz' fr rho h H' → ResR (kf X) fz' fr rho h H' (.d (.int k)) v → Q v H') → Q (.int k) H := fun g => g fz _ H (Same.refl _) st res_int
  cases o with
  | add =>
    cases p <;> cases q <;> try exact (show False from g).elim
    case int.int i j =>
      obtain ⟨rfl, rfl⟩ := two_ints rfl rfl
      exact op_add pins s σ H _ _ v u Q I rx ry ⟨i, j, rfl, rfl, fin g⟩
    case str.str a b =>
      obtain ⟨rfl, ka⟩ := (show Rep (kf X) fz (.str a) x from tx).str_inv
      obtain ⟨rfl, kb⟩ := (show Rep (kf X) fz (.str b) y from ty).str_inv
      simp only [binV] at g
      split at g
      · rename_i hl
        refine op_add_str pins s σ H _ _ v u Q I rx ry ⟨_, _, rfl, rfl, by rw [toS_len, toS_len, ← line_eq]; exact hl, ?_⟩
        rw [toS_app]
        exact g fz _ H (Same.refl _) st (res_str (okS_app ka kb hl))
      · exact g.elim
    case tup.tup xs ys =>
      have tx' := tx
      have ty' := ty
      simp only [Top, Rep] at tx' ty'
      obtain ⟨a, vs, rfl, ha, la, ra⟩ := tx'
      obtain ⟨b, us, rfl, hb, lb, rb⟩ := ty'
      simp only [binV] at g
      split at g
      · rename_i hl
        have l1 := ra.length
        have l2 := rb.length
        refine op_catP pins s σ H _ _ v u Q I rx ry ⟨a, b, vs, us, rfl, rfl, SqP.at (K := kf X) st.sub ha, SqP.at (K := kf X) st.sub hb, by rw [l1, l2, ← line_eq]; exact hl, fun e => ?_, fun e2 => ?_, fun t o ht ho => ?_⟩
        · rw [ra.nil_iff] at e
          subst e
          exact g fz _ H (Same.refl _) st ty
        · rw [rb.nil_iff] at e2
          subst e2
          rw [List.append_nil] at g
          exact g fz _ H (Same.refl _) st tx
        · obtain ⟨s1, st', r'⟩ := st.newTup (ra.append rb) (by rw [List.length_append]; exact hl) ht ho
          exact g _ _ _ s1 st' r'
      · exact g.elim
    case lst.lst xs ys =>
      obtain ⟨a, vs, rfl, ha, la, ra⟩ := tx
      obtain ⟨b, us, rfl, hb, lb, rb⟩ := ty
      simp only [binV] at g
      split at g
      · rename_i hl
        have l1 := ra.length
        have l2 := rb.length
        refine op_catL pins s σ H _ _ v u Q I rx ry ⟨a, b, vs, us, rfl, rfl, ha, hb, by rw [l1, l2, ← line_eq]; exact hl, fun t ht => ?_⟩
        obtain ⟨st', r'⟩ := st.newLst (ra.append rb) (by rw [List.length_append]; exact hl) ht
        exact g fz _ _ (Same.refl _) st' r'
      · exact g.elim
  | sub =>
    cases p <;> cases q <;> try exact (show False from g).elim
    case int.int i j =>
      obtain ⟨rfl, rfl⟩ := two_ints rfl rfl
      exact op_sub pins s σ H _ _ v u Q I rx ry ⟨i, j, rfl, rfl, fin g⟩
  | mul =>
    cases p <;> cases q <;> try exact (show False from g).elim
    case int.int i j =>
      obtain ⟨rfl, rfl⟩ := two_ints rfl rfl
      simp only [binV] at g
      split at g
      · rename_i hs
        refine op_mul pins s σ H _ _ v u Q I rx ry ⟨i, j, rfl, rfl, ?_, fin g⟩
        simp only [small, Bool.or_eq_true, Bool.and_eq_true, decide_eq_true_eq] at hs
        exact hs
      · exact g.elim
  | mod =>
    cases p <;> cases q <;> try exact (show False from g).elim
    case int.int i j =>
      obtain ⟨rfl, rfl⟩ := two_ints rfl rfl
      simp only [binV] at g
      split at g
      · rename_i hs
        exact op_mod pins s σ H _ _ v u Q I rx ry ⟨i, j, rfl, rfl, hs, fin g⟩
      · exact g.elim
  | fdiv =>
    cases p <;> cases q <;> try exact (show False from g).elim
    case int.int i j =>
      obtain ⟨rfl, rfl⟩ := two_ints rfl rfl
      simp only [binV] at g
      split at g
      · rename_i hs
        exact op_fdiv pins s σ H _ _ v u Q I rx ry ⟨i, j, rfl, rfl, hs, fin g⟩
      · exact g.elim
  | pow =>
    cases p <;> cases q <;> try exact (show False from g).elim
    case int.int i j =>
      obtain ⟨rfl, rfl⟩ := two_ints rfl rfl
      simp only [binV] at g
      split at g
      · rename_i hs
        exact op_pow pins s σ H _ _ v u Q I rx ry ⟨i, j, rfl, rfl, hs, fin g⟩
      · exact g.elim
  | band =>
    cases p <;> cases q <;> try exact (show False from g).elim
    case int.int i j =>
      obtain ⟨rfl, rfl⟩ := two_ints rfl rfl
      simp only [binV, bitI] at g
      split at g
      · rename_i hs
        exact op_and pins s σ H _ _ v u Q I rx ry ⟨i, j, rfl, rfl, by show Q (.int (Builtin.bitAnd i j)) H; rw [bitAnd_nat hs]; exact fin g⟩
      · exact g.elim
  | bor =>
    cases p <;> cases q <;> try exact (show False from g).elim
    case int.int i j =>
      obtain ⟨rfl, rfl⟩ := two_ints rfl rfl
      simp only [binV, bitI] at g
      split at g
      · rename_i hs
        exact op_or pins s σ H _ _ v u Q I rx ry ⟨i, j, rfl, rfl, by show Q (.int (Builtin.bitOr i j)) H; rw [bitOr_nat hs]; exact fin g⟩
      · exact g.elim
  | bxor =>
    cases p <;> cases q <;> try exact (show False from g).elim
    case int.int i j =>
      obtain ⟨rfl, rfl⟩ := two_ints rfl rfl
      simp only [binV, bitI] at g
      split at g
      · rename_i hs
        exact op_xor pins s σ H _ _ v u Q I rx ry ⟨i, j, rfl, rfl, by show Q (.int (Builtin.bitXor i j)) H; rw [bitXor_nat hs]; exact fin g⟩
      · exact g.elim
end
end Mini
set_option Elab.async false
set_option linter.all false
set_option maxRecDepth 100000
set_option maxHeartbeats 4000000
/- Mini: comparisons, membership, by values. Own work. -/
namespace Mini
open PySem PySem.Spec PyProof.Rows L2

/-! ### data as the library compares it -/
mutual
def py : D → PyData
  | .non => .none
  | .bl b => .bool b
  | .int i => .int i
  | .str x => .str (toS x)
  | .tup xs => .tuple (pys xs)
  | .lst xs => .list (pys xs)
  | .dct _ _ => .dict []
def pys : List D → List PyData
  | [] => []
  | x :: xs => py x :: pys xs
end
mutual
theorem py_depth : ∀ x : D, noDct x = true → (py x).depth = depth x
  | .non, _ => by simp only [py, PyData.depth, depth]
  | .bl _, _ => by simp only [py, PyData.depth, depth]
  | .int _, _ => by simp only [py, PyData.depth, depth]
  | .str _, _ => by simp only [py, PyData.depth, depth]
  | .tup xs, h => by
    simp only [noDct] at h
    simp only [py, PyData.depth, depth, pys_depth xs h]
  | .lst xs, h => by
    simp only [noDct] at h
    simp only [py, PyData.depth, depth, pys_depth xs h]
  | .dct _ _, h => by simp [noDct] at h
theorem pys_depth : ∀ xs : List D, noDcts xs = true → PyData.depthAll (pys xs) = depths xs
  | [], _ => by simp only [pys, PyData.depthAll, depths]
  | x :: xs, h => by
    simp only [noDcts, Bool.and_eq_true] at h
    simp only [pys, PyData.depthAll, depths, py_depth x h.1, pys_depth xs h.2]
end
section
variable {K : KF} {H : Hp}
mutual
theorem py_dp : ∀ (x : D) (v : V), noDct x = true → Rep K H x v → Dp K.1 H v (py x)
  | .non, v, _, h => by rw [h.non_inv]; simp only [py]; exact .non
  | .bl b, v, _, h => by rw [h.bl_inv]; simp only [py]; exact .bl b
  | .int i, v, _, h => by rw [h.int_inv]; simp only [py]; exact .int i
  | .str x, v, _, h => by rw [h.str_inv.1]; simp only [py]; exact .str _
  | .tup xs, v, n, h => by
    simp only [Rep] at h
    obtain ⟨a, vs, rfl, hs, _, hr⟩ := h
    simp only [noDct] at n
    simp only [py]
    exact .tup hs.sqT (pys_dp xs vs n hr)
  | .lst xs, v, n, h => by
    simp only [Rep] at h
    obtain ⟨a, vs, rfl, hs, _, hr⟩ := h
    simp only [noDct] at n
    simp only [py]
    exact .lst hs (pys_dp xs vs n hr)
  | .dct _ _, _, n, _ => by simp [noDct] at n
theorem pys_dp : ∀ (xs : List D) (vs : List V), noDcts xs = true → RepL K H xs vs → DpAll K.1 H vs (pys xs)
  | [], vs, _, h => by rw [h.nil_inv]; simp only [pys]; exact .nil
  | x :: xs, vs, n, h => by
    obtain ⟨v, r, rfl, hx, ht⟩ := h.cons_inv
    simp only [noDcts, Bool.and_eq_true] at n
    simp only [pys]
    exact .cons (py_dp x v n.1 hx) (pys_dp xs r n.2 ht)
end
theorem strOk_of {x : List Nat} (h : okS x = true) : (toS x).cps.all (fun c => decide (c < 0x110000)) = true := by
  rw [← Array.all_toList, toS_cps]
  rw [List.all_eq_true]
  exact fun c hc => decide_eq_true (okS_all h c hc)
mutual
theorem py_lay : ∀ (x : D) (v : V), noDct x = true → Rep K H x v → (py x).canLay0 = true
  | .non, v, _, h => by simp only [py, PyData.canLay0]
  | .bl b, v, _, h => by simp only [py, PyData.canLay0]
  | .int i, v, _, h => by simp only [py, PyData.canLay0]
  | .str x, v, _, h => by
    simp only [py, PyData.canLay0]
    exact strOk_of h.str_inv.2
  | .tup xs, v, n, h => by
    simp only [Rep] at h
    obtain ⟨a, vs, rfl, hs, _, hr⟩ := h
    simp only [noDct] at n
    simp only [py, PyData.canLay0]
    exact pys_lay xs vs n hr
  | .lst xs, v, n, h => by
    simp only [Rep] at h
    obtain ⟨a, vs, rfl, hs, _, hr⟩ := h
    simp only [noDct] at n
    simp only [py, PyData.canLay0]
    exact pys_lay xs vs n hr
  | .dct _ _, _, n, _ => by simp [noDct] at n
theorem pys_lay : ∀ (xs : List D) (vs : List V), noDcts xs = true → RepL K H xs vs → PyData.canLayAll0 (pys xs) = true
  | [], vs, _, h => by simp only [pys, PyData.canLayAll0]
  | x :: xs, vs, n, h => by
    obtain ⟨v, r, rfl, hx, ht⟩ := h.cons_inv
    simp only [noDcts, Bool.and_eq_true] at n
    simp only [pys, PyData.canLayAll0, py_lay x v n.1 hx, pys_lay xs r n.2 ht, Bool.and_self]
end
end
theorem toS_beq (x y : List Nat) : (toS x == toS y) = (x == y) := by
  rw [Bool.eq_iff_iff]
  simp [toS_eq]
mutual
theorem py_eqv : ∀ (x y : D), noDct x = true → noDct y = true → PyData.eqv (py x) (py y) = eqD x y
  | .non, y, _, h => by cases y <;> simp_all [py, PyData.eqv, eqD, noDct]
  | .bl b, y, _, h => by cases y <;> simp_all [py, PyData.eqv, eqD, noDct]
  | .int b, y, _, h => by cases y <;> simp_all [py, PyData.eqv, eqD, noDct]
  | .str b, y, _, h => by cases y <;> simp_all [py, PyData.eqv, eqD, noDct, toS_beq]
  | .tup xs, y, g, h => by
    cases y with
    | tup ys =>
      simp only [noDct] at g h
      simp only [py, PyData.eqv, eqD]
      exact pys_eqv xs ys g h
    | _ => simp_all [py, PyData.eqv, eqD, noDct]
  | .lst xs, y, g, h => by
    cases y with
    | lst ys =>
      simp only [noDct] at g h
      simp only [py, PyData.eqv, eqD]
      exact pys_eqv xs ys g h
    | _ => simp_all [py, PyData.eqv, eqD, noDct]
  | .dct _ _, _, g, _ => by simp [noDct] at g
theorem pys_eqv : ∀ (xs ys : List D), noDcts xs = true → noDcts ys = true → PyData.eqvAll (pys xs) (pys ys) = eqDs xs ys
  | [], [], _, _ => by simp only [pys, PyData.eqvAll, eqDs]
  | [], _ :: _, _, _ => by simp only [pys, PyData.eqvAll, eqDs]
  | _ :: _, [], _, _ => by simp only [pys, PyData.eqvAll, eqDs]
  | x :: xs, y :: ys, g, h => by
    simp only [noDcts, Bool.and_eq_true] at g h
    simp only [pys, PyData.eqvAll, eqDs, py_eqv x y g.1 h.1, pys_eqv xs ys g.2 h.2]
end
theorem pys_any (d : D) (n : noDct d = true) : ∀ xs : List D, noDcts xs = true → ((pys xs).any fun z => PyData.eqv z (py d)) = xs.any fun z => eqD z d
  | [], _ => by simp [pys]
  | x :: xs, h => by
    simp only [noDcts, Bool.and_eq_true] at h
    simp only [pys, List.any_cons, py_eqv x d h.1 n, pys_any d n xs h.2]

/-! ### order of texts -/
theorem ltStr_eq : ∀ x y : List Nat, ltStr x y = decide (x < y)
  | [], [] => by simp [ltStr]
  | [], _ :: _ => by simp [ltStr]
  | _ :: _, [] => by simp [ltStr]
  | a :: x, b :: y => by
    have ih := ltStr_eq x y
    simp only [ltStr]
    by_cases h1 : a < b
    · simp [h1, List.cons_lt_cons_iff]
    · by_cases h2 : b < a
      · have : a ≠ b := by omega
        simp [h1, h2, List.cons_lt_cons_iff, this]
      · have : a = b := by omega
        subst this
        simp [ih, List.cons_lt_cons_iff]

def copOf : Cmp → CmpOp
  | .eq => .Eq
  | .ne => .NotEq
  | .lt => .Lt
  | .le => .LtE
  | .gt => .Gt
  | .ge => .GtE
  | .in_ => .In
  | .nin => .NotIn
  | .is_ => .Is
  | .isn => .IsNot

/-! ### dicts that are read -/
section
variable {X : Cx} {pins : List (Addr × Obj)} {σ : L2.St} {H : Hp} {s : Shared}
theorem pairs_of_K {w : World} {P : Program} : ∀ {kvs : List (Key × V)} {es : List DictEntry}, Paired (fun (p : Key × V) (e : DictEntry) => keyIs p.1 e.key = true ∧ RelV p.2 e.val ∧ e.hash = keyH w p.1) kvs es →
    ∃ vs, KV kvs vs ∧ Pairs (mixKind P w) es vs ∧ ∀ e ∈ es, ∃ k, (mixKind P w).is k e.key = true ∧ e.hash = (mixKind P w).hash k
  | _, _, .nil => ⟨[], .nil, .nil, fun e he => absurd he (by simp)⟩
  | _, _, .cons (a := p) (b := e) ⟨h1, h2, h3⟩ t => by
    obtain ⟨vs, k1, k2, k3⟩ := pairs_of_K (P := P) t
    refine ⟨(p.1, e.val) :: vs, .cons ⟨rfl, h2⟩ k1, .cons h1 rfl k2, fun e' he => ?_⟩
    rcases List.mem_cons.mp he with q | q
    · subst q
      exact ⟨p.1, h1, h3⟩
    · exact k3 e' q
theorem Inv.dk (I : Inv X pins σ H s) {a : Addr} {kvs : List (Key × V)} (h : SqD (kf X) H a kvs) : kvs.length ≤ sizeLine ∧ (a == sysModules) = false ∧ ∃ vs, KV kvs vs ∧ s.heap.DictOf (mixKind X.prog X.w) a vs := by
  rcases h with h | ⟨es, n, hk, hd, hl, nd, hp⟩
  · exact dk_rd I.hok h
  · obtain ⟨vs, k1, k2, k3⟩ := pairs_of_K (P := X.prog) hp
    refine ⟨hl, hd, vs, k1, _, es, n, I.kIn a _ hk, ⟨rfl, rfl, rfl⟩, rfl, fun e he => k3 e (Array.mem_toList_iff.mpr he), k2, ?_⟩
    rw [← k1.keys]
    exact nd
theorem Inv.tkey (I : Inv X pins σ H s) {b : Addr} {ks : List Key} (h : SqT X.K H b (ks.map kV)) : (tupleKind (mixKind X.prog X.w)).is s.heap ks b := by
  obtain ⟨its, r, ⟨o, e1, e2, n, e3⟩, hz⟩ := I.tuple h
  exact ⟨o, its.toArray, n, e1, e2, e3, by simpa using items_are r⟩

/-- a key as data -/
theorem fkR_flat {K : KF} {x : D} {k : Sum Int (List Nat)} {v : V} (h : Rep K H x v) (e : keyFlat x = some k) : ∃ a, fkR k a ∧ v = kV a := by
  cases x with
  | int n =>
    cases e
    exact ⟨.inl n, rfl, h.int_inv⟩
  | str z =>
    cases e
    exact ⟨.inr (toS z), ⟨rfl, h.str_inv.2⟩, h.str_inv.1⟩
  | _ => cases e
theorem fkRs_flat {K : KF} : ∀ {xs : List D} {ks : List (Sum Int (List Nat))} {vs : List V}, RepL K H xs vs → keysFlat xs = some ks → ∃ as, fkRs ks as ∧ vs = as.map kV ∧ xs.length = ks.length
  | [], ks, vs, h, e => by
    cases e
    rw [h.nil_inv]
    exact ⟨[], trivial, rfl, rfl⟩
  | x :: xs, ks, vs, h, e => by
    obtain ⟨v, r, rfl, hx, ht⟩ := h.cons_inv
    simp only [keysFlat] at e
    cases e1 : keyFlat x with
    | none => rw [e1] at e; cases e
    | some k =>
      cases e2 : keysFlat xs with
      | none => rw [e1, e2] at e; cases e
      | some ks' =>
        rw [e1, e2] at e
        cases e
        obtain ⟨a, ha, rfl⟩ := fkR_flat hx e1
        obtain ⟨as, h1, rfl, h3⟩ := fkRs_flat ht e2
        exact ⟨a :: as, ⟨ha, h1⟩, rfl, by simp [h3]⟩
theorem fkR_inj {k k' : Sum Int (List Nat)} {a : Key} (h : fkR k a) (h' : fkR k' a) : k = k' := by
  cases k with
  | inl n =>
    cases k' with
    | inl m => have e1 : a = _ := h; have e2 : a = _ := h'; rw [e1] at e2; cases e2; rfl
    | inr m => have e1 : a = _ := h; have e2 : a = _ := h'.1; rw [e1] at e2; cases e2
  | inr n =>
    cases k' with
    | inl m => have e1 : a = _ := h.1; have e2 : a = _ := h'; rw [e1] at e2; cases e2
    | inr m => have e1 : a = _ := h.1; have e2 : a = _ := h'.1; rw [e1] at e2; injection e2 with e3; rw [toS_inj e3]
theorem fkR_fun {k : Sum Int (List Nat)} {a b : Key} (h : fkR k a) (h' : fkR k b) : a = b := by
  cases k with
  | inl n => have e1 : a = _ := h; have e2 : b = _ := h'; rw [e1, e2]
  | inr n => have e1 : a = _ := h.1; have e2 : b = _ := h'.1; rw [e1, e2]
theorem fkRs_inj : ∀ {k k' : List (Sum Int (List Nat))} {a : List Key}, fkRs k a → fkRs k' a → k = k'
  | [], [], _, _, _ => rfl
  | [], _ :: _, [], h, h' => h'.elim
  | [], _ :: _, _ :: _, h, h' => h.elim
  | _ :: _, [], [], h, h' => h.elim
  | _ :: _, [], _ :: _, h, h' => h'.elim
  | _ :: _, _ :: _, [], h, h' => h.elim
  | x :: k, y :: k', a :: as, h, h' => by rw [fkR_inj h.1 h'.1, fkRs_inj h.2 h'.2]
theorem fkRs_fun : ∀ {k : List (Sum Int (List Nat))} {a b : List Key}, fkRs k a → fkRs k b → a = b
  | [], [], [], _, _ => rfl
  | [], [], _ :: _, h, h' => h'.elim
  | [], _ :: _, _, h, h' => h.elim
  | _ :: _, [], _, h, h' => h.elim
  | _ :: _, _ :: _, [], h, h' => h'.elim
  | x :: k, a :: as, b :: bs, h, h' => by rw [fkR_fun h.1 h'.1, fkRs_fun h.2 h'.2]
theorem kyR_inj {k k' : Ky} {a : Key} (h : kyR k a) (h' : kyR k' a) : k = k' := by
  cases k with
  | i n =>
    cases k' with
    | i m => have e1 : a = _ := h; have e2 : a = _ := h'; rw [e1] at e2; cases e2; rfl
    | s m => have e1 : a = _ := h; have e2 : a = _ := h'.1; rw [e1] at e2; cases e2
    | t m => exact h'.elim
  | s n =>
    cases k' with
    | i m => have e1 : a = _ := h.1; have e2 : a = _ := h'; rw [e1] at e2; cases e2
    | s m => have e1 : a = _ := h.1; have e2 : a = _ := h'.1; rw [e1] at e2; injection e2 with e3; rw [toS_inj e3]
    | t m => exact h'.elim
  | t n => exact h.elim
theorem kyR_fun {k : Ky} {a b : Key} (h : kyR k a) (h' : kyR k b) : a = b := by
  cases k with
  | i n => have e1 : a = _ := h; have e2 : b = _ := h'; rw [e1, e2]
  | s n => have e1 : a = _ := h.1; have e2 : b = _ := h'.1; rw [e1, e2]
  | t n => exact h.elim
theorem kyT_inj {k k' : Ky} {a : List Key} (h : kyT k a) (h' : kyT k' a) : k = k' := by
  cases k with
  | t xs =>
    cases k' with
    | t ys => rw [fkRs_inj h.1 h'.1]
    | _ => exact h'.elim
  | _ => exact h.elim
theorem kyT_fun {k : Ky} {a b : List Key} (h : kyT k a) (h' : kyT k b) : a = b := by
  cases k with
  | t xs => exact fkRs_fun h.1 h'.1
  | _ => exact h.elim

/-- a look-up on both sides -/
theorem repK_get {K : KF} : ∀ {kvs : List (Ky × D)} {ws : List (Key × V)} {k : Ky} {a : Key}, RepK K H kvs ws → kyR k a → (match dget kvs k with
    | some x => ∃ v, valV ws a = some v ∧ Rep K H x v
    | none => valV ws a = none)
  | [], ws, k, a, h, hk => by
    have e : ws = [] := by simpa only [RepK] using h
    subst e
    simp only [dget]
    rfl
  | (k', x) :: r, ws, k, a, h, hk => by
    simp only [RepK] at h
    obtain ⟨a', v, t, rfl, hk', hx, ht⟩ := h
    simp only [dget]
    by_cases e : k' = k
    · subst e
      have e2 : a' = a := kyR_fun hk' hk
      rw [if_pos rfl, valV_pos (p := (a', v)) e2]
      exact ⟨v, rfl, hx⟩
    · have e2 : ¬ a' = a := fun q => e (by subst q; exact kyR_inj hk' hk)
      rw [if_neg e, valV_neg (p := (a', v)) e2]
      exact repK_get ht hk
theorem repT_get {K : KF} : ∀ {kvs : List (Ky × D)} {ws : List (List Key × V)} {k : Ky} {a : List Key}, RepT K H kvs ws → kyT k a → (match dget kvs k with
    | some x => ∃ v, valV ws a = some v ∧ Rep K H x v
    | none => valV ws a = none)
  | [], ws, k, a, h, hk => by
    have e : ws = [] := by simpa only [RepT] using h
    subst e
    simp only [dget]
    rfl
  | (k', x) :: r, ws, k, a, h, hk => by
    simp only [RepT] at h
    obtain ⟨a', v, t, rfl, hk', hx, ht⟩ := h
    simp only [dget]
    by_cases e : k' = k
    · subst e
      have e2 : a' = a := kyT_fun hk' hk
      rw [if_pos rfl, valV_pos (p := (a', v)) e2]
      exact ⟨v, rfl, hx⟩
    · have e2 : ¬ a' = a := fun q => e (by subst q; exact kyT_inj hk' hk)
      rw [if_neg e, valV_neg (p := (a', v)) e2]
      exact repT_get ht hk
/-- a key of a text or a number is none of the dict's tuples -/
theorem repK_none {K : KF} : ∀ {kvs : List (Ky × D)} {ws : List (Key × V)} {xs : List (Sum Int (List Nat))}, RepK K H kvs ws → dget kvs (.t xs) = none
  | [], _, _, _ => rfl
  | (k', x) :: r, ws, xs, h => by
    simp only [RepK] at h
    obtain ⟨a', v, t, rfl, hk', hx, ht⟩ := h
    simp only [dget]
    rw [if_neg (by rintro rfl; exact hk'.elim)]
    exact repK_none ht

/-! ### keys -/
theorem keyFor_f {K : KF} {x : D} {k : Ky} {y : V} (hx : Rep K H x y) (ek : keyFor false x = some k) : ∃ a, kyR k a ∧ y = kV a := by
  unfold keyFor at ek
  cases x with
  | int n => cases ek; exact ⟨.inl n, rfl, hx.int_inv⟩
  | str z => cases ek; exact ⟨.inr (toS z), ⟨rfl, hx.str_inv.2⟩, hx.str_inv.1⟩
  | tup xs =>
    simp only [keyOf] at ek
    cases e : keysFlat xs with
    | none => rw [e] at ek; cases ek
    | some ks => rw [e] at ek; cases ek
  | _ => cases ek
theorem keyFor_t {K : KF} {x : D} {k : Ky} {y : V} (hx : Rep K H x y) (ek : keyFor true x = some k) : ∃ b as, kyT k as ∧ y = .ref b ∧ SqT K.1 H b (as.map kV) := by
  unfold keyFor at ek
  cases x with
  | int n => cases ek
  | str z => cases ek
  | tup xs =>
    simp only [keyOf] at ek
    cases e : keysFlat xs with
    | none => rw [e] at ek; cases ek
    | some ks =>
      rw [e] at ek
      cases ek
      simp only [Rep] at hx
      obtain ⟨b, vs, rfl, hs, hl, hr⟩ := hx
      obtain ⟨as, h1, rfl, h3⟩ := fkRs_flat hr e
      exact ⟨b, as, ⟨h1, by omega⟩, rfl, hs.sqT⟩
  | _ => cases ek
end
end Mini
set_option Elab.async false
set_option linter.all false
set_option maxRecDepth 100000
set_option maxHeartbeats 4000000
/- Mini: comparisons, dicts read, subscripts, slices, by values. Own work. -/
namespace Mini
open PySem PySem.Spec PyProof.Rows L2

section
variable {X : Cx} {pins : List (Addr × Obj)} {σ : L2.St} {H : Hp} {s : Shared} {a : Addr} {y : V} {u : Value} {A : Around} {E : Value → Shared → Prop}
/-- what a dict of data holds at a key, by the library's own words -/
theorem dk_in (hu : A.units + 1 < cLine) (I : Inv X pins σ H s) {ws : List (Key × V)} (hd : SqD (kf X) H a ws) {k : Key} (ry : RelV (kV k) u) {Q : Value → Shared → Prop} (h : ∀ s', Inv X pins σ H s' → Q (.bool (valV ws k).isSome) s') :
    wpAny (model X.prog X.w) A (compareOp .In u (.ref a)) Q E s := by
  obtain ⟨z, hd, vs, rel, dd⟩ := Inv.dk I hd
  refine wpAny_in_of (kV_is ry) hd dd.mapOf ?_
  rw [← (rel.val k).isSome_eq]
  exact h _ (I.tok _)
theorem dk_notIn (hu : A.units + 1 < cLine) (I : Inv X pins σ H s) {ws : List (Key × V)} (hd : SqD (kf X) H a ws) {k : Key} (ry : RelV (kV k) u) {Q : Value → Shared → Prop} (h : ∀ s', Inv X pins σ H s' → Q (.bool (!(valV ws k).isSome)) s') :
    wpAny (model X.prog X.w) A (compareOp .NotIn u (.ref a)) Q E s := by
  obtain ⟨z, hd, vs, rel, dd⟩ := Inv.dk I hd
  refine wpAny_notIn_of (kV_is ry) hd dd.mapOf ?_
  rw [← (rel.val k).isSome_eq]
  exact h _ (I.tok _)
theorem dk_getItem (I : Inv X pins σ H s) {ws : List (Key × V)} (hd : SqD (kf X) H a ws) {k : Key} {v : V} (ry : RelV (kV k) u) (hv : valV ws k = some v) {Q : Value → Shared → Prop} (h : ∀ w' s', Inv X pins σ H s' → RelV v w' → Q w' s') :
    wpAny (model X.prog X.w) A (getItem (.ref a) u) Q E s := by
  obtain ⟨z, hd, vs, rel, dd⟩ := Inv.dk I hd
  obtain ⟨w', hw, rw'⟩ := RelO.some_of (v := v) (o := valueAt vs k) (by rw [← hv]; exact rel.val k)
  exact wpAny_getItem_of (kV_is ry) dd.mapOf hw (h w' _ (I.tok _) rw')
theorem dt_in (hu : A.units + 1 < cLine) (I : Inv X pins σ H s) {ws : List (List Key × V)} (hd : Rd H a (.dT ws)) {b : Addr} {ks : List Key} (hb : SqT X.K H b (ks.map kV)) {Q : Value → Shared → Prop} (h : ∀ s', Inv X pins σ H s' → Q (.bool (valV ws ks).isSome) s') :
    wpAny (model X.prog X.w) A (compareOp .In (.ref b) (.ref a)) Q E s := by
  obtain ⟨z, hd, xs, rel, dd⟩ := dt_rd I.hok hd
  refine wpAny_in_heap (tupleKind_room_in1 hu) (Inv.tkey I hb) hd dd ?_
  have q := (rel.val ks).isSome_eq
  rw [Option.isSome_map] at q
  rw [← q]
  exact h _ (I.tok _)
theorem dt_notIn (hu : A.units + 1 < cLine) (I : Inv X pins σ H s) {ws : List (List Key × V)} (hd : Rd H a (.dT ws)) {b : Addr} {ks : List Key} (hb : SqT X.K H b (ks.map kV)) {Q : Value → Shared → Prop} (h : ∀ s', Inv X pins σ H s' → Q (.bool (!(valV ws ks).isSome)) s') :
    wpAny (model X.prog X.w) A (compareOp .NotIn (.ref b) (.ref a)) Q E s := by
  obtain ⟨z, hd, xs, rel, dd⟩ := dt_rd I.hok hd
  refine wpAny_notIn_heap (tupleKind_room_in1 hu) (Inv.tkey I hb) hd dd ?_
  have q := (rel.val ks).isSome_eq
  rw [Option.isSome_map] at q
  rw [← q]
  exact h _ (I.tok _)
theorem dt_getItem (hu : A.units + 1 < cLine) (I : Inv X pins σ H s) {ws : List (List Key × V)} (hd : Rd H a (.dT ws)) {b : Addr} {ks : List Key} {v : V} (hb : SqT X.K H b (ks.map kV)) (hv : valV ws ks = some v) {Q : Value → Shared → Prop}
    (h : ∀ w' s', Inv X pins σ H s' → RelV v w' → Q w' s') : wpAny (model X.prog X.w) A (getItem (.ref a) (.ref b)) Q E s := by
  obtain ⟨z, hd, xs, rel, dd⟩ := dt_rd I.hok hd
  obtain ⟨w', hw, rw'⟩ := RelO.some_of (v := v) (o := (atKey xs ks).map (·.2)) (by rw [← hv]; exact rel.val ks)
  obtain ⟨p, hp, hp2⟩ := Option.map_eq_some_iff.mp hw
  refine wpAny_getItem_heap (tupleKind_room_in1 hu) (Inv.tkey I hb) dd hp ?_
  rw [hp2]
  exact h w' _ (I.tok _) rw'
end

/-- what a dict holds: both sides -/
theorem dget_isSome {K : KF} {H : Hp} {kvs : List (Ky × D)} {ws : List (Key × V)} {k : Ky} {a : Key} (r : RepK K H kvs ws) (hk : kyR k a) : (valV ws a).isSome = (dget kvs k).isSome := by
  have q := repK_get r hk
  cases e : dget kvs k with
  | none => rw [e] at q; have q : valV ws a = none := q; rw [q]; rfl
  | some x => rw [e] at q; obtain ⟨v, q, _⟩ := q; rw [q]; rfl
theorem dget_isSomeT {K : KF} {H : Hp} {kvs : List (Ky × D)} {ws : List (List Key × V)} {k : Ky} {a : List Key} (r : RepT K H kvs ws) (hk : kyT k a) : (valV ws a).isSome = (dget kvs k).isSome := by
  have q := repT_get r hk
  cases e : dget kvs k with
  | none => rw [e] at q; have q : valV ws a = none := q; rw [q]; rfl
  | some x => rw [e] at q; obtain ⟨v, q, _⟩ := q; rw [q]; rfl
theorem dget_some {K : KF} {H : Hp} {kvs : List (Ky × D)} {ws : List (Key × V)} {k : Ky} {a : Key} {x : D} (r : RepK K H kvs ws) (hk : kyR k a) (e : dget kvs k = some x) : ∃ v, valV ws a = some v ∧ Rep K H x v := by
  have q := repK_get r hk
  rw [e] at q
  exact q
theorem dget_someT {K : KF} {H : Hp} {kvs : List (Ky × D)} {ws : List (List Key × V)} {k : Ky} {a : List Key} {x : D} (r : RepT K H kvs ws) (hk : kyT k a) (e : dget kvs k = some x) : ∃ v, valV ws a = some v ∧ Rep K H x v := by
  have q := repT_get r hk
  rw [e] at q
  exact q

theorem decB {a b : Bool} : (a == b) = decide (a = b) := by cases a <;> cases b <;> rfl

section
variable {X : Cx}
theorem top_isN {K : KF} {fz H : Hp} {p : D} {x : V} (h : Top K fz H p x) : decide (x = V.non) = isNon p := by
  cases p with
  | non => rw [Rep.non_inv (show Rep K fz .non x from h)]; rfl
  | bl b => rw [Rep.bl_inv (show Rep K fz (.bl b) x from h)]; rfl
  | int b => rw [Rep.int_inv (show Rep K fz (.int b) x from h)]; rfl
  | str b => rw [(Rep.str_inv (show Rep K fz (.str b) x from h)).1]; rfl
  | tup xs =>
    have h' := (show Rep K fz (.tup xs) x from h)
    simp only [Rep] at h'
    obtain ⟨a, vs, rfl, _⟩ := h'
    rfl
  | lst xs =>
    obtain ⟨a, vs, rfl, _⟩ := h
    rfl
  | dct t kvs =>
    cases t with
    | false => obtain ⟨a, vs, rfl, _⟩ := h; rfl
    | true => obtain ⟨a, vs, rfl, _⟩ := h; rfl

theorem reads_of {K : KF} {fz H : Hp} {p : D} {x : V} {pins : List (Addr × Obj)} {σ : L2.St} {s : Shared} {v : Value} (I : Inv X pins σ H s) (h : Top (kf X) fz H p x) (sub : Same fz H) (n : noDct p = true) (r : RelV x v) :
    (∃ as, Reads s.heap v (py p) as) ∧ (py p).canLay0 = true := by
  have h1 := h.rep sub
  exact ⟨Dp.reads I (py p) x v (py_dp p x n h1) r, py_lay p x n h1⟩

theorem op_cmp (hu : X.A.units + 65 < cLine) (o : Cmp) : OpR X (compareOp (copOf o)) (rB (kf X) (cmpV o)) := by
  intro pins s σ H x y v u Q I rx ry ⟨fz, fr, rho, h, p, q, k, st, tx, ty, g, hQ⟩
  have two_ints : ∀ {i j : Int}, p = .int i → q = .int j → x = .int i ∧ y = .int j := fun {i j} e1 e2 => by
    subst e1; subst e2
    exact ⟨(show Rep (kf X) fz (.int i) x from tx).int_inv, (show Rep (kf X) fz (.int j) y from ty).int_inv⟩
  -- membership
  have mem : ∀ (neg : Bool) (k0 : Bool), inD p q = some k0 → k = (if neg then !k0 else k0) → wpAny (model X.prog X.w) X.A (compareOp (if neg then .NotIn else .In) v u) (EP X pins σ Q) X.xe s := by
    intro neg k0 e ek
    cases q with
    | str ys =>
      obtain ⟨rfl, kb⟩ := (show Rep (kf X) fz (.str ys) y from ty).str_inv
      simp only [inD] at e
      split at e
      · rename_i c
        cases e
        obtain ⟨rfl, ka⟩ := (show Rep (kf X) fz (.str [c]) x from tx).str_inv
        have hc : ∀ b : Bool, b = decide (c ∈ ys) → ys.contains c = b := fun b e => by rw [e]; simp
        cases neg with
        | false =>
          refine op_in_sign pins s σ H _ _ v u Q I rx ry ⟨c, toS ys, rfl, rfl, ?_⟩
          rw [toS_cps]
          have e2 : k = decide (c ∈ ys) := by rw [ek]; simp
          rw [← e2]
          exact hQ
        | true =>
          refine op_notIn_sign pins s σ H _ _ v u Q I rx ry ⟨c, toS ys, rfl, rfl, ?_⟩
          rw [toS_cps]
          have e2 : k = !decide (c ∈ ys) := by rw [ek]; simp
          rw [← e2]
          exact hQ
      · cases e
    | tup ys =>
      simp only [inD] at e
      split at e
      · rename_i hc
        simp only [Bool.and_eq_true, decide_eq_true_eq] at hc
        cases e
        obtain ⟨⟨as, r1⟩, l1⟩ := reads_of (K := kf X) I tx st.sub hc.1.1 rx
        obtain ⟨⟨bs, r2⟩, l2⟩ := reads_of (K := kf X) I ty st.sub (by simp only [noDct]; exact hc.1.2) ry
        have hroom : X.A.units + 1 + min (PyData.depthAll (pys ys)) (py p).depth < cLine := by
          rw [pys_depth ys hc.1.2, py_depth p hc.1.1]
          have := hc.2
          omega
        simp only [py] at r2 l2
        have hany := pys_any p hc.1.1 ys hc.1.2
        cases neg with
        | false =>
          refine SeqAt.in_tuple_reads r2 r1 (by simpa [PyData.canLay0] using l2) l1 hroom ?_
          rw [hany]
          exact ⟨.bl _, H, I, rfl, by have e2 : k = _ := ek; simp only [Bool.false_eq_true, if_false] at e2; rw [← e2]; exact hQ⟩
        | true =>
          refine SeqAt.notIn_tuple_reads r2 r1 (by simpa [PyData.canLay0] using l2) l1 hroom ?_
          rw [hany]
          exact ⟨.bl _, H, I, rfl, by have e2 : k = _ := ek; simp only [if_true] at e2; rw [← e2]; exact hQ⟩
      · cases e
    | lst ys =>
      simp only [inD] at e
      split at e
      · rename_i hc
        simp only [Bool.and_eq_true, decide_eq_true_eq] at hc
        cases e
        obtain ⟨⟨as, r1⟩, l1⟩ := reads_of (K := kf X) I tx st.sub hc.1.1 rx
        obtain ⟨⟨bs, r2⟩, l2⟩ := reads_of (K := kf X) I ty st.sub (by simp only [noDct]; exact hc.1.2) ry
        have hroom : X.A.units + 1 + min (PyData.depthAll (pys ys)) (py p).depth < cLine := by
          rw [pys_depth ys hc.1.2, py_depth p hc.1.1]
          have := hc.2
          omega
        simp only [py] at r2 l2
        have hany := pys_any p hc.1.1 ys hc.1.2
        cases neg with
        | false =>
          refine SeqAt.in_list_reads r2 r1 (by simpa [PyData.canLay0] using l2) l1 hroom ?_
          rw [hany]
          exact ⟨.bl _, H, I, rfl, by have e2 : k = _ := ek; simp only [Bool.false_eq_true, if_false] at e2; rw [← e2]; exact hQ⟩
        | true =>
          refine SeqAt.notIn_list_reads r2 r1 (by simpa [PyData.canLay0] using l2) l1 hroom ?_
          rw [hany]
          exact ⟨.bl _, H, I, rfl, by have e2 : k = _ := ek; simp only [if_true] at e2; rw [← e2]; exact hQ⟩
      · cases e
    | dct t kvs =>
      simp only [inD] at e
      obtain ⟨ky, e1, e2⟩ := Option.map_eq_some_iff.mp e
      have hp := tx.rep st.sub
      have hu1 : X.A.units + 1 < cLine := by omega
      cases t with
      | false =>
        obtain ⟨a, ws, rfl, hd, hr⟩ := ty
        cases ry
        obtain ⟨a', h1, rfl⟩ := keyFor_f hp e1
        have e3 := dget_isSome (hr.mono st.sub) h1
        cases neg with
        | false =>
          refine dk_in hu1 I hd rx fun s' I' => ?_
          rw [e3, e2]
          exact ⟨.bl k0, H, I', rfl, by have e4 : k = _ := ek; simp only [Bool.false_eq_true, if_false] at e4; rw [← e4]; exact hQ⟩
        | true =>
          refine dk_notIn hu1 I hd rx fun s' I' => ?_
          rw [e3, e2]
          exact ⟨.bl (!k0), H, I', rfl, by have e4 : k = _ := ek; simp only [if_true] at e4; rw [← e4]; exact hQ⟩
      | true =>
        obtain ⟨a, ws, rfl, hd, hr⟩ := ty
        cases ry
        obtain ⟨b, ks, h1, rfl, hb⟩ := keyFor_t hp e1
        cases rx
        have e3 := dget_isSomeT (hr.mono st.sub) h1
        cases neg with
        | false =>
          refine dt_in hu1 I hd hb fun s' I' => ?_
          rw [e3, e2]
          exact ⟨.bl k0, H, I', rfl, by have e4 : k = _ := ek; simp only [Bool.false_eq_true, if_false] at e4; rw [← e4]; exact hQ⟩
        | true =>
          refine dt_notIn hu1 I hd hb fun s' I' => ?_
          rw [e3, e2]
          exact ⟨.bl (!k0), H, I', rfl, by have e4 : k = _ := ek; simp only [if_true] at e4; rw [← e4]; exact hQ⟩
    | _ => cases e
  cases o with
  | eq =>
    simp only [cmpV] at g
    split at g
    · rename_i hc
      simp only [Bool.and_eq_true, decide_eq_true_eq] at hc
      cases g
      obtain ⟨⟨as, r1⟩, l1⟩ := reads_of (K := kf X) I tx st.sub hc.1.1 rx
      obtain ⟨⟨bs, r2⟩, l2⟩ := reads_of (K := kf X) I ty st.sub hc.1.2 ry
      refine SeqAt.compareEq_reads r1 r2 l1 l2 (by rw [py_depth p hc.1.1, py_depth q hc.1.2]; have := hc.2; omega) ?_
      rw [py_eqv p q hc.1.1 hc.1.2]
      exact ⟨.bl _, H, I, rfl, hQ⟩
    · cases g
  | ne =>
    simp only [cmpV] at g
    split at g
    · rename_i hc
      simp only [Bool.and_eq_true, decide_eq_true_eq] at hc
      cases g
      obtain ⟨⟨as, r1⟩, l1⟩ := reads_of (K := kf X) I tx st.sub hc.1.1 rx
      obtain ⟨⟨bs, r2⟩, l2⟩ := reads_of (K := kf X) I ty st.sub hc.1.2 ry
      refine SeqAt.compareNe_reads r1 r2 l1 l2 (by rw [py_depth p hc.1.1, py_depth q hc.1.2]; have := hc.2; omega) ?_
      rw [py_eqv p q hc.1.1 hc.1.2]
      exact ⟨.bl _, H, I, rfl, hQ⟩
    · cases g
  | lt =>
    cases p <;> cases q <;> try (cases g; done)
    case int.int i j =>
      cases g
      obtain ⟨rfl, rfl⟩ := two_ints rfl rfl
      exact op_lt pins s σ H _ _ v u Q I rx ry ⟨i, j, rfl, rfl, hQ⟩
    case str.str a b =>
      cases g
      obtain ⟨rfl, ka⟩ := (show Rep (kf X) fz (.str a) x from tx).str_inv
      obtain ⟨rfl, kb⟩ := (show Rep (kf X) fz (.str b) y from ty).str_inv
      refine op_lt_str pins s σ H _ _ v u Q I rx ry ⟨_, _, rfl, rfl, ?_⟩
      rw [toS_cps, toS_cps, ← ltStr_eq]
      exact hQ
  | le =>
    cases p <;> cases q <;> try (cases g; done)
    case int.int i j =>
      cases g
      obtain ⟨rfl, rfl⟩ := two_ints rfl rfl
      exact op_le pins s σ H _ _ v u Q I rx ry ⟨i, j, rfl, rfl, hQ⟩
  | gt =>
    cases p <;> cases q <;> try (cases g; done)
    case int.int i j =>
      cases g
      obtain ⟨rfl, rfl⟩ := two_ints rfl rfl
      exact op_gt pins s σ H _ _ v u Q I rx ry ⟨i, j, rfl, rfl, hQ⟩
  | ge =>
    cases p <;> cases q <;> try (cases g; done)
    case int.int i j =>
      cases g
      obtain ⟨rfl, rfl⟩ := two_ints rfl rfl
      exact op_ge pins s σ H _ _ v u Q I rx ry ⟨i, j, rfl, rfl, hQ⟩
  | in_ => exact mem false k g rfl
  | nin =>
    obtain ⟨k0, e1, e2⟩ := Option.map_eq_some_iff.mp (show (inD p q).map (!·) = some k from g)
    exact mem true k0 e1 e2.symm
  | is_ =>
    have g : isD p q = some k := g
    cases q with
    | non =>
      cases g
      refine op_isN pins s σ H _ _ v u Q I rx ry ⟨(show Rep (kf X) fz .non y from ty).non_inv, ?_⟩
      rw [top_isN tx]
      exact hQ
    | bl b =>
      cases p <;> try (cases g; done)
      case bl =>
        cases g
        refine op_isBl pins s σ H _ _ v u Q I rx ry ⟨_, b, (show Rep (kf X) fz (.bl _) x from tx).bl_inv, (show Rep (kf X) fz (.bl b) y from ty).bl_inv, ?_⟩
        rw [← decB]
        exact hQ
    | _ => cases g
  | isn =>
    obtain ⟨k0, g, e2⟩ := Option.map_eq_some_iff.mp (show (isD p q).map (!·) = some k from g)
    cases q with
    | non =>
      cases g
      refine op_notN pins s σ H _ _ v u Q I rx ry ⟨(show Rep (kf X) fz .non y from ty).non_inv, ?_⟩
      rw [top_isN tx, e2]
      exact hQ
    | bl b =>
      cases p <;> try (cases g; done)
      case bl =>
        cases g
        refine op_notBl pins s σ H _ _ v u Q I rx ry ⟨_, b, (show Rep (kf X) fz (.bl _) x from tx).bl_inv, (show Rep (kf X) fz (.bl b) y from ty).bl_inv, ?_⟩
        rw [← decB, e2]
        exact hQ
    | _ => cases g

/-! ### subscripts -/
theorem place_ix (n : Nat) (i : Int) : place n i = ixN n i := rfl
theorem at_rep {K : KF} {H : Hp} {xs : List D} {vs : List V} {i : Int} {z : D} (r : RepL K H xs vs) (e : atD xs i = some z) : ∃ v, atI vs i = some v ∧ Rep K H z v := by
  unfold atD at e
  unfold atI
  rw [r.length, ← place_ix]
  cases h : place xs.length i with
  | none => rw [h] at e; cases e
  | some j =>
    rw [h] at e
    have e : xs[j]? = some z := e
    obtain ⟨v, h1, h2⟩ := r.get e
    exact ⟨v, h1, h2⟩
theorem rep_str1 {K : KF} {H : Hp} {x : List Nat} {c : Nat} (hx : okS x = true) (hc : c ∈ x) : Rep K H (.str [c]) (.str ⟨#[c]⟩) := rep_str (okS_mk (by rw [List.length_singleton]; decide) fun d hd => by rw [List.mem_singleton] at hd; subst hd; exact okS_all hx d hc)

/-- o[i]: two operands whose answer stands already -/
def rX (K : KF) (G : D → D → Option D) : R2 := fun x y H Q => ∃ fz fr rho h p q r, StH K fz fr rho h H ∧ Top K fz H p x ∧ Top K fz H q y ∧ G p q = some r ∧ ∀ v, Rep K fz r v → Q v H
theorem ix_val (hu : X.A.units + 1 < cLine) : IxR X (rX (kf X) idxV) := by
  intro value slice pins s σ H x y v u Q I rx ry ⟨fz, fr, rho, h, p, q, r, st, tx, ty, g, hQ⟩ hs
  cases p with
  | lst xs =>
    cases q <;> try (cases g; done)
    case int i =>
      obtain rfl := (show Rep (kf X) fz (.int i) y from ty).int_inv
      obtain ⟨a, vs, rfl, ha, hl, hr⟩ := tx
      obtain ⟨z, h1, h2⟩ := at_rep hr g
      exact ix_list value slice pins s σ H _ _ v u Q I rx ry ⟨a, vs, i, z, rfl, rfl, ha, h1, hQ z h2⟩ hs
  | tup xs =>
    cases q <;> try (cases g; done)
    case int i =>
      obtain rfl := (show Rep (kf X) fz (.int i) y from ty).int_inv
      simp only [Top, Rep] at tx
      obtain ⟨a, vs, rfl, ha, hl, hr⟩ := tx
      obtain ⟨z, h1, h2⟩ := at_rep hr g
      exact ix_tup value slice pins s σ H _ _ v u Q I rx ry ⟨a, vs, i, z, rfl, rfl, SqP.at (K := kf X) st.sub ha, h1, hQ z h2⟩ hs
  | str xs =>
    cases q <;> try (cases g; done)
    case int i =>
      obtain rfl := (show Rep (kf X) fz (.int i) y from ty).int_inv
      obtain ⟨rfl, hx⟩ := (show Rep (kf X) fz (.str xs) x from tx).str_inv
      obtain ⟨c, e1, e2⟩ := Option.map_eq_some_iff.mp (show (atD xs i).map (fun c => D.str [c]) = some r from g)
      subst e2
      have e3 : atI (toS xs).cps.toList i = some c := by rw [toS_cps]; exact e1
      have hc : c ∈ xs := by
        unfold atD at e1
        cases hp : place xs.length i with
        | none => rw [hp] at e1; cases e1
        | some j => rw [hp] at e1; exact List.mem_of_getElem? (show xs[j]? = some c from e1)
      exact ix_str value slice pins s σ H _ _ v u Q I rx ry ⟨toS xs, i, c, rfl, rfl, okS_line hx, e3, hQ _ (rep_str1 hx hc)⟩ hs
  | dct t kvs =>
    obtain ⟨ky, e1, e2⟩ := Option.bind_eq_some_iff.mp (show (keyFor t q).bind (fun k => dget kvs k) = some r from g)
    have hp := ty.rep st.sub
    cases t with
    | false =>
      obtain ⟨a, ws, rfl, hd, hr⟩ := tx
      cases rx
      obtain ⟨a', h1, rfl⟩ := keyFor_f hp e1
      obtain ⟨z, h2, h3⟩ := dget_some hr h1 e2
      have hT : s.TypeIs (.ref a) "dict" := by
        obtain ⟨_, _, vs, _, dd⟩ := Inv.dk I hd
        exact dd.typeIs
      exact tail_any hT slot_dict_getitem.lookup (dk_getItem I hd ry h2 fun w' s' I' rw' => ⟨z, H, I', rw', hQ z h3⟩) hs
    | true =>
      obtain ⟨a, ws, rfl, hd, hr⟩ := tx
      cases rx
      obtain ⟨b, ks, h1, rfl, hb⟩ := keyFor_t hp e1
      cases ry
      obtain ⟨z, h2, h3⟩ := dget_someT hr h1 e2
      have hT : s.TypeIs (.ref a) "dict" := by
        obtain ⟨_, _, vs, _, dd⟩ := dt_rd I.hok hd
        exact dd.typeIs
      exact tail_any hT slot_dict_getitem.lookup (dt_getItem hu I hd hb h2 fun w' s' I' rw' => ⟨z, H, I', rw', hQ z h3⟩) hs
  | _ => cases g

/-! ### slices -/
theorem cutIx_ix (n d : Nat) (o : Option Int) : cutIx n d o = HT.sIx n d o := by cases o <;> rfl
theorem cut_rep {K : KF} {H : Hp} {xs : List D} {vs : List V} (lo hi : Option Int) (r : RepL K H xs vs) : RepL K H (cut xs lo hi) (cutV vs lo hi) := by
  unfold cut cutV
  rw [r.length, ← cutIx_ix, ← cutIx_ix]
  exact (r.drop _).take _
theorem cut_le {α : Type} (xs : List α) (lo hi : Option Int) : (cut xs lo hi).length ≤ xs.length := by
  unfold cut
  rw [List.length_take, List.length_drop]
  omega
theorem cut_whole {α : Type} {xs : List α} {lo hi : Option Int} (h : cutIx xs.length 0 lo = 0 ∧ cutIx xs.length xs.length hi = xs.length) : cut xs lo hi = xs := by
  unfold cut
  rw [h.1, h.2]
  simp
def rSlP (K : PySem.W.Frag) : V → Option Int → Option Int → Hp → VK → Prop := fun x lo hi H Q => ∃ a xs, x = .ref a ∧ SqT K H a xs ∧
  (HT.sIx xs.length 0 lo = 0 ∧ HT.sIx xs.length xs.length hi = xs.length → Q (.ref a) H) ∧ (∀ p o, H p = none → o.dict = none → Q (.ref p) (upd H p (.frz o (.tup (cutV xs lo hi)))))
theorem sl_tupP : SlR X (rSlP X.K) := by
  intro pins s σ H x v vl vu lo hi sl Q I rx hs pl pu h
  obtain ⟨a, xs, rfl, hx, q1, q2⟩ := h
  cases rx
  obtain ⟨its, r, ht, hz⟩ := I.tuple hx
  have hlen : its.toArray.size = xs.length := by rw [List.size_toArray]; exact r.length.symm
  refine ⟨"tuple", _, PyProof.Rows.slot_tuple_getitem.lookup, ht.typeIs, ?_⟩
  by_cases hw : HT.sIx xs.length 0 lo = 0 ∧ HT.sIx xs.length xs.length hi = xs.length
  · exact getItem_tuple_whole ht hs pl pu (by rw [hlen]; exact hw) ⟨.ref a, H, I, rfl, q1 hw⟩
  · refine HT.getItem_tuple_cut ht hs pl pu (by rw [hlen]; exact hw) ?_ (by rw [hlen]; exact hz)
    rw [hlen]
    exact invTup I ((r.drop (HT.sIx xs.length 0 lo)).take (HT.sIx xs.length xs.length hi - HT.sIx xs.length 0 lo)) (Nat.le_trans (cutV_length xs lo hi) hz) q2
def rS (K : KF) : V → Option Int → Option Int → Hp → VK → Prop := fun x lo hi H Q => ∃ fz fr rho h p r, StH K fz fr rho h H ∧ Top K fz H p x ∧ sliV p lo hi = some r ∧ ∀ fz' v H', Same fz fz' → StH K fz' fr rho h H' → ResR K fz' fr rho h H' r v → Q v H'
theorem sl_val : SlR X (rS (kf X)) := by
  intro pins s σ H x v vl vu lo hi sl Q I rx hs pl pu ⟨fz, fr, rho, h, p, r, st, tx, g, hQ⟩
  cases p with
  | lst xs =>
    cases g
    obtain ⟨a, vs, rfl, ha, hl, hr⟩ := tx
    refine sl_list pins s σ H _ v vl vu lo hi sl Q I rx hs pl pu ⟨a, vs, rfl, ha, fun p hp => ?_⟩
    obtain ⟨st', r'⟩ := st.newLst (cut_rep lo hi hr) (Nat.le_trans (cut_le _ _ _) hl) hp
    exact hQ _ _ _ (Same.refl _) st' r'
  | tup xs =>
    cases g
    have tx' := tx
    simp only [Top, Rep] at tx'
    obtain ⟨a, vs, rfl, ha, hl, hr⟩ := tx'
    refine sl_tupP pins s σ H _ v vl vu lo hi sl Q I rx hs pl pu ⟨a, vs, rfl, SqP.at (K := kf X) st.sub ha, fun e => ?_, fun p o hp ho => ?_⟩
    · rw [hr.length, ← cutIx_ix, ← cutIx_ix] at e
      refine hQ _ _ _ (Same.refl _) st ?_
      rw [cut_whole e]
      exact tx
    · obtain ⟨s1, st', r'⟩ := st.newTup (cut_rep lo hi hr) (Nat.le_trans (cut_le _ _ _) hl) hp ho
      exact hQ _ _ _ s1 st' r'
  | str xs =>
    cases g
    obtain ⟨rfl, hx⟩ := (show Rep (kf X) fz (.str xs) x from tx).str_inv
    refine sl_str pins s σ H _ v vl vu lo hi sl Q I rx hs pl pu ⟨toS xs, rfl, okS_line hx, ?_⟩
    have e : cutS (toS xs) lo hi = toS (cut xs lo hi) := by
      unfold cutS cut
      rw [toS_cps, toS_len, cutIx_ix, cutIx_ix]
      rfl
    rw [e]
    refine hQ _ _ _ (Same.refl _) st (res_str (okS_mk (Nat.le_trans (cut_le _ _ _) (okS_len hx)) fun c hc => okS_all hx c ?_))
    exact List.mem_of_mem_drop (List.mem_of_mem_take hc)
  | _ => cases g
end
end Mini
set_option Elab.async false
set_option linter.all false
set_option maxRecDepth 100000
set_option maxHeartbeats 4000000
/- Mini: t[::-1]. Own work. -/
namespace Mini
open PySem PySem.Spec PyProof.Rows L2

section
variable {prog : Program} {w : World} {A : Around} {E : Value → Shared → Prop} {s : Shared}
theorem places_rev (n : Nat) : Builtin.Slice.slicePlaces ((n : Int) - 1) (-1) (-1) = n := by
  unfold Builtin.Slice.slicePlaces
  have h1 : ¬ ((-1 : Int) > 0) := by decide
  have h2 : (- -1 : Int) = 1 := by decide
  simp only [h1, if_false, h2, Int.ediv_one]
  split <;> omega
theorem sliceApplied_rev {sl : Addr} {t : Tok} {n : Nat} {Q : Int × Int × Nat → Shared → Prop} (hs : s.heap.IsSliceOf sl .none .none (.int (-1) t)) (h : Q ((n : Int) - 1, -1, n) s) :
    wpAny (model prog w) A (Builtin.Slice.sliceApplied (.ref sl) (pure (n : Int))) Q E s := by
  obtain ⟨os, hos, hcs, hds⟩ := id hs
  unfold Builtin.Slice.sliceApplied Builtin.Slice.sliceFields
  refine wpAny_bind (wpAny_bind (wpAny_field hos hds (x := .none) rfl (wpAny_bind (wpAny_field hos hds (x := .none) rfl (wpAny_bind (wpAny_field hos hds (x := .int (-1) t) rfl (wpAny_pure ?_)))))))
  refine wpAny_bind (slicePart_int ?_)
  show wpAny _ _ (if ((-1 : Int) == 0) = true then _ else _) _ _ s
  rw [if_neg (by decide)]
  refine wpAny_bind (slicePart_none (wpAny_bind (slicePart_none (wpAny_bind (wpAny_pure ?_)))))
  show wpAny _ _ (match Builtin.Slice.sliceAdjust none none (-1) (n : Int) with | (lo, hi) => pure (lo, (-1 : Int), Builtin.Slice.slicePlaces lo hi (-1))) _ _ s
  show wpAny _ _ (pure ((n : Int) - 1, (-1 : Int), Builtin.Slice.slicePlaces ((n : Int) - 1) (-1) (-1))) _ _ s
  rw [places_rev]
  exact wpAny_pure h
theorem fm_congr {α β : Type} {f g : α → Option β} : ∀ {l : List α}, (∀ a ∈ l, f a = g a) → l.filterMap f = l.filterMap g
  | [], _ => rfl
  | a :: l, h => by rw [List.filterMap_cons, List.filterMap_cons, h a List.mem_cons_self, fm_congr fun b hb => h b (List.mem_cons_of_mem _ hb)]
theorem pick_rev (xs : Array Value) : ((List.range xs.size).filterMap fun (m : Nat) => xs[(((xs.size : Int) - 1) + (m : Int) * (-1)).toNat]?).toArray = xs.toList.reverse.toArray := by
  have e : (List.range xs.size).filterMap (fun (m : Nat) => xs[(((xs.size : Int) - 1) + (m : Int) * (-1)).toNat]?) = ((List.range xs.size).map fun m => xs.size - 1 - m).filterMap (xs[·]?) := by
    rw [List.filterMap_map]
    refine fm_congr fun m hm => ?_
    have := List.mem_range.mp hm
    have e : ((xs.size : Int) - 1 + (m : Int) * -1).toNat = xs.size - 1 - m := by omega
    show xs[((xs.size : Int) - 1 + (m : Int) * -1).toNat]? = xs[xs.size - 1 - m]?
    rw [e]
  rw [e, PySem.W.krv_range, List.filterMap_reverse, PySem.W.krv_all]
theorem getItem_tuple_rev {t sl : Addr} {items : Array Value} {tk : Tok} {Q : Value → Shared → Prop} (ht : IsTup s.heap t items) (hs : s.heap.IsSliceOf sl .none .none (.int (-1) tk))
    (h : Q (.ref s.heap.objs.size) { s with heap := s.heap.push { cls := .type "tuple", data := .seq items.toList.reverse.toArray } })
    (hsz : items.size ≤ sizeLine) : wpAny (model prog w) A (getItem (.ref t) (.ref sl)) Q E s := by
  have htake : sizeOk (.seq items.toList.reverse.toArray) := by
    show items.toList.reverse.toArray.size ≤ sizeLine
    rw [List.size_toArray, List.length_reverse, Array.length_toList]
    exact hsz
  obtain ⟨os, hos, hcs, hds⟩ := id hs
  have hTs : s.TypeIs (.ref sl) "slice" := ⟨os, hos, hcs⟩
  unfold getItem
  try with_reducible refine wpAny_holding ?_
  first | refine wpAny_bind (wpAny_pure ?_) | skip
  refine wpAny_bind (wpAny_sequenceKey ht.typeIs (by decide) ?_)
  refine wpAny_bind (wpAny_callSpecial?_slot (name := Str.ofString "__getitem__") ht.typeIs PyProof.Rows.slot_tuple_getitem
    (wpAny_call_entry PyProof.Rows.slot_tuple_getitem ht.typeIs entry_tuple_getitem ?_ (args_tuple_getitem _ _)))
  show wpAny _ _ (Builtin.Tuple.tupleItemsOf (.ref t) >>= _) _ _ s
  refine wpAny_bind (tupleItemsOf_ ht ?_)
  refine wpAny_bind (wpAny_typeOf hTs ?_)
  rw [if_pos (by decide)]
  refine wpAny_bind (sliceApplied_rev hs ?_)
  have hno : ¬ ((((items.size : Int) - 1) == 0 && (-1 : Int) == 1 && items.size == items.size) = true) := by
    intro q
    rw [Bool.and_eq_true, Bool.and_eq_true] at q
    exact absurd q.1.2 (by decide)
  show wpAny _ _ (if (((items.size : Int) - 1) == 0 && (-1 : Int) == 1 && items.size == items.size) = true then _ else _) _ _ s
  rw [if_neg hno, pick_rev]
  first
    | exact wpAny_bind (m := Builtin.Tuple.tupleExact _) (wpAny_newObj_type (wpAny_pure ⟨_, rfl, wpAny_pure h⟩) htake)
    | exact wpAny_bind (m := Builtin.Tuple.tupleExact _) (wpAny_newObj_type (wpAny_bind (wpAny_pure (wpAny_pure ⟨_, rfl, wpAny_pure h⟩))) htake)
    | exact wpAny_bind (wpAny_bind (m := Builtin.Tuple.tupleExact _) (wpAny_newObj_type (wpAny_pure (wpAny_pure ⟨_, rfl, wpAny_pure h⟩)) htake))
    | exact wpAny_bind (wpAny_bind (m := Builtin.Tuple.tupleExact _) (wpAny_newObj_type (wpAny_pure ⟨_, rfl, wpAny_pure h⟩) htake))
end

section
variable {X : Cx}
def tRev (K : PySem.W.Frag) (te : TE) : TE := fun σ H Q => te σ H fun x H1 => (∃ a xs, x = .ref a ∧ SqL K H1 a xs ∧ ∀ p, H1 p = none → Q (.ref p) (upd H1 p (.lst xs.reverse))) ∨
  (∃ a xs, x = .ref a ∧ SqT K H1 a xs ∧ ∀ p o, H1 p = none → o.dict = none → Q (.ref p) (upd H1 p (.frz o (.tup xs.reverse))))
theorem pe_rev {e : Expr} {te : TE} {k : Nat} {p1 p2 p3 pos : Pos} (he : PE X e te) : PE X (.Subscript e (.Slice none none (some (.UnaryOp .USub (.Constant (.int 1) k p1) p2)) p3) pos) (tRev X.K te) := by
  refine ⟨fun pins s σ H Q I h => ?_⟩
  refine Subscript_ (thn (he.run pins s σ H _ I h) fun v s1 ⟨x, H1, I1, r1, q1⟩ => ?_)
  have hst : PO X (some (.UnaryOp .USub (.Constant (.int 1) k p1) p2)) (tPart (tUn (rU fun i => .int (-i)) (tC (.int 1)))) := po_some (pe_un un_neg pe_int)
  refine wpAny_Slice (thn (po_none.run pins s1 σ H1 (fun o H2 => o = none ∧ H2 = H1) I1 ⟨rfl, rfl⟩) fun vl s2 ⟨l, H2, I2, pl, el, e2⟩ => ?_)
  subst el e2
  refine thn (po_none.run pins s2 σ H2 (fun o H3 => o = none ∧ H3 = H2) I2 ⟨rfl, rfl⟩) fun vu s3 ⟨u, H3, I3, pu, eu, e3⟩ => ?_
  subst eu e3
  refine thn (hst.run pins s3 σ H3 (fun o H4 => o = some (-1) ∧ H4 = H3) I3 ⟨1, rfl, -1, rfl, rfl, rfl⟩) fun vs s4 ⟨o, H4, I4, ps, eo, e4⟩ => ?_
  subst eo e4
  have I5 : Inv X pins σ H4 { s4 with heap := s4.heap.push { cls := .type "slice", data := .fields #[vl, vu, vs] } } := I4.kept (t' := s4.toks) fun b ob q => Heap.get?_push_of_some _ q
  rcases q1 with ⟨a, xs, ex, hx, q⟩ | ⟨a, xs, ex, hx, q⟩
  · subst ex
    cases r1
    obtain ⟨its, r, ht, hz⟩ := I5.list hx
    have hlen := r.length
    show wpAny (model X.prog X.w) X.A (subscriptTail e (.Slice none none (some (.UnaryOp .USub (.Constant (.int 1) k p1) p2)) p3) (.ref a) (.ref s4.heap.objs.size)) (EP X pins σ Q) X.xe { s4 with heap := s4.heap.push { cls := .type "slice", data := .fields #[vl, vu, vs] } }
    refine tail_any (ops := [.ref a, .ref s4.heap.objs.size]) ht.isList.typeIs (PySem.slot_list_getitem.lookup) ?_ (by with_unfolding_all rfl)
    refine wpAny_getItem_list_slice ht.isList (Heap.IsSliceOf.new _ vl vu vs) pl pu ps (by decide) ?_ (by rw [List.size_toArray]; omega)
    rw [PySem.W.krv_pick]
    refine ⟨.ref _, _, I5.laid (t' := s4.toks) (o := .lst xs.reverse) (fun b ob q => Heap.get?_push_of_some _ q) (Nat.le_refl _) ?_, rfl, q _ (I5.hok.fresh (Nat.le_refl _))⟩
    exact ⟨by rw [List.length_reverse]; exact hz, _, 0, r.reverse, Heap.get?_push_size _ rfl⟩
  · subst ex
    cases r1
    obtain ⟨its, r, ht, hz⟩ := I5.tuple hx
    have hlen := r.length
    cases pl
    cases pu
    cases ps with
    | int i t =>
    show wpAny (model X.prog X.w) X.A (subscriptTail e (.Slice none none (some (.UnaryOp .USub (.Constant (.int 1) k p1) p2)) p3) (.ref a) (.ref s4.heap.objs.size)) (EP X pins σ Q) X.xe { s4 with heap := s4.heap.push { cls := .type "slice", data := .fields #[.none, .none, .int (-1) t] } }
    refine tail_any (ops := [.ref a, .ref s4.heap.objs.size]) ht.typeIs (PyProof.Rows.slot_tuple_getitem.lookup) ?_ (by with_unfolding_all rfl)
    refine getItem_tuple_rev ht (Heap.IsSliceOf.new _ .none .none (.int (-1) t)) ?_ (by rw [List.size_toArray]; omega)
    exact invTup I5 r.reverse (by rw [List.length_reverse]; exact hz) q
end
end Mini
set_option Elab.async false
set_option linter.all false
set_option maxRecDepth 100000
set_option maxHeartbeats 4000000
/- Mini: built-in functions, by values. Own work. -/
namespace Mini
open PySem PySem.Spec PyProof.Rows L2

def Tops (K : KF) (fz H : Hp) : List D → List V → Prop
  | [], vs => vs = []
  | d :: ds, vs => ∃ v t, vs = v :: t ∧ Top K fz H d v ∧ Tops K fz H ds t
theorem views_tops {K : KF} {fz fr : Hp} {rho : List Addr} {h : Heap} {H : Hp} (st : StH K fz fr rho h H) : ∀ {rs : List RV} {vs : List V} {ds : List D}, RepRs K fz rho rs vs → views h rs = some ds → Tops K fz H ds vs
  | [], vs, ds, r, e => by
    simp only [views] at e
    cases e
    exact r
  | r :: rs, vs, ds, ⟨v, t, e1, h1, h2⟩, e => by
    simp only [views] at e
    cases ex : view h r with
    | none => rw [ex] at e; cases e
    | some a =>
      cases ey : views h rs with
      | none => rw [ex, ey] at e; cases e
      | some b =>
        rw [ex, ey] at e
        cases e
        exact ⟨v, t, e1, view_top st h1 ex, views_tops st h2 ey⟩

/-- a built-in function's reading -/
def rBi (K : KF) (f : List D → Option RV) : List V → Hp → VK → Prop := fun vs H Q => ∃ fz fr rho h ds r, StH K fz fr rho h H ∧ Tops K fz H ds vs ∧ f ds = some r ∧
  ∀ fz' v H', Same fz fz' → StH K fz' fr rho h H' → ResR K fz' fr rho h H' r v → Q v H'

section
variable {K : KF} {fz fr : Hp} {rho : List Addr} {h : Heap} {H : Hp}
theorem Tops.one {x : D} {vs : List V} (t : Tops K fz H [x] vs) : ∃ v, vs = [v] ∧ Top K fz H x v := by
  obtain ⟨v, t, e, h1, h2⟩ := t
  have h2 : t = [] := h2
  subst h2
  exact ⟨v, e, h1⟩
theorem Tops.two {x y : D} {vs : List V} (t : Tops K fz H [x, y] vs) : ∃ v u, vs = [v, u] ∧ Top K fz H x v ∧ Top K fz H y u := by
  obtain ⟨v, t, e, h1, h2⟩ := t
  obtain ⟨u, e2, h3⟩ := Tops.one h2
  subst e2
  exact ⟨v, u, e, h1, h3⟩
theorem Top.int {i : Int} {v : V} (t : Top K fz H (.int i) v) : v = .int i := Rep.int_inv (show Rep K fz (.int i) v from t)
theorem Top.str {i : List Nat} {v : V} (t : Top K fz H (.str i) v) : v = .str (toS i) ∧ okS i = true := Rep.str_inv (show Rep K fz (.str i) v from t)
theorem Top.lst {xs : List D} {v : V} (t : Top K fz H (.lst xs) v) : ∃ a vs, v = .ref a ∧ SqL K.1 H a vs ∧ xs.length ≤ LINE ∧ RepL K fz xs vs := t
theorem Top.tup {xs : List D} {v : V} (sub : Same fz H) (t : Top K fz H (.tup xs) v) : ∃ a vs, v = .ref a ∧ SqP K fz a vs ∧ SqT K.1 H a vs ∧ xs.length ≤ LINE ∧ RepL K fz xs vs := by
  have t' := (show Rep K fz (.tup xs) v from t)
  simp only [Rep] at t'
  obtain ⟨a, vs, e, h1, h2, h3⟩ := t'
  exact ⟨a, vs, e, h1, SqP.at sub h1, h2, h3⟩
theorem ints_rep : ∀ {xs : List D} {ns : List Int} {vs : List V}, RepL K H xs vs → intsOf xs = some ns → vs = ns.map V.int
  | [], ns, vs, r, e => by
    simp only [intsOf] at e
    cases e
    exact r.nil_inv
  | x :: xs, ns, vs, r, e => by
    obtain ⟨v, t, e1, h1, h2⟩ := r.cons_inv
    subst e1
    cases x <;> simp only [intsOf] at e <;> try (cases e; done)
    case int i =>
      obtain ⟨ms, e2, e3⟩ := Option.map_eq_some_iff.mp e
      subst e3
      rw [Rep.int_inv h1, List.map_cons, ints_rep h2 e2]
theorem bls_rep : ∀ {xs : List D} {ns : List Bool} {vs : List V}, RepL K H xs vs → blsOf xs = some ns → vs = ns.map V.bl
  | [], ns, vs, r, e => by
    simp only [blsOf] at e
    cases e
    exact r.nil_inv
  | x :: xs, ns, vs, r, e => by
    obtain ⟨v, t, e1, h1, h2⟩ := r.cons_inv
    subst e1
    cases x <;> simp only [blsOf] at e <;> try (cases e; done)
    case bl i =>
      obtain ⟨ms, e2, e3⟩ := Option.map_eq_some_iff.mp e
      subst e3
      rw [Rep.bl_inv h1, List.map_cons, bls_rep h2 e2]
theorem strs_rep : ∀ {xs : List D} {ns : List (List Nat)} {vs : List V}, RepL K H xs vs → strsOf xs = some ns → vs = (ns.map toS).map V.str ∧ ∀ x ∈ ns, okS x = true
  | [], ns, vs, r, e => by
    simp only [strsOf] at e
    cases e
    exact ⟨r.nil_inv, fun x hx => absurd hx (by simp)⟩
  | x :: xs, ns, vs, r, e => by
    obtain ⟨v, t, e1, h1, h2⟩ := r.cons_inv
    subst e1
    cases x <;> simp only [strsOf] at e <;> try (cases e; done)
    case str i =>
      obtain ⟨ms, e2, e3⟩ := Option.map_eq_some_iff.mp e
      subst e3
      obtain ⟨e4, k⟩ := strs_rep h2 e2
      obtain ⟨e5, k5⟩ := Rep.str_inv h1
      refine ⟨by rw [e5, e4]; rfl, fun y hy => ?_⟩
      rcases List.mem_cons.mp hy with rfl | hy
      · exact k5
      · exact k y hy
theorem rep_ints : ∀ (ns : List Int), RepL K H (ns.map D.int) (ns.map V.int)
  | [] => .nil
  | n :: ns => .cons rep_int (rep_ints ns)
theorem rep_strs : ∀ (ns : List (List Nat)), (∀ x ∈ ns, okS x = true) → RepL K H (ns.map D.str) ((ns.map toS).map V.str)
  | [], _ => .nil
  | n :: ns, h => .cons (rep_str (h n List.mem_cons_self)) (rep_strs ns fun x hx => h x (List.mem_cons_of_mem _ hx))
end

/-! ### sorting -/
section
variable {α : Type} {lt : α → α → Bool}
theorem insBy_perm (x : α) : ∀ l : List α, (insBy lt x l).Perm (x :: l)
  | [] => .refl _
  | y :: r => by
    unfold insBy
    split
    · exact .refl _
    · exact ((insBy_perm x r).cons y).trans (List.Perm.swap x y r)
theorem sortBy_perm : ∀ l : List α, (sortBy lt l).Perm l
  | [] => .refl _
  | x :: r => (insBy_perm x _).trans ((sortBy_perm r).cons x)
/-- not less the other way -/
abbrev NL (lt : α → α → Bool) (a b : α) : Prop := lt b a = false
theorem insBy_sorted (asym : ∀ a b, lt a b = true → lt b a = false) (tr : ∀ a b c, NL lt a b → NL lt b c → NL lt a c) (x : α) : ∀ {l : List α}, l.Pairwise (NL lt) → (insBy lt x l).Pairwise (NL lt)
  | [], _ => by simp [insBy]
  | y :: r, p => by
    rw [List.pairwise_cons] at p
    unfold insBy
    split
    · rename_i hlt
      refine List.pairwise_cons.mpr ⟨fun z hz => ?_, List.pairwise_cons.mpr p⟩
      rcases List.mem_cons.mp hz with rfl | hz
      · exact asym _ _ hlt
      · exact tr _ _ _ (asym _ _ hlt) (p.1 z hz)
    · rename_i hlt
      refine List.pairwise_cons.mpr ⟨fun z hz => ?_, insBy_sorted asym tr x p.2⟩
      rcases List.mem_cons.mp ((insBy_perm x r).mem_iff.mp hz) with rfl | hz
      · simpa using hlt
      · exact p.1 z hz
theorem sortBy_sorted (asym : ∀ a b, lt a b = true → lt b a = false) (tr : ∀ a b c, NL lt a b → NL lt b c → NL lt a c) : ∀ l : List α, (sortBy lt l).Pairwise (NL lt)
  | [] => .nil
  | x :: r => insBy_sorted asym tr x (sortBy_sorted asym tr r)
/-- sorted, in one way only -/
theorem sortBy_unique (asym : ∀ a b, lt a b = true → lt b a = false) (tr : ∀ a b c, NL lt a b → NL lt b c → NL lt a c) (anti : ∀ a b, NL lt a b → NL lt b a → a = b) {l l' : List α} (hp : l'.Perm l) (hs : l'.Pairwise (NL lt)) : l' = sortBy lt l :=
  List.Perm.eq_of_pairwise (le := NL lt) (fun a b _ _ => anti a b) hs (sortBy_sorted asym tr l) (hp.trans (sortBy_perm l).symm)
end
theorem sortInt_unique {l l' : List Int} (hp : l'.Perm l) (hs : l'.Pairwise (· ≤ ·)) : l' = sortBy (fun a b => decide (a < b)) l := by
  refine sortBy_unique (fun a b h => ?_) (fun a b c h1 h2 => ?_) (fun a b h1 h2 => ?_) hp (hs.imp fun {a b} h => ?_)
  · simp only [decide_eq_true_eq, decide_eq_false_iff_not] at *; omega
  · simp only [NL, decide_eq_false_iff_not] at *; omega
  · simp only [NL, decide_eq_false_iff_not] at *; omega
  · simp only [NL, decide_eq_false_iff_not]; omega
theorem ltStr_asym (a b : List Nat) (h : ltStr a b = true) : ltStr b a = false := by
  rw [ltStr_eq, decide_eq_true_eq] at h
  rw [ltStr_eq, decide_eq_false_iff_not]
  exact List.not_lt.mpr (List.le_of_lt h)
theorem ltStr_tr (a b c : List Nat) (h1 : NL ltStr a b) (h2 : NL ltStr b c) : NL ltStr a c := by
  simp only [NL, ltStr_eq, decide_eq_false_iff_not, List.not_lt] at *
  exact List.le_trans h1 h2
theorem ltStr_anti (a b : List Nat) (h1 : NL ltStr a b) (h2 : NL ltStr b a) : a = b := by
  simp only [NL, ltStr_eq, decide_eq_false_iff_not, List.not_lt] at *
  exact List.le_antisymm h1 h2
end Mini
set_option Elab.async false
set_option linter.all false
set_option maxRecDepth 100000
set_option maxHeartbeats 4000000
/- Mini: built-in functions, by values: the calls. Own work. -/
namespace Mini
open PySem PySem.Spec PyProof.Rows L2

theorem ltCps_lt : ∀ x y : List Nat, ltCps x y = ltStr x y
  | [], [] => rfl
  | [], _ :: _ => rfl
  | _ :: _, [] => rfl
  | a :: r, b :: t => by
    show (decide (a < b) || (a == b && ltCps r t)) = if a < b then true else if b < a then false else ltStr r t
    rw [ltCps_lt r t]
    by_cases h1 : a < b
    · simp [h1]
    · by_cases h2 : b < a
      · have h3 : ¬ a = b := by omega
        simp [h1, h2, h3]
      · have h3 : a = b := by omega
        simp [h1, h2, h3]
theorem rising_pw : ∀ (p : PySem.Str) (ys : List PySem.Str), risingS p ys = true → ((p :: ys).map (·.cps.toList)).Pairwise (NL ltStr)
  | p, [], _ => by simp
  | p, x :: r, h => by
    unfold risingS at h
    rw [Bool.and_eq_true, ltCps_lt] at h
    have h1 : ltStr x.cps.toList p.cps.toList = false := by simpa using h.1
    have ih := rising_pw x r h.2
    rw [List.map_cons, List.pairwise_cons]
    refine ⟨fun z hz => ?_, ih⟩
    rw [List.map_cons, List.pairwise_cons] at ih
    rw [List.map_cons] at hz
    rcases List.mem_cons.mp hz with rfl | hz
    · exact h1
    · exact ltStr_tr _ _ _ h1 (ih.1 z hz)
/-- texts that stand sorted -/
theorem sortStr_unique {ns : List (List Nat)} {ys : List PySem.Str} (hp : ys.Perm (ns.map toS)) (hs : sortedS ys = true) : ys = (sortBy ltStr ns).map toS := by
  have e1 : (ns.map toS).map (fun z : PySem.Str => z.cps.toList) = ns := by
    rw [List.map_map]
    conv => rhs; rw [← List.map_id ns]
    exact List.map_congr_left fun a _ => toS_cps a
  have hp2 : (ys.map (fun z : PySem.Str => z.cps.toList)).Perm ns := by
    have := hp.map (fun z : PySem.Str => z.cps.toList)
    rwa [e1] at this
  have hs2 : (ys.map (fun z : PySem.Str => z.cps.toList)).Pairwise (NL ltStr) := by
    cases ys with
    | nil => simp
    | cons p r => exact rising_pw p r hs
  have e2 := sortBy_unique ltStr_asym ltStr_tr ltStr_anti hp2 hs2
  rw [← e2, List.map_map]
  conv => lhs; rw [← List.map_id ys]
  refine List.map_congr_left fun a _ => ?_
  show a = toS a.cps.toList
  simp [toS]

/-! ### dicts -/
section
variable {K : KF} {H : Hp}
theorem repK_len : ∀ {kvs : List (Ky × D)} {ws : List (Key × V)}, RepK K H kvs ws → ws.length = kvs.length
  | [], ws, r => by rw [show ws = [] by simpa only [RepK] using r]; rfl
  | (k, x) :: kvs, ws, r => by
    simp only [RepK] at r
    obtain ⟨a, v, t, e, _, _, h⟩ := r
    subst e
    simp [repK_len h]
theorem repK_app : ∀ {kvs more : List (Ky × D)} {ws us : List (Key × V)}, RepK K H kvs ws → RepK K H more us → RepK K H (kvs ++ more) (ws ++ us)
  | [], more, ws, us, r, q => by rw [show ws = [] by simpa only [RepK] using r]; exact q
  | (k, x) :: kvs, more, ws, us, r, q => by
    simp only [RepK] at r
    obtain ⟨a, v, t, e, h1, h2, h⟩ := r
    subst e
    show RepK K H ((k, x) :: (kvs ++ more)) ((a, v) :: (t ++ us))
    simp only [RepK]
    exact ⟨a, v, _, rfl, h1, h2, repK_app h q⟩
theorem repK_any {k : Ky} {a : Key} (hk : kyR k a) : ∀ {kvs : List (Ky × D)} {ws : List (Key × V)}, RepK K H kvs ws → (ws.any fun p => decide (p.1 = a)) = (kvs.any fun p => decide (p.1 = k))
  | [], ws, r => by rw [show ws = [] by simpa only [RepK] using r]; rfl
  | (j, x) :: kvs, ws, r => by
    simp only [RepK] at r
    obtain ⟨b, v, t, e, h1, h2, h⟩ := r
    subst e
    have e2 : decide (b = a) = decide (j = k) := by
      by_cases q : j = k
      · subst q
        have := kyR_fun hk h1
        simp [this]
      · have q2 : ¬ b = a := fun z => q (kyR_inj h1 (z ▸ hk))
        simp [q, q2]
    rw [List.any_cons, List.any_cons, repK_any hk h, e2]
theorem repK_map {k : Ky} {a : Key} {x : D} {v : V} (hk : kyR k a) (hv : Rep K H x v) : ∀ {kvs : List (Ky × D)} {ws : List (Key × V)}, RepK K H kvs ws →
    RepK K H (kvs.map fun p => if p.1 = k then (p.1, x) else p) (ws.map fun p => if p.1 = a then (p.1, v) else p)
  | [], ws, r => by rw [show ws = [] by simpa only [RepK] using r]; simp only [List.map_nil, RepK]
  | (j, y) :: kvs, ws, r => by
    simp only [RepK] at r
    obtain ⟨b, u, t, e, h1, h2, h⟩ := r
    subst e
    rw [List.map_cons, List.map_cons]
    by_cases q : j = k
    · subst q
      have e2 := kyR_fun hk h1
      rw [if_pos rfl, if_pos e2.symm]
      simp only [RepK]
      exact ⟨b, v, _, rfl, h1, hv, repK_map hk hv h⟩
    · have q2 : ¬ b = a := fun z => q (kyR_inj h1 (z ▸ hk))
      rw [if_neg q, if_neg q2]
      simp only [RepK]
      exact ⟨b, u, _, rfl, h1, h2, repK_map hk hv h⟩
theorem repK_put {kvs : List (Ky × D)} {ws : List (Key × V)} {k : Ky} {a : Key} {x : D} {v : V} (r : RepK K H kvs ws) (hk : kyR k a) (hv : Rep K H x v) : RepK K H (dput kvs k x) (putK ws a v) := by
  unfold dput putK
  rw [repK_any hk r]
  split
  · exact repK_map hk hv r
  · refine repK_app r ?_
    simp only [RepK]
    exact ⟨a, v, [], rfl, hk, hv, rfl⟩
theorem repK_merge : ∀ {more : List (Ky × D)} {us : List (Key × V)} {kvs : List (Ky × D)} {ws : List (Key × V)}, RepK K H kvs ws → RepK K H more us → RepK K H (dmerge kvs more) (mergeK ws us)
  | [], us, kvs, ws, r, q => by rw [show us = [] by simpa only [RepK] using q]; exact r
  | (k, x) :: more, us, kvs, ws, r, q => by
    simp only [RepK] at q
    obtain ⟨a, v, t, e, h1, h2, h⟩ := q
    subst e
    exact repK_merge (kvs := dput kvs k x) (ws := putK ws a v) (repK_put r h1 h2) h
theorem dput_len (kvs : List (Ky × D)) (k : Ky) (x : D) : (dput kvs k x).length ≤ kvs.length + 1 := by
  unfold dput
  split <;> simp
theorem dmerge_len : ∀ (more kvs : List (Ky × D)), (dmerge kvs more).length ≤ kvs.length + more.length
  | [], kvs => by simp [dmerge]
  | (k, x) :: more, kvs => by
    have h1 := dmerge_len more (dput kvs k x)
    have h2 := dput_len kvs k x
    show (dmerge (dput kvs k x) more).length ≤ _
    simp only [List.length_cons]
    omega
theorem repK_nil : RepK K H [] [] := by simp only [RepK]
theorem strKs_rep : ∀ {kvs : List (Ky × D)} {ns : List (List Nat)} {ws : List (Key × V)}, RepK K H kvs ws → strKs kvs = some ns → ws.map (·.1) = (ns.map toS).map Sum.inr ∧ ∀ x ∈ ns, okS x = true
  | [], ns, ws, r, e => by
    simp only [strKs] at e
    cases e
    rw [show ws = [] by simpa only [RepK] using r]
    exact ⟨rfl, fun x hx => absurd hx (by simp)⟩
  | (k, x) :: kvs, ns, ws, r, e => by
    cases k <;> simp only [strKs] at e <;> try (cases e; done)
    case s z =>
      obtain ⟨ms, e2, e3⟩ := Option.map_eq_some_iff.mp e
      subst e3
      simp only [RepK] at r
      obtain ⟨a, v, t, e4, h1, h2, h⟩ := r
      subst e4
      obtain ⟨h1, k1⟩ := (show a = .inr (toS z) ∧ okS z = true from h1)
      obtain ⟨e5, k5⟩ := strKs_rep h e2
      refine ⟨by rw [List.map_cons, List.map_cons, List.map_cons, e5, h1], fun y hy => ?_⟩
      rcases List.mem_cons.mp hy with rfl | hy
      · exact k1
      · exact k5 y hy
end

section
variable {K : KF} {fz fr : Hp} {rho : List Addr} {h : Heap} {H : Hp}
/-- a new dict, held by nobody -/
theorem StH.newDct (st : StH K fz fr rho h H) {kvs : List (Ky × D)} {ws : List (Key × V)} (hr : RepK K fz kvs ws) (hl : kvs.length ≤ LINE) {p : Addr} (hp : H p = none) :
    StH K fz fr rho h (upd H p (.dK ws)) ∧ ResR K fz fr rho h (upd H p (.dK ws)) (.nw (.dct false kvs)) (.ref p) :=
  ⟨st.new hp, p, .dK ws, rfl, upd_same, st.both hp, ⟨ws, rfl, hl, hr⟩, st.rho_ne hp⟩
/-- the pairs of a list or tuple -/
theorem pairs_rep (sub : Same fz H) : ∀ {xs : List D} {ps : List (Ky × D)} {vs : List V}, RepL K fz xs vs → pairsOf xs = some ps → ∃ (as : List Addr) (ws : List (Key × V)), vs = as.map V.ref ∧ RepK K fz ps ws ∧ Paired (fun p kv => SqT K.1 H p [kV kv.1, kv.2]) as ws
  | [], ps, vs, r, e => by
    simp only [pairsOf] at e
    cases e
    exact ⟨[], [], r.nil_inv, repK_nil, .nil⟩
  | x :: xs, ps, vs, r, e => by
    obtain ⟨v, t, e1, h1, h2⟩ := r.cons_inv
    subst e1
    simp only [pairsOf] at e
    cases ex : pairOf x with
    | none => rw [ex] at e; cases e
    | some a =>
      cases ey : pairsOf xs with
      | none => rw [ex, ey] at e; cases e
      | some b =>
        rw [ex, ey] at e
        cases e
        obtain ⟨as, ws, e2, h3, h4⟩ := pairs_rep sub h2 ey
        unfold pairOf at ex
        split at ex
        · rename_i k z
          obtain ⟨ky, e3, e4⟩ := Option.map_eq_some_iff.mp ex
          subst e4
          simp only [Rep] at h1
          obtain ⟨q, us, e5, hs, hl, hr⟩ := h1
          obtain ⟨u, us1, e6, r1, hr1⟩ := hr.cons_inv
          subst e6
          obtain ⟨u2, us2, e6, r2, hr2⟩ := hr1.cons_inv
          subst e6
          have e7 := hr2.nil_inv
          subst e7
          obtain ⟨a, h5, h6⟩ := keyFor_f r1 e3
          subst h6
          refine ⟨q :: as, (a, u2) :: ws, by rw [e5, e2]; rfl, ?_, .cons (SqP.at sub hs) h4⟩
          simp only [RepK]
          exact ⟨a, u2, ws, rfl, h5, r2, h3⟩
        · cases ex
theorem pairsOf_len : ∀ {xs : List D} {ps : List (Ky × D)}, pairsOf xs = some ps → ps.length = xs.length
  | [], ps, e => by simp only [pairsOf] at e; cases e; rfl
  | x :: xs, ps, e => by
    simp only [pairsOf] at e
    cases ex : pairOf x with
    | none => rw [ex] at e; cases e
    | some a =>
      cases ey : pairsOf xs with
      | none => rw [ex, ey] at e; cases e
      | some b =>
        rw [ex, ey] at e
        cases e
        simp [pairsOf_len ey]
end

section
variable {X : Cx}
theorem cr_len : CallR X (.builtin "len") (rBi (kf X) (biV .len)) := by
  intro pins s σ H xs us Q I rs ⟨fz, fr, rho, h, ds, r, st, tops, e, q⟩
  unfold biV at e
  split at e <;> try (first | (cases e; done) | contradiction)
  · obtain ⟨v, e1, t⟩ := tops.one
    subst e1
    cases e
    obtain ⟨a, vs, e2, h1, h2, h3⟩ := t.lst
    subst e2
    refine call_len pins s σ H _ us Q I rs ⟨_, _, rfl, .inl ⟨_, h1, rfl⟩, ?_⟩
    rw [h3.length]
    exact q fz _ H (Same.refl _) st res_int
  · obtain ⟨v, e1, t⟩ := tops.one
    subst e1
    cases e
    obtain ⟨a, vs, e2, h0, h1, h2, h3⟩ := t.tup st.sub
    subst e2
    refine call_len pins s σ H _ us Q I rs ⟨_, _, rfl, .inr ⟨_, h1, rfl⟩, ?_⟩
    rw [h3.length]
    exact q fz _ H (Same.refl _) st res_int
  · obtain ⟨v, e1, t⟩ := tops.one
    subst e1
    cases e
    obtain ⟨e2, k⟩ := t.str
    subst e2
    refine call_len pins s σ H _ us Q I rs ⟨_, _, rfl, ⟨okS_line k, rfl⟩, ?_⟩
    rw [toS_len]
    exact q fz _ H (Same.refl _) st res_int
theorem cr_abs : CallR X (.builtin "abs") (rBi (kf X) (biV .abs)) := by
  intro pins s σ H xs us Q I rs ⟨fz, fr, rho, h, ds, r, st, tops, e, q⟩
  unfold biV at e
  split at e <;> try (first | (cases e; done) | contradiction)
  obtain ⟨v, e1, t⟩ := tops.one
  subst e1
  cases e
  have e2 := t.int
  subst e2
  exact call_abs pins s σ H _ us Q I rs ⟨_, rfl, q fz _ H (Same.refl _) st res_int⟩
theorem cr_int : CallR X (.type "int") (rBi (kf X) (biV .int)) := by
  intro pins s σ H xs us Q I rs ⟨fz, fr, rho, h, ds, r, st, tops, e, q⟩
  unfold biV at e
  split at e <;> try (first | (cases e; done) | contradiction)
  obtain ⟨v, e1, t⟩ := tops.one
  subst e1
  cases e
  have e2 := t.int
  subst e2
  exact call_int1 pins s σ H _ us Q I rs (.inl ⟨_, rfl, q fz _ H (Same.refl _) st res_int⟩)
theorem strInt_toS (i : Int) : (Str.ofString (toString i)) = toS (strInt i) := by
  unfold strInt toS
  simp
theorem cr_str : CallR X (.type "str") (rBi (kf X) (biV .str)) := by
  intro pins s σ H xs us Q I rs ⟨fz, fr, rho, h, ds, r, st, tops, e, q⟩
  unfold biV at e
  split at e <;> try (first | (cases e; done) | contradiction)
  · obtain ⟨v, e1, t⟩ := tops.one
    subst e1
    have e2 := t.int
    subst e2
    split at e
    · rename_i hc
      rw [Bool.and_eq_true, decide_eq_true_eq] at hc
      cases e
      refine call_str_int pins s σ H _ us Q I rs ⟨_, rfl, hc.1, ?_⟩
      show Q (.str (Str.ofString (toString _))) H
      rw [strInt_toS]
      exact q fz _ H (Same.refl _) st (res_str hc.2)
    · cases e
  · obtain ⟨v, e1, t⟩ := tops.one
    subst e1
    obtain ⟨e2, k⟩ := t.str
    subst e2
    cases e
    exact SkE.call_str_str pins s σ H _ us Q I rs ⟨_, rfl, q fz _ H (Same.refl _) st (res_str k)⟩
theorem cr_sum' (hc : X.calm = true) : CallR X (.builtin "sum") (rBi (kf X) (biV .sum)) := by
  intro pins s σ H xs us Q I rs ⟨fz, fr, rho, h, ds, r, st, tops, e, q⟩
  unfold biV at e
  split at e <;> try (first | (cases e; done) | contradiction)
  obtain ⟨ns, e0, e⟩ := Option.map_eq_some_iff.mp e
  subst e
  obtain ⟨v, e1, t⟩ := tops.one
  subst e1
  obtain ⟨a, vs, e2, h1, h2, h3⟩ := t.lst
  subst e2
  have e3 := ints_rep h3 e0
  subst e3
  exact cr_sum hc pins s σ H _ us Q I rs ⟨a, ns, rfl, h1, q fz _ H (Same.refl _) st res_int⟩
theorem cr_all' (hc : X.calm = true) : CallR X (.builtin "all") (rBi (kf X) (biV .all)) := by
  intro pins s σ H xs us Q I rs ⟨fz, fr, rho, h, ds, r, st, tops, e, q⟩
  unfold biV at e
  split at e <;> try (first | (cases e; done) | contradiction)
  obtain ⟨ns, e0, e⟩ := Option.map_eq_some_iff.mp e
  subst e
  obtain ⟨v, e1, t⟩ := tops.one
  subst e1
  obtain ⟨a, vs, e2, h1, h2, h3⟩ := t.lst
  subst e2
  have e3 := bls_rep h3 e0
  subst e3
  exact cr_all hc pins s σ H _ us Q I rs ⟨a, ns, rfl, h1, q fz _ H (Same.refl _) st res_bl⟩
theorem cr_any' (hc : X.calm = true) : CallR X (.builtin "any") (rBi (kf X) (biV .any)) := by
  intro pins s σ H xs us Q I rs ⟨fz, fr, rho, h, ds, r, st, tops, e, q⟩
  unfold biV at e
  split at e <;> try (first | (cases e; done) | contradiction)
  obtain ⟨ns, e0, e⟩ := Option.map_eq_some_iff.mp e
  subst e
  obtain ⟨v, e1, t⟩ := tops.one
  subst e1
  obtain ⟨a, vs, e2, h1, h2, h3⟩ := t.lst
  subst e2
  have e3 := bls_rep h3 e0
  subst e3
  exact cr_any hc pins s σ H _ us Q I rs ⟨a, ns, rfl, h1, q fz _ H (Same.refl _) st res_bl⟩
theorem cr_tuple : CallR X (.type "tuple") (rBi (kf X) (biV .tuple)) := by
  intro pins s σ H xs us Q I rs ⟨fz, fr, rho, h, ds, r, st, tops, e, q⟩
  unfold biV at e
  split at e <;> try (first | (cases e; done) | contradiction)
  · obtain ⟨v, e1, t⟩ := tops.one
    subst e1
    cases e
    obtain ⟨a, vs, e2, h1, h2, h3⟩ := t.lst
    subst e2
    obtain ⟨u, rfl, rx⟩ := vals1 rs
    cases rx
    obtain ⟨its, r', pl, hz⟩ := I.list h1
    have hlen := r'.length
    refine call_tuple_list pl.isList (fun h' kp => ?_) (by simp only [List.size_toArray] <;> omega)
    refine invTup (I.kept (t' := s.toks) kp) r' hz fun l o hl ho => ?_
    obtain ⟨s1, st', r'⟩ := st.newTup h3 h2 hl ho
    exact q _ _ _ s1 st' r'
  · obtain ⟨v, e1, t⟩ := tops.one
    subst e1
    cases e
    obtain ⟨a, vs, e2, h0, h1, h2, h3⟩ := t.tup st.sub
    subst e2
    exact call_tuple_of pins s σ H _ us Q I rs ⟨a, vs, rfl, .inr ⟨h1, q fz _ H (Same.refl _) st t⟩⟩
theorem cr_list : CallR X (.type "list") (rBi (kf X) (biV .list)) := by
  intro pins s σ H xs us Q I rs ⟨fz, fr, rho, h, ds, r, st, tops, e, q⟩
  unfold biV at e
  split at e <;> try (first | (cases e; done) | contradiction)
  · obtain ⟨v, e1, t⟩ := tops.one
    subst e1
    cases e
    obtain ⟨a, vs, e2, h1, h2, h3⟩ := t.lst
    subst e2
    refine call_list_of pins s σ H _ us Q I rs ⟨a, vs, rfl, .inl h1, fun l hl => ?_⟩
    obtain ⟨st', r'⟩ := st.newLst h3 h2 hl
    exact q _ _ _ (Same.refl _) st' r'
  · obtain ⟨v, e1, t⟩ := tops.one
    subst e1
    cases e
    obtain ⟨a, vs, e2, h0, h1, h2, h3⟩ := t.tup st.sub
    subst e2
    refine call_list_of pins s σ H _ us Q I rs ⟨a, vs, rfl, .inr h1, fun l hl => ?_⟩
    obtain ⟨st', r'⟩ := st.newLst h3 h2 hl
    exact q _ _ _ (Same.refl _) st' r'
theorem sortBy_len {α : Type} {lt : α → α → Bool} (l : List α) : (sortBy lt l).length = l.length := (sortBy_perm l).length_eq
theorem intsOf_len : ∀ {xs : List D} {ns : List Int}, intsOf xs = some ns → ns.length = xs.length
  | [], ns, e => by simp only [intsOf] at e; cases e; rfl
  | x :: xs, ns, e => by
    cases x <;> simp only [intsOf] at e <;> try (cases e; done)
    case int i =>
      obtain ⟨ms, e2, e3⟩ := Option.map_eq_some_iff.mp e
      subst e3
      simp [intsOf_len e2]
theorem sort_ok {ns : List (List Nat)} (h : ∀ x ∈ ns, okS x = true) : ∀ x ∈ sortBy ltStr ns, okS x = true := fun x hx => h x ((sortBy_perm ns).mem_iff.mp hx)
/-- sorted of a dict whose keys are texts, wherever it stands -/
theorem sortedDict (hc : X.calm = true) {pins : List (Addr × Obj)} {s : Shared} {σ : L2.St} {H : Hp} {Q : VK} {a : Addr} {ws : List (Key × V)} {ks : List PySem.Str} (I : Inv X pins σ H s) (hd : SqD (kf X) H a ws) (hks : ws.map (·.1) = ks.map Sum.inr) (h64 : ks.length < 64)
    (q : ∀ (ys : List PySem.Str) (p : Addr), ys.Perm ks → sortedS ys = true → H p = none → Q (.ref p) (upd H p (.lst (ys.map V.str)))) :
    wpAny (model X.prog X.w) X.A (call (.builtin "sorted") [.ref a]) (EP X pins σ Q) X.xe s := by
  obtain ⟨_, lo, vs, rel, dd⟩ := Inv.dk I hd
  obtain ⟨ep, hat⟩ := dd.dictAt
  have hkeys : vs.map (·.1) = ks.map Sum.inr := rel.keys.symm.trans hks
  have hl : vs.length = ks.length := by simpa using congrArg List.length hkeys
  have hbig : ∀ n : Nat, n = ks.length → n ≤ sizeLine := fun n e => by rw [e, sizeLine_eq]; omega
  refine Calls.call_function_entry PyProof.Rows.kind_sorted PyProof.Rows.plain_sorted PyProof.Rows.entry_sorted (PyProof.Rows.args_sorted1 _) ?_
  unfold Builtin.«sorted»
  refine wpAny_bind (m := checkCount "sorted" 1 1 _) (wpAny_pure (wpAny_bind (PySem.W.kdu_collect (A := X.A.in1) (PySem.W.kdl_dict (knd := mixKind X.prog X.w) (kvs := vs) (ep := ep) lo) (I.ok.hd hc) hat (hbig _ hl) fun h' tk acc hk hacc => ?_)))
  have hal : acc.toList.length = ks.length := by rw [Array.length_toList, hacc.1, hl]
  have hS : StrsAre acc.toList ks := by
    refine strs_at hal fun j v e => ?_
    obtain ⟨k, x, e1, e2⟩ := hacc.2 j v (by rw [← Array.getElem?_toList]; exact e)
    have e3 : (ks.map (Sum.inr : PySem.Str → Key))[j]? = some k := by
      rw [← hkeys, List.getElem?_map, e1]
      rfl
    obtain ⟨y, e4, e5⟩ := List.getElem?_map .. ▸ e3 |> Option.map_eq_some_iff.mp
    subst e5
    obtain ⟨t, ev⟩ := Value.isStrOf_shape (x := y) (v := v) e2
    exact ⟨y, t, e4, ev⟩
  have J : Inv X pins σ H { s with heap := h', toks := tk } := I.kept hk
  refine wpAny_bind (wpAny_newList ?_ (hbig _ hal))
  have there : (h'.push (seqObj "list" acc.toList.toArray 0)).get? h'.objs.size = some (seqObj "list" acc.toList.toArray 0) := Heap.get?_push_size _ rfl
  show wpAny _ _ _ _ _ { s with heap := h'.push (seqObj "list" acc.toList.toArray 0), toks := tk }
  refine wpAny_bind (wpAny_holding (wpAny_call_entry PyProof.Rows.slot_list_sort ⟨_, there, rfl⟩ PyProof.Rows.entry_list_sort
    (list_sort_treeK strKind_oneLt (s := { s with heap := h'.push (seqObj "list" acc.toList.toArray 0), toks := tk }) there hS.keysOf (fun v₁ v₂ rest e => keyKind_strs (by rw [← e]; exact hS)) (by rw [hal]; exact h64) fun st' hp hs => ⟨_, rfl, ?_⟩)
    (PyProof.Rows.args_list_sort _)))
  obtain ⟨ys, g1, g2, g3⟩ := sorted_out_str hS hp hs
  obtain ⟨e', he'⟩ := PyProof.Rows.sortedHeap_at (vs := acc.toList) (out := (arrOf st').map (·.2)) there
  have hlen : (ys.map V.str).length ≤ sizeLine := hbig _ (by rw [List.length_map, g2.length_eq])
  have ok : ObjOk X.prog X.w (upd H h'.objs.size (.lst (ys.map V.str))) _ h'.objs.size (.lst (ys.map V.str)) := ⟨hlen, ((arrOf st').map (·.2)).toList, e', vals_of_strs g1, by rw [Array.toArray_toList]; exact he'⟩
  refine wpAny_pure ⟨_, rfl, .ref h'.objs.size, _, J.laid (t' := tk) (fun b u e => ?_) (Nat.le_refl _) ok, rfl, q ys _ g2 g3 (J.hok.fresh (Nat.le_refl _))⟩
  have hb : b < h'.objs.size := Heap.lt_size e
  rw [PyProof.Rows.sortedHeap_old (Nat.ne_of_lt hb) (by rw [size_push']; exact Nat.lt_succ_of_lt hb)]
  exact Heap.get?_push_of_some _ e
theorem cr_sorted' (hc : X.calm = true) : CallR X (.builtin "sorted") (rBi (kf X) (biV .sorted)) := by
  intro pins s σ H xs us Q I rs ⟨fz, fr, rho, h, ds, r, st, tops, e, q⟩
  unfold biV at e
  split at e <;> try (first | (cases e; done) | contradiction)
  · obtain ⟨v, e1, t⟩ := tops.one
    subst e1
    obtain ⟨ys, e0, e⟩ := Option.map_eq_some_iff.mp e
    subst e
    obtain ⟨a, vs, e2, h1, h2, h3⟩ := t.lst
    subst e2
    unfold sortD at e0
    split at e0
    · rename_i ns en
      cases e0
      have e3 := ints_rep h3 en
      subst e3
      refine cr_sortedI pins s σ H _ us Q I rs ⟨a, ns, rfl, h1, fun ns' p hp hs hn => ?_⟩
      rw [sortInt_unique hp hs]
      obtain ⟨st', r'⟩ := st.newLst (rep_ints (sortBy (fun a b => decide (a < b)) ns)) (by rw [List.length_map, sortBy_len, intsOf_len en]; exact h2) hn
      exact q _ _ _ (Same.refl _) st' r'
    · split at e0
      · rename_i ns en
        split at e0
        · rename_i h64
          cases e0
          obtain ⟨e3, ok⟩ := strs_rep h3 en
          subst e3
          refine cr_sortedS pins s σ H _ us Q I rs ⟨a, ns.map toS, rfl, h1, by rw [List.length_map]; exact h64, fun ys p hp hs hn => ?_⟩
          rw [sortStr_unique hp hs]
          obtain ⟨st', r'⟩ := st.newLst (rep_strs (sortBy ltStr ns) (sort_ok ok)) (by rw [List.length_map, sortBy_len]; exact Nat.le_trans (Nat.le_of_lt h64) (by decide)) hn
          exact q _ _ _ (Same.refl _) st' r'
        · cases e0
      · cases e0
  · obtain ⟨v, e1, t⟩ := tops.one
    subst e1
    obtain ⟨ns, e0, e⟩ := Option.bind_eq_some_iff.mp e
    split at e
    · rename_i h64
      cases e
      obtain ⟨a, ws, e2, h1, h2⟩ := t
      subst e2
      obtain ⟨ek, ok⟩ := strKs_rep h2 e0
      have fin : ∀ (ys : List PySem.Str) (p : Addr), ys.Perm (ns.map toS) → sortedS ys = true → H p = none → Q (.ref p) (upd H p (.lst (ys.map V.str))) := fun ys p hp hs hn => by
        rw [sortStr_unique hp hs]
        obtain ⟨st', r'⟩ := st.newLst (rep_strs (sortBy ltStr ns) (sort_ok ok)) (by rw [List.length_map, sortBy_len]; exact Nat.le_trans (Nat.le_of_lt h64) (by decide)) hn
        exact q _ _ _ (Same.refl _) st' r'
      obtain ⟨u, rfl, rx⟩ := vals1 rs
      cases rx
      exact sortedDict hc I h1 ek (by rw [List.length_map]; exact h64) fin
    · cases e
/-- the object of a tuple, no dict of its own -/
theorem SqP.obj {pins : List (Addr × Obj)} {s : Shared} {σ : L2.St} {H fz : Hp} {a : Addr} {vs : List V} (I : Inv X pins σ H s) (sub : Same fz H) (h : SqP (kf X) fz a vs) :
    ∃ (o : Obj) (its : Array Value) (n : Nat), s.heap.get? a = some o ∧ o.cls = .type "tuple" ∧ o.dict = none ∧ o.data = .seq its n ∧ Vals vs its.toList := by
  rcases h with ⟨o, h, hd⟩ | ⟨o, its, n, h1, ⟨h2, h3⟩, h4, h5, h6⟩
  · have ok : ObjOk X.prog X.w H s.heap a (.frz o (.tup vs)) := I.hok a _ (sub _ _ h)
    obtain ⟨e1, _, its, r, o', e2, e3, n, e4⟩ := ok
    rw [e1] at e2
    cases e2
    exact ⟨o, its.toArray, n, e1, e3, hd, e4, by simpa using r⟩
  · exact ⟨o, its, n, I.kIn a o h1, h2, h3, h4, h6⟩
theorem vals_refs : ∀ {as : List Addr} {us : List Value}, Vals (as.map V.ref) us → us = as.map Value.ref
  | [], us, r => by cases r; rfl
  | a :: as, us, r => by
    rw [List.map_cons] at r
    cases r with
    | cons h t =>
      cases h
      rw [List.map_cons, ← vals_refs t]
theorem cr_dict (hc : X.calm = true) : CallR X (.type "dict") (rBi (kf X) (biV .dict)) := by
  intro pins s σ H xs us Q I rs ⟨fz, fr, rho, h, ds, r, st, tops, e, q⟩
  unfold biV at e
  split at e <;> try (first | (cases e; done) | contradiction)
  · obtain ⟨v, e1, t⟩ := tops.one
    subst e1
    split at e
    · rename_i hl
      cases e
      obtain ⟨a, ws, e2, h1, h2⟩ := t
      subst e2
      obtain ⟨u, e3, rx⟩ := vals1 rs
      subst e3
      cases rx
      obtain ⟨z, lo, vs, rel, dd⟩ := Inv.dk I h1
      refine kt_call_dict lo dd (by rw [← rel.length]; exact z) fun h' d' hs => ?_
      have hm : (s.heap.objs.size == sysModules) = false := beq_eq_false_iff_ne.mpr (Nat.ne_of_gt I.big)
      have hn : H s.heap.objs.size = none := I.hok.fresh (Nat.le_refl _)
      obtain ⟨st', r'⟩ := st.newDct h2 hl hn
      exact ⟨.ref s.heap.objs.size, upd H s.heap.objs.size (.dK ws), I.laid (t' := s.toks) (fun b u e => (hs.2 b (Nat.ne_of_lt (Heap.lt_size e))).trans (Heap.get?_push_of_some _ e)) (Nat.le_refl _)
        (show ObjOk X.prog X.w _ _ _ (.dK ws) from ⟨z, hm, vs, rel, d'⟩), rfl, q _ _ _ (Same.refl _) st' r'⟩
    · cases e
  · obtain ⟨v, e1, t⟩ := tops.one
    subst e1
    obtain ⟨ps, e0, e⟩ := Option.map_eq_some_iff.mp e
    subst e
    obtain ⟨a, vs, e2, h1, h2, h3⟩ := t.lst
    subst e2
    obtain ⟨as, ws, e3, h4, h5⟩ := pairs_rep st.sub h3 e0
    subst e3
    refine call_dictP hc pins s σ H _ us Q I rs ⟨a, as, ws, rfl, h1, h5, fun p hp => ?_⟩
    obtain ⟨st', r'⟩ := st.newDct (repK_merge repK_nil h4) (Nat.le_trans (dmerge_len ps []) (by have := pairsOf_len e0; simp only [List.length_nil]; omega)) hp
    exact q _ _ _ (Same.refl _) st' r'
  · obtain ⟨v, e1, t⟩ := tops.one
    subst e1
    obtain ⟨ps, e0, e⟩ := Option.map_eq_some_iff.mp e
    subst e
    obtain ⟨a, vs, e2, h0, h1, h2, h3⟩ := t.tup st.sub
    subst e2
    obtain ⟨as, ws, e3, h4, h5⟩ := pairs_rep st.sub h3 e0
    subst e3
    obtain ⟨u, rfl, rx⟩ := vals1 rs
    cases rx
    obtain ⟨o, its, n, g1, g2, g3, g4, g5⟩ := SqP.obj I st.sub h0
    have ei := vals_refs g5
    obtain ⟨prs, rel, hl, hpr⟩ := pairs_of I h5
    have lz : as.length ≤ sizeLine := by
      have := h3.length
      rw [List.length_map] at this
      rw [this, ← line_eq]
      exact h2
    have wz : ws.length = prs.length := rel.length
    -- the keys as they stand
    have hk : ∃ kk : List Value, kk.length = prs.length ∧ ∀ (j : Nat) (q : Key × Value), prs[j]? = some q → ∃ (b : Addr) (u : Value), as[j]? = some b ∧ kk[j]? = some u ∧ IsTup s.heap b #[u, q.2] ∧ keyIs q.1 u = true := by
      refine ⟨(List.range prs.length).map fun j => if hj : j < prs.length then Classical.choose (Classical.choose_spec (hpr j prs[j] (by simp [hj]))) else .none, by simp, fun j q e => ?_⟩
      have hj : j < prs.length := (List.getElem?_eq_some_iff.mp e).1
      have eq : prs[j] = q := (List.getElem?_eq_some_iff.mp e).2
      subst eq
      have sp := Classical.choose_spec (Classical.choose_spec (hpr j prs[j] (by simp [hj])))
      exact ⟨_, _, sp.1, by simp [hj], sp.2.1, sp.2.2⟩
    obtain ⟨kk, kl, hkk⟩ := hk
    have pz : (kk.zip (prs.map (·.2))).length = prs.length := by simp [kl]
    refine PySem.call_dict_pairs (knd := mixKind X.prog X.w) (kvs := prs) (PairArg.tuple a its (fun j => as.getD j 0) (kk.zip (prs.map (·.2)))) (I.ok.hd hc) ⟨⟨o, n, g1, g2, g3, g4⟩, ?_, fun j k v e => ?_⟩ ⟨pz.symm, fun i key v e => ?_⟩ (by rw [pz, hl]; exact lz) fun h' tk hd' hk' => ?_
    · rw [pz, hl, ← Array.length_toList, ei, List.length_map]
    · obtain ⟨e1, e2⟩ := List.getElem?_zip_eq_some.mp e
      rw [List.getElem?_map] at e2
      obtain ⟨q', e3, e4⟩ := Option.map_eq_some_iff.mp e2
      obtain ⟨b, u, x1, x2, x3, x4⟩ := hkk j q' e3
      rw [e1] at x2
      cases x2
      subst e4
      have eb : as.getD j 0 = b := by rw [List.getD_eq_getElem?_getD, x1]; rfl
      refine ⟨?_, ?_⟩
      · show its[j]? = some (.ref (as.getD j 0))
        rw [← Array.getElem?_toList, ei, List.getElem?_map, x1, eb]
        rfl
      · show PairAt s.heap (as.getD j 0) _ _
        rw [eb]
        exact .inl (show s.heap.IsTuple b #[k, q'.2] from by obtain ⟨o', y1, y2, n', y3⟩ := x3; exact ⟨o', y1, y2, n', y3⟩)
    · obtain ⟨e1, e2⟩ := List.getElem?_zip_eq_some.mp e
      rw [List.getElem?_map] at e2
      obtain ⟨q', e3, e4⟩ := Option.map_eq_some_iff.mp e2
      obtain ⟨b, u, x1, x2, x3, x4⟩ := hkk i q' e3
      rw [e1] at x2
      cases x2
      subst e4
      exact ⟨q'.1, e3, x4⟩
    · have hm : (s.heap.objs.size == sysModules) = false := beq_eq_false_iff_ne.mpr (Nat.ne_of_gt I.big)
      have hlen : (mergeK [] ws).length ≤ sizeLine := by
        refine Nat.le_trans (length_mergeK ws []) ?_
        rw [List.length_nil, Nat.zero_add, rel.length, hl]
        exact lz
      have hn : H s.heap.objs.size = none := I.hok.fresh (Nat.le_refl _)
      obtain ⟨st', r'⟩ := st.newDct (repK_merge repK_nil h4) (Nat.le_trans (dmerge_len ps []) (by have := pairsOf_len e0; simp only [List.length_nil]; omega)) hn
      exact ⟨.ref s.heap.objs.size, upd H s.heap.objs.size (.dK (mergeK [] ws)), I.laid (t' := tk) (fun b o e => hk' b o (fun z => nomatch z) e) (Nat.le_refl _) (show ObjOk X.prog X.w _ _ _ (.dK (mergeK [] ws)) from ⟨hlen, hm, merged [] prs, KV.merge rel .nil, hd'⟩), rfl, q _ _ _ (Same.refl _) st' r'⟩
end
end Mini
set_option Elab.async false
set_option linter.all false
set_option maxRecDepth 100000
set_option maxHeartbeats 4000000
/- Mini: writes to the heap; methods, by values. Own work. -/
namespace Mini
open PySem PySem.Spec PyProof.Rows L2

section
variable {K : KF} {fz fr : Hp} {rho : List Addr} {h : Heap} {H : Hp}
theorem getElem?_set_iff {α : Type} {l : List α} {n m : Nat} {a b : α} (h : (l.set n a)[m]? = some b) : (m = n ∧ b = a ∧ n < l.length) ∨ (m ≠ n ∧ l[m]? = some b) := by
  by_cases e : n = m
  · subst e
    by_cases hl : n < l.length
    · rw [List.getElem?_set_self hl] at h
      cases h
      exact .inl ⟨rfl, rfl, hl⟩
    · rw [List.getElem?_eq_none (by simpa using hl)] at h
      cases h
  · rw [List.getElem?_set_ne e] at h
    exact .inr ⟨fun q => e q.symm, h⟩
theorem live_set {h : Heap} {n m : Nat} {c c' : Cell} (e : h[n]? = some c) (ng : c ≠ .gone) (l : Live (h.set n c') m) : Live h m := by
  obtain ⟨d, h1, h2⟩ := l
  rcases getElem?_set_iff h1 with ⟨e1, _, _⟩ | ⟨_, e1⟩
  · subst e1
    exact ⟨c, e, ng⟩
  · exact ⟨d, e1, h2⟩
/-- a mutable thing is written -/
theorem StH.write (st : StH K fz fr rho h H) {n : Nat} {c c' : Cell} {a : Addr} {o' : HO} (hc : h[n]? = some c) (ng : c ≠ .gone) (ha : rho[n]? = some a) (hr : CellR K fz c' o') : StH K fz fr rho (h.set n c') (upd H a o') := by
  obtain ⟨a', o, e1, e2, e3, _⟩ := st.cells n c hc ng
  rw [ha] at e1
  cases e1
  refine ⟨fun b u q => ?_, fun b u q => ?_, st.dis, by rw [st.len, List.length_set], fun m d h1 h2 => ?_, fun i j b l1 l2 => st.inj i j b (live_set hc ng l1) (live_set hc ng l2)⟩
  · rw [upd_ne fun z => by rw [z, e3.1] at q; cases q]
    exact st.sub b u q
  · rw [upd_ne fun z => by rw [z, e3.2] at q; cases q]
    exact st.subF b u q
  · rcases getElem?_set_iff h1 with ⟨e1, e4, _⟩ | ⟨ne, e1⟩
    · subst e1 e4
      exact ⟨a, o', ha, upd_same, e3, hr⟩
    · obtain ⟨b, u, g1, g2, g3, g4⟩ := st.cells m d e1 h2
      refine ⟨b, u, g1, ?_, g3, g4⟩
      rw [upd_ne]
      · exact g2
      · intro z
        subst z
        exact ne (st.inj m n b ⟨d, e1, h2⟩ ⟨c, hc, ng⟩ g1 ha)
/-- what stands at a name -/
theorem StH.at (st : StH K fz fr rho h H) {n : Nat} {c : Cell} {v : V} (hc : h[n]? = some c) (ng : c ≠ .gone) (r : RepR K fz rho (.ref n) v) : ∃ a o, v = .ref a ∧ rho[n]? = some a ∧ H a = some o ∧ CellR K fz c o := by
  obtain ⟨a, ha, e⟩ := r
  obtain ⟨a', o, e1, e2, _, e4⟩ := st.cells n c hc ng
  rw [ha] at e1
  cases e1
  exact ⟨a, o, e, ha, e2, e4⟩
theorem RepL.one {x : D} {vs : List V} (r : RepL K H [x] vs) : ∃ v, vs = [v] ∧ Rep K H x v := by
  obtain ⟨v, t, e, h1, h2⟩ := r.cons_inv
  exact ⟨v, by rw [e, h2.nil_inv], h1⟩
theorem RepL.two {x y : D} {vs : List V} (r : RepL K H [x, y] vs) : ∃ v u, vs = [v, u] ∧ Rep K H x v ∧ Rep K H y u := by
  obtain ⟨v, t, e, h1, h2⟩ := r.cons_inv
  obtain ⟨u, e2, h3⟩ := RepL.one h2
  exact ⟨v, u, by rw [e, e2], h1, h3⟩
theorem datas_rep {rs : List RV} {ds : List D} {vs : List V} (r : RepRs K fz rho rs vs) (e : datasOf rs = some ds) : RepL K fz ds vs := by
  induction rs generalizing ds vs with
  | nil =>
    simp only [datasOf] at e
    cases e
    rw [show vs = [] from r]
    exact .nil
  | cons x rs ih =>
    obtain ⟨v, t, e1, h1, h2⟩ := r
    subst e1
    simp only [datasOf] at e
    cases ex : dataOf x with
    | none => rw [ex] at e; cases e
    | some a =>
      cases ey : datasOf rs with
      | none => rw [ex, ey] at e; cases e
      | some b =>
        rw [ex, ey] at e
        cases e
        cases x <;> simp only [dataOf] at ex <;> try (cases ex; done)
        cases ex
        exact .cons (show Rep K fz a v from h1) (ih h2 ey)
end

section
variable {X : Cx} {o e f : Expr} {apos cpos : Pos} {td ty tx : TE}
/-- a dict that is read, its kind -/
def IsDc (K : KF) (H : Hp) (x : V) : Prop := ∃ a, x = .ref a ∧ ((∃ ws, SqD K H a ws) ∨ ∃ ws, Rd H a (.dT ws))
theorem Top.isDc {K : KF} {fz H : Hp} {t : Bool} {kvs : List (Ky × D)} {x : V} (h : Top K fz H (.dct t kvs) x) : IsDc K H x := by
  cases t with
  | false => obtain ⟨a, ws, e, h, _⟩ := h; exact ⟨a, e, .inl ⟨ws, h⟩⟩
  | true => obtain ⟨a, ws, e, h, _⟩ := h; exact ⟨a, e, .inr ⟨ws, h⟩⟩
theorem isDc_at {pins : List (Addr × Obj)} {σ : L2.St} {H : Hp} {s : Shared} {x : V} {u : Value} (I : Inv X pins σ H s) (rx : RelV x u) (h : IsDc (kf X) H x) : s.TypeIs u "dict" ∧ ∀ b, u = .ref b → ∃ ob, s.heap.get? b = some ob ∧ ob.dict = none := by
  obtain ⟨a, ex, h⟩ := h
  subst ex
  obtain rfl : u = Value.ref a := rx
  rcases h with ⟨ws, h⟩ | ⟨ws, h⟩
  · obtain ⟨_, hd, vs, _, dd⟩ := Inv.dk I h
    refine ⟨dd.typeIs, fun b q => ?_⟩
    cases q
    obtain ⟨ob, _, _, h1, h2, _⟩ := dd
    exact ⟨ob, h1, h2.2.1⟩
  · obtain ⟨_, hd, xs, _, dd⟩ := dt_rd I.hok h
    refine ⟨dd.typeIs, fun b q => ?_⟩
    cases q
    obtain ⟨ob, _, _, h1, h2, _⟩ := dd
    exact ⟨ob, h1, h2.2.1⟩
theorem relO_get {w : V} {o : Option Value} {d : Value} (h : RelO (some w) o) : RelV w (o.getD d) := by
  obtain ⟨w', e, r⟩ := RelO.some_of (v := w) (o := o) h
  rw [e]
  exact r
abbrev RGet := V → List V → Hp → VK → Prop
/-- a method's call, by its rule -/
def DMt (X : Cx) (id : String) (r : RGet) : Prop := ∀ (pins : List (Addr × Obj)) (s : Shared) (σ : L2.St) (H : Hp) (x : V) (xs : List V) (v : Value) (us : List Value) (Q : VK), Inv X pins σ H s → RelV x v → Vals xs us → r x xs H Q →
    wpAny (model X.prog X.w) X.A (call (.builtin id) (v :: us)) (EP X pins σ Q) X.xe s
theorem pe_dm1 {name : Str} {id : String} {r : RGet} (slot : Slot "dict" name id) (hty : typeOf (.builtin id) = pure (.type "method_descriptor")) (hm : DMt X id r) (ho : PE X o td) (he : PE X e ty) (m : M1 X o name apos e cpos) :
    PE X (.Call (.Attribute o name apos) [e] [] cpos) (fun σ H Q => td σ H fun x H1 => IsDc (kf X) H1 x ∧ ty σ H1 fun y H2 => r x [y] H2 Q) := by
  refine ⟨fun pins s σ H Q I h => ?_⟩
  refine wpAny_Call_method m.base m.few m.line PySem.F.plainAttrs_dict slot hty (thn (ho.run pins s σ H _ I h) fun u s1 ⟨x, H1, I1, rx, d, q1⟩ => ?_)
  obtain ⟨t1, t2⟩ := isDc_at I1 rx d
  refine ⟨t1, t2, ?_⟩
  rw [m.trees]
  refine Calls.callWith_builtin rfl (Calls.evalArgs_plain (Calls.spliced_cons (thn (he.run pins s1 σ H1 _ I1 q1) fun iv s2 ⟨y, H2, I2, ry, q2⟩ => Calls.spliced_nil ?_)))
  exact hm pins s2 σ H2 x [y] u [iv] Q I2 rx (.cons ry .nil) q2
theorem pe_dm2 {name : Str} {id : String} {r : RGet} (slot : Slot "dict" name id) (hty : typeOf (.builtin id) = pure (.type "method_descriptor")) (hm : DMt X id r) (ho : PE X o td) (he : PE X e ty) (hf : PE X f tx) (m : M2 X o name apos e f cpos) :
    PE X (.Call (.Attribute o name apos) [e, f] [] cpos) (fun σ H Q => td σ H fun x H1 => IsDc (kf X) H1 x ∧ ty σ H1 fun y H2 => tx σ H2 fun z H3 => r x [y, z] H3 Q) := by
  refine ⟨fun pins s σ H Q I h => ?_⟩
  refine wpAny_Call_method m.base m.few m.line PySem.F.plainAttrs_dict slot hty (thn (ho.run pins s σ H _ I h) fun u s1 ⟨x, H1, I1, rx, d, q1⟩ => ?_)
  obtain ⟨t1, t2⟩ := isDc_at I1 rx d
  refine ⟨t1, t2, ?_⟩
  rw [m.trees]
  refine Calls.callWith_builtin rfl (Calls.evalArgs_plain (Calls.spliced_cons (thn (he.run pins s1 σ H1 _ I1 q1) fun iv s2 ⟨y, H2, I2, ry, q2⟩ =>
    Calls.spliced_cons (thn (hf.run pins s2 σ H2 _ I2 q2) fun fv s3 ⟨z, H3, I3, rz, q3⟩ => Calls.spliced_nil ?_))))
  exact hm pins s3 σ H3 x [y, z] u [iv, fv] Q I3 rx (.cons ry (.cons rz .nil)) q3

/-- what a reading method's rule asks -/
def rMt (K : KF) (g : D → List D → Option RV) : RGet := fun x xs H Q => ∃ fz fr rho h p ds r, StH K fz fr rho h H ∧ Top K fz H p x ∧ RepL K fz ds xs ∧ g p ds = some r ∧
  ∀ fz' v H', Same fz fz' → StH K fz' fr rho h H' → ResR K fz' fr rho h H' r v → Q v H'
theorem mt_get (hu : X.A.units + 1 < cLine) : DMt X "dict.get" (rMt (kf X) (mtV .get)) := by
  intro pins s σ H x xs v us Q I rx rs ⟨fz, fr, rho, h, p, ds, r, st, t, rl, e, q⟩
  unfold mtV at e
  split at e <;> try (first | (cases e; done) | contradiction)
  · rename_i tt kvs k _
    obtain ⟨ky, e1, e2⟩ := Option.map_eq_some_iff.mp e
    subst e2
    obtain ⟨y, e3, r1⟩ := RepL.one rl
    subst e3
    obtain ⟨u, rfl, ru⟩ := vals1 rs
    have r1' := r1.mono st.sub
    cases tt with
    | false =>
      obtain ⟨a, ws, rfl, hd, hr⟩ := t
      obtain rfl : v = Value.ref a := rx
      obtain ⟨ak, h1, rfl⟩ := keyFor_f r1 e1
      obtain ⟨z, lo, vs, rel, dd⟩ := Inv.dk I hd
      refine call_meetsIn PySem.F.slot_dict_get dd.typeIs PySem.F.entry_dict_get (PySem.F.args_dict_get_2 _ _) (meets_dict_get (mixKind X.prog X.w) a (kV_is ru) lo) ⟨_, dd.mapOf, ?_⟩
      have g := repK_get hr h1
      cases ed : dget kvs ky with
      | none =>
        rw [ed] at g q
        have g : valV ws ak = none := g
        exact ⟨.non, H, I.tok _, by have := (rel.val ak); rw [g] at this; exact this.getD rfl, q fz _ H (Same.refl _) st (show Rep (kf X) fz .non .non from rep_non)⟩
      | some x =>
        rw [ed] at g q
        obtain ⟨w, g1, g2⟩ := g
        exact ⟨w, H, I.tok _, by have := (rel.val ak); rw [g1] at this; exact relO_get this, q fz _ H (Same.refl _) st g2⟩
    | true =>
      obtain ⟨a, ws, rfl, hd, hr⟩ := t
      obtain rfl : v = Value.ref a := rx
      obtain ⟨b, aks, h1, rfl, hb⟩ := keyFor_t r1' e1
      obtain rfl : u = Value.ref b := ru
      obtain ⟨z, lo, vs, rel, dd⟩ := dt_rd I.hok hd
      refine call_meetsIn PySem.F.slot_dict_get dd.typeIs PySem.F.entry_dict_get (PySem.F.args_dict_get_2 _ _) (meetsH_dict_get (tupleKind (mixKind X.prog X.w)) a b lo) ⟨tupleKind_room_in1 hu, aks, vs, Inv.tkey I hb, dd, ?_⟩
      have g := repT_get hr h1
      cases ed : dget kvs ky with
      | none =>
        rw [ed] at g q
        have g : valV ws aks = none := g
        exact ⟨.non, H, I.tok _, by have := (rel.val aks); rw [g] at this; exact this.getD rfl, q fz _ H (Same.refl _) st (show Rep (kf X) fz .non .non from rep_non)⟩
      | some x =>
        rw [ed] at g q
        obtain ⟨w, g1, g2⟩ := g
        exact ⟨w, H, I.tok _, by have := (rel.val aks); rw [g1] at this; exact relO_get this, q fz _ H (Same.refl _) st g2⟩
  · rename_i tt kvs k d _
    obtain ⟨ky, e1, e2⟩ := Option.map_eq_some_iff.mp e
    subst e2
    obtain ⟨y, y2, e3, r1, r2⟩ := RepL.two rl
    subst e3
    obtain ⟨u, u2, rfl, ru, ru2⟩ := vals2 rs
    have r1' := r1.mono st.sub
    cases tt with
    | false =>
      obtain ⟨a, ws, rfl, hd, hr⟩ := t
      obtain rfl : v = Value.ref a := rx
      obtain ⟨ak, h1, rfl⟩ := keyFor_f r1 e1
      obtain ⟨z, lo, vs, rel, dd⟩ := Inv.dk I hd
      refine call_meetsIn PySem.F.slot_dict_get dd.typeIs PySem.F.entry_dict_get (PySem.F.args_dict_get_3 _ _ _) (meets_dict_get_default (mixKind X.prog X.w) a (kV_is ru) lo u2) ⟨_, dd.mapOf, ?_⟩
      have g := repK_get hr h1
      cases ed : dget kvs ky with
      | none =>
        rw [ed] at g q
        have g : valV ws ak = none := g
        exact ⟨y2, H, I.tok _, by have := (rel.val ak); rw [g] at this; exact this.getD ru2, q fz _ H (Same.refl _) st r2⟩
      | some x =>
        rw [ed] at g q
        obtain ⟨w, g1, g2⟩ := g
        exact ⟨w, H, I.tok _, by have := (rel.val ak); rw [g1] at this; exact relO_get this, q fz _ H (Same.refl _) st g2⟩
    | true =>
      obtain ⟨a, ws, rfl, hd, hr⟩ := t
      obtain rfl : v = Value.ref a := rx
      obtain ⟨b, aks, h1, rfl, hb⟩ := keyFor_t r1' e1
      obtain rfl : u = Value.ref b := ru
      obtain ⟨z, lo, vs, rel, dd⟩ := dt_rd I.hok hd
      refine call_meetsIn PySem.F.slot_dict_get dd.typeIs PySem.F.entry_dict_get (PySem.F.args_dict_get_3 _ _ _) (meetsH_dict_get_default (tupleKind (mixKind X.prog X.w)) a b lo u2) ⟨tupleKind_room_in1 hu, aks, vs, Inv.tkey I hb, dd, ?_⟩
      have g := repT_get hr h1
      cases ed : dget kvs ky with
      | none =>
        rw [ed] at g q
        have g : valV ws aks = none := g
        exact ⟨y2, H, I.tok _, by have := (rel.val aks); rw [g] at this; exact this.getD ru2, q fz _ H (Same.refl _) st r2⟩
      | some x =>
        rw [ed] at g q
        obtain ⟨w, g1, g2⟩ := g
        exact ⟨w, H, I.tok _, by have := (rel.val aks); rw [g1] at this; exact relO_get this, q fz _ H (Same.refl _) st g2⟩

/-- what a writing method's rule asks -/
def rMw (K : KF) (g : Cell → List D → Option (D × Cell)) : RGet := fun x xs H Q => ∃ fz fr rho h n c ds r c', StH K fz fr rho h H ∧ h[n]? = some c ∧ c ≠ .gone ∧ RepR K fz rho (.ref n) x ∧ RepL K fz ds xs ∧ g c ds = some (r, c') ∧
  ∀ v H', StH K fz fr rho (h.set n c') H' → Rep K fz r v → Q v H'
theorem mt_app : MtR X "list.append" (rMw (kf X) (mtW .append)) := by
  intro pins s σ H x xs v us Q I rx rs ⟨fz, fr, rho, h, n, c, ds, r, c', st, hn, ng, t, rl, e, q⟩
  unfold mtW at e
  split at e <;> try (first | (cases e; done) | contradiction)
  rename_i zs z _
  split at e
  · rename_i hl
    cases e
    obtain ⟨y, e3, r1⟩ := RepL.one rl
    subst e3
    obtain ⟨a, o, rfl, ha, hH, hc⟩ := st.at hn ng t
    obtain ⟨ws, rfl, hz, hr⟩ := hc
    refine mt_append pins s σ H _ _ v us Q I rx rs ⟨a, ws, y, rfl, rfl, hH, by rw [hr.length, ← line_eq]; exact hl, ?_⟩
    exact q _ _ (st.write hn ng ha ⟨_, rfl, by rw [List.length_append]; exact hl, hr.append (.cons r1 .nil)⟩) rep_non
  · cases e
theorem mt_pp : MtR X "list.pop" (rMw (kf X) (mtW .pop)) := by
  intro pins s σ H x xs v us Q I rx rs ⟨fz, fr, rho, h, n, c, ds, r, c', st, hn, ng, t, rl, e, q⟩
  unfold mtW at e
  split at e <;> try (first | (cases e; done) | contradiction)
  rename_i zs _
  split at e
  · rename_i y ey
    cases e
    have e4 := rl.nil_inv
    subst e4
    obtain ⟨a, o, rfl, ha, hH, hc⟩ := st.at hn ng t
    obtain ⟨ws, rfl, hz, hr⟩ := hc
    rw [List.getLast?_eq_getElem?] at ey
    obtain ⟨w, h1, h2⟩ := hr.get ey
    refine mt_pop pins s σ H _ _ v us Q I rx rs ⟨a, ws, w, rfl, rfl, hH, by rw [hr.length]; exact h1, ?_⟩
    exact q _ _ (st.write hn ng ha ⟨_, rfl, Nat.le_trans (by rw [List.length_dropLast]; omega) hz, hr.dropLast⟩) h2
  · cases e
theorem mt_upd : DMt X "dict.update" (rMw (kf X) (mtW .update)) := by
  intro pins s σ H x xs v us Q I rx rs ⟨fz, fr, rho, h, n, c, ds, r, c', st, hn, ng, t, rl, e, q⟩
  unfold mtW at e
  split at e <;> try (first | (cases e; done) | contradiction)
  rename_i kvs more _
  split at e
  · rename_i hl
    cases e
    obtain ⟨y, e3, r1⟩ := RepL.one rl
    subst e3
    obtain ⟨a, o, rfl, ha, hH, hc⟩ := st.at hn ng t
    obtain ⟨ws, rfl, hz, hr⟩ := hc
    obtain rfl : v = Value.ref a := rx
    obtain ⟨u, rfl, ru⟩ := vals1 rs
    simp only [Rep] at r1
    obtain ⟨b, us, rfl, hs, hrm⟩ := r1
    obtain rfl : u = Value.ref b := ru
    obtain ⟨_, _, _, hf, _⟩ := st.cells n _ hn ng
    have hab : a ≠ b := by
      rintro rfl
      rcases hs with (hs | ⟨o, hs⟩) | ⟨es, m, hk, _⟩
      · obtain ⟨a', o', g1, g2, g3, g4⟩ := st.cells n _ hn ng
        rw [ha] at g1
        cases g1
        rw [g3.1] at hs
        cases hs
      · obtain ⟨a', o', g1, g2, g3, g4⟩ := st.cells n _ hn ng
        rw [ha] at g1
        cases g1
        rw [g3.1] at hs
        cases hs
      · have hb := I.mod.kin a _ hk
        have := (I.bs a _ hb).2
        rw [hH] at this
        cases this
    obtain ⟨z1, lo1, vs1, rel1, dd1⟩ := dk_of I.hok hH
    obtain ⟨z2, lo2, vs2, rel2, dd2⟩ := Inv.dk I (Same.sqD st.sub hs)
    have hlen : vs1.length + vs2.length ≤ sizeLine := by
      rw [← rel1.length, ← rel2.length, repK_len hr, repK_len hrm, ← line_eq]
      exact hl
    refine call_meetsIn PySem.F.slot_dict_update dd1.typeIs PySem.F.entry_dict_update (PySem.F.args_dict_update_2 _ _) (meets_dict_update (mixKind X.prog X.w) a b hab lo2) ⟨vs1, vs2, dd1, dd2, hlen, fun h' dd' _ hsb => ?_⟩
    have hm : (mergeK ws us).length ≤ sizeLine := by
      refine Nat.le_trans (length_mergeK us ws) ?_
      rw [rel1.length, rel2.length]
      exact hlen
    have he : ∃ q, h'.get? a = some q := let ⟨q, _, _, hq, _⟩ := dd'; ⟨q, hq⟩
    refine ⟨.non, upd H a (.dK (mergeK ws us)), d_write I (by rw [hH]; exact True.intro) hsb he (dk_new hm lo1 (KV.merge rel2 rel1) dd'), rfl, ?_⟩
    exact q _ _ (st.write hn ng ha ⟨_, rfl, Nat.le_trans (dmerge_len more kvs) hl, repK_merge hr hrm⟩) rep_non
  · cases e
end
end Mini
set_option Elab.async false
set_option linter.all false
set_option maxRecDepth 100000
set_option maxHeartbeats 4000000
/- Mini: expressions, each by its rule. Own work. -/
namespace Mini
open PySem PySem.Spec PyProof.Rows L2

abbrev FE := Env → Heap → Out (RV × Heap)
abbrev FA := Env → Heap → Out (List RV × Heap)
abbrev FT := Env → Heap → Out (Bool × Heap)
abbrev FO := Env → Heap → Out (Option Int × Heap)

section
variable {X : Cx} {ca : Nat → Addr} {W : WX}
/-- a reading of an expression, of a test, of arguments, of a bound -/
abbrev RE (X : Cx) (f : FE) : TE := TEo (kf X) (fun _ => 0) (fun _ _ _ _ => False) f
abbrev RT (X : Cx) (f : FT) : TT := TTo (kf X) (fun _ => 0) (fun _ _ _ _ => False) f
abbrev RA (X : Cx) (f : FA) : TA := TAo (kf X) (fun _ => 0) (fun _ _ _ _ => False) f
abbrev RO (X : Cx) (f : FO) : TO := TOo (kf X) (fun _ => 0) (fun _ _ _ _ => False) f

theorem pe_const {e : Expr} {v : V} {d : D} (h : PE X e (tC v)) (hd : ∀ fz, Rep (kf X) fz d v) : PE X e (RE X fun _ h => .ok (.d d, h)) :=
  PE.mono h fun σ H Q ⟨env, h, fz, fr, rho, st, er, q⟩ => (show ∀ fz' v H', Same fz fz' → StH (kf X) fz' fr rho h H' → ResR (kf X) fz' fr rho h H' (.d d) v → Q v H' from q) fz v H (Same.refl _) st (hd fz)

def fVar (i : Nat) : FE := fun env h => match env[i]? with
  | some (some r) => .ok (r, h)
  | _ => .stuck
theorem res_of {K : KF} {fz fr : Hp} {rho : List Addr} {h : Heap} {H : Hp} {r : RV} {v : V} (q : RepR K fz rho r v) : ResR K fz fr rho h H r v := by
  cases r with
  | d x => exact q
  | ref n => exact q
  | nw c => exact q.elim
theorem pe_v {e : Expr} {i : Nat} (h : PE X e (tVar i)) : PE X e (RE X (fVar i)) :=
  PE.mono h fun σ H Q ⟨env, h, fz, fr, rho, st, er, q⟩ => by
    unfold fVar at q
    split at q
    · rename_i r e
      obtain ⟨v, h1, h2⟩ := er.2 i r e
      exact ⟨v, h1, (show ∀ fz' v H', Same fz fz' → StH (kf X) fz' fr rho h H' → ResR (kf X) fz' fr rho h H' r v → Q v H' from q) fz v H (Same.refl _) st (res_of h2)⟩
    · exact (show False from q).elim
def fTake (i : Nat) : FE := fun env h => match env[i]? with
  | some (some (.ref n)) => (match h[n]? with
    | some .gone => .stuck
    | some c => .ok (.nw c, h.set n .gone)
    | none => .stuck)
  | _ => .stuck
theorem live_gone {h : Heap} {n m : Nat} (l : Live (h.set n .gone) m) : m ≠ n ∧ Live h m := by
  obtain ⟨c, h1, h2⟩ := l
  rcases getElem?_set_iff h1 with ⟨e1, e2, _⟩ | ⟨ne, e1⟩
  · exact absurd e2 h2
  · exact ⟨ne, c, e1, h2⟩
theorem StH.drop {K : KF} {fz fr : Hp} {rho : List Addr} {h : Heap} {H : Hp} (st : StH K fz fr rho h H) (n : Nat) : StH K fz fr rho (h.set n .gone) H where
  sub := st.sub
  subF := st.subF
  dis := st.dis
  len := by rw [st.len, List.length_set]
  cells := fun m c h1 h2 => by
    rcases getElem?_set_iff h1 with ⟨_, e2, _⟩ | ⟨_, e1⟩
    · exact absurd e2 h2
    · exact st.cells m c e1 h2
  inj := fun i j b l1 l2 => st.inj i j b (live_gone l1).2 (live_gone l2).2
theorem pe_take {e : Expr} {i : Nat} (h : PE X e (tVar i)) : PE X e (RE X (fTake i)) :=
  PE.mono h fun σ H Q ⟨env, h, fz, fr, rho, st, er, q⟩ => by
    unfold fTake at q
    split at q
    · rename_i n e
      obtain ⟨v, h1, a, h2, rfl⟩ := er.2 i _ e
      cases hc : h[n]? with
      | none => rw [hc] at q; exact (show False from q).elim
      | some c =>
        rw [hc] at q
        by_cases ng : c = .gone
        · subst ng
          exact (show False from q).elim
        · have q2 : ∀ fz' v H', Same fz fz' → StH (kf X) fz' fr rho (h.set n .gone) H' → ResR (kf X) fz' fr rho (h.set n .gone) H' (.nw c) v → Q v H' := by
            cases c with
            | lst xs => exact q
            | dct t kvs => exact q
            | gone => exact absurd rfl ng
          obtain ⟨a', o, e1, e2, e3, e4⟩ := st.cells n c hc ng
          rw [h2] at e1
          cases e1
          refine ⟨_, h1, q2 fz _ H (Same.refl _) (st.drop n) ⟨a, o, rfl, e2, e3, e4, fun m l z => ?_⟩⟩
          obtain ⟨l1, l2⟩ := live_gone l
          exact l1 (st.inj m n a l2 ⟨c, hc, ng⟩ z h2)
    · exact (show False from q).elim

/-! ### operators -/
theorem binV_calm (o : Bin) (p q : D) (e : Ex) (h : Heap) : binV o p q ≠ .exc e h := by
  unfold binV bitI
  intro z
  split at z <;> (try split at z) <;> cases z
def f2 (G : D → D → Out RV) (fa fb : FE) : FE := fun env h => fa env h >>= fun (x, h1) => fb env h1 >>= fun (y, h2) => match view h2 (nrm x), view h2 (nrm y) with
  | some p, some q => G p q >>= fun r => .ok (r, h2)
  | _, _ => .stuck
theorem pe_bin {a b : Expr} {fa fb : FE} {o : Bin} {pos : Pos} (ha : PE X a (RE X fa)) (hb : PE X b (RE X fb)) : PE X (.BinOp a (opOf o) b pos) (RE X (f2 (binV o) fa fb)) :=
  PE.mono (pe_op (op_bin o) ha hb) fun σ H Q q => two q (binV_calm o)
def fNeg (fa : FE) : FE := fun env h => fa env h >>= fun (x, h1) => match x with
  | .d (.int i) => .ok (.d (.int (-i)), h1)
  | _ => .stuck
theorem pe_neg' {a : Expr} {fa : FE} {pos : Pos} (ha : PE X a (RE X fa)) : PE X (.UnaryOp .USub a pos) (RE X (fNeg fa)) :=
  PE.mono (pe_un un_neg ha) fun σ H Q ⟨env, h, fz, fr, rho, st, er, q⟩ => by
    refine TEo.go st er q.bind fun x h1 q1 fz1 v1 H1 s1 st1 er1 r1 => ?_
    dsimp only at q1
    split at q1
    · rename_i i
      have ev := Rep.int_inv (show Rep (kf X) fz1 (.int i) v1 from r1)
      exact ⟨i, ev, (show ∀ fz' v H', Same fz fz' → StH (kf X) fz' fr rho h1 H' → ResR (kf X) fz' fr rho h1 H' (.d (.int (-i))) v → Q v H' from q1) fz1 _ H1 s1 st1 res_int⟩
    · exact (show False from q1).elim
def fB (G : D → D → Option Bool) (fa fb : FE) : FE := fun env h => fa env h >>= fun (x, h1) => fb env h1 >>= fun (y, h2) => match view h2 (nrm x), view h2 (nrm y) with
  | some p, some q => (match G p q with
    | some k => .ok (.d (.bl k), h2)
    | none => .stuck)
  | _, _ => .stuck
/-- a test of a value -/
def fTe (fa : FE) : FT := fun env h => fa env h >>= fun (x, h1) => match (view h1 (nrm x)).bind truth with
  | some k => .ok (k, h1)
  | none => .stuck
theorem pe_cmp' {a b : Expr} {fa fb : FE} {o : Cmp} {pos : Pos} (hu : X.A.units + 65 < cLine) (hm : behindInMarks (copOf o) b = false) (ha : PE X a (RE X fa)) (hb : PE X b (RE X fb)) : PE X (.Compare a [copOf o] [b] pos) (RE X (fB (cmpV o) fa fb)) :=
  PE.mono (pe_cmpR (op_cmp hu o) ha hb hm) fun σ H Q q => twoB q
/-- what a value's truth is, from the reading of the value -/
theorem te_bl {f : FE} {σ : L2.St} {H : Hp} {Q : Bool → Hp → Prop} (hb : ∀ env h r h', f env h = .ok (r, h') → ∃ k, r = .d (.bl k)) (q : RT X (fTe f) σ H Q) : RE X f σ H fun x H' => ∃ k, x = .bl k ∧ Q k H' := by
  obtain ⟨env, h, fz, fr, rho, st, er, q⟩ := q
  have q' := q.bind
  refine ⟨env, h, fz, fr, rho, st, er, ?_⟩
  cases e : f env h with
  | stuck => rw [e] at q'; exact q'
  | exc e1 h1 => rw [e] at q'; exact q'
  | ok p =>
    rw [e] at q'
    obtain ⟨r, h1⟩ := p
    obtain ⟨k, rfl⟩ := hb env h r h1 e
    have q2 : ∀ fz' H', Same fz fz' → StH (kf X) fz' fr rho h1 H' → Q k H' := q'
    exact fun fz' v H' s st' r => ⟨k, Rep.bl_inv (show Rep (kf X) fz' (.bl k) v from r), q2 fz' H' s st'⟩
theorem ok_bind {α β : Type} {o : Out α} {f : α → Out β} {b : β} (h : (o >>= f) = .ok b) : ∃ a, o = .ok a ∧ f a = .ok b := by
  cases o with
  | ok a => exact ⟨a, rfl, h⟩
  | exc e k => cases h
  | stuck => cases h
theorem fB_bl {G : D → D → Option Bool} {fa fb : FE} (env : Env) (h : Heap) (r : RV) (h' : Heap) (e : fB G fa fb env h = .ok (r, h')) : ∃ k, r = .d (.bl k) := by
  unfold fB at e
  obtain ⟨⟨x, h1⟩, _, e⟩ := ok_bind e
  obtain ⟨⟨y, h2⟩, _, e⟩ := ok_bind e
  dsimp only at e
  split at e
  · split at e
    · cases e
      exact ⟨_, rfl⟩
    · cases e
  · cases e
theorem pt_cmp' {a b : Expr} {fa fb : FE} {o : Cmp} {pos : Pos} (hu : X.A.units + 65 < cLine) (hm : behindInMarks (copOf o) b = false) (ha : PE X a (RE X fa)) (hb : PE X b (RE X fb)) : PT X (.Compare a [copOf o] [b] pos) (RT X (fTe (fB (cmpV o) fa fb))) :=
  PT.mono (pt_cmpR (op_cmp hu o) ha hb hm) fun σ H Q q => twoB (te_bl fB_bl q)
/-- a test of a value, by its truth -/
theorem truV_of {K : KF} {fz H : Hp} {x : D} {v : V} {k : Bool} (sub : Same fz H) (t : Top K fz H x v) (e : truth x = some k) : TruV K.1 v H k := by
  cases x with
  | non => cases e; rw [Rep.non_inv (show Rep K fz .non v from t)]; rfl
  | bl b => rw [Rep.bl_inv (show Rep K fz (.bl b) v from t)]; cases e; rfl
  | int i => cases e; rw [t.int]; rfl
  | str s =>
    cases e
    obtain ⟨e2, ok⟩ := t.str
    rw [e2]
    refine ⟨okS_line ok, ?_⟩
    rw [toS_len]
    cases s with
    | nil => rfl
    | cons c r =>
      show true = (((r.length + 1 : Nat) : Int) != 0)
      have : ((r.length + 1 : Nat) : Int) ≠ 0 := by omega
      exact (bne_iff_ne.mpr this).symm
  | tup xs =>
    cases e
    obtain ⟨a, vs, rfl, _, h1, _, h3⟩ := t.tup sub
    refine .inr (.inl ⟨vs, h1, ?_⟩)
    have := h3.length
    cases xs with
    | nil => rw [h3.nil_inv]; rfl
    | cons c r =>
      obtain ⟨v, t, e, _, _⟩ := h3.cons_inv
      rw [e]
      rfl
  | lst xs =>
    cases e
    obtain ⟨a, vs, rfl, h1, _, h3⟩ := t.lst
    refine .inl ⟨vs, h1, ?_⟩
    cases xs with
    | nil => rw [h3.nil_inv]; rfl
    | cons c r =>
      obtain ⟨v, t, e, _, _⟩ := h3.cons_inv
      rw [e]
      rfl
  | dct t kvs => cases e
theorem pt_te {a : Expr} {fa : FE} (he : ∀ whole, isTrue a X.env whole = (do let v ← whole; standAt a.pos; holding [v] (truthy v))) (ha : PE X a (RE X fa)) : PT X a (RT X (fTe fa)) :=
  PT.mono (pt_truth ha he) fun σ H Q ⟨env, h, fz, fr, rho, st, er, q⟩ => by
    refine TEo.goN st er q.bind fun x h1 q1 fz1 v1 H1 s1 st1 er1 r1 => ?_
    dsimp only at q1
    split at q1
    · rename_i k e
      obtain ⟨d, e1, e2⟩ := Option.bind_eq_some_iff.mp e
      exact ⟨k, truV_of st1.sub (view_top st1 r1 e1) e2, (show ∀ fz' H', Same fz fz' → StH (kf X) fz' fr rho h1 H' → Q k H' from q1) fz1 H1 s1 st1⟩
    · exact (show False from q1).elim

/-! ### and, or, not; if -/
def fTand (ta tb : FT) : FT := fun env h => ta env h >>= fun (k, h1) => if k then tb env h1 else .ok (false, h1)
def fTor (ta tb : FT) : FT := fun env h => ta env h >>= fun (k, h1) => if k then .ok (true, h1) else tb env h1
def fTnot (ta : FT) : FT := fun env h => ta env h >>= fun (k, h1) => .ok (!k, h1)
theorem tand_r {ta tb : FT} {σ : L2.St} {H : Hp} {Q : Bool → Hp → Prop} (q : RT X (fTand ta tb) σ H Q) : tAnd (RT X ta) (RT X tb) σ H Q := by
  unfold tAnd
  obtain ⟨env, h, fz, fr, rho, st, er, q⟩ := q
  refine TTo.go st er q.bind fun k h1 q1 fz1 H1 s1 st1 er1 => ?_
  cases k with
  | true => exact ⟨env, h1, fz1, fr, rho, st1, er1, OkO.mono q1 (fun p a fz' H' s => a fz' H' (s1.trans s)) fun _ _ z => z⟩
  | false => exact (show ∀ fz' H', Same fz fz' → StH (kf X) fz' fr rho h1 H' → Q false H' from q1) fz1 H1 s1 st1
theorem tor_r {ta tb : FT} {σ : L2.St} {H : Hp} {Q : Bool → Hp → Prop} (q : RT X (fTor ta tb) σ H Q) : tOr (RT X ta) (RT X tb) σ H Q := by
  unfold tOr
  obtain ⟨env, h, fz, fr, rho, st, er, q⟩ := q
  refine TTo.go st er q.bind fun k h1 q1 fz1 H1 s1 st1 er1 => ?_
  cases k with
  | false => exact ⟨env, h1, fz1, fr, rho, st1, er1, OkO.mono q1 (fun p a fz' H' s => a fz' H' (s1.trans s)) fun _ _ z => z⟩
  | true => exact (show ∀ fz' H', Same fz fz' → StH (kf X) fz' fr rho h1 H' → Q true H' from q1) fz1 H1 s1 st1
theorem tnot_r {ta : FT} {σ : L2.St} {H : Hp} {Q : Bool → Hp → Prop} (q : RT X (fTnot ta) σ H Q) : tNot (RT X ta) σ H Q := by
  obtain ⟨env, h, fz, fr, rho, st, er, q⟩ := q
  exact TTo.go st er q.bind fun k h1 q1 fz1 H1 s1 st1 er1 => (show ∀ fz' H', Same fz fz' → StH (kf X) fz' fr rho h1 H' → Q (!k) H' from q1) fz1 H1 s1 st1
def fAnd (fa fb : FE) : FE := fun env h => fa env h >>= fun (x, h1) => match x with
  | .d (.bl true) => fb env h1
  | .d (.bl false) => .ok (.d (.bl false), h1)
  | _ => .stuck
def fOr (fa fb : FE) : FE := fun env h => fa env h >>= fun (x, h1) => match x with
  | .d (.bl false) => fb env h1
  | .d (.bl true) => .ok (.d (.bl true), h1)
  | _ => .stuck
def fNot (fa : FE) : FE := fun env h => fa env h >>= fun (x, h1) => match x with
  | .d (.bl b) => .ok (.d (.bl (!b)), h1)
  | _ => .stuck
theorem re_step {fb : FE} {σ : L2.St} {H1 : Hp} {Q : VK} {env : Env} {h1 : Heap} {fz fz1 fr : Hp} {rho : List Addr} (s1 : Same fz fz1) (st1 : StH (kf X) fz1 fr rho h1 H1) (er1 : EnvR (kf X) fz1 rho env σ)
    (q : OkO (fb env h1) (fun p => ∀ fz' v H', Same fz fz' → StH (kf X) fz' fr rho p.2 H' → ResR (kf X) fz' fr rho p.2 H' p.1 v → Q v H') (fun _ _ => False)) : RE X fb σ H1 Q :=
  ⟨env, h1, fz1, fr, rho, st1, er1, OkO.mono q (fun p a fz' v H' s => a fz' v H' (s1.trans s)) fun _ _ z => z⟩
theorem and_r {fa fb : FE} {σ : L2.St} {H : Hp} {Q : VK} (q : RE X (fAnd fa fb) σ H Q) : tAndV (RE X fa) (RE X fb) σ H Q := by
  obtain ⟨env, h, fz, fr, rho, st, er, q⟩ := q
  refine TEo.go st er q.bind fun x h1 q1 fz1 v1 H1 s1 st1 er1 r1 => ?_
  dsimp only at q1
  split at q1
  · exact ⟨true, Rep.bl_inv (show Rep (kf X) fz1 (.bl true) v1 from r1), re_step s1 st1 er1 q1⟩
  · exact ⟨false, Rep.bl_inv (show Rep (kf X) fz1 (.bl false) v1 from r1), (show ∀ fz' v H', Same fz fz' → StH (kf X) fz' fr rho h1 H' → ResR (kf X) fz' fr rho h1 H' (.d (.bl false)) v → Q v H' from q1) fz1 _ H1 s1 st1 res_bl⟩
  · exact (show False from q1).elim
theorem or_r {fa fb : FE} {σ : L2.St} {H : Hp} {Q : VK} (q : RE X (fOr fa fb) σ H Q) : tOrV (RE X fa) (RE X fb) σ H Q := by
  obtain ⟨env, h, fz, fr, rho, st, er, q⟩ := q
  refine TEo.go st er q.bind fun x h1 q1 fz1 v1 H1 s1 st1 er1 r1 => ?_
  dsimp only at q1
  split at q1
  · exact ⟨false, Rep.bl_inv (show Rep (kf X) fz1 (.bl false) v1 from r1), re_step s1 st1 er1 q1⟩
  · exact ⟨true, Rep.bl_inv (show Rep (kf X) fz1 (.bl true) v1 from r1), (show ∀ fz' v H', Same fz fz' → StH (kf X) fz' fr rho h1 H' → ResR (kf X) fz' fr rho h1 H' (.d (.bl true)) v → Q v H' from q1) fz1 _ H1 s1 st1 res_bl⟩
  · exact (show False from q1).elim
theorem not_r {fa : FE} {σ : L2.St} {H : Hp} {Q : VK} (q : RE X (fNot fa) σ H Q) : tNotV (RE X fa) σ H Q := by
  obtain ⟨env, h, fz, fr, rho, st, er, q⟩ := q
  refine TEo.go st er q.bind fun x h1 q1 fz1 v1 H1 s1 st1 er1 r1 => ?_
  dsimp only at q1
  split at q1
  · rename_i b
    exact ⟨b, Rep.bl_inv (show Rep (kf X) fz1 (.bl b) v1 from r1), (show ∀ fz' v H', Same fz fz' → StH (kf X) fz' fr rho h1 H' → ResR (kf X) fz' fr rho h1 H' (.d (.bl (!b))) v → Q v H' from q1) fz1 _ H1 s1 st1 res_bl⟩
  · exact (show False from q1).elim
def fIte (t : FT) (fa fb : FE) : FE := fun env h => t env h >>= fun (k, h1) => if k then fa env h1 else fb env h1
theorem ite_r {t : FT} {fa fb : FE} {σ : L2.St} {H : Hp} {Q : VK} (q : RE X (fIte t fa fb) σ H Q) : tIf (RT X t) (RE X fa) (RE X fb) σ H Q := by
  unfold tIf
  obtain ⟨env, h, fz, fr, rho, st, er, q⟩ := q
  refine TTo.go st er q.bind fun k h1 q1 fz1 H1 s1 st1 er1 => ?_
  cases k with
  | true => exact re_step s1 st1 er1 q1
  | false => exact re_step s1 st1 er1 q1

/-! ### a op1 b op2 c -/
def fChn (G G' : D → D → Option Bool) (fa fb fc : FE) : FE := fun env h => fa env h >>= fun (x, h1) => fb env h1 >>= fun (y, h2) =>
  match view h2 (nrm x), view h2 (nrm y) with
  | some u, some v => (match G u v with
    | some true => fc env h2 >>= fun (z, h3) => (match view h3 (nrm y), view h3 (nrm z) with
      | some v', some w => (match G' v' w with
        | some k => .ok (.d (.bl k), h3)
        | none => .stuck)
      | _, _ => .stuck)
    | some false => .ok (.d (.bl false), h2)
    | none => .stuck)
  | _, _ => .stuck
theorem chn_r {G G' : D → D → Option Bool} {fa fb fc : FE} {σ : L2.St} {H : Hp} {Q : VK} (q : RE X (fChn G G' fa fb fc) σ H Q) : tChain (rB (kf X) G) (rB (kf X) G') (RE X fa) (RE X fb) (RE X fc) σ H Q := by
  obtain ⟨env, h, fz, fr, rho, st, er, q⟩ := q
  refine TEo.goN st er q.bind fun x h1 q1 fz1 v1 H1 s1 st1 er1 r1 => ?_
  refine TEo.goN st1 er1 (q1.bind.wish s1) fun y h2 q2 fz2 v2 H2 s2 st2 er2 r2 => ?_
  dsimp only at q2
  cases ex : view h2 (nrm x) with
  | none => rw [ex] at q2; exact (show False from q2).elim
  | some u =>
    cases ey : view h2 (nrm y) with
    | none => rw [ex, ey] at q2; exact (show False from q2).elim
    | some v =>
      rw [ex, ey] at q2
      dsimp only at q2
      cases eg : G u v with
      | none => rw [eg] at q2; exact (show False from q2).elim
      | some b =>
        rw [eg] at q2
        refine ⟨fz2, fr, rho, h2, u, v, b, st2, view_top st2 (r1.mono s2) ex, view_top st2 r2 ey, eg, b, rfl, ?_⟩
        cases b with
        | false => exact (show ∀ fz' v H', Same fz fz' → StH (kf X) fz' fr rho h2 H' → ResR (kf X) fz' fr rho h2 H' (.d (.bl false)) v → Q v H' from q2) fz2 _ H2 (s1.trans s2) st2 res_bl
        | true =>
          rw [if_pos rfl]
          refine TEo.goN st2 er2 ((OkO.bind (o := fc env h2) q2).wish (s1.trans s2)) fun z h3 q3 fz3 v3 H3 s3 st3 er3 r3 => ?_
          dsimp only at q3
          cases ey' : view h3 (nrm y) with
          | none => rw [ey'] at q3; exact (show False from q3).elim
          | some v' =>
            cases ez : view h3 (nrm z) with
            | none => rw [ey', ez] at q3; exact (show False from q3).elim
            | some w =>
              rw [ey', ez] at q3
              dsimp only at q3
              cases eg' : G' v' w with
              | none => rw [eg'] at q3; exact (show False from q3).elim
              | some k =>
                rw [eg'] at q3
                exact ⟨fz3, fr, rho, h3, v', w, k, st3, view_top st3 (r2.mono s3) ey', view_top st3 r3 ez, eg',
                  (show ∀ fz' v H', Same fz fz' → StH (kf X) fz' fr rho h3 H' → ResR (kf X) fz' fr rho h3 H' (.d (.bl k)) v → Q v H' from q3) fz3 _ H3 (s1.trans (s2.trans s3)) st3 res_bl⟩
theorem fChn_bl {G G' : D → D → Option Bool} {fa fb fc : FE} (env : Env) (h : Heap) (r : RV) (h' : Heap) (e : fChn G G' fa fb fc env h = .ok (r, h')) : ∃ k, r = .d (.bl k) := by
  unfold fChn at e
  obtain ⟨⟨x, h1⟩, _, e⟩ := ok_bind e
  obtain ⟨⟨y, h2⟩, _, e⟩ := ok_bind e
  dsimp only at e
  split at e
  · split at e
    · obtain ⟨⟨z, h3⟩, _, e⟩ := ok_bind e
      dsimp only at e
      split at e
      · split at e
        · cases e
          exact ⟨_, rfl⟩
        · cases e
      · cases e
    · cases e
      exact ⟨_, rfl⟩
    · cases e
  · cases e
theorem pe_chn {a b c : Expr} {fa fb fc : FE} {o o' : Cmp} {pos : Pos} (hu : X.A.units + 65 < cLine) (hm : lastMarks [copOf o, copOf o'] [b, c] = false) (ha : PE X a (RE X fa)) (hb : PE X b (RE X fb)) (hc : PE X c (RE X fc)) :
    PE X (.Compare a [copOf o, copOf o'] [b, c] pos) (RE X (fChn (cmpV o) (cmpV o') fa fb fc)) :=
  PE.mono (pe_chain (op_cmp hu o) (op_cmp hu o') ha hb hc hm) fun σ H Q q => chn_r q
theorem pt_chn {a b c : Expr} {fa fb fc : FE} {o o' : Cmp} {pos : Pos} (hu : X.A.units + 65 < cLine) (hm : lastMarks [copOf o, copOf o'] [b, c] = false) (ha : PE X a (RE X fa)) (hb : PE X b (RE X fb)) (hc : PE X c (RE X fc)) :
    PT X (.Compare a [copOf o, copOf o'] [b, c] pos) (RT X (fTe (fChn (cmpV o) (cmpV o') fa fb fc))) :=
  PT.mono (pt_chain (op_cmp hu o) (op_cmp hu o') ha hb hc hm) fun σ H Q q => chn_r (te_bl fChn_bl q)
end
end Mini
set_option Elab.async false
set_option linter.all false
set_option maxRecDepth 100000
set_option maxHeartbeats 4000000
/- Mini: arguments, displays, subscripts, calls, by their rules. Own work. -/
namespace Mini
open PySem PySem.Spec PyProof.Rows L2

section
variable {X : Cx}
theorem use_ok {K : KF} {fz fz1 fr : Hp} {rho : List Addr} {h1 : Heap} {H1 : Hp} {r : RV} {v : V} {Q : VK} {B : Ex → Heap → Prop} (q : OkO (.ok (r, h1)) (fun p => ∀ fz' v H', Same fz fz' → StH K fz' fr rho p.2 H' → ResR K fz' fr rho p.2 H' p.1 v → Q v H') B)
    (s : Same fz fz1) (st : StH K fz1 fr rho h1 H1) (rr : ResR K fz1 fr rho h1 H1 r v) : Q v H1 := (show ∀ fz' v H', Same fz fz' → StH K fz' fr rho h1 H' → ResR K fz' fr rho h1 H' r v → Q v H' from q) fz1 v H1 s st rr

def fNil : FA := fun _ h => .ok ([], h)
def fCons (fa : FE) (fr : FA) : FA := fun env h => fa env h >>= fun (x, h1) => fr env h1 >>= fun (xs, h2) => .ok (nrm x :: xs, h2)
theorem nil_r {σ : L2.St} {H : Hp} {Q : List V → Hp → Prop} (q : RA X fNil σ H Q) : tNil σ H Q := by
  obtain ⟨env, h, fz, fr, rho, st, er, q⟩ := q
  exact (show ∀ fz' vs H', Same fz fz' → StH (kf X) fz' fr rho h H' → RepRs (kf X) fz' rho [] vs → Q vs H' from q) fz [] H (Same.refl _) st rfl
theorem cons_r {fa : FE} {fs : FA} {σ : L2.St} {H : Hp} {Q : List V → Hp → Prop} (q : RA X (fCons fa fs) σ H Q) : tCons (RE X fa) (RA X fs) σ H Q := by
  obtain ⟨env, h, fz, fr, rho, st, er, q⟩ := q
  refine TEo.goN st er q.bind fun x h1 q1 fz1 v1 H1 s1 st1 er1 r1 => ?_
  refine TAo.go st1 er1 (q1.bind.wish s1) fun xs h2 q2 fz2 vs H2 s2 st2 er2 r2 => ?_
  exact (show ∀ fz' vs H', Same fz fz' → StH (kf X) fz' fr rho h2 H' → RepRs (kf X) fz' rho (nrm x :: xs) vs → Q vs H' from q2) fz2 _ H2 (s1.trans s2) st2 ⟨v1, vs, rfl, r1.mono s2, r2⟩
theorem pa_n : PA X [] (RA X fNil) := PA.mono pa_nil fun _ _ _ q => nil_r q
theorem pa_c {e : Expr} {es : List Expr} {fa : FE} {fs : FA} (ha : PE X e (RE X fa)) (hr : PA X es (RA X fs)) (hs : starEach (e :: es) X.env = (false, eval e X.env) :: starEach es X.env) : PA X (e :: es) (RA X (fCons fa fs)) :=
  PA.mono (pa_cons ha hr hs) fun _ _ _ q => cons_r q

def fTup (fs : FA) : FE := fun env h => fs env h >>= fun (xs, h1) => match datasOf xs with
  | some ds => if ds.length ≤ LINE then .ok (.d (.tup ds), h1) else .stuck
  | none => .stuck
def fLst (fs : FA) : FE := fun env h => fs env h >>= fun (xs, h1) => match datasOf xs with
  | some ds => if ds.length ≤ LINE then .ok (.nw (.lst ds), h1) else .stuck
  | none => .stuck
theorem pe_tupP {es : List Expr} {t : TA} {k : Nat} {pos : Pos} (h : PA X es t) : PE X (.Tuple es k pos) (fun σ H Q => t σ H fun xs H1 => xs.length ≤ sizeLine ∧ ∀ p o, H1 p = none → o.dict = none → Q (.ref p) (upd H1 p (.frz o (.tup xs)))) := by
  refine ⟨fun pins s σ H Q I hq => ?_⟩
  exact wpAny_Tuple_spliced (thn (h.run pos pins s σ H _ I hq) fun us s1 ⟨xs, H1, I1, r, z, q⟩ => ⟨by rw [← r.length]; exact z, invTup I1 r z q⟩)
theorem pe_tp {es : List Expr} {fs : FA} {k : Nat} {pos : Pos} (h : PA X es (RA X fs)) : PE X (.Tuple es k pos) (RE X (fTup fs)) :=
  PE.mono (pe_tupP h) fun σ H Q ⟨env, h, fz, fr, rho, st, er, q⟩ => by
    refine TAo.go st er q.bind fun xs h1 q1 fz1 vs H1 s1 st1 er1 r1 => ?_
    dsimp only at q1
    split at q1
    · rename_i ds e
      have rl := datas_rep r1 e
      split at q1
      · rename_i hl
        refine ⟨by rw [rl.length, ← line_eq]; exact hl, fun p o hp ho => ?_⟩
        obtain ⟨s2, st2, r2⟩ := st1.newTup rl hl hp ho
        exact use_ok q1 (s1.trans s2) st2 r2
      · exact (show False from q1).elim
    · exact (show False from q1).elim
theorem pe_ls {es : List Expr} {fs : FA} {pos : Pos} (h : PA X es (RA X fs)) : PE X (.List es pos) (RE X (fLst fs)) :=
  PE.mono (pe_lst h) fun σ H Q ⟨env, h, fz, fr, rho, st, er, q⟩ => by
    refine TAo.go st er q.bind fun xs h1 q1 fz1 vs H1 s1 st1 er1 r1 => ?_
    dsimp only at q1
    split at q1
    · rename_i ds e
      have rl := datas_rep r1 e
      split at q1
      · rename_i hl
        refine ⟨by rw [rl.length, ← line_eq]; exact hl, fun p hp => ?_⟩
        obtain ⟨st2, r2⟩ := st1.newLst rl hl hp
        exact use_ok q1 s1 st2 r2
      · exact (show False from q1).elim
    · exact (show False from q1).elim

/-! ### subscripts, slices -/
def fIdx (fa fb : FE) : FE := fun env h => fa env h >>= fun (x, h1) => fb env h1 >>= fun (y, h2) => match view h2 (nrm x), view h2 (nrm y) with
  | some p, some q => (match idxV p q with
    | some v => .ok (.d v, h2)
    | none => .stuck)
  | _, _ => .stuck
theorem pe_idx {a b : Expr} {fa fb : FE} {pos : Pos} (hu : X.A.units + 1 < cLine) (hs : PlainIx b) (ha : PE X a (RE X fa)) (hb : PE X b (RE X fb)) : PE X (.Subscript a b pos) (RE X (fIdx fa fb)) :=
  PE.mono (pe_ix (ix_val hu) ha hb hs) fun σ H Q ⟨env, h, fz, fr, rho, st, er, q⟩ => by
    refine TEo.goN st er q.bind fun x h1 q1 fz1 v1 H1 s1 st1 er1 r1 => ?_
    refine TEo.goN st1 er1 (q1.bind.wish s1) fun y h2 q2 fz2 v2 H2 s2 st2 er2 r2 => ?_
    dsimp only at q2
    cases ex : view h2 (nrm x) with
    | none => rw [ex] at q2; exact (show False from q2).elim
    | some p =>
      cases ey : view h2 (nrm y) with
      | none => rw [ex, ey] at q2; exact (show False from q2).elim
      | some q' =>
        rw [ex, ey] at q2
        dsimp only at q2
        cases eg : idxV p q' with
        | none => rw [eg] at q2; exact (show False from q2).elim
        | some r =>
          rw [eg] at q2
          exact ⟨fz2, fr, rho, h2, p, q', r, st2, view_top st2 (r1.mono s2) ex, view_top st2 r2 ey, eg, fun v rv => use_ok q2 (s1.trans s2) st2 rv⟩
def fPn : FO := fun _ h => .ok (none, h)
def fPv (fa : FE) : FO := fun env h => fa env h >>= fun (x, h1) => match x with
  | .d (.int i) => .ok (some i, h1)
  | _ => .stuck
theorem po_n : PO X none (RO X fPn) := PO.mono po_none fun σ H Q ⟨env, h, fz, fr, rho, st, er, q⟩ => (show ∀ fz' H', Same fz fz' → StH (kf X) fz' fr rho h H' → Q none H' from q) fz H (Same.refl _) st
theorem po_v {e : Expr} {fa : FE} (ha : PE X e (RE X fa)) : PO X (some e) (RO X (fPv fa)) := PO.mono (po_some ha) fun σ H Q ⟨env, h, fz, fr, rho, st, er, q⟩ => by
  refine TEo.go st er q.bind fun x h1 q1 fz1 v1 H1 s1 st1 er1 r1 => ?_
  dsimp only at q1
  split at q1
  · rename_i i
    exact ⟨i, Rep.int_inv (show Rep (kf X) fz1 (.int i) v1 from r1), (show ∀ fz' H', Same fz fz' → StH (kf X) fz' fr rho h1 H' → Q (some i) H' from q1) fz1 H1 s1 st1⟩
  · exact (show False from q1).elim
def fSli (fa : FE) (lo hi : FO) : FE := fun env h => fa env h >>= fun (x, h1) => lo env h1 >>= fun (l, h2) => hi env h2 >>= fun (u, h3) => match view h3 (nrm x) with
  | some p => (match sliV p l u with
    | some r => .ok (r, h3)
    | none => .stuck)
  | none => .stuck
theorem pe_sli {a : Expr} {lo hi : Option Expr} {fa : FE} {fl fh : FO} {pos p2 : Pos} (ha : PE X a (RE X fa)) (hl : PO X lo (RO X fl)) (hh : PO X hi (RO X fh)) : PE X (.Subscript a (.Slice lo hi none p2) pos) (RE X (fSli fa fl fh)) :=
  PE.mono (pe_slice sl_val ha hl hh) fun σ H Q ⟨env, h, fz, fr, rho, st, er, q⟩ => by
    refine TEo.goN st er q.bind fun x h1 q1 fz1 v1 H1 s1 st1 er1 r1 => ?_
    refine TOo.go st1 er1 (q1.bind.wish s1) fun l h2 q2 fz2 H2 s2 st2 er2 => ?_
    refine TOo.go st2 er2 (q2.bind.wish (s1.trans s2)) fun u h3 q3 fz3 H3 s3 st3 er3 => ?_
    dsimp only at q3
    cases ex : view h3 (nrm x) with
    | none => rw [ex] at q3; exact (show False from q3).elim
    | some p =>
      rw [ex] at q3
      dsimp only at q3
      cases eg : sliV p l u with
      | none => rw [eg] at q3; exact (show False from q3).elim
      | some r =>
        rw [eg] at q3
        exact ⟨fz3, fr, rho, h3, p, r, st3, view_top st3 (r1.mono (s2.trans s3)) ex, eg, fun fz' v H' s' st' rr => use_ok q3 (s1.trans (s2.trans (s3.trans s'))) st' rr⟩
def fRev (fa : FE) : FE := fun env h => fa env h >>= fun (x, h1) => match view h1 (nrm x) with
  | some p => (match revV p with
    | some r => .ok (r, h1)
    | none => .stuck)
  | none => .stuck
theorem pe_rv {e : Expr} {fa : FE} {k : Nat} {p1 p2 p3 pos : Pos} (ha : PE X e (RE X fa)) (hstr : True) : PE X (.Subscript e (.Slice none none (some (.UnaryOp .USub (.Constant (.int 1) k p1) p2)) p3) pos) (RE X (fRev fa)) :=
  PE.mono (pe_rev ha) fun σ H Q ⟨env, h, fz, fr, rho, st, er, q⟩ => by
    refine TEo.goN st er q.bind fun x h1 q1 fz1 v1 H1 s1 st1 er1 r1 => ?_
    dsimp only at q1
    cases ex : view h1 (nrm x) with
    | none => rw [ex] at q1; exact (show False from q1).elim
    | some p =>
      rw [ex] at q1
      dsimp only at q1
      have t := view_top st1 r1 ex
      cases p with
      | lst xs =>
        obtain ⟨a, vs, rfl, h2, h3, h4⟩ := t.lst
        refine .inl ⟨a, vs, rfl, h2, fun p hp => ?_⟩
        obtain ⟨st2, r2⟩ := st1.newLst h4.reverse (by rw [List.length_reverse]; exact h3) hp
        exact use_ok q1 s1 st2 r2
      | tup xs =>
        obtain ⟨a, vs, rfl, _, h2, h3, h4⟩ := t.tup st1.sub
        refine .inr ⟨a, vs, rfl, h2, fun p o hp ho => ?_⟩
        obtain ⟨s2, st2, r2⟩ := st1.newTup h4.reverse (by rw [List.length_reverse]; exact h3) hp ho
        exact use_ok q1 (s1.trans s2) st2 r2
      | _ => exact (show False from q1).elim

/-! ### calls -/
/-- what a def promises -/
def spO (K : KF) (f : List RV → Heap → Out (RV × Heap)) : Sp := fun vs H Q _ => ∃ xs h fz fr rho, StH K fz fr rho h H ∧ RepRs K fz rho xs vs ∧
  OkO (f xs h) (fun p => ∀ fz' v H', Same fz fz' → StH K fz' fr rho p.2 H' → ResR K fz' fr rho p.2 H' p.1 v → Q v H') (fun _ _ => False)
abbrev CX0 : CXT := fun _ _ _ _ _ _ => False
def fCall (f : List RV → Heap → Out (RV × Heap)) (fs : FA) : FE := fun env h => fs env h >>= fun (xs, h1) => f xs h1
theorem call_r {f : List RV → Heap → Out (RV × Heap)} {fs : FA} {σ : L2.St} {H : Hp} {Q : VK} {E : XK} (q : RE X (fCall f fs) σ H Q) : tCall (spO (kf X) f) [] E (RA X fs) σ H Q := by
  obtain ⟨env, h, fz, fr, rho, st, er, q⟩ := q
  refine TAo.go st er q.bind fun xs h1 q1 fz1 vs H1 s1 st1 er1 r1 => ?_
  rw [List.append_nil]
  exact ⟨xs, h1, fz1, fr, rho, st1, r1, OkO.mono q1 (fun p a fz' v H' s => a fz' v H' (s1.trans s)) fun _ _ z => z⟩
/-- a def of the module, as the calls see it -/
structure FunAt (X : Cx) (x : Str) (f : List RV → Heap → Out (RV × Heap)) : Prop where
  ex : ∃ (k : Nat) (a : Addr) (fd : FuncData) (ps : List Str), FnOk X.prog X.w X.K X.mg X.base CX0 k a fd ps (spO (kf X) f) ∧ Room k X.A ∧ X.mg x = some (.ref a) ∧ PySem.W.keepIn X.K (.ref a) = true ∧ Binds X.K fd ps []
theorem pe_cl {x : Str} {p pos : Pos} {es : List Expr} {f : List RV → Heap → Out (RV × Heap)} {fs : FA} (F : FunAt X x f) (hg : Gl X x) (hdb : (x == ("__debug__" : Str)) = false) (ha : PA X es (RA X fs))
    (he : ∀ e es', es = e :: es' → starEach (e :: es') X.env = (false, eval e X.env) :: starEach es' X.env) (hpl : ∀ e es', es = e :: es' → (backTo pos (starEach es' X.env)).any (·.1) = false) (h0 : es = [] → fs = fNil) :
    PE X (.Call (.Name x p) es [] pos) (RE X (fCall f fs)) := by
  obtain ⟨k, a, fd, ps, F, hr, hm, hk, hb⟩ := F.ex
  have hx : Passes CX0 X (fun _ _ _ => False) := fun _ _ _ _ _ _ _ z => False.elim z
  cases es with
  | nil =>
    refine PE.mono (pe_call0 F hr hg hm hk hb .nil hx hdb) fun σ H Q q => ?_
    rw [h0 rfl] at q
    have q2 := call_r (E := fun _ _ _ => False) q
    exact nil_r q2
  | cons e es => exact PE.mono (pe_call F hr hg hm hk hb .nil hx ha hdb (he e es rfl) (hpl e es rfl)) fun σ H Q q => call_r q

/-- built-in functions -/
def fBi (g : List D → Option RV) (fs : FA) : FE := fun env h => fs env h >>= fun (xs, h1) => match views h1 xs with
  | some ds => (match g ds with
    | some r => .ok (r, h1)
    | none => .stuck)
  | none => .stuck
theorem bi_r {g : List D → Option RV} {fs : FA} {σ : L2.St} {H : Hp} {Q : VK} (q : RE X (fBi g fs) σ H Q) : tCB (rBi (kf X) g) (RA X fs) σ H Q := by
  obtain ⟨env, h, fz, fr, rho, st, er, q⟩ := q
  refine TAo.go st er q.bind fun xs h1 q1 fz1 vs H1 s1 st1 er1 r1 => ?_
  dsimp only at q1
  cases ex : views h1 xs with
  | none => rw [ex] at q1; exact (show False from q1).elim
  | some ds =>
    rw [ex] at q1
    dsimp only at q1
    cases eg : g ds with
    | none => rw [eg] at q1; exact (show False from q1).elim
    | some r =>
      rw [eg] at q1
      exact ⟨fz1, fr, rho, h1, ds, r, st1, views_tops st1 r1 ex, eg, fun fz' v H' s st' rr => use_ok q1 (s1.trans s) st' rr⟩

/-- isinstance(x, T) -/
def tyNm : Ty → String
  | .int => "int"
  | .bool => "bool"
  | .str => "str"
  | .tuple => "tuple"
  | .list => "list"
  | .dict => "dict"
def tyD : D → String
  | .non => "NoneType"
  | .bl _ => "bool"
  | .int _ => "int"
  | .str _ => "str"
  | .tup _ => "tuple"
  | .lst _ => "list"
  | .dct _ _ => "dict"
def tagD : D → Nat
  | .non => 0
  | .bl _ => 1
  | .int _ => 2
  | .str _ => 3
  | .tup _ => 4
  | .lst _ => 5
  | .dct _ _ => 6
def tags : List String := ["NoneType", "bool", "int", "str", "tuple", "list", "dict"]
def tagB (a b : Nat) : Bool := a == b || (a == 1 && b == 2)
theorem kit_tab : ((List.range 7).all fun a => (List.range 7).all fun b => b == 0 || decide (kitB (tags.getD a "") (tags.getD b "") = some (tagB a b))) = true := by decide +kernel
theorem kit_at {a b : Nat} (ha : a < 7) (hb : b < 7) (h0 : b ≠ 0) : kitB (tags.getD a "") (tags.getD b "") = some (tagB a b) := by
  have h := kit_tab
  rw [List.all_eq_true] at h
  have h1 := h a (List.mem_range.mpr ha)
  rw [List.all_eq_true] at h1
  have h2 := h1 b (List.mem_range.mpr hb)
  rw [Bool.or_eq_true, decide_eq_true_eq] at h2
  rcases h2 with h2 | h2
  · exact absurd (by simpa using h2) h0
  · exact h2
theorem kit_D (x : D) (t : Ty) : kitB (tyD x) (tyNm t) = some (tyOk t x) := by
  cases x <;> cases t
  all_goals first
    | exact kit_at (a := 0) (b := 1) (by decide) (by decide) (by decide)
    | exact kit_at (a := 0) (b := 2) (by decide) (by decide) (by decide)
    | exact kit_at (a := 0) (b := 3) (by decide) (by decide) (by decide)
    | exact kit_at (a := 0) (b := 4) (by decide) (by decide) (by decide)
    | exact kit_at (a := 0) (b := 5) (by decide) (by decide) (by decide)
    | exact kit_at (a := 0) (b := 6) (by decide) (by decide) (by decide)
    | exact kit_at (a := 1) (b := 1) (by decide) (by decide) (by decide)
    | exact kit_at (a := 1) (b := 2) (by decide) (by decide) (by decide)
    | exact kit_at (a := 1) (b := 3) (by decide) (by decide) (by decide)
    | exact kit_at (a := 1) (b := 4) (by decide) (by decide) (by decide)
    | exact kit_at (a := 1) (b := 5) (by decide) (by decide) (by decide)
    | exact kit_at (a := 1) (b := 6) (by decide) (by decide) (by decide)
    | exact kit_at (a := 2) (b := 1) (by decide) (by decide) (by decide)
    | exact kit_at (a := 2) (b := 2) (by decide) (by decide) (by decide)
    | exact kit_at (a := 2) (b := 3) (by decide) (by decide) (by decide)
    | exact kit_at (a := 2) (b := 4) (by decide) (by decide) (by decide)
    | exact kit_at (a := 2) (b := 5) (by decide) (by decide) (by decide)
    | exact kit_at (a := 2) (b := 6) (by decide) (by decide) (by decide)
    | exact kit_at (a := 3) (b := 1) (by decide) (by decide) (by decide)
    | exact kit_at (a := 3) (b := 2) (by decide) (by decide) (by decide)
    | exact kit_at (a := 3) (b := 3) (by decide) (by decide) (by decide)
    | exact kit_at (a := 3) (b := 4) (by decide) (by decide) (by decide)
    | exact kit_at (a := 3) (b := 5) (by decide) (by decide) (by decide)
    | exact kit_at (a := 3) (b := 6) (by decide) (by decide) (by decide)
    | exact kit_at (a := 4) (b := 1) (by decide) (by decide) (by decide)
    | exact kit_at (a := 4) (b := 2) (by decide) (by decide) (by decide)
    | exact kit_at (a := 4) (b := 3) (by decide) (by decide) (by decide)
    | exact kit_at (a := 4) (b := 4) (by decide) (by decide) (by decide)
    | exact kit_at (a := 4) (b := 5) (by decide) (by decide) (by decide)
    | exact kit_at (a := 4) (b := 6) (by decide) (by decide) (by decide)
    | exact kit_at (a := 5) (b := 1) (by decide) (by decide) (by decide)
    | exact kit_at (a := 5) (b := 2) (by decide) (by decide) (by decide)
    | exact kit_at (a := 5) (b := 3) (by decide) (by decide) (by decide)
    | exact kit_at (a := 5) (b := 4) (by decide) (by decide) (by decide)
    | exact kit_at (a := 5) (b := 5) (by decide) (by decide) (by decide)
    | exact kit_at (a := 5) (b := 6) (by decide) (by decide) (by decide)
    | exact kit_at (a := 6) (b := 1) (by decide) (by decide) (by decide)
    | exact kit_at (a := 6) (b := 2) (by decide) (by decide) (by decide)
    | exact kit_at (a := 6) (b := 3) (by decide) (by decide) (by decide)
    | exact kit_at (a := 6) (b := 4) (by decide) (by decide) (by decide)
    | exact kit_at (a := 6) (b := 5) (by decide) (by decide) (by decide)
    | exact kit_at (a := 6) (b := 6) (by decide) (by decide) (by decide)
theorem top_ty {K : KF} {fz H : Hp} {x : D} {v : V} {t : Ty} {b : Bool} (sub : Same fz H) (h : Top K fz H x v) (e : isiV t x = some b) : TyX K.1 H v (.type (tyD x)) := by
  cases x with
  | non => rw [Rep.non_inv (show Rep K fz .non v from h)]; exact .base .non
  | bl b => rw [Rep.bl_inv (show Rep K fz (.bl b) v from h)]; exact .base (.bl _)
  | int i => rw [h.int]; exact .base (.int _)
  | str s => rw [h.str.1]; exact .base (.str _)
  | tup xs =>
    obtain ⟨a, vs, rfl, h0, h1, _, h3⟩ := h.tup sub
    rcases h0 with ⟨o, h0, _⟩ | ⟨o, its, n, h0, ⟨h2, _⟩, _⟩
    · exact .fTuple (sub _ _ h0)
    · exact .kTuple h0 h2
  | lst xs =>
    obtain ⟨a, vs, rfl, h1, _, h3⟩ := h.lst
    rcases h1 with (h1 | ⟨o, h1⟩) | ⟨o, its, n, h1, h2, _⟩
    · exact .base (.lst h1)
    · exact .base (.frz h1)
    · exact .kList h1 h2
  | dct t kvs =>
    cases t with
    | true => cases e
    | false =>
      obtain ⟨a, ws, rfl, h1, _⟩ := h
      rcases h1 with (h1 | ⟨o, h1⟩) | ⟨es, n, h1, _⟩
      · exact .base (.dK h1)
      · exact .fDict h1
      · exact .kDict h1 rfl
def fIsi (t : Ty) (fa : FE) : FE := fun env h => fa env h >>= fun (x, h1) => match view h1 (nrm x) with
  | some p => (match isiV t p with
    | some k => .ok (.d (.bl k), h1)
    | none => .stuck)
  | none => .stuck
theorem isi_r {fa : FE} {t : Ty} {σ : L2.St} {H : Hp} {Q : VK} (q : RE X (fIsi t fa) σ H Q) : tCB (rIsi X.K) (tCons (RE X fa) (tCons (tC (.ty (tyNm t))) tNil)) σ H Q := by
  obtain ⟨env, h, fz, fr, rho, st, er, q⟩ := q
  refine TEo.goN st er q.bind fun x h1 q1 fz1 v1 H1 s1 st1 er1 r1 => ?_
  dsimp only at q1
  cases ex : view h1 (nrm x) with
  | none => rw [ex] at q1; exact (show False from q1).elim
  | some p =>
    rw [ex] at q1
    dsimp only at q1
    cases eg : isiV t p with
    | none => rw [eg] at q1; exact (show False from q1).elim
    | some k =>
      rw [eg] at q1
      have ek : tyOk t p = k := by
        unfold isiV at eg
        split at eg
        · cases eg
        · cases eg
          rfl
      exact ⟨v1, .ty (tyNm t), .type (tyD p), .type (tyNm t), k, rfl, .ty _, top_ty st1.sub (view_top st1 r1 ex) eg, by rw [← ek]; exact kit_ty (kit_D p t), use_ok q1 s1 st1 res_bl⟩

/-! ### methods -/
def fMtR (m : Mt) (fo : FE) (fs : FA) : FE := fun env h => fo env h >>= fun (x, h1) => if ((view h1 (nrm x)).map (onKind m)) = some true then fs env h1 >>= fun (ys, h2) =>
    match view h2 (nrm x), datasOf ys with
    | some p, some ds => (match mtV m p ds with
      | some r => .ok (r, h2)
      | none => .stuck)
    | _, _ => .stuck
  else .stuck
def fMtW (m : Mt) (fo : FE) (fs : FA) : FE := fun env h => fo env h >>= fun (x, h1) => if ((view h1 (nrm x)).map (onKind m)) = some true then fs env h1 >>= fun (ys, h2) =>
    match nrm x, datasOf ys with
    | .ref n, some ds => (match h2[n]? with
      | some c => (match mtW m c ds with
        | some (v, c') => .ok (.d v, h2.set n c')
        | none => .stuck)
      | none => .stuck)
    | _, _ => .stuck
  else .stuck
/-- of what kind the thing is -/
theorem kind_dc {K : KF} {fz fr : Hp} {rho : List Addr} {h : Heap} {H : Hp} {r : RV} {v : V} {m : Mt} (hm : m = .get ∨ m = .update) (st : StH K fz fr rho h H) (rr : RepR K fz rho r v) (e : ((view h r).map (onKind m)) = some true) : IsDc K H v := by
  obtain ⟨p, e1, e2⟩ := Option.map_eq_some_iff.mp e
  have t := view_top st rr e1
  rcases hm with rfl | rfl <;> (cases p <;> first | exact Top.isDc t | cases e2)
theorem kind_ls {K : KF} {fz fr : Hp} {rho : List Addr} {h : Heap} {H : Hp} {r : RV} {v : V} {m : Mt} (hm : m = .append ∨ m = .pop) (st : StH K fz fr rho h H) (rr : RepR K fz rho r v) (e : ((view h r).map (onKind m)) = some true) : tyV K.1 "list" v H := by
  obtain ⟨p, e1, e2⟩ := Option.map_eq_some_iff.mp e
  have t := view_top st rr e1
  have g : ∀ xs : List D, Top K fz H (.lst xs) v → tyV K.1 "list" v H := fun xs t => by
    obtain ⟨a, vs, rfl, h1, _⟩ := t.lst
    exact .inl ⟨rfl, vs, h1⟩
  rcases hm with rfl | rfl <;> (cases p <;> first | exact g _ t | cases e2)
theorem mtR_r {m : Mt} {fo : FE} {fs : FA} {R : V → Hp → Prop} (hk : ∀ {fz fr : Hp} {rho : List Addr} {h : Heap} {H : Hp} {r : RV} {v : V}, StH (kf X) fz fr rho h H → RepR (kf X) fz rho r v → ((view h r).map (onKind m)) = some true → R v H)
    {σ : L2.St} {H : Hp} {Q : VK} (q : RE X (fMtR m fo fs) σ H Q) : RE X fo σ H fun x H1 => R x H1 ∧ RA X fs σ H1 fun ys H2 => rMt (kf X) (mtV m) x ys H2 Q := by
  obtain ⟨env, h, fz, fr, rho, st, er, q⟩ := q
  refine TEo.goN st er q.bind fun x h1 q1 fz1 v1 H1 s1 st1 er1 r1 => ?_
  dsimp only at q1
  split at q1
  · rename_i ek
    refine ⟨hk st1 r1 ek, TAo.go st1 er1 (q1.bind.wish s1) fun ys h2 q2 fz2 vs H2 s2 st2 er2 r2 => ?_⟩
    dsimp only at q2
    cases ex : view h2 (nrm x) with
    | none => rw [ex] at q2; exact (show False from q2).elim
    | some p =>
      cases ey : datasOf ys with
      | none => rw [ex, ey] at q2; exact (show False from q2).elim
      | some ds =>
        rw [ex, ey] at q2
        dsimp only at q2
        cases eg : mtV m p ds with
        | none => rw [eg] at q2; exact (show False from q2).elim
        | some r =>
          rw [eg] at q2
          exact ⟨fz2, fr, rho, h2, p, ds, r, st2, view_top st2 (r1.mono s2) ex, datas_rep r2 ey, eg, fun fz' v H' s st' rr => use_ok q2 (s1.trans (s2.trans s)) st' rr⟩
  · exact (show False from q1).elim
theorem mtW_ng {m : Mt} {c : Cell} {ds : List D} {r : D × Cell} (e : mtW m c ds = some r) : c ≠ .gone := by
  rintro rfl
  unfold mtW at e
  split at e <;> first | contradiction | cases e
theorem mtW_r {m : Mt} {fo : FE} {fs : FA} {R : V → Hp → Prop} (hk : ∀ {fz fr : Hp} {rho : List Addr} {h : Heap} {H : Hp} {r : RV} {v : V}, StH (kf X) fz fr rho h H → RepR (kf X) fz rho r v → ((view h r).map (onKind m)) = some true → R v H)
    {σ : L2.St} {H : Hp} {Q : VK} (q : RE X (fMtW m fo fs) σ H Q) : RE X fo σ H fun x H1 => R x H1 ∧ RA X fs σ H1 fun ys H2 => rMw (kf X) (mtW m) x ys H2 Q := by
  obtain ⟨env, h, fz, fr, rho, st, er, q⟩ := q
  refine TEo.goN st er q.bind fun x h1 q1 fz1 v1 H1 s1 st1 er1 r1 => ?_
  dsimp only at q1
  split at q1
  · rename_i ek
    refine ⟨hk st1 r1 ek, TAo.go st1 er1 (q1.bind.wish s1) fun ys h2 q2 fz2 vs H2 s2 st2 er2 r2 => ?_⟩
    dsimp only at q2
    cases ex : nrm x with
    | d p => rw [ex] at q2; exact (show False from q2).elim
    | nw p => rw [ex] at q2; exact (show False from q2).elim
    | ref n =>
      cases ey : datasOf ys with
      | none => rw [ex, ey] at q2; exact (show False from q2).elim
      | some ds =>
        rw [ex, ey] at q2
        dsimp only at q2
        cases en : h2[n]? with
        | none => rw [en] at q2; exact (show False from q2).elim
        | some c =>
          rw [en] at q2
          dsimp only at q2
          cases eg : mtW m c ds with
          | none => rw [eg] at q2; exact (show False from q2).elim
          | some r =>
            obtain ⟨w, c'⟩ := r
            rw [eg] at q2
            rw [ex] at r1
            exact ⟨fz2, fr, rho, h2, n, c, ds, w, c', st2, en, mtW_ng eg, r1.mono s2, datas_rep r2 ey, eg, fun v H' st' rr => use_ok q2 (s1.trans s2) st' rr⟩
  · exact (show False from q1).elim
end
end Mini
set_option Elab.async false
set_option linter.all false
set_option maxRecDepth 100000
set_option maxHeartbeats 4000000
/- Mini: dict displays, targets, what is walked, comprehensions. Own work. -/
namespace Mini
open PySem PySem.Spec PyProof.Rows L2

section
variable {K : KF} {fz fr : Hp} {rho : List Addr} {h : Heap} {H : Hp}
/-- a new thing is kept apart -/
theorem StH.frame (st : StH K fz fr rho h H) {p : Addr} {o : HO} (hp : H p = none) : StH K fz (upd fr p o) rho h (upd H p o) where
  sub := (st.new hp).sub
  subF := fun b u q => by
    by_cases e : b = p
    · subst e
      rw [upd_same] at q
      cases q
      exact upd_same
    · rw [upd_ne e] at q
      exact (st.new hp).subF b u q
  dis := fun b u q => by
    by_cases e : b = p
    · subst e
      exact st.fz_none hp
    · rw [upd_ne e] at q
      exact st.dis b u q
  len := st.len
  cells := fun n c h1 h2 => by
    obtain ⟨a, u, e1, e2, e3, e4⟩ := st.cells n c h1 h2
    have ne : a ≠ p := fun z => by rw [z, hp] at e2; cases e2
    exact ⟨a, u, e1, by rw [upd_ne ne]; exact e2, ⟨e3.1, by rw [upd_ne ne]; exact e3.2⟩, e4⟩
  inj := st.inj
/-- .. and comes back -/
theorem StH.unframe {p : Addr} {o : HO} (st : StH K fz (upd fr p o) rho h H) (hf : fr p = none) : H p = some o ∧ fz p = none ∧ (∀ n : Nat, Live h n → rho[n]? ≠ some p) ∧ ∀ o', StH K fz fr rho h (upd H p o') := by
  have h1 : H p = some o := st.subF p o upd_same
  have h2 : fz p = none := st.dis p o upd_same
  have h3 : ∀ n : Nat, Live h n → rho[n]? ≠ some p := fun n l q => by
    obtain ⟨a, u, e1, e2, e3⟩ := st.live_at l
    rw [q] at e1
    cases e1
    rw [upd_same] at e3
    cases e3.2
  refine ⟨h1, h2, h3, fun o' => ⟨fun b u q => ?_, fun b u q => ?_, fun b u q => ?_, st.len, fun n c g1 g2 => ?_, st.inj⟩⟩
  · rw [upd_ne fun z => by rw [z, h2] at q; cases q]
    exact st.sub b u q
  · have ne : b ≠ p := fun z => by rw [z, hf] at q; cases q
    rw [upd_ne ne]
    exact st.subF b u (by rw [upd_ne ne]; exact q)
  · have ne : b ≠ p := fun z => by rw [z, hf] at q; cases q
    exact st.dis b u (by rw [upd_ne ne]; exact q)
  · obtain ⟨a, u, e1, e2, e3, e4⟩ := st.cells n c g1 g2
    have ne : a ≠ p := fun z => h3 n ⟨c, g1, g2⟩ (by rw [e1, z])
    exact ⟨a, u, e1, by rw [upd_ne ne]; exact e2, ⟨e3.1, by rw [upd_ne ne] at e3; exact e3.2⟩, e4⟩
/-- another thing kept apart at the same place -/
theorem StH.reframe {p : Addr} {o o' : HO} (st : StH K fz (upd fr p o) rho h H) (hf : fr p = none) : StH K fz (upd fr p o') rho h (upd H p o') := by
  obtain ⟨h1, h2, h3, h4⟩ := st.unframe hf
  have st2 := h4 o'
  refine ⟨st2.sub, fun b u q => ?_, fun b u q => ?_, st2.len, fun n c g1 g2 => ?_, st2.inj⟩
  · by_cases e : b = p
    · subst e
      rw [upd_same] at q
      cases q
      exact upd_same
    · rw [upd_ne e] at q
      exact st2.subF b u q
  · by_cases e : b = p
    · subst e
      exact h2
    · rw [upd_ne e] at q
      exact st2.dis b u q
  · obtain ⟨a, u, e1, e2, e3, e4⟩ := st2.cells n c g1 g2
    have ne : a ≠ p := fun z => h3 n ⟨c, g1, g2⟩ (by rw [e1, z])
    exact ⟨a, u, e1, e2, ⟨e3.1, by rw [upd_ne ne]; exact e3.2⟩, e4⟩
end

/-! ### a display of a dict -/
section
variable {X : Cx}
def fDic (t : Bool) (fs : FA) : FE := fun env h => fs env h >>= fun (xs, h1) => match datasOf xs with
  | some ds => (match dictOf t ds with
    | some kvs => if kvs.length ≤ 15 then .ok (.nw (.dct t (dmerge [] kvs)), h1) else .stuck
    | none => .stuck)
  | none => .stuck
/-- arguments two by two -/
inductive Prs (X : Cx) : FA → List (TE × TE) → Prop where
  | nil : Prs X fNil []
  | cons {fk fv : FE} {fs : FA} {trs : List (TE × TE)} (r : Prs X fs trs) : Prs X (fCons fk (fCons fv fs)) ((RE X fk, RE X fv) :: trs)
def flat : List (V × V) → List V
  | [] => []
  | (x, y) :: r => x :: y :: flat r
theorem prs_r {fs : FA} {trs : List (TE × TE)} (p : Prs X fs trs) : ∀ {σ : L2.St} {H : Hp} {R : List (V × V) → Hp → Prop}, RA X fs σ H (fun vs H' => ∀ ps, vs = flat ps → R ps H') → tPairs trs σ H R := by
  induction p with
  | nil =>
    intro σ H R q
    exact nil_r q [] rfl
  | @cons fk fv fs trs r ih =>
    intro σ H R q
    obtain ⟨env, h, fz, fr, rho, st, er, q⟩ := q
    refine TEo.goN st er q.bind fun x h1 q1 fz1 v1 H1 s1 st1 er1 r1 => ?_
    have q1' := (q1.bind.wish s1).bind
    refine TEo.goN st1 er1 q1' fun y h2 q2 fz2 v2 H2 s2 st2 er2 r2 => ?_
    refine ih ⟨env, h2, fz2, fr, rho, st2, er2, ?_⟩
    refine OkO.mono q2.bind (fun p a fz3 vs H3 s3 st3 r3 ps eps => ?_) fun _ _ z => z
    obtain ⟨xs, h3⟩ := p
    have a2 : ∀ fz' vs H', Same fz fz' → StH (kf X) fz' fr rho h3 H' → RepRs (kf X) fz' rho (nrm x :: nrm y :: xs) vs → ∀ ps, vs = flat ps → R ps H' := a
    exact a2 fz3 (v1 :: v2 :: vs) H3 (s1.trans (s2.trans s3)) st3 ⟨v1, _, rfl, r1.mono (s2.trans s3), v2, _, rfl, r2.mono s3, r3⟩ ((v1, v2) :: ps) (by rw [eps]; rfl)
theorem dict_rep {K : KF} {H : Hp} : ∀ {ds : List D} {kvs : List (Ky × D)} {ps : List (V × V)}, dictOf false ds = some kvs → RepL K H ds (flat ps) → ∃ ws : List (Key × V), ps = ws.map (fun kv => (kV kv.1, kv.2)) ∧ RepK K H kvs ws
  | [], kvs, ps, e, r => by
    simp only [dictOf] at e
    cases e
    cases ps with
    | nil => exact ⟨[], rfl, repK_nil⟩
    | cons p ps => have := r.nil_inv; cases this
  | [x], kvs, ps, e, r => by simp only [dictOf] at e; cases e
  | x :: y :: ds, kvs, ps, e, r => by
    simp only [dictOf] at e
    cases ex : keyFor false x with
    | none => rw [ex] at e; cases e
    | some k =>
      cases ey : dictOf false ds with
      | none => rw [ex, ey] at e; cases e
      | some more =>
        rw [ex, ey] at e
        cases e
        obtain ⟨v1, t1, e1, h1, r1⟩ := r.cons_inv
        obtain ⟨v2, t2, e2, h2, r2⟩ := r1.cons_inv
        cases ps with
        | nil => cases e1
        | cons p ps =>
          obtain ⟨a, b⟩ := p
          simp only [flat] at e1
          cases e1
          cases e2
          obtain ⟨ws, e3, h3⟩ := dict_rep ey r2
          obtain ⟨ak, h4, h5⟩ := keyFor_f h1 ex
          refine ⟨(ak, v2) :: ws, by rw [List.map_cons, ← e3, h5], ?_⟩
          simp only [RepK]
          exact ⟨ak, v2, ws, rfl, h4, h2, h3⟩
theorem pe_dc {fs : FA} {trs : List (TE × TE)} {keys : List (Option Expr)} {values : List Expr} {pos : Pos} (p : Prs X fs trs) (h : PPs X pos keys values trs) (hall : keys.all (·.isSome) = true) (hl : keys.length = values.length) (h0 : keys ≠ []) (h15 : keys.length ≤ 15) :
    PE X (.Dict keys values pos) (RE X (fDic false fs)) :=
  PE.mono (pe_disp h hall hl h0 h15) fun σ H Q ⟨env, h, fz, fr, rho, st, er, q⟩ => by
    intro a ha
    refine prs_r p ⟨env, h, fz, upd fr a (.dK []), rho, st.frame ha, er, ?_⟩
    refine OkO.mono q.bind (fun p a1 fz1 vs H1 s1 st1 r1 ps eps => ?_) fun _ _ z => z
    obtain ⟨xs, h1⟩ := p
    dsimp only at a1
    cases ex : datasOf xs with
    | none => rw [ex] at a1; exact (show False from a1).elim
    | some ds =>
      rw [ex] at a1
      dsimp only at a1
      cases ey : dictOf false ds with
      | none => rw [ey] at a1; exact (show False from a1).elim
      | some kvs =>
        rw [ey] at a1
        dsimp only at a1
        split at a1
        · rename_i h15
          obtain ⟨g1, g2, g3, g4⟩ := st1.unframe (st.fr_none ha)
          refine ⟨g1, ?_⟩
          have rl := datas_rep r1 ex
          rw [eps] at rl
          obtain ⟨ws, e1, rk⟩ := dict_rep ey rl
          refine ⟨ws, e1, by rw [repK_len rk]; exact h15, ?_⟩
          refine use_ok a1 s1 (g4 _) ⟨a, _, rfl, upd_same, ⟨g2, st.fr_none ha⟩, ⟨_, rfl, ?_, repK_merge repK_nil rk⟩, g3⟩
          refine Nat.le_trans (dmerge_len kvs []) ?_
          simp only [List.length_nil, LINE]
          omega
        · exact (show False from a1).elim

/-! ### targets -/
mutual
def gT (K : PySem.W.Frag) : Tg → TG
  | .nm i => gName i
  | .tp ts => gTup K (tgLen ts) (gTs K ts)
  | _ => fun _ _ _ _ => False
def gTs (K : PySem.W.Frag) : Tg → TGs
  | .nil => gNil
  | .cons t r => gCons (gT K t) (gTs K r)
  | _ => fun _ _ _ _ => False
def tgLen : Tg → Nat
  | .cons _ r => tgLen r + 1
  | _ => 0
end
/-- the slots of a target -/
def tgSlots : Tg → List Nat
  | .nm i => [i]
  | .tp ts => tgSlots ts
  | .nil => []
  | .cons t r => tgSlots t ++ tgSlots r
/-- what is walked: an item, a new pair -/
def ItemR (K : KF) (fz : Hp) (pr : Bool) (d : D) (v : V) (H H' : Hp) : Prop :=
  if pr = true then ∃ T a b p q, v = .ref T ∧ H T = none ∧ H' = upd H T (.tup [p, q]) ∧ d = .tup [a, b] ∧ Rep K fz a p ∧ Rep K fz b q else H' = H ∧ Rep K fz d v
def isTp : Tg → Bool
  | .tp _ => true
  | _ => false
abbrev Keeps (ix : List Nat) (σ σ' : L2.St) : Prop := ∀ i : Nat, i ∉ ix → σ'[i]? = σ[i]?
section
variable {K : KF} {fz : Hp} {rho : List Addr}
theorem setTgs_len : ∀ (ts : Tg) {ds : List D} {env env1 : Env}, setTgs ts ds env = some env1 → ds.length = tgLen ts
  | .nil, ds, env, env1, e => by
    cases ds with
    | nil => rfl
    | cons d ds => simp only [setTgs] at e; cases e
  | .cons t u, ds, env, env1, e => by
    cases ds with
    | nil => simp only [setTgs] at e; cases e
    | cons d ds =>
      simp only [setTgs] at e
      obtain ⟨env2, e1, e2⟩ := Option.bind_eq_some_iff.mp e
      simp [tgLen, setTgs_len u e2]
  | .nm _, ds, env, env1, e => by simp only [setTgs] at e; cases e
  | .tp _, ds, env, env1, e => by simp only [setTgs] at e; cases e
theorem wipe_len (env : Env) : ∀ vs : List Nat, (Mini.wipe env vs).length = env.length
  | [] => rfl
  | v :: vs => by unfold Mini.wipe; rw [List.length_set, wipe_len env vs]
mutual
theorem setTg_len : ∀ {t : Tg} {d : D} {env env1 : Env}, setTg t d env = some env1 → env1.length = env.length
  | .nm i, d, env, env1, e => by simp only [setTg] at e; cases e; rw [List.length_set]
  | .tp ts, d, env, env1, e => by
    cases d with
    | tup xs => simp only [setTg] at e; exact setTgs_elen e
    | _ => simp only [setTg] at e; cases e
  | .nil, d, env, env1, e => by simp only [setTg] at e; cases e
  | .cons _ _, d, env, env1, e => by simp only [setTg] at e; cases e
theorem setTgs_elen : ∀ {ts : Tg} {ds : List D} {env env1 : Env}, setTgs ts ds env = some env1 → env1.length = env.length
  | .nil, ds, env, env1, e => by
    cases ds with
    | nil => simp only [setTgs] at e; cases e; rfl
    | cons d ds => simp only [setTgs] at e; cases e
  | .cons t u, ds, env, env1, e => by
    cases ds with
    | nil => simp only [setTgs] at e; cases e
    | cons d ds =>
      simp only [setTgs] at e
      obtain ⟨env2, e1, e2⟩ := Option.bind_eq_some_iff.mp e
      rw [setTgs_elen e2, setTg_len e1]
  | .nm _, ds, env, env1, e => by simp only [setTgs] at e; cases e
  | .tp _, ds, env, env1, e => by simp only [setTgs] at e; cases e
end
mutual
theorem tg_ok : ∀ (t : Tg) {d : D} {env env1 : Env} {v : V} {σ : L2.St} {H : Hp} {Q : L2.St → Hp → Prop}, setTg t d env = some env1 → Rep K fz d v → Same fz H → EnvR K fz rho env σ →
    (∀ σ1, EnvR K fz rho env1 σ1 → Keeps (tgSlots t) σ σ1 → Q σ1 H) → gT K.1 t v σ H Q
  | .nm i, d, env, env1, v, σ, H, Q, e, r, s, er, k => by
    simp only [setTg] at e
    cases e
    refine k _ (er.set (r := .d d) r) fun j hj => ?_
    rw [List.getElem?_set_ne fun z => hj (by simp [tgSlots, z])]
  | .tp ts, d, env, env1, v, σ, H, Q, e, r, s, er, k => by
    cases d with
    | tup xs =>
      simp only [setTg] at e
      simp only [Rep] at r
      obtain ⟨a, vs, rfl, h1, _, h3⟩ := r
      obtain ⟨l, q⟩ := tgs_ok ts e h3 s er k
      exact ⟨a, vs, rfl, SqP.at s h1, l, q⟩
    | _ => simp only [setTg] at e; cases e
  | .nil, d, env, env1, v, σ, H, Q, e, r, s, er, k => by simp only [setTg] at e; cases e
  | .cons _ _, d, env, env1, v, σ, H, Q, e, r, s, er, k => by simp only [setTg] at e; cases e
theorem tgs_ok : ∀ (ts : Tg) {ds : List D} {env env1 : Env} {vs : List V} {σ : L2.St} {H : Hp} {Q : L2.St → Hp → Prop}, setTgs ts ds env = some env1 → RepL K fz ds vs → Same fz H → EnvR K fz rho env σ →
    (∀ σ1, EnvR K fz rho env1 σ1 → Keeps (tgSlots ts) σ σ1 → Q σ1 H) → vs.length = tgLen ts ∧ gTs K.1 ts vs σ H Q
  | .nil, ds, env, env1, vs, σ, H, Q, e, r, s, er, k => by
    cases ds with
    | nil =>
      simp only [setTgs] at e
      cases e
      rw [r.nil_inv]
      exact ⟨rfl, rfl, k σ er fun _ _ => rfl⟩
    | cons d ds => simp only [setTgs] at e; cases e
  | .cons t u, ds, env, env1, vs, σ, H, Q, e, r, s, er, k => by
    cases ds with
    | nil => simp only [setTgs] at e; cases e
    | cons d ds =>
      simp only [setTgs] at e
      obtain ⟨env2, e1, e2⟩ := Option.bind_eq_some_iff.mp e
      obtain ⟨v, w, e3, r1, r2⟩ := r.cons_inv
      subst e3
      have hl : w.length = tgLen u := by rw [r2.length]; exact setTgs_len u e2
      refine ⟨by simp [tgLen, hl], v, w, rfl, tg_ok t e1 r1 s er fun σ1 er1 k1 => (tgs_ok u e2 r2 s er1 fun σ2 er2 k2 => k σ2 er2 fun i hi => ?_).2⟩
      rw [k2 i fun z => hi (by simp [tgSlots, z]), k1 i fun z => hi (by simp [tgSlots, z])]
  | .nm _, ds, env, env1, vs, σ, H, Q, e, r, s, er, k => by simp only [setTgs] at e; cases e
  | .tp _, ds, env, env1, vs, σ, H, Q, e, r, s, er, k => by simp only [setTgs] at e; cases e
end
/-- a target of an item -/
theorem tg_item {t : Tg} {pr : Bool} {d : D} {env env1 : Env} {v : V} {σ : L2.St} {H H' : Hp} {fr : Hp} {h : Heap} {Q : L2.St → Hp → Prop} (hp : pr = true → isTp t = true) (e : setTg t d env = some env1) (r : ItemR K fz pr d v H H') (st : StH K fz fr rho h H)
    (er : EnvR K fz rho env σ) (k : ∀ σ1, EnvR K fz rho env1 σ1 → Keeps (tgSlots t) σ σ1 → StH K fz fr rho h H' → Q σ1 H') : gT K.1 t v σ H' Q := by
  unfold ItemR at r
  split at r
  · rename_i hpr
    obtain ⟨T, a, b, p, q, rfl, hT, rfl, rfl, r1, r2⟩ := r
    cases t <;> try (cases hp hpr; done)
    case tp ts =>
      simp only [setTg] at e
      have st2 := st.new (o := .tup [p, q]) hT
      obtain ⟨l, g⟩ := tgs_ok ts (vs := [p, q]) e (.cons r1 (.cons r2 .nil)) st2.sub er fun σ1 er1 k1 => k σ1 er1 k1 st2
      exact ⟨T, [p, q], rfl, .inl (.inl upd_same), l, g⟩
  · obtain ⟨rfl, r⟩ := r
    exact tg_ok t e r st.sub er fun σ1 er1 k1 => k σ1 er1 k1 st
end
theorem wipe_in {σ : L2.St} {i : Nat} : ∀ {vs : List Nat}, i ∈ vs → (L2.wipe σ vs)[i]? = if i < σ.length then some none else none
  | [], h => absurd h (by simp)
  | v :: vs, h => by
    unfold L2.wipe
    by_cases e : v = i
    · subst e
      by_cases hl : v < σ.length
      · rw [List.getElem?_set_self (by rw [wipe_length]; exact hl), if_pos hl]
      · rw [List.getElem?_eq_none (by rw [List.length_set, wipe_length]; omega), if_neg hl]
    · rw [List.getElem?_set_ne e]
      exact wipe_in (by rcases List.mem_cons.mp h with z | z; exact absurd z.symm e; exact z)
theorem wipe_keeps {σ σ1 : L2.St} {vs ix : List Nat} (hl : σ1.length = σ.length) (k : Keeps ix (L2.wipe σ vs) σ1) (hs : ∀ i ∈ ix, i ∈ vs) : L2.wipe σ1 vs = L2.wipe σ vs := by
  refine List.ext_getElem? fun i => ?_
  by_cases hi : i ∈ vs
  · rw [wipe_in hi, wipe_in hi, hl]
  · rw [wipe_out hi, k i fun z => hi (hs i z)]

/-! ### comprehensions -/
/-- the list that a comprehension makes, as far as it has come -/
def Acc (K : KF) (fz0 fr : Hp) (rho : List Addr) (D0 : Addr) (ys : List D) (h : Heap) (H : Hp) : Prop :=
  ∃ fz acc, Same fz0 fz ∧ StH K fz (upd fr D0 (.lst acc)) rho h H ∧ RepL K fz ys acc
abbrev LOk (K : KF) (fz0 fr : Hp) (rho : List Addr) (D0 : Addr) (ys : List D) (Fin : Hp → Prop) (o : Out (List D × Heap)) : Prop :=
  OkO o (fun p => (ys ++ p.1).length ≤ LINE ∧ ∀ H', Acc K fz0 fr rho D0 (ys ++ p.1) p.2 H' → Fin H') (fun _ _ => False)
theorem mapGo_cons {f : D → Heap → Out (List D × Heap)} {x : D} {xs : List D} {h : Heap} {ys : List D} {P : List D → Heap → Prop} (q : OkO (mapGo f (x :: xs) h) (fun p => P (ys ++ p.1) p.2) (fun _ _ => False)) :
    OkO (f x h) (fun p => OkO (mapGo f xs p.2) (fun r => P (ys ++ p.1 ++ r.1) r.2) (fun _ _ => False)) (fun _ _ => False) := by
  unfold mapGo at q
  refine OkO.mono q.bind (fun p a => ?_) fun _ _ z => z
  refine OkO.mono (OkO.bind a) (fun r b => ?_) fun _ _ z => z
  have b : P (ys ++ (p.1 ++ r.1)) r.2 := b
  rw [List.append_assoc]
  exact b
theorem comp_loop {K : KF} {fz0 fr : Hp} {rho : List Addr} {D0 : Addr} {J : It} {n : Nat} {G : Hp → Prop} {Y : Nat → Hp → V → Hp → Prop} (w : Walk J n G Y) {xs : List D} (hn : xs.length = n) {pr : Bool} {f : D → Heap → Out (List D × Heap)} {T : V → Hp → (Hp → Prop) → Prop} {Fin : Hp → Prop}
    (hG : ∀ H, Same fz0 H → G H) (hY : ∀ i H x H', i < n → Same fz0 H → Y i H x H' → ∃ d, xs[i]? = some d ∧ ItemR K fz0 pr d x H H')
    (turn : ∀ d x ys h H H' Nx, Acc K fz0 fr rho D0 ys h H → ItemR K fz0 pr d x H H' → LOk K fz0 fr rho D0 ys Nx (f d h) → T x H' Nx)
    {ys0 : List D} {h0 : Heap} {H0 : Hp} (a0 : Acc K fz0 fr rho D0 ys0 h0 H0) (q : LOk K fz0 fr rho D0 ys0 Fin (mapGo f xs h0)) :
    ∃ W : Nat → Nat → Hp → Prop, (∃ m, W 0 m H0) ∧ ∀ i m H, W i m H → (J.stop i H ∧ Fin H) ∨ (J.go i H ∧ ∃ Nx : Hp → Prop, (∀ H', Nx H' → ∃ m', m' < m ∧ W (i + 1) m' H') ∧ ∀ x H', J.yld i H x H' → T x H' Nx) := by
  refine ⟨fun i m H => m = n - i ∧ i ≤ n ∧ ∃ ys h, Acc K fz0 fr rho D0 ys h H ∧ LOk K fz0 fr rho D0 ys Fin (mapGo f (xs.drop i) h), ⟨n, by simp, Nat.zero_le _, ys0, h0, a0, q⟩, ?_⟩
  rintro i m H ⟨rfl, hi, ys, h, a, q⟩
  have sH : Same fz0 H := by
    obtain ⟨fz, acc, s, st, _⟩ := a
    exact s.trans st.sub
  by_cases hlt : i < n
  · have e : xs.drop i = xs[i] :: xs.drop (i + 1) := (List.getElem_cons_drop (by omega)).symm
    rw [e] at q
    have q1 := mapGo_cons (P := fun zs h' => zs.length ≤ LINE ∧ ∀ H', Acc K fz0 fr rho D0 zs h' H' → Fin H') q
    refine .inr ⟨w.goes i H hlt (hG H sH), fun H' => ∃ zs h', Acc K fz0 fr rho D0 zs h' H' ∧ LOk K fz0 fr rho D0 zs Fin (mapGo f (xs.drop (i + 1)) h'), fun H' ⟨zs, h', a', q'⟩ => ⟨n - (i + 1), by omega, rfl, hlt, zs, h', a', q'⟩, fun x H' y => ?_⟩
    obtain ⟨d, hd, it⟩ := hY i H x H' hlt sH (w.yields i H x H' hlt (hG H sH) y)
    have ed : d = xs[i] := by
      rw [List.getElem?_eq_getElem (by omega)] at hd
      exact (Option.some.inj hd).symm
    subst ed
    refine turn _ x ys h H H' _ a it ?_
    refine OkO.mono q1 (fun p b => ⟨?_, fun H'' a' => ⟨ys ++ p.1, p.2, a', b⟩⟩) fun _ _ z => z
    cases eo : mapGo f (xs.drop (i + 1)) p.2 with
    | ok r =>
      rw [eo] at b
      have := b.1
      simp only [List.length_append] at this ⊢
      omega
    | exc _ _ => rw [eo] at b; exact b.elim
    | stuck => rw [eo] at b; exact b.elim
  · have e : i = n := by omega
    subst e
    rw [List.drop_eq_nil_of_le (by omega)] at q
    refine .inl ⟨w.stops H (hG H sH), ?_⟩
    have q2 : (ys ++ []).length ≤ LINE ∧ ∀ H', Acc K fz0 fr rho D0 (ys ++ []) h H' → Fin H' := q
    rw [List.append_nil] at q2
    exact q2.2 H a

/-- an element is put at the end -/
theorem acc_add {K : KF} {fz0 fr : Hp} {rho : List Addr} {D0 : Addr} {ys : List D} {h : Heap} {H : Hp} {fz : Hp} {acc : List V} {d : D} {v : V} (hf : fr D0 = none) (s : Same fz0 fz) (st : StH K fz (upd fr D0 (.lst acc)) rho h H) (rl : RepL K fz ys acc) (r : Rep K fz d v) :
    Acc K fz0 fr rho D0 (ys ++ [d]) h (upd H D0 (.lst (acc ++ [v]))) := ⟨fz, acc ++ [v], s, st.reframe hf, rl.append (.cons r .nil)⟩

/-- the walk's reading -/
def TWo (K : KF) (pr : Bool) (f : Env → Heap → Out (List D × Heap)) : TI := fun σ H R => ∃ env h fz fr rho, StH K fz fr rho h H ∧ EnvR K fz rho env σ ∧
  OkO (f env h) (fun p => ∀ fz1 H1 J G Y, Same fz fz1 → StH K fz1 fr rho p.2 H1 → Walk J p.1.length G Y → (∀ H, Same fz1 H → G H) → (∀ i H x H', i < p.1.length → Same fz1 H → Y i H x H' → ∃ d, p.1[i]? = some d ∧ ItemR K fz1 pr d x H H') → R J H1) (fun _ _ => False)
abbrev FW := Env → Heap → Out (List D × Heap)
def fElt (t : Tg) (own : List Nat) (tt : FT) (fe : D → Env → Heap → Out (List D × Heap)) (env : Env) : D → Heap → Out (List D × Heap) := fun x h => match setTg t x (Mini.wipe env own) with
  | some env1 => tt env1 h >>= fun (k, h2) => if k then fe x env1 h2 else .ok ([], h2)
  | none => .stuck
def fOne (fe : FE) : Env → Heap → Out (List D × Heap) := fun env h => fe env h >>= fun (y, h3) => match nrm y with
  | .d v => .ok ([v], h3)
  | _ => .stuck
def fComp (own : List Nat) (t : Tg) (it : FW) (tt : FT) (fe : FE) : FE := fun env h => it env h >>= fun (xs, h1) =>
  (mapGo (fElt t own tt (fun _ => fOne fe) env) xs h1).calm >>= fun (ys, h2) => if ys.length ≤ LINE then .ok (.nw (.lst ys), h2) else .stuck

/-- the value of an item of the new list -/
theorem one_r {K : KF} {ca : Nat → Addr} {W : WX} {fz0 fr : Hp} {rho : List Addr} {D0 : Addr} (hf : fr D0 = none) {fe : FE} {ys : List D} {env : Env} {σ : L2.St} {h : Heap} {H : Hp} {Nx : Hp → Prop} {fz : Hp} {acc : List V} (s : Same fz0 fz)
    (st : StH K fz (upd fr D0 (.lst acc)) rho h H) (rl : RepL K fz ys acc) (er : EnvR K fz rho env σ) (q : LOk K fz0 fr rho D0 ys Nx (fOne fe env h)) :
    TEo K ca W fe σ H fun y H4 => ∃ acc', H4 D0 = some (.lst acc') ∧ acc'.length < sizeLine ∧ Nx (upd H4 D0 (.lst (acc' ++ [y]))) := by
  refine TEo.goN st er (OkO.mono q.bind (fun p a => a) fun _ _ z => z) fun y h3 q1 fz1 v1 H1 s1 st1 er1 r1 => ?_
  dsimp only at q1
  split at q1
  · rename_i d ed
    rw [ed] at r1
    obtain ⟨hz, k⟩ := (show (ys ++ [d]).length ≤ LINE ∧ ∀ H', Acc K fz0 fr rho D0 (ys ++ [d]) h3 H' → Nx H' from q1)
    refine ⟨acc, (st1.unframe hf).1, ?_, k _ (acc_add hf (s.trans s1) st1 (rl.mono s1) r1)⟩
    rw [rl.length, ← line_eq]
    simp only [List.length_append, List.length_singleton] at hz
    omega
  · exact (show False from q1).elim
end
end Mini
set_option Elab.async false
set_option linter.all false
set_option maxRecDepth 100000
set_option maxHeartbeats 4000000
/- Mini: comprehensions as values; what is walked. Own work. -/
namespace Mini
open PySem PySem.Spec PyProof.Rows L2

theorem ItemR.mono {K : KF} {fz fz' : Hp} (s : Same fz fz') {pr : Bool} {d : D} {v : V} {H H' : Hp} (h : ItemR K fz pr d v H H') : ItemR K fz' pr d v H H' := by
  unfold ItemR at h ⊢
  split at h
  · rename_i hp
    rw [if_pos hp]
    obtain ⟨T, a, b, p, q, h1, h2, h3, h4, h5, h6⟩ := h
    exact ⟨T, a, b, p, q, h1, h2, h3, h4, h5.mono s, h6.mono s⟩
  · rename_i hp
    rw [if_neg hp]
    exact ⟨h.1, h.2.mono s⟩
theorem upd_id {H : Hp} {a : Addr} {o : HO} (h : H a = some o) : upd H a o = H := by
  funext b
  by_cases e : b = a
  · subst e
    rw [upd_same, h]
  · rw [upd_ne e]
section
variable {K : KF} {ca : Nat → Addr} {W : WX} {fz0 fr : Hp} {rho : List Addr} {D0 : Addr}
theorem elt_r (hf : fr D0 = none) {t : Tg} {own : List Nat} {pr : Bool} (hs : ∀ i ∈ tgSlots t, i ∈ own) (hp : pr = true → isTp t = true) {tt : FT} {fe : D → Env → Heap → Out (List D × Heap)} {σ : L2.St} {env : Env} (er : EnvR K fz0 rho env σ)
    {d : D} {x : V} {ys : List D} {h : Heap} {H H' : Hp} {Nx : Hp → Prop} (a : Acc K fz0 fr rho D0 ys h H) (it : ItemR K fz0 pr d x H H') (q : LOk K fz0 fr rho D0 ys Nx (fElt t own tt fe env d h)) {B : L2.St → Hp → Prop}
    (hB : ∀ σ2 env1 h2 H3 fz acc, Same fz0 fz → StH K fz (upd fr D0 (.lst acc)) rho h2 H3 → RepL K fz ys acc → EnvR K fz rho env1 σ2 → LOk K fz0 fr rho D0 ys Nx (fe d env1 h2) → B σ2 H3) :
    gT K.1 t x (L2.wipe σ own) H' fun σ2 H2 => L2.wipe σ2 own = L2.wipe σ own ∧ TTo K ca W tt σ2 H2 fun b H3 => if b = true then B σ2 H3 else Nx H3 := by
  obtain ⟨fz, acc, s, st, rl⟩ := a
  unfold fElt at q
  cases e : setTg t d (Mini.wipe env own) with
  | none => rw [e] at q; exact (show False from q).elim
  | some env1 =>
    rw [e] at q
    dsimp only at q
    refine tg_item hp e (it.mono s) st ((er.mono s).wipe own) fun σ1 er1 k1 st1 => ⟨wipe_keeps (er1.1.symm.trans ((setTg_len e).trans ((wipe_len env own).trans er.1))) k1 hs, ?_⟩
    · refine TTo.go st1 er1 (OkO.mono q.bind (fun p a => a) fun _ _ z => z) fun k h2 q1 fz1 H1 s1 st2 er2 => ?_
      cases k with
      | true => exact hB _ _ _ _ _ _ (s.trans s1) st2 (rl.mono s1) er2 q1
      | false =>
        have q2 : (ys ++ ([] : List D)).length ≤ LINE ∧ ∀ H', Acc K fz0 fr rho D0 (ys ++ ([] : List D)) h2 H' → Nx H' := q1
        rw [List.append_nil] at q2
        exact q2.2 H1 ⟨fz1, acc, s.trans s1, st2, rl.mono s1⟩
end

section
variable {X : Cx}
theorem acc_end {fz0 fr : Hp} {rho : List Addr} {D0 : Addr} (hf : fr D0 = none) {ys : List D} {h : Heap} {H : Hp} {Q : VK} (hl : ys.length ≤ LINE) (a : Acc (kf X) fz0 fr rho D0 ys h H)
    (q : ∀ fz' v H', Same fz0 fz' → StH (kf X) fz' fr rho h H' → ResR (kf X) fz' fr rho h H' (.nw (.lst ys)) v → Q v H') : Q (.ref D0) H := by
  obtain ⟨fz, acc, s, st, rl⟩ := a
  obtain ⟨g1, g2, g3, g4⟩ := st.unframe hf
  have st2 := g4 (.lst acc)
  rw [upd_id g1] at st2
  exact q fz _ H s st2 ⟨D0, .lst acc, rfl, g1, ⟨g2, hf⟩, ⟨acc, rfl, hl, rl⟩, g3⟩
/-- behind the walk's source -/
theorem comp_go {pr : Bool} {f : Env → D → Heap → Out (List D × Heap)} {fw : FW} {wi : TI} (hw : ∀ σ H R, TWo (kf X) pr fw σ H R → wi σ H R) {T : L2.St → Addr → V → Hp → (Hp → Prop) → Prop}
    (turn : ∀ {fz0 fr : Hp} {rho : List Addr} {D0 : Addr} (env : Env) (σ : L2.St) (d : D) (x : V) (ys : List D) (h : Heap) (H H' : Hp) (Nx : Hp → Prop), fr D0 = none → EnvR (kf X) fz0 rho env σ → Acc (kf X) fz0 fr rho D0 ys h H → ItemR (kf X) fz0 pr d x H H' → LOk (kf X) fz0 fr rho D0 ys Nx (f env d h) → T σ D0 x H' Nx)
    {σ : L2.St} {H : Hp} {Q : VK} (q : RE X (fun env h => fw env h >>= fun (xs, h1) => (mapGo (f env) xs h1).calm >>= fun (ys, h2) => if ys.length ≤ LINE then .ok (.nw (.lst ys), h2) else .stuck) σ H Q) :
    wi σ H fun J H1 => ∀ D0, H1 D0 = none → ∃ W : Nat → Nat → Hp → Prop, (∃ m, W 0 m (upd H1 D0 (.lst []))) ∧ ∀ i m H, W i m H → (J.stop i H ∧ Q (.ref D0) H) ∨ (J.go i H ∧ ∃ Nx : Hp → Prop, (∀ H', Nx H' → ∃ m', m' < m ∧ W (i + 1) m' H') ∧ ∀ x H', J.yld i H x H' → T σ D0 x H' Nx) := by
  obtain ⟨env, h, fz, fr, rho, st, er, q⟩ := q
  refine hw _ _ _ ⟨env, h, fz, fr, rho, st, er, OkO.mono q.bind (fun p a fz1 H1 J G Y s1 st1 w hG hY D0 hD => ?_) fun _ _ z => z⟩
  have hf := st1.fr_none hD
  refine comp_loop w rfl (pr := pr) (f := f env) hG hY (fun d x ys h H H' Nx a it q => turn env σ d x ys h H H' Nx hf (er.mono s1) a it q) (ys0 := []) (h0 := p.2) ⟨fz1, [], Same.refl _, st1.frame hD, .nil⟩ ?_
  refine OkO.mono (OkO.calm (OkO.bind a)) (fun r b => ?_) fun _ _ z => z
  dsimp only at b
  split at b
  · rename_i hl
    refine ⟨by rw [List.nil_append]; exact hl, fun H' a' => ?_⟩
    rw [List.nil_append] at a'
    exact acc_end hf hl a' fun fz' v H' s' st' rr => use_ok b (s1.trans s') st' rr
  · exact (show False from b).elim

/-- a list comprehension of one clause -/
theorem comp_r {pr : Bool} {own : List Nat} {t : Tg} {fw : FW} {tt : FT} {fe : FE} {wi : TI} (hw : ∀ σ H R, TWo (kf X) pr fw σ H R → wi σ H R) (hs : ∀ i ∈ tgSlots t, i ∈ own) (hp : pr = true → isTp t = true)
    {σ : L2.St} {H : Hp} {Q : VK} (q : RE X (fComp own t fw tt fe) σ H Q) : tLc wi (gT X.K t) (RT X tt) (RE X fe) own σ H Q :=
  comp_go (f := fElt t own tt fun _ => fOne fe) (T := fun σ D0 x H' Nx => gT X.K t x (L2.wipe σ own) H' fun σ2 H2 => L2.wipe σ2 own = L2.wipe σ own ∧ RT X tt σ2 H2 fun b H3 =>
      if b = true then RE X fe σ2 H3 fun y H4 => ∃ acc, H4 D0 = some (.lst acc) ∧ acc.length < sizeLine ∧ Nx (upd H4 D0 (.lst (acc ++ [y]))) else Nx H3) hw
    (fun env σ d x ys h H H' Nx hf er a it q => elt_r hf hs hp er a it q fun σ2 env1 h2 H3 fz acc s st rl er2 q2 => one_r hf s st rl er2 q2) q

/-- .. of two clauses -/
def fIn (own2 : List Nat) (t2 : Tg) (it2 : FW) (tt2 : FT) (fe : FE) : Env → Heap → Out (List D × Heap) := fun env1 h2 => it2 env1 h2 >>= fun (zs, h3) => mapGo (fElt t2 own2 tt2 (fun _ => fOne fe) env1) zs h3
def fComp2 (own : List Nat) (t : Tg) (it : FW) (tt : FT) (own2 : List Nat) (t2 : Tg) (it2 : FW) (tt2 : FT) (fe : FE) : FE := fun env h => it env h >>= fun (xs, h1) =>
  (mapGo (fElt t own tt (fun _ => fIn own2 t2 it2 tt2 fe) env) xs h1).calm >>= fun (ys, h2) => if ys.length ≤ LINE then .ok (.nw (.lst ys), h2) else .stuck
theorem comp2_r {pr pr2 : Bool} {own own2 : List Nat} {t t2 : Tg} {fw fw2 : FW} {tt tt2 : FT} {fe : FE} {wi wi2 : TI} (hw : ∀ σ H R, TWo (kf X) pr fw σ H R → wi σ H R) (hs : ∀ i ∈ tgSlots t, i ∈ own) (hp : pr = true → isTp t = true)
    (hw2 : ∀ σ H R, TWo (kf X) pr2 fw2 σ H R → wi2 σ H R) (hs2 : ∀ i ∈ tgSlots t2, i ∈ own2) (hp2 : pr2 = true → isTp t2 = true)
    {σ : L2.St} {H : Hp} {Q : VK} (q : RE X (fComp2 own t fw tt own2 t2 fw2 tt2 fe) σ H Q) : tLc2 wi (gT X.K t) (RT X tt) wi2 (gT X.K t2) (RT X tt2) (RE X fe) own own2 σ H Q :=
  comp_go (f := fElt t own tt fun _ => fIn own2 t2 fw2 tt2 fe) (T := fun σ D0 x H' Nx => gT X.K t x (L2.wipe σ own) H' fun σ2 H2 => L2.wipe σ2 own = L2.wipe σ own ∧ RT X tt σ2 H2 fun b H3 =>
      if b = true then wi2 σ2 H3 fun J1 H4 => ∃ W1 : Nat → Nat → Hp → Prop, (∃ m, W1 0 m H4) ∧ ∀ j k H, W1 j k H →
        (J1.stop j H ∧ Nx H) ∨ (J1.go j H ∧ ∃ Nx1 : Hp → Prop, (∀ H', Nx1 H' → ∃ k', k' < k ∧ W1 (j + 1) k' H') ∧ ∀ x H', J1.yld j H x H' → gT X.K t2 x (L2.wipe σ2 own2) H' fun σ3 H5 => L2.wipe σ3 own2 = L2.wipe σ2 own2 ∧ RT X tt2 σ3 H5 fun b H6 =>
          if b = true then RE X fe σ3 H6 fun y H7 => ∃ acc, H7 D0 = some (.lst acc) ∧ acc.length < sizeLine ∧ Nx1 (upd H7 D0 (.lst (acc ++ [y]))) else Nx1 H6)
      else Nx H3) hw
    (fun {fz0 fr rho D0} env σ d x ys h H H' Nx hf er a it q => elt_r hf hs hp er a it q fun σ2 env1 h2 H3 fz acc s st rl er2 q2 => by
      refine hw2 _ _ _ ⟨env1, h2, fz, upd fr D0 (.lst acc), rho, st, er2, OkO.mono (OkO.bind q2) (fun p a fz1 H1 J G Y s1 st1 w hG hY => ?_) fun _ _ z => z⟩
      refine comp_loop w rfl (pr := pr2) (fz0 := fz1) (fr := fr) (rho := rho) (D0 := D0) (f := fElt t2 own2 tt2 (fun _ => fOne fe) env1) (T := fun x H' Nx1 => gT X.K t2 x (L2.wipe σ2 own2) H' fun σ3 H5 => L2.wipe σ3 own2 = L2.wipe σ2 own2 ∧ RT X tt2 σ3 H5 fun b H6 =>
          if b = true then RE X fe σ3 H6 fun y H7 => ∃ acc, H7 D0 = some (.lst acc) ∧ acc.length < sizeLine ∧ Nx1 (upd H7 D0 (.lst (acc ++ [y]))) else Nx1 H6) hG hY
        (fun d x ys h H H' Nx a it q => elt_r hf hs2 hp2 (er2.mono s1) a it q fun σ2 env1 h2 H3 fz acc s st rl er2 q2 => one_r hf s st rl er2 q2) (ys0 := ys) (h0 := p.2) ⟨fz1, acc, Same.refl _, st1, rl.mono s1⟩ ?_
      exact OkO.mono a (fun r b => ⟨b.1, fun H' ⟨fz', acc', s', st', rl'⟩ => b.2 H' ⟨fz', acc', s.trans (s1.trans s'), st', rl'⟩⟩) fun _ _ z => z) q
end
end Mini
set_option Elab.async false
set_option linter.all false
set_option maxRecDepth 100000
set_option maxHeartbeats 4000000
/- Mini: what is walked. Own work. -/
namespace Mini
open PySem PySem.Spec PyProof.Rows L2 RZ

section
variable {X : Cx} {tg : Expr}
/-- a list, a tuple, a text that is walked -/
def iAny (K : PySem.W.Frag) (te : TE) : TI := fun σ H R => te σ H fun x H1 => (∃ a, x = .ref a ∧ (∃ xs, SqL K H1 a xs) ∧ R (Itl K a) H1) ∨ (∃ a, x = .ref a ∧ (∃ xs, SqT K H1 a xs) ∧ R (Itt K a) H1) ∨ ∃ z, x = .str z ∧ R (Its z) H1
theorem pi_any {e : Expr} {te : TE} (he : PE X e te) : PI X tg e (iAny X.K te) := by
  refine ⟨fun pins s σ H R I h => ?_⟩
  refine thn (he.run pins s σ H _ I h) fun v s1 ⟨x, H1, I1, r1, q1⟩ => ?_
  rcases q1 with ⟨a, rfl, ⟨xs, hq⟩, q⟩ | ⟨a, rfl, ⟨xs, hq⟩, q⟩ | ⟨z, rfl, q⟩
  · cases r1
    obtain ⟨its, rv, p, hz⟩ := I1.list hq
    exact wpAny_pyIter_list p.isList (pi_one (tk := s1.toks) I1 _ (turn_list a _) ⟨_, Heap.get?_push_size _ rfl, rfl, rfl⟩ q)
  · cases r1
    obtain ⟨its, rv, p, hz⟩ := I1.tuple hq
    exact wpAny_pyIter_tuple (show s1.heap.IsTuple a its.toArray from p) (pi_one (tk := s1.toks) I1 _ (turn_tuple a _) ⟨_, Heap.get?_push_size _ rfl, rfl, rfl⟩ q)
  · obtain ⟨t, rfl⟩ := r1
    cases ha : z.cps.all (· < 128)
    · exact wpAny_pyIter_wide ha (pi_one (tk := s1.toks) I1 _ (turn_str _ z t "str_iterator" (.inr rfl)) ⟨_, Heap.get?_push_size _ rfl, rfl, rfl⟩ q)
    · exact wpAny_pyIter_ascii ha (pi_one (tk := s1.toks) I1 _ (turn_str _ z t "str_ascii_iterator" (.inl rfl)) ⟨_, Heap.get?_push_size _ rfl, rfl, rfl⟩ q)
def fWv (fa : FE) : FW := fun env h => fa env h >>= fun (x, h1) => match nrm x with
  | .d p => (match itemsV p with
    | some xs => .ok (xs, h1)
    | none => .stuck)
  | _ => .stuck
theorem item_plain {K : KF} {fz : Hp} {d : D} {v : V} {H : Hp} (r : Rep K fz d v) : ItemR K fz false d v H H := by
  unfold ItemR
  rw [if_neg (by decide)]
  exact ⟨rfl, r⟩
theorem wv_r {fa : FE} {σ : L2.St} {H : Hp} {R : It → Hp → Prop} (q : TWo (kf X) false (fWv fa) σ H R) : iAny X.K (RE X fa) σ H R := by
  obtain ⟨env, h, fz, fr, rho, st, er, q⟩ := q
  refine TEo.goN st er q.bind fun x h1 q1 fz1 v1 H1 s1 st1 er1 r1 => ?_
  dsimp only at q1
  cases ex : nrm x with
  | ref n => rw [ex] at q1; exact (show False from q1).elim
  | nw c => rw [ex] at q1; exact (show False from q1).elim
  | d p =>
    rw [ex] at q1 r1
    dsimp only at q1
    cases ei : itemsV p with
    | none => rw [ei] at q1; exact (show False from q1).elim
    | some xs =>
      rw [ei] at q1
      have k : ∀ fz1 H1 J G Y, Same fz fz1 → StH (kf X) fz1 fr rho h1 H1 → Walk J xs.length G Y → (∀ H, Same fz1 H → G H) → (∀ i H x H', i < xs.length → Same fz1 H → Y i H x H' → ∃ d, xs[i]? = some d ∧ ItemR (kf X) fz1 false d x H H') → R J H1 := q1
      cases p <;> simp only [itemsV] at ei <;> try (cases ei; done)
      case lst ys =>
        cases ei
        have r2 := (show Rep (kf X) fz1 (.lst xs) v1 from r1)
        simp only [Rep] at r2
        obtain ⟨a, vs, rfl, h2, h3, h4⟩ := r2
        refine .inl ⟨a, rfl, ⟨vs, Same.sqL (K := kf X) st1.sub h2⟩, k fz1 H1 _ _ _ s1 st1 (h4.length ▸ walk_list (K := X.K) (a := a) (xs := vs)) (fun H s => Same.sqL (K := kf X) s h2) fun i H x H' hi s y => ?_⟩
        obtain ⟨rfl, e⟩ := y
        obtain ⟨d, e1, e2⟩ := h4.get' e
        exact ⟨d, e1, item_plain e2⟩
      case tup ys =>
        cases ei
        have r2 := (show Rep (kf X) fz1 (.tup xs) v1 from r1)
        simp only [Rep] at r2
        obtain ⟨a, vs, rfl, h2, h3, h4⟩ := r2
        refine .inr (.inl ⟨a, rfl, ⟨vs, SqP.at st1.sub h2⟩, k fz1 H1 _ _ _ s1 st1 (h4.length ▸ walk_tup (K := X.K) (a := a) (xs := vs)) (fun H s => SqP.at (K := kf X) s h2) fun i H x H' hi s y => ?_⟩)
        obtain ⟨rfl, e⟩ := y
        obtain ⟨d, e1, e2⟩ := h4.get' e
        exact ⟨d, e1, item_plain e2⟩
      case str z =>
        cases ei
        obtain ⟨rfl, ok⟩ := (show Rep (kf X) fz1 (.str z) v1 from r1).str_inv
        have hl : (toS z).cps.size = (z.map fun c => D.str [c]).length := by simp [toS]
        refine .inr (.inr ⟨toS z, rfl, k fz1 H1 _ _ _ s1 st1 (hl ▸ walk_str (z := toS z)) (fun _ _ => trivial) fun i H x H' hi s y => ?_⟩)
        obtain ⟨rfl, c, e1, rfl⟩ := y
        have e2 : z[i]? = some c := by
          have : (toS z).cps.toList[i]? = some c := by rw [Array.getElem?_toList]; exact e1
          rwa [toS_cps] at this
        exact ⟨.str [c], by rw [List.getElem?_map, e2]; rfl, item_plain (rep_str1 ok (List.mem_of_getElem? e2))⟩

/-! ### ranges -/
def fRng1 (fa : FE) : FW := fun env h => fa env h >>= fun (x, h1) => match x with
  | .d (.int i) => if -(LINE : Int) ≤ i ∧ i ≤ LINE then .ok (rangeD 0 i, h1) else .stuck
  | _ => .stuck
def fRng2 (fa fb : FE) : FW := fun env h => fa env h >>= fun (x, h1) => fb env h1 >>= fun (y, h2) => match x, y with
  | .d (.int i), .d (.int j) => if i ≤ LINE ∧ j ≤ LINE ∧ 0 ≤ i ∧ 0 ≤ j then .ok (rangeD i j, h2) else .stuck
  | _, _ => .stuck
theorem rangeD_len (lo hi : Int) : (rangeD lo hi).length = (hi - lo).toNat := by simp [rangeD]
theorem range_walk {K : KF} {fz1 : Hp} {lo hi : Int} {n : Nat} (hn : n = (hi - lo).toNat) : Walk (Itr lo n) (rangeD lo hi).length (fun _ => True) (YFn fun i => .int (lo + i)) ∧
    ∀ (i : Nat) (H : Hp) (x : V) (H' : Hp), i < (rangeD lo hi).length → Same fz1 H → YFn (fun i => .int (lo + i)) i H x H' → ∃ d, (rangeD lo hi)[i]? = some d ∧ ItemR K fz1 false d x H H' := by
  subst hn
  refine ⟨(rangeD_len lo hi).symm ▸ walk_range, fun i H x H' hi' s y => ?_⟩
  obtain ⟨rfl, rfl⟩ := y
  refine ⟨.int (lo + i), ?_, item_plain rep_int⟩
  rw [rangeD_len] at hi'
  unfold rangeD
  rw [List.getElem?_map, List.getElem?_range hi']
  rfl
theorem rng1_r {fa : FE} {σ : L2.St} {H : Hp} {R : It → Hp → Prop} (q : TWo (kf X) false (fRng1 fa) σ H R) : iRng1 (tCons (RE X fa) tNil) σ H R := by
  obtain ⟨env, h, fz, fr, rho, st, er, q⟩ := q
  refine TEo.go st er q.bind fun x h1 q1 fz1 v1 H1 s1 st1 er1 r1 => ?_
  dsimp only at q1
  split at q1
  · rename_i i
    split at q1
    · rename_i hi
      have ev := Rep.int_inv (show Rep (kf X) fz1 (.int i) v1 from r1)
      have hl : LINE = 16777216 := rfl
      refine ⟨i, by rw [ev], by omega, by omega, ?_⟩
      obtain ⟨w, y⟩ := range_walk (K := kf X) (fz1 := fz1) (lo := 0) (hi := i) (n := i.toNat) (by rw [Int.sub_zero])
      exact (show ∀ fz1 H1 J G Y, Same fz fz1 → StH (kf X) fz1 fr rho h1 H1 → Walk J (rangeD 0 i).length G Y → (∀ H, Same fz1 H → G H) → (∀ k H x H', k < (rangeD 0 i).length → Same fz1 H → Y k H x H' → ∃ d, (rangeD 0 i)[k]? = some d ∧ ItemR (kf X) fz1 false d x H H') → R J H1 from q1) fz1 H1 _ _ _ s1 st1 w (fun _ _ => trivial) y
    · exact (show False from q1).elim
  · exact (show False from q1).elim
theorem rng2_r {fa fb : FE} {σ : L2.St} {H : Hp} {R : It → Hp → Prop} (q : TWo (kf X) false (fRng2 fa fb) σ H R) : iRng2 (tCons (RE X fa) (tCons (RE X fb) tNil)) σ H R := by
  obtain ⟨env, h, fz, fr, rho, st, er, q⟩ := q
  refine TEo.goN st er q.bind fun x h1 q1 fz1 v1 H1 s1 st1 er1 r1 => ?_
  refine TEo.go st1 er1 (q1.bind.wish s1) fun y h2 q2 fz2 v2 H2 s2 st2 er2 r2 => ?_
  dsimp only at q2
  split at q2
  · rename_i i j
    split at q2
    · rename_i hi
      have ev := Rep.int_inv (show Rep (kf X) fz1 (.int i) v1 from r1)
      have ev2 := Rep.int_inv (show Rep (kf X) fz2 (.int j) v2 from r2)
      have hl : LINE = 16777216 := rfl
      refine ⟨i, j, by rw [ev, ev2], by omega, ?_⟩
      obtain ⟨w, y⟩ := range_walk (K := kf X) (fz1 := fz2) (lo := i) (hi := j) rfl
      exact (show ∀ fz1 H1 J G Y, Same fz fz1 → StH (kf X) fz1 fr rho h2 H1 → Walk J (rangeD i j).length G Y → (∀ H, Same fz1 H → G H) → (∀ k H x H', k < (rangeD i j).length → Same fz1 H → Y k H x H' → ∃ d, (rangeD i j)[k]? = some d ∧ ItemR (kf X) fz1 false d x H H') → R J H1 from q2) fz2 H2 _ _ _ (s1.trans s2) st2 w (fun _ _ => trivial) y
    · exact (show False from q2).elim
  · exact (show False from q2).elim

/-! ### zip, enumerate -/
def fZip (fa fb : FE) : FW := fun env h => fa env h >>= fun (x, h1) => fb env h1 >>= fun (y, h2) => match nrm x, nrm y with
  | .d (.lst xs), .d (.lst ys) => .ok (zipD xs ys, h2)
  | .d (.tup xs), .d (.tup ys) => .ok (zipD xs ys, h2)
  | _, _ => .stuck
def fEnu (fa : FE) : FW := fun env h => fa env h >>= fun (x, h1) => match nrm x with
  | .d (.lst xs) => .ok (enuD 0 xs, h1)
  | _ => .stuck
theorem zipD_len : ∀ xs ys : List D, (zipD xs ys).length = min xs.length ys.length
  | [], _ => by simp [zipD]
  | _ :: _, [] => by simp [zipD]
  | x :: xs, y :: ys => by simp [zipD, zipD_len xs ys, Nat.succ_min_succ]
theorem zipD_get : ∀ {xs ys : List D} {i : Nat} {x y : D}, xs[i]? = some x → ys[i]? = some y → (zipD xs ys)[i]? = some (.tup [x, y])
  | [], _, i, _, _, h, _ => by simp at h
  | _ :: _, [], i, _, _, _, h => by simp at h
  | a :: xs, b :: ys, 0, x, y, h1, h2 => by simp at h1 h2; subst h1 h2; simp [zipD]
  | a :: xs, b :: ys, i + 1, x, y, h1, h2 => by
    simp at h1 h2
    simpa [zipD] using zipD_get h1 h2
theorem item_pair {K : KF} {fz : Hp} {a b : D} {p q : V} {T : Addr} {H : Hp} (hT : H T = none) (r1 : Rep K fz a p) (r2 : Rep K fz b q) : ItemR K fz true (.tup [a, b]) (.ref T) H (upd H T (.tup [p, q])) := by
  unfold ItemR
  rw [if_pos rfl]
  exact ⟨T, a, b, p, q, rfl, hT, rfl, rfl, r1, r2⟩
theorem walk_zipT {K : PySem.W.Frag} {a b : Addr} {xs ys : List V} {n : Nat} (hn : n = min xs.length ys.length) : Walk (ItzT K a b) n (fun H => SqT K H a xs ∧ SqT K H b ys) (YPair (fun i => xs[i]?) (fun i => ys[i]?)) := by
  subst hn
  refine ⟨fun i _ hi q => ?_, fun _ q => ⟨xs, ys, q.1, q.2, by omega⟩, fun i H v H' _ q y => ?_⟩
  · have h1 : i < xs.length := by omega
    have h2 : i < ys.length := by omega
    exact ⟨xs, ys, xs[i], ys[i], q.1, q.2, by simp [h1], by simp [h2]⟩
  · obtain ⟨T, x, z, h1, h2, h3, h4, h5⟩ := y
    exact ⟨T, x, z, h1, h2, h3, h4 xs q.1, h5 ys q.2⟩
theorem zip_items {K : KF} {fz1 : Hp} {xs ys : List D} {vs us : List V} (r1 : RepL K fz1 xs vs) (r2 : RepL K fz1 ys us) (i : Nat) (H : Hp) (x : V) (H' : Hp) (y : YPair (fun i => vs[i]?) (fun i => us[i]?) i H x H') : ∃ d, (zipD xs ys)[i]? = some d ∧ ItemR K fz1 true d x H H' := by
  obtain ⟨T, p, q, rfl, h1, rfl, h3, h4⟩ := y
  obtain ⟨a, e1, k1⟩ := r1.get' h3
  obtain ⟨b, e2, k2⟩ := r2.get' h4
  exact ⟨.tup [a, b], zipD_get e1 e2, item_pair h1 k1 k2⟩
theorem zip_r {fa fb : FE} {σ : L2.St} {H : Hp} {R : It → Hp → Prop} (q : TWo (kf X) true (fZip fa fb) σ H R) : iZipA X.K (tCons (RE X fa) (tCons (RE X fb) tNil)) σ H R := by
  obtain ⟨env, h, fz, fr, rho, st, er, q⟩ := q
  refine TEo.goN st er q.bind fun x h1 q1 fz1 v1 H1 s1 st1 er1 r1 => ?_
  refine TEo.goN st1 er1 (q1.bind.wish s1) fun y h2 q2 fz2 v2 H2 s2 st2 er2 r2 => ?_
  dsimp only at q2
  split at q2
  · rename_i xs ys ex ey
    rw [ex] at r1
    rw [ey] at r2
    have r1' := (show Rep (kf X) fz1 (.lst xs) v1 from r1)
    have r2' := (show Rep (kf X) fz2 (.lst ys) v2 from r2)
    simp only [Rep] at r1' r2'
    obtain ⟨a, vs, rfl, h3, _, k1⟩ := r1'
    obtain ⟨b, us, rfl, h4, _, k2⟩ := r2'
    have h3' := Same.sqL (K := kf X) s2 h3
    have k1' := k1.mono s2
    refine ⟨a, b, vs, us, rfl, .inl ⟨Same.sqL (K := kf X) st2.sub h3', Same.sqL (K := kf X) st2.sub h4, ?_⟩⟩
    exact (show ∀ fz1 H1 J G Y, Same fz fz1 → StH (kf X) fz1 fr rho h2 H1 → Walk J (zipD xs ys).length G Y → (∀ H, Same fz1 H → G H) → (∀ k H x H', k < (zipD xs ys).length → Same fz1 H → Y k H x H' → ∃ d, (zipD xs ys)[k]? = some d ∧ ItemR (kf X) fz1 true d x H H') → R J H1 from q2) fz2 H2 _ _ _ (s1.trans s2) st2
      (walk_zip (K := X.K) (a := a) (b := b) (xs := vs) (ys := us) (by rw [zipD_len, k1.length, k2.length])) (fun H s => ⟨Same.sqL (K := kf X) s h3', Same.sqL (K := kf X) s h4⟩) fun i H x H' _ _ y => zip_items k1' k2 i H x H' y
  · rename_i xs ys ex ey
    rw [ex] at r1
    rw [ey] at r2
    have r1' := (show Rep (kf X) fz1 (.tup xs) v1 from r1)
    have r2' := (show Rep (kf X) fz2 (.tup ys) v2 from r2)
    simp only [Rep] at r1' r2'
    obtain ⟨a, vs, rfl, h3, _, k1⟩ := r1'
    obtain ⟨b, us, rfl, h4, _, k2⟩ := r2'
    have h3' := Same.sqP (K := kf X) s2 h3
    have k1' := k1.mono s2
    refine ⟨a, b, vs, us, rfl, .inr ⟨SqP.at (K := kf X) st2.sub h3', SqP.at (K := kf X) st2.sub h4, ?_⟩⟩
    exact (show ∀ fz1 H1 J G Y, Same fz fz1 → StH (kf X) fz1 fr rho h2 H1 → Walk J (zipD xs ys).length G Y → (∀ H, Same fz1 H → G H) → (∀ k H x H', k < (zipD xs ys).length → Same fz1 H → Y k H x H' → ∃ d, (zipD xs ys)[k]? = some d ∧ ItemR (kf X) fz1 true d x H H') → R J H1 from q2) fz2 H2 _ _ _ (s1.trans s2) st2
      (walk_zipT (K := X.K) (a := a) (b := b) (xs := vs) (ys := us) (by rw [zipD_len, k1.length, k2.length])) (fun H s => ⟨SqP.at (K := kf X) s h3', SqP.at (K := kf X) s h4⟩) fun i H x H' _ _ y => zip_items k1' k2 i H x H' y
  · exact (show False from q2).elim
theorem enuD_len : ∀ (k : Nat) (xs : List D), (enuD k xs).length = xs.length
  | _, [] => rfl
  | k, x :: xs => by simp [enuD, enuD_len (k + 1) xs]
theorem enuD_get : ∀ {k : Nat} {xs : List D} {i : Nat} {x : D}, xs[i]? = some x → (enuD k xs)[i]? = some (.tup [.int ((k + i : Nat) : Int), x])
  | k, [], i, _, h => by simp at h
  | k, a :: xs, 0, x, h => by simp at h; subst h; simp [enuD]
  | k, a :: xs, i + 1, x, h => by
    simp at h
    have := enuD_get (k := k + 1) h
    rw [show k + 1 + i = k + (i + 1) by omega] at this
    simpa [enuD] using this
theorem enu_r {fa : FE} {σ : L2.St} {H : Hp} {R : It → Hp → Prop} (q : TWo (kf X) true (fEnu fa) σ H R) : iEnum X.K (tCons (RE X fa) tNil) σ H R := by
  obtain ⟨env, h, fz, fr, rho, st, er, q⟩ := q
  refine TEo.goN st er q.bind fun x h1 q1 fz1 v1 H1 s1 st1 er1 r1 => ?_
  dsimp only at q1
  split at q1
  · rename_i xs ex
    rw [ex] at r1
    have r1' := (show Rep (kf X) fz1 (.lst xs) v1 from r1)
    simp only [Rep] at r1'
    obtain ⟨a, vs, rfl, h3, _, k1⟩ := r1'
    refine ⟨a, vs, rfl, Same.sqL (K := kf X) st1.sub h3, ?_⟩
    refine (show ∀ fz1 H1 J G Y, Same fz fz1 → StH (kf X) fz1 fr rho h1 H1 → Walk J (enuD 0 xs).length G Y → (∀ H, Same fz1 H → G H) → (∀ k H x H', k < (enuD 0 xs).length → Same fz1 H → Y k H x H' → ∃ d, (enuD 0 xs)[k]? = some d ∧ ItemR (kf X) fz1 true d x H H') → R J H1 from q1) fz1 H1 _ _ _ s1 st1
      (by rw [enuD_len, ← k1.length]; exact walk_enum (K := X.K) (a := a) (xs := vs)) (fun H s => Same.sqL (K := kf X) s h3) fun i H x H' _ _ y => ?_
    obtain ⟨T, p, q', rfl, e1, rfl, e3, e4⟩ := y
    obtain ⟨d, e5, e6⟩ := k1.get' e4
    cases e3
    refine ⟨_, enuD_get e5, ?_⟩
    rw [Nat.zero_add]
    exact item_pair e1 rep_int e6
  · exact (show False from q1).elim
end
end Mini
set_option Elab.async false
set_option linter.all false
set_option autoImplicit false
set_option maxRecDepth 100000
set_option maxHeartbeats 4000000
/- Mini: statements. Own work. -/
namespace Mini
open PySem PySem.Spec PyProof.Rows L2

abbrev FS := Env → Heap → Out SR
/-- the first things stand as they stood -/
def Agree (base : Nat) (rho rho' : List Addr) : Prop := ∀ n : Nat, n < base → rho'[n]? = rho[n]?
theorem Agree.refl {base : Nat} {rho : List Addr} : Agree base rho rho := fun _ _ => rfl
theorem Agree.trans {base : Nat} {a b c : List Addr} (h : Agree base a b) (k : Agree base b c) : Agree base a c := fun n hn => (k n hn).trans (h n hn)
theorem Agree.len {base : Nat} {a b : List Addr} (h : Agree base a b) (hl : base ≤ a.length) : base ≤ b.length := by
  by_cases e : base = 0
  · omega
  · have h1 := h (base - 1) (by omega)
    rw [List.getElem?_eq_getElem (l := a) (i := base - 1) (by omega)] at h1
    have := (List.getElem?_eq_some_iff.mp h1).1
    omega
/-- what is wanted of how a statement ends -/
def FlW (K : KF) (fz fr : Hp) (rho : List Addr) (h : Heap) (D : Ends) (fl : Fl) (σ : L2.St) (H : Hp) : Prop :=
  match fl with
  | .nx => D.nx σ H
  | .rt r => ∀ v, ResR K fz fr rho h H r v → D.rt v H
  | .bk => D.bk σ H
  | .ct => D.ct σ H
/-- behind a statement -/
def PostS (K : KF) (base : Nat) (fz fr : Hp) (rho : List Addr) (D : Ends) (p : SR) : Prop :=
  ∀ fz' rho' σ' H', Same fz fz' → Agree base rho rho' → StH K fz' fr rho' p.2.2 H' → EnvR K fz' rho' p.2.1 σ' → match p.1 with
    | .nx => D.nx σ' H'
    | .rt r => ∀ v, ResR K fz' fr rho' p.2.2 H' r v → D.rt v H'
    | .bk => D.bk σ' H'
    | .ct => D.ct σ' H'
def TSo (K : KF) (base : Nat) (f : FS) : TS := fun D σ H => ∃ env h fz fr rho, StH K fz fr rho h H ∧ EnvR K fz rho env σ ∧ base ≤ h.length ∧ OkO (f env h) (PostS K base fz fr rho D) (fun _ _ => False)
section
variable {X : Cx} {base : Nat}
abbrev RS (X : Cx) (base : Nat) (f : FS) : TS := TSo (kf X) base f
/-- what was said of an outcome still holds later -/
theorem PostS.later {K : KF} {fz fz1 fr : Hp} {rho rho1 : List Addr} {D : Ends} {p : SR} (q : PostS K base fz fr rho D p) (s : Same fz fz1) (g : Agree base rho rho1) : PostS K base fz1 fr rho1 D p :=
  fun fz' rho' σ' H' s' g' => q fz' rho' σ' H' (s.trans s') (g.trans g')
theorem PostS.nx {K : KF} {fz fz1 fr : Hp} {rho rho1 : List Addr} {D : Ends} {env : Env} {h : Heap} (q : PostS K base fz fr rho D (.nx, env, h)) (s : Same fz fz1) (g : Agree base rho rho1) {σ : L2.St} {H : Hp} (st : StH K fz1 fr rho1 h H) (er : EnvR K fz1 rho1 env σ) : D.nx σ H :=
  q fz1 rho1 σ H s g st er
/-- an expression's step within a statement -/
theorem stepE {K : KF} {ca : Nat → Addr} {W : WX} {fe : FE} {σ : L2.St} {H : Hp} {Q : VK} {env : Env} {h : Heap} {fz fr : Hp} {rho : List Addr} {A : RV × Heap → Prop} (st : StH K fz fr rho h H) (er : EnvR K fz rho env σ) (q : OkO (fe env h) A (fun _ _ => False))
    (k : ∀ r h', A (r, h') → ∀ fz' v H', Same fz fz' → StH K fz' fr rho h' H' → EnvR K fz' rho env σ → ResR K fz' fr rho h' H' r v → Q v H') : TEo K ca W fe σ H Q := TEo.go st er q k

def fSkip : FS := fun env h => .ok (.nx, env, h)
def fSeq (fa fb : FS) : FS := fun env h => fa env h >>= fun (fl, e1, h1) => match fl with
  | .nx => fb e1 h1
  | f => .ok (f, e1, h1)
theorem skip_r {D : Ends} {σ : L2.St} {H : Hp} (q : RS X base fSkip D σ H) : tNext D σ H := by
  obtain ⟨env, h, fz, fr, rho, st, er, hb, q⟩ := q
  exact PostS.nx q (Same.refl _) .refl st er
theorem len_of {K : KF} {fz fz1 fr : Hp} {rho rho1 : List Addr} {h h1 : Heap} {H H1 : Hp} (hb : base ≤ h.length) (st : StH K fz fr rho h H) (st1 : StH K fz1 fr rho1 h1 H1) (g : Agree base rho rho1) : base ≤ h1.length := by
  rw [← st1.len]
  exact g.len (by rw [st.len]; exact hb)
theorem seq_r {fa fb : FS} {D : Ends} {σ : L2.St} {H : Hp} (q : RS X base (fSeq fa fb) D σ H) : tSeq (RS X base fa) (RS X base fb) D σ H := by
  obtain ⟨env, h, fz, fr, rho, st, er, hb, q⟩ := q
  refine ⟨env, h, fz, fr, rho, st, er, hb, OkO.mono q.bind (fun p a => ?_) fun _ _ z => z⟩
  obtain ⟨fl, e1, h1⟩ := p
  intro fz' rho' σ' H' s g st' er'
  cases fl with
  | nx => exact ⟨e1, h1, fz', fr, rho', st', er', len_of hb st st' g, OkO.mono a (fun p b => b.later s g) fun _ _ z => z⟩
  | rt r => exact (show PostS (kf X) base fz fr rho D (.rt r, e1, h1) from a) fz' rho' σ' H' s g st' er'
  | bk => exact (show PostS (kf X) base fz fr rho D (.bk, e1, h1) from a) fz' rho' σ' H' s g st' er'
  | ct => exact (show PostS (kf X) base fz fr rho D (.ct, e1, h1) from a) fz' rho' σ' H' s g st' er'

/-! ### a name is set -/
theorem RepR.agree {K : KF} {fz : Hp} {rho rho' : List Addr} {r : RV} {v : V} (h : RepR K fz rho r v) (g : ∀ n, r = .ref n → rho'[n]? = rho[n]?) : RepR K fz rho' r v := by
  cases r with
  | d x => exact h
  | ref n =>
    obtain ⟨a, e, e2⟩ := h
    exact ⟨a, (g n rfl).trans e, e2⟩
  | nw c => exact h
theorem alone_ok {n i : Nat} : ∀ {env : Env} {k : Nat}, alone n i k env = true → ∀ j, env[j]? = some (some (.ref n)) → k + j = i
  | [], k, _, j, e => by simp at e
  | none :: r, k, h, j, e => by
    cases j with
    | zero => simp at e
    | succ j =>
      have := alone_ok (k := k + 1) (by simpa [alone] using h) j (by simpa using e)
      omega
  | some (.d x) :: r, k, h, j, e => by
    cases j with
    | zero => simp at e
    | succ j =>
      have := alone_ok (k := k + 1) (by simpa [alone] using h) j (by simpa using e)
      omega
  | some (.nw x) :: r, k, h, j, e => by
    cases j with
    | zero => simp at e
    | succ j =>
      have := alone_ok (k := k + 1) (by simpa [alone] using h) j (by simpa using e)
      omega
  | some (.ref m) :: r, k, h, j, e => by
    simp only [alone, Bool.and_eq_true, Bool.or_eq_true, Bool.not_eq_true', beq_eq_false_iff_ne, beq_iff_eq, ne_eq] at h
    cases j with
    | zero =>
      simp at e
      rcases h.1 with z | z
      · exact absurd e z
      · omega
    | succ j =>
      have := alone_ok (k := k + 1) h.2 j (by simpa using e)
      omega
/-- a new thing of the heap: at the end -/
theorem StH.push {K : KF} {fz fr : Hp} {rho : List Addr} {h : Heap} {H : Hp} (st : StH K fz fr rho h H) {p : Addr} {o : HO} {c : Cell} (hp : H p = some o) (hf : fz p = none ∧ fr p = none) (hc : CellR K fz c o) (hr : ∀ n : Nat, Live h n → rho[n]? ≠ some p) : StH K fz fr (rho ++ [p]) (h ++ [c]) H where
  sub := st.sub
  subF := st.subF
  dis := st.dis
  len := by simp [st.len]
  cells := fun n d h1 h2 => by
    by_cases e : n < h.length
    · rw [List.getElem?_append_left e] at h1
      obtain ⟨a, u, e1, e2⟩ := st.cells n d h1 h2
      exact ⟨a, u, by rw [List.getElem?_append_left (by rw [st.len]; exact e)]; exact e1, e2⟩
    · have hn : n = h.length := by
        have := (List.getElem?_eq_some_iff.mp h1).1
        simp at this
        omega
      subst hn
      rw [List.getElem?_append_right (Nat.le_refl _)] at h1
      simp at h1
      subst h1
      exact ⟨p, o, by rw [← st.len, List.getElem?_append_right (Nat.le_refl _)]; simp, hp, hf, hc⟩
  inj := fun i j a l1 l2 e1 e2 => by
    have old : ∀ {i : Nat}, Live (h ++ [c]) i → i < h.length → Live h i := fun {i} ⟨d, g1, g2⟩ hi => ⟨d, by rw [List.getElem?_append_left hi] at g1; exact g1, g2⟩
    have new : ∀ {i : Nat}, (rho ++ [p])[i]? = some a → ¬ i < h.length → a = p ∧ i = h.length := fun {i} g1 hi => by
      have hl := (List.getElem?_eq_some_iff.mp g1).1
      simp [st.len] at hl
      have hi2 : i = rho.length := by rw [st.len]; omega
      rw [hi2, List.getElem?_append_right (Nat.le_refl _)] at g1
      simp at g1
      exact ⟨g1.symm, by rw [hi2, st.len]⟩
    by_cases hi : i < h.length
    · rw [List.getElem?_append_left (by rw [st.len]; exact hi)] at e1
      by_cases hj : j < h.length
      · rw [List.getElem?_append_left (by rw [st.len]; exact hj)] at e2
        exact st.inj i j a (old l1 hi) (old l2 hj) e1 e2
      · obtain ⟨ea, _⟩ := new e2 hj
        subst ea
        exact absurd e1 (hr i (old l1 hi))
    · obtain ⟨ea, ei⟩ := new e1 hi
      subst ea
      by_cases hj : j < h.length
      · rw [List.getElem?_append_left (by rw [st.len]; exact hj)] at e2
        exact absurd e2 (hr j (old l2 hj))
      · obtain ⟨_, ej⟩ := new e2 hj
        rw [ei, ej]
theorem agree_push {rho : List Addr} {p : Addr} {base : Nat} (hb : base ≤ rho.length) : Agree base rho (rho ++ [p]) := fun n hn => List.getElem?_append_left (by omega)
theorem EnvR.push {K : KF} {fz : Hp} {rho : List Addr} {env : Env} {σ : L2.St} (er : EnvR K fz rho env σ) (p : Addr) : EnvR K fz (rho ++ [p]) env σ := ⟨er.1, fun i r e => by
  obtain ⟨v, h1, h2⟩ := er.2 i r e
  refine ⟨v, h1, ?_⟩
  cases r with
  | d x => exact h2
  | ref n =>
    obtain ⟨a, g1, g2⟩ := h2
    exact ⟨a, by rw [List.getElem?_append_left (List.getElem?_eq_some_iff.mp g1).1]; exact g1, g2⟩
  | nw c => exact h2⟩
/-- a thing of the heap gives way to another -/
theorem StH.swap {K : KF} {fz fr : Hp} {rho : List Addr} {h : Heap} {H : Hp} (st : StH K fz fr rho h H) {n : Nat} {p : Addr} {o : HO} {c : Cell} (hn : n < h.length) (hp : H p = some o) (hf : fz p = none ∧ fr p = none) (hc : CellR K fz c o) (hr : ∀ n : Nat, Live h n → rho[n]? ≠ some p) :
    StH K fz fr (rho.set n p) (h.set n c) H where
  sub := st.sub
  subF := st.subF
  dis := st.dis
  len := by simp [st.len]
  cells := fun m d h1 h2 => by
    rcases getElem?_set_iff h1 with ⟨e1, e2, _⟩ | ⟨ne, e1⟩
    · subst e1 e2
      exact ⟨p, o, by rw [List.getElem?_set_self (by rw [st.len]; exact hn)], hp, hf, hc⟩
    · obtain ⟨a, u, g1, g2⟩ := st.cells m d e1 h2
      exact ⟨a, u, by rw [List.getElem?_set_ne (fun z => ne z.symm)]; exact g1, g2⟩
  inj := fun i j a l1 l2 e1 e2 => by
    have old : ∀ {i : Nat}, i ≠ n → Live (h.set n c) i → Live h i := fun {i} hi ⟨d, g1, g2⟩ => by
      rcases getElem?_set_iff g1 with ⟨e1, _, _⟩ | ⟨_, e1⟩
      · exact absurd e1 hi
      · exact ⟨d, e1, g2⟩
    by_cases hi : i = n
    · subst hi
      rw [List.getElem?_set_self (by rw [st.len]; exact hn)] at e1
      cases e1
      by_cases hj : j = i
      · exact hj.symm
      · rw [List.getElem?_set_ne (fun z => hj z.symm)] at e2
        exact absurd e2 (hr j (old hj l2))
    · rw [List.getElem?_set_ne (fun z => hi z.symm)] at e1
      by_cases hj : j = n
      · subst hj
        rw [List.getElem?_set_self (by rw [st.len]; exact hn)] at e2
        cases e2
        exact absurd e1 (hr i (old hi l1))
      · rw [List.getElem?_set_ne (fun z => hj z.symm)] at e2
        exact st.inj i j a (old hi l1) (old hj l2) e1 e2
theorem asg_r {K : KF} {D : Ends} {fz fr : Hp} {rho : List Addr} {env : Env} {σ : L2.St} {h1 : Heap} {H1 : Hp} {m : Bool} {i : Nat} {r : RV} {v : V} {fz0 : Hp} (s0 : Same fz0 fz) (st : StH K fz fr rho h1 H1) (er : EnvR K fz rho env σ) (hb : base ≤ h1.length) (rr : ResR K fz fr rho h1 H1 r v)
    (q : OkO (asgV base m i r env h1 >>= fun (e2, h2) => .ok (.nx, e2, h2)) (PostS K base fz0 fr rho D) (fun _ _ => False)) : D.nx (σ.set i (some v)) H1 := by
  have q1 := q.bind
  cases m with
  | false =>
    simp only [asgV] at q1
    obtain ⟨fz2, s2, st2, r2⟩ := nrm_ok st rr
    split at q1
    · rename_i d e
      rw [e] at r2
      exact PostS.nx q1 (s0.trans s2) .refl st2 ((er.mono s2).set r2)
    · exact (show False from q1).elim
  | true =>
    cases r with
    | d x => exact (show False from q1).elim
    | ref n => exact (show False from q1).elim
    | nw c =>
      simp only [asgV] at q1
      obtain ⟨p, o, rfl, hp, hf, hc, hr⟩ := rr
      unfold asgM at q1
      have alloc : PostS K base fz0 fr rho D (.nx, env.set i (some (.ref h1.length)), h1 ++ [c]) → D.nx (σ.set i (some (.ref p))) H1 := fun q => by
        refine PostS.nx q s0 (agree_push (by rw [st.len]; exact hb)) (st.push hp hf hc hr) ((er.push p).set (r := .ref h1.length) ⟨p, ?_, rfl⟩)
        rw [← st.len, List.getElem?_append_right (Nat.le_refl _)]
        simp
      split at q1
      · rename_i n e
        split at q1
        · rename_i hc'
          obtain ⟨hn, hl, ha⟩ := hc'
          have ne : ∀ j, env[j]? = some (some (.ref n)) → j = i := fun j z => by have := alone_ok ha j z; omega
          refine PostS.nx q1 s0 (fun m hm => List.getElem?_set_ne (by omega)) (st.swap hl hp hf hc hr) ⟨by rw [List.length_set]; exact er.1, fun j w z => ?_⟩
          by_cases ej : j = i
          · subst ej
            rw [e] at z
            cases z
            refine ⟨.ref p, by rw [List.getElem?_set_self (by rw [← er.1]; exact (List.getElem?_eq_some_iff.mp e).1)], p, ?_, rfl⟩
            rw [List.getElem?_set_self (by rw [st.len]; exact hl)]
          · obtain ⟨u, g1, g2⟩ := er.2 j w z
            refine ⟨u, by rw [List.getElem?_set_ne (fun y => ej y.symm)]; exact g1, g2.agree fun k hk => ?_⟩
            subst hk
            rw [List.getElem?_set_ne]
            intro y
            subst y
            exact ej (ne j z)
        · exact alloc q1
      · exact alloc q1
def fAsg (base : Nat) (m : Bool) (i : Nat) (fe : FE) : FS := fun env h => fe env h >>= fun (x, h1) => asgV base m i x env h1 >>= fun (e2, h2) => .ok (.nx, e2, h2)
theorem set_r {m : Bool} {i : Nat} {fe : FE} {D : Ends} {σ : L2.St} {H : Hp} (q : RS X base (fAsg base m i fe) D σ H) : tAsg (RE X fe) (gName i) D σ H := by
  obtain ⟨env, h, fz, fr, rho, st, er, hb, q⟩ := q
  refine stepE st er q.bind fun x h1 q1 fz1 v1 H1 s1 st1 er1 r1 => ?_
  exact asg_r s1 st1 er1 (len_of hb st st1 .refl) r1 q1
/-- .. where the value's reading is another one's (a comprehension that is set at once) -/
theorem set_r' {m : Bool} {i : Nat} {fe : FE} {te : TE} (ht : ∀ σ H Q, RE X fe σ H Q → te σ H Q) {D : Ends} {σ : L2.St} {H : Hp} (q : RS X base (fAsg base m i fe) D σ H) : tAsg te (gName i) D σ H := ht _ _ _ (set_r q)
def fTgt (t : Tg) (fe : FE) : FS := fun env h => fe env h >>= fun (x, h1) => (match nrm x with
  | .d v => (match setTg t v env with
    | some e2 => .ok (.nx, e2, h1)
    | none => .stuck)
  | _ => .stuck)
theorem tgt_r {t : Tg} {fe : FE} {D : Ends} {σ : L2.St} {H : Hp} (q : RS X base (fTgt t fe) D σ H) : tAsg (RE X fe) (gT X.K t) D σ H := by
  obtain ⟨env, h, fz, fr, rho, st, er, hb, q⟩ := q
  refine TEo.goN st er q.bind fun x h1 q1 fz1 v1 H1 s1 st1 er1 r1 => ?_
  dsimp only at q1
  split at q1
  · rename_i d ed
    rw [ed] at r1
    split at q1
    · rename_i e2 e
      exact tg_ok t e r1 st1.sub er1 fun σ1 er2 _ => PostS.nx q1 s1 .refl st1 er2
    · exact (show False from q1).elim
  · exact (show False from q1).elim
def fExp (fe : FE) : FS := fun env h => fe env h >>= fun (_, h1) => .ok (.nx, env, h1)
theorem exp_r {fe : FE} {D : Ends} {σ : L2.St} {H : Hp} (q : RS X base (fExp fe) D σ H) : tDrop (RE X fe) D σ H := by
  obtain ⟨env, h, fz, fr, rho, st, er, hb, q⟩ := q
  exact stepE st er q.bind fun x h1 q1 fz1 v1 H1 s1 st1 er1 r1 => PostS.nx q1 s1 .refl st1 er1
def fRet (fe : FE) : FS := fun env h => fe env h >>= fun (x, h1) => .ok (.rt x, env, h1)
theorem ret_r {fe : FE} {D : Ends} {σ : L2.St} {H : Hp} (q : RS X base (fRet fe) D σ H) : tRet (RE X fe) D σ H := by
  obtain ⟨env, h, fz, fr, rho, st, er, hb, q⟩ := q
  exact stepE st er q.bind fun x h1 q1 fz1 v1 H1 s1 st1 er1 r1 => (show PostS (kf X) base fz fr rho D (.rt x, env, h1) from q1) fz1 rho σ H1 s1 .refl st1 er1 v1 r1
def fRetn : FS := fun env h => .ok (.rt (.d .non), env, h)
theorem retn_r {D : Ends} {σ : L2.St} {H : Hp} (q : RS X base fRetn D σ H) : tRetN D σ H := by
  obtain ⟨env, h, fz, fr, rho, st, er, hb, q⟩ := q
  exact (show PostS (kf X) base fz fr rho D (.rt (.d .non), env, h) from q) fz rho σ H (Same.refl _) .refl st er .non (show Rep (kf X) fz .non .non from rep_non)
def fBrk : FS := fun env h => .ok (.bk, env, h)
def fCnt : FS := fun env h => .ok (.ct, env, h)
theorem brk_r {D : Ends} {σ : L2.St} {H : Hp} (q : RS X base fBrk D σ H) : tBreak D σ H := by
  obtain ⟨env, h, fz, fr, rho, st, er, hb, q⟩ := q
  exact (show PostS (kf X) base fz fr rho D (.bk, env, h) from q) fz rho σ H (Same.refl _) .refl st er
theorem cnt_r {D : Ends} {σ : L2.St} {H : Hp} (q : RS X base fCnt D σ H) : tCont D σ H := by
  obtain ⟨env, h, fz, fr, rho, st, er, hb, q⟩ := q
  exact (show PostS (kf X) base fz fr rho D (.ct, env, h) from q) fz rho σ H (Same.refl _) .refl st er
def fIf (t : FT) (fa fb : FS) : FS := fun env h => t env h >>= fun (k, h1) => if k then fa env h1 else fb env h1
theorem if_r {t : FT} {fa fb : FS} {D : Ends} {σ : L2.St} {H : Hp} (q : RS X base (fIf t fa fb) D σ H) : tIfS (RT X t) (RS X base fa) (RS X base fb) D σ H := by
  obtain ⟨env, h, fz, fr, rho, st, er, hb, q⟩ := q
  unfold tIfS
  refine TTo.go st er q.bind fun k h1 q1 fz1 H1 s1 st1 er1 => ?_
  cases k with
  | true => exact ⟨env, h1, fz1, fr, rho, st1, er1, len_of hb st st1 .refl, OkO.mono q1 (fun p b => b.later s1 .refl) fun _ _ z => z⟩
  | false => exact ⟨env, h1, fz1, fr, rho, st1, er1, len_of hb st st1 .refl, OkO.mono q1 (fun p b => b.later s1 .refl) fun _ _ z => z⟩
def fWhl (t : FT) (fb : FS) : FS := whlGo t fb TURNS
/-- while: the turns that are left are the measure -/
theorem whl_r {t : FT} {fb : FS} {D : Ends} {σ : L2.St} {H : Hp} (q : RS X base (fWhl t fb) D σ H) : tWhile (RT X t) (RS X base fb) D σ H := by
  obtain ⟨env, h, fz, fr, rho, st, er, hb, q⟩ := q
  refine ⟨fun m σ H => ∃ env h fz1 rho1, Same fz fz1 ∧ Agree base rho rho1 ∧ StH (kf X) fz1 fr rho1 h H ∧ EnvR (kf X) fz1 rho1 env σ ∧ base ≤ h.length ∧ OkO (whlGo t fb m env h) (PostS (kf X) base fz fr rho D) (fun _ _ => False), ⟨TURNS, env, h, fz, rho, Same.refl _, .refl, st, er, hb, q⟩, ?_⟩
  rintro m σ H ⟨env, h, fz1, rho1, s1, g1, st1, er1, hb1, q⟩
  cases m with
  | zero => exact (show False from q).elim
  | succ m =>
    unfold whlGo at q
    refine TTo.go st1 er1 q.bind fun k h0 q1 fz2 H2 s2 st2 er2 => ?_
    cases k with
    | false => exact PostS.nx q1 (s1.trans s2) g1 st2 er2
    | true =>
      refine ⟨fun σ' H' => ∃ env h fz1 rho1, Same fz fz1 ∧ Agree base rho rho1 ∧ StH (kf X) fz1 fr rho1 h H' ∧ EnvR (kf X) fz1 rho1 env σ' ∧ base ≤ h.length ∧ OkO (whlGo t fb m env h) (PostS (kf X) base fz fr rho D) (fun _ _ => False), fun σ' H' hq => ⟨m, Nat.lt_succ_self m, hq⟩, ?_⟩
      refine ⟨env, h0, fz2, fr, rho1, st2, er2, len_of hb1 st1 st2 .refl, OkO.mono (OkO.bind (o := fb env h0) q1) (fun p a => ?_) fun _ _ z => z⟩
      obtain ⟨fl, e1, h1⟩ := p
      intro fz' rho' σ' H' s g st' er'
      have hb' := len_of hb1 st1 st' g
      cases fl with
      | nx => exact ⟨e1, h1, fz', rho', s1.trans (s2.trans s), g1.trans g, st', er', hb', a⟩
      | ct => exact ⟨e1, h1, fz', rho', s1.trans (s2.trans s), g1.trans g, st', er', hb', a⟩
      | bk => exact (show PostS (kf X) base fz fr rho D (.nx, e1, h1) from a) fz' rho' σ' H' (s1.trans (s2.trans s)) (g1.trans g) st' er'
      | rt r => exact (show PostS (kf X) base fz fr rho D (.rt r, e1, h1) from a) fz' rho' σ' H' (s1.trans (s2.trans s)) (g1.trans g) st' er'
def fFor (t : Tg) (it : FW) (fb : FS) : FS := fun env h => it env h >>= fun (xs, h1) => forGo (fun x env h => match setTg t x env with
  | some e1 => fb e1 h
  | none => .stuck) xs env h1
theorem for_r {pr : Bool} {t : Tg} {fw : FW} {fb : FS} {wi : TI} (hw : ∀ σ H R, TWo (kf X) pr fw σ H R → wi σ H R) (hp : pr = true → isTp t = true) {D : Ends} {σ : L2.St} {H : Hp} (q : RS X base (fFor t fw fb) D σ H) : tFor wi (gT X.K t) (RS X base fb) D σ H := by
  obtain ⟨env, h, fz, fr, rho, st, er, hb, q⟩ := q
  refine hw _ _ _ ⟨env, h, fz, fr, rho, st, er, OkO.mono q.bind (fun p a fz1 H1 J G Y s1 st1 w hG hY => ?_) fun _ _ z => z⟩
  obtain ⟨xs, h1⟩ := p
  have a : OkO (forGo (fun x env h => match setTg t x env with
    | some e1 => fb e1 h
    | none => .stuck) xs env h1) (PostS (kf X) base fz fr rho D) (fun _ _ => False) := a
  let I : Nat → L2.St → Hp → Prop := fun i σ H => ∃ env h fz2 rho2, Same fz1 fz2 ∧ Agree base rho rho2 ∧ StH (kf X) fz2 fr rho2 h H ∧ EnvR (kf X) fz2 rho2 env σ ∧ base ≤ h.length ∧ OkO (forGo (fun x env h => match setTg t x env with
    | some e1 => fb e1 h
    | none => .stuck) (xs.drop i) env h) (PostS (kf X) base fz fr rho D) (fun _ _ => False)
  refine for_it w (D := D) (g := gT X.K t) (tb := RS X base fb) I ⟨env, h1, fz1, rho, Same.refl _, .refl, st1, er.mono s1, len_of hb st st1 .refl, a⟩ (fun i σ H _ ⟨env, h, fz2, rho2, s, _, st, _⟩ => hG H (s.trans st.sub)) (fun i x σ H H' hi hI y => ?_) fun σ H hI => ?_
  · obtain ⟨env, h, fz2, rho2, s2, g2, st2, er2, hb2, q⟩ := hI
    obtain ⟨d, ed, it⟩ := hY i H x H' hi (s2.trans st2.sub) y
    have e : xs.drop i = d :: xs.drop (i + 1) := by
      rw [List.getElem?_eq_getElem hi] at ed
      cases ed
      exact (List.getElem_cons_drop hi).symm
    rw [e] at q
    unfold forGo at q
    have q1 := q.bind
    cases eS : setTg t d env with
    | none => rw [eS] at q1; exact (show False from q1).elim
    | some env1 =>
      rw [eS] at q1
      refine tg_item hp eS (it.mono s2) st2 er2 fun σ1 er3 _ st3 => ⟨env1, h, fz2, fr, rho2, st3, er3, hb2, OkO.mono q1 (fun p a => ?_) fun _ _ z => z⟩
      obtain ⟨fl, e1, h1⟩ := p
      intro fz' rho' σ' H' s g st' er'
      have hb' := len_of hb2 st3 st' g
      cases fl with
      | nx => exact ⟨e1, h1, fz', rho', s2.trans s, g2.trans g, st', er', hb', a⟩
      | ct => exact ⟨e1, h1, fz', rho', s2.trans s, g2.trans g, st', er', hb', a⟩
      | bk => exact (show PostS (kf X) base fz fr rho D (.nx, e1, h1) from a) fz' rho' σ' H' (s1.trans (s2.trans s)) (g2.trans g) st' er'
      | rt r => exact (show PostS (kf X) base fz fr rho D (.rt r, e1, h1) from a) fz' rho' σ' H' (s1.trans (s2.trans s)) (g2.trans g) st' er'
  · obtain ⟨env, h, fz2, rho2, s2, g2, st2, er2, hb2, q⟩ := hI
    rw [List.drop_eq_nil_of_le (Nat.le_refl _)] at q
    exact PostS.nx q (s1.trans s2) g2 st2 er2

/-! ### name op= value -/
def fAug (i : Nat) (o : Bin) (fe : FE) : FS := fun env h => (match env[i]? with
  | some (some (.d x)) => fe env h >>= fun (z, h1) => (match view h1 (nrm z) with
    | some y => augV o x y >>= fun v => .ok (.nx, env.set i (some (.d v)), h1)
    | none => .stuck)
  | some (some (.ref n)) => fe env h >>= fun (z, h1) => (match o, z, h1[n]? with
    | .add, .nw (.lst ys), some (.lst xs) => if xs.length + ys.length ≤ LINE then .ok (.nx, env, h1.set n (.lst (xs ++ ys))) else .stuck
    | _, _, _ => .stuck)
  | _ => .stuck)
def rAug (K : KF) (o : Bin) : TIp := fun x y H Q => (∃ i j : Int, x = .int i ∧ y = .int j ∧ o = .add ∧ Q (.int (i + j)) H) ∨ (∃ i j : Int, x = .int i ∧ y = .int j ∧ o = .sub ∧ Q (.int (i - j)) H) ∨
  (∃ i j : PySem.Str, x = .str i ∧ y = .str j ∧ o = .add ∧ i.length + j.length ≤ sizeLine ∧ Q (.str (i ++ j)) H) ∨ (o = .add ∧ rExt2 x y H Q)
theorem ip_aug (o : Bin) : PIp X (opOf o) (rAug (kf X) o) := by
  intro pins s σ H x y v u Q I rx ry h
  rcases h with ⟨i, j, ex, ey, rfl, q⟩ | ⟨i, j, ex, ey, rfl, q⟩ | ⟨i, j, ex, ey, rfl, hl, q⟩ | ⟨rfl, h⟩
  · exact ip_add pins s σ H x y v u Q I rx ry ⟨i, j, ex, ey, q⟩
  · exact ip_sub pins s σ H x y v u Q I rx ry ⟨i, j, ex, ey, q⟩
  · exact in_addS pins s σ H x y v u Q I rx ry ⟨i, j, ex, ey, hl, q⟩
  · exact iop_ext pins s σ H x y v u Q I rx ry h
theorem set_same {σ : L2.St} {i : Nat} {v : V} (h : σ[i]? = some (some v)) : σ.set i (some v) = σ := by
  refine List.ext_getElem? fun j => ?_
  by_cases e : i = j
  · subst e
    rw [List.getElem?_set_self (List.getElem?_eq_some_iff.mp h).1, h]
  · rw [List.getElem?_set_ne e]
theorem aug_r {i : Nat} {o : Bin} {fe : FE} {D : Ends} {σ : L2.St} {H : Hp} (q : RS X base (fAug i o fe) D σ H) : tAug i (RE X fe) (rAug (kf X) o) D σ H := by
  obtain ⟨env, h, fz, fr, rho, st, er, hb, q⟩ := q
  unfold fAug at q
  split at q
  · rename_i x e
    obtain ⟨xv, h1, h2⟩ := er.2 i _ e
    refine ⟨xv, h1, TEo.goN st er q.bind fun z h1 q1 fz1 v1 H1 s1 st1 er1 r1 => ?_⟩
    have h3 : Rep (kf X) fz1 x xv := Rep.mono s1 h2
    dsimp only at q1
    cases ez : view h1 (nrm z) with
    | none => rw [ez] at q1; exact (show False from q1).elim
    | some y =>
      rw [ez] at q1
      have q2 := OkO.bind q1
      have ty := view_top st1 r1 ez
      unfold augV at q2
      split at q2
      · rename_i a b
        exact .inl ⟨a, b, h3.int_inv, ty.int, rfl, PostS.nx q2 s1 .refl st1 (er1.set (r := .d (.int (a + b))) (show Rep (kf X) fz1 (.int (a + b)) (.int (a + b)) from rep_int))⟩
      · rename_i a b
        exact .inr (.inl ⟨a, b, h3.int_inv, ty.int, rfl, PostS.nx q2 s1 .refl st1 (er1.set (r := .d (.int (a - b))) (show Rep (kf X) fz1 (.int (a - b)) (.int (a - b)) from rep_int))⟩)
      · rename_i a b
        split at q2
        · rename_i hl
          obtain ⟨e1, k1⟩ := h3.str_inv
          obtain ⟨e2, k2⟩ := ty.str
          refine .inr (.inr (.inl ⟨toS a, toS b, e1, e2, rfl, by rw [toS_len, toS_len, ← line_eq]; exact hl, ?_⟩))
          rw [toS_app]
          exact PostS.nx q2 s1 .refl st1 (er1.set (r := .d (.str (a ++ b))) (show Rep (kf X) fz1 (.str (a ++ b)) (.str (toS (a ++ b))) from rep_str (okS_app k1 k2 hl)))
        · exact (show False from q2).elim
      · exact (show False from q2).elim
  · rename_i n e
    obtain ⟨xv, h1, h2⟩ := er.2 i _ e
    refine ⟨xv, h1, TEo.go st er q.bind fun z h1' q1 fz1 v1 H1 s1 st1 er1 r1 => ?_⟩
    dsimp only at q1
    split at q1
    · rename_i ys xs en
      split at q1
      · rename_i hl
        obtain ⟨p, o', rfl, hp, hf, ⟨us, rfl, hz, hr⟩, hne⟩ := r1
        obtain ⟨a, o2, rfl, ha, hH, ⟨vs, rfl, hz2, hr2⟩⟩ := st1.at en (by intro z; cases z) (show RepR (kf X) fz1 rho (.ref n) xv from h2)
        refine .inr (.inr (.inr ⟨rfl, a, p, vs, us, rfl, rfl, hH, hp, by rw [hr.length, hr2.length, ← line_eq]; exact hl, ?_⟩))
        show D.nx (σ.set i (some (.ref a))) _
        rw [set_same h1]
        exact PostS.nx q1 s1 .refl (st1.write en (by intro z; cases z) ha ⟨_, rfl, by rw [List.length_append]; exact hl, hr2.append hr⟩) er1
      · exact (show False from q1).elim
    · exact (show False from q1).elim
  · exact (show False from q).elim
end
end Mini
set_option Elab.async false
set_option linter.all false
set_option autoImplicit false
set_option maxRecDepth 100000
set_option maxHeartbeats 4000000
/- Mini: o[i] = v; several targets at once. Own work. -/
namespace Mini
open PySem PySem.Spec PyProof.Rows L2

section
variable {X : Cx} {base : Nat}
def fDoSub (tk : Bool) (fo fi : FE) (v : D) (env : Env) (h : Heap) : Out Heap := fo env h >>= fun (x, h1) => fi env h1 >>= fun (y, h2) => match x, nrm y with
  | .ref n, .d k => (match h2[n]? with
    | some c => (match subV tk c k v with
      | some c' => .ok (h2.set n c')
      | none => .stuck)
    | none => .stuck)
  | _, _ => .stuck
/-- what the store asks -/
def rSt : TSet := fun o i v H Q => rSetL o i v H Q ∨ rSetD o i v H Q
theorem set_st (hu : X.A.units + 1 < cLine) : PSet X rSt := by
  intro pins s σ H o i v ov iv u Q I ro ri rv h
  rcases h with h | h
  · exact set_list pins s σ H o i v ov iv u Q I ro ri rv h
  · exact set_dict hu pins s σ H o i v ov iv u Q I ro ri rv h
/-- a list's place, a dict's key is set -/
theorem sub_val {fz fr : Hp} {rho : List Addr} {h : Heap} {H : Hp} {n : Nat} {c c' : Cell} {k d : D} {o i v : V} (st : StH (kf X) fz fr rho h H) (hn : h[n]? = some c) (ro : RepR (kf X) fz rho (.ref n) o) (ri : Rep (kf X) fz k i) (rv : Rep (kf X) fz d v) (e : subV false c k d = some c')
    {Q : Hp → Prop} (q : ∀ H', StH (kf X) fz fr rho (h.set n c') H' → Q H') : rSt o i v H Q := by
  have ng : c ≠ .gone := by rintro rfl; simp [subV] at e
  obtain ⟨a, ob, rfl, ha, hH, hc⟩ := st.at hn ng ro
  cases c with
  | gone => exact absurd rfl ng
  | lst xs =>
    cases k <;> simp only [subV] at e <;> try (cases e; done)
    case int j =>
      obtain ⟨m, e1, e2⟩ := Option.map_eq_some_iff.mp e
      subst e2
      obtain ⟨vs, rfl, hz, hr⟩ := hc
      have hm : m < xs.length := by
        unfold place at e1
        split at e1
        · split at e1
          · cases e1; omega
          · cases e1
        · split at e1
          · cases e1; omega
          · cases e1
      refine .inl ⟨a, vs, j, m, rfl, ri.int_inv, hH, by rw [hr.length]; exact e1, ?_⟩
      exact q _ (st.write hn ng ha ⟨_, rfl, by rw [List.length_set]; exact hz, hr.set m rv⟩)
  | dct t kvs =>
    simp only [subV] at e
    split at e
    · rename_i et
      subst et
      obtain ⟨ky, e1, e2⟩ := Option.bind_eq_some_iff.mp e
      split at e2
      · rename_i hl
        cases e2
        obtain ⟨ws, rfl, hz, hr⟩ := hc
        obtain ⟨ak, h1, rfl⟩ := keyFor_f ri e1
        refine .inr ⟨a, upd H a (.dK (putK ws ak v)), rfl, DPut.k hH (by rw [repK_len hr, ← line_eq]; exact hl), ?_⟩
        exact q _ (st.write hn ng ha ⟨_, rfl, Nat.le_trans (dput_len kvs ky d) hl, repK_put hr h1 rv⟩)
      · cases e2
    · cases e
theorem gsub_ok {fo fi : FE} {fz fr : Hp} {rho : List Addr} {env : Env} {σ : L2.St} {h : Heap} {H : Hp} {d : D} {v : V} {P : Heap → Prop} {Q : L2.St → Hp → Prop} (r : Rep (kf X) fz d v) (st : StH (kf X) fz fr rho h H) (er : EnvR (kf X) fz rho env σ)
    (q : OkO (fDoSub false fo fi d env h) P (fun _ _ => False)) (k : ∀ h' fz' H', P h' → Same fz fz' → StH (kf X) fz' fr rho h' H' → EnvR (kf X) fz' rho env σ → Q σ H') : gSub (RE X fo) (RE X fi) rSt v σ H Q := by
  refine stepE st er q.bind fun x h1 q1 fz1 v1 H1 s1 st1 er1 r1 => ?_
  refine TEo.goN st1 er1 q1.bind fun y h2 q2 fz2 v2 H2 s2 st2 er2 r2 => ?_
  dsimp only at q2
  split at q2
  · rename_i n kk ek
    rw [ek] at r2
    split at q2
    · rename_i c en
      split at q2
      · rename_i c' ec
        exact sub_val st2 en ((show RepR (kf X) fz1 rho (.ref n) v1 from r1).mono s2) r2 (r.mono (s1.trans s2)) ec fun H' st' => k _ _ _ q2 (s1.trans s2) st' er2
      · exact (show False from q2).elim
    · exact (show False from q2).elim
  · exact (show False from q2).elim
def fSub (tk : Bool) (fo fi fe : FE) : FS := fun env h => fe env h >>= fun (z, h0) => (match nrm z with
  | .d v => fDoSub tk fo fi v env h0 >>= fun h1 => .ok (.nx, env, h1)
  | _ => .stuck)
theorem sub_r {fo fi fe : FE} {D : Ends} {σ : L2.St} {H : Hp} (q : RS X base (fSub false fo fi fe) D σ H) : tAsg (RE X fe) (gSub (RE X fo) (RE X fi) rSt) D σ H := by
  obtain ⟨env, h, fz, fr, rho, st, er, hb, q⟩ := q
  refine TEo.goN st er q.bind fun x h1 q1 fz1 v1 H1 s1 st1 er1 r1 => ?_
  dsimp only at q1
  split at q1
  · rename_i d ed
    rw [ed] at r1
    exact gsub_ok r1 st1 er1 (OkO.bind q1) fun h' fz' H' p s st' er' => PostS.nx p (s1.trans s) .refl st' er'
  · exact (show False from q1).elim

/-! ### several at once -/
def fWnil : FA := fun _ h => .ok ([], h)
def fWcons (m : Bool) (fa : FE) (fs : FA) : FA := fun env h => fa env h >>= fun (x, h1) => (match m, x with
  | true, .nw c => fs env (h1 ++ [c]) >>= fun (xs, h2) => .ok (.ref h1.length :: xs, h2)
  | false, x => fs env h1 >>= fun (xs, h2) => .ok (nrm x :: xs, h2)
  | _, _ => .stuck)
def Ext (rho rho' : List Addr) : Prop := ∃ t, rho' = rho ++ t
theorem Ext.refl {rho : List Addr} : Ext rho rho := ⟨[], by simp⟩
theorem Ext.trans {a b c : List Addr} (h : Ext a b) (k : Ext b c) : Ext a c := by
  obtain ⟨t, rfl⟩ := h
  obtain ⟨u, rfl⟩ := k
  exact ⟨t ++ u, by simp⟩
theorem Ext.get {a b : List Addr} (h : Ext a b) {n : Nat} {x : Addr} (e : a[n]? = some x) : b[n]? = some x := by
  obtain ⟨t, rfl⟩ := h
  rw [List.getElem?_append_left (List.getElem?_eq_some_iff.mp e).1]
  exact e
theorem Ext.agree {a b : List Addr} (h : Ext a b) {base : Nat} (hb : base ≤ a.length) : Agree base a b := by
  obtain ⟨t, rfl⟩ := h
  exact fun n hn => List.getElem?_append_left (by omega)
theorem RepR.ext {K : KF} {fz : Hp} {a b : List Addr} (h : Ext a b) {r : RV} {v : V} (q : RepR K fz a r v) : RepR K fz b r v := by
  cases r with
  | d x => exact q
  | ref n =>
    obtain ⟨x, e, e2⟩ := q
    exact ⟨x, h.get e, e2⟩
  | nw c => exact q
theorem EnvR.ext {K : KF} {fz : Hp} {a b : List Addr} (h : Ext a b) {env : Env} {σ : L2.St} (er : EnvR K fz a env σ) : EnvR K fz b env σ := ⟨er.1, fun i r e => by
  obtain ⟨v, h1, h2⟩ := er.2 i r e
  exact ⟨v, h1, h2.ext h⟩⟩
/-- the reading of the values at the right -/
def RW (X : Cx) (f : FA) : TA := fun σ H Q => ∃ env h fz fr rho, StH (kf X) fz fr rho h H ∧ EnvR (kf X) fz rho env σ ∧
  OkO (f env h) (fun p => ∀ fz' rho' vs H', Same fz fz' → Ext rho rho' → StH (kf X) fz' fr rho' p.2 H' → RepRs (kf X) fz' rho' p.1 vs → Q vs H') (fun _ _ => False)
theorem wnil_r {σ : L2.St} {H : Hp} {Q : List V → Hp → Prop} (q : RW X fWnil σ H Q) : tNil σ H Q := by
  obtain ⟨env, h, fz, fr, rho, st, er, q⟩ := q
  exact (show ∀ fz' rho' vs H', Same fz fz' → Ext rho rho' → StH (kf X) fz' fr rho' h H' → RepRs (kf X) fz' rho' [] vs → Q vs H' from q) fz rho [] H (Same.refl _) .refl st rfl
theorem wcons_r {m : Bool} {fa : FE} {fs : FA} {σ : L2.St} {H : Hp} {Q : List V → Hp → Prop} (q : RW X (fWcons m fa fs) σ H Q) : tCons (RE X fa) (RW X fs) σ H Q := by
  obtain ⟨env, h, fz, fr, rho, st, er, q⟩ := q
  refine stepE st er q.bind fun x h1 q1 fz1 v1 H1 s1 st1 er1 r1 => ?_
  dsimp only at q1
  split at q1
  · rename_i c
    obtain ⟨p, o, rfl, hp, hf, hc, hr⟩ := r1
    refine ⟨env, h1 ++ [c], fz1, fr, rho ++ [p], st1.push hp hf hc hr, er1.push p, OkO.mono (OkO.bind q1) (fun z a fz' rho' vs H' s g st' rr => ?_) fun _ _ z => z⟩
    obtain ⟨xs, h2⟩ := z
    have g0 : Ext rho (rho ++ [p]) := ⟨[p], rfl⟩
    refine (show ∀ fz' rho' vs H', Same fz fz' → Ext rho rho' → StH (kf X) fz' fr rho' h2 H' → RepRs (kf X) fz' rho' (.ref h1.length :: xs) vs → Q vs H' from a) fz' rho' (.ref p :: vs) H' (s1.trans s) (g0.trans g) st' ⟨_, _, rfl, ⟨p, g.get ?_, rfl⟩, rr⟩
    rw [← st1.len, List.getElem?_append_right (Nat.le_refl _)]
    simp
  · rename_i y
    obtain ⟨fz2, s2, st2, r2⟩ := nrm_ok st1 r1
    refine ⟨env, h1, fz2, fr, rho, st2, er1.mono s2, OkO.mono (OkO.bind q1) (fun z a fz' rho' vs H' s g st' rr => ?_) fun _ _ z => z⟩
    obtain ⟨xs, h2⟩ := z
    exact (show ∀ fz' rho' vs H', Same fz fz' → Ext rho rho' → StH (kf X) fz' fr rho' h2 H' → RepRs (kf X) fz' rho' (nrm x :: xs) vs → Q vs H' from a) fz' rho' (v1 :: vs) H' (s1.trans (s2.trans s)) g st' ⟨_, _, rfl, (r2.mono s).ext g, rr⟩
  · exact (show False from q1).elim
theorem pa_wn : PA X [] (RW X fWnil) := PA.mono pa_nil fun _ _ _ q => wnil_r q
theorem pa_wc {m : Bool} {e : Expr} {es : List Expr} {fa : FE} {fs : FA} (ha : PE X e (RE X fa)) (hr : PA X es (RW X fs)) (hs : starEach (e :: es) X.env = (false, eval e X.env) :: starEach es X.env) : PA X (e :: es) (RW X (fWcons m fa fs)) :=
  PA.mono (pa_cons ha hr hs) fun _ _ _ q => wcons_r q

/-- a target: a name's slot, a place -/
inductive LF where
  | nm (m : Bool) (i : Nat)
  | sb (fo fi : FE)
def gL (X : Cx) : LF → TG
  | .nm _ i => gName i
  | .sb fo fi => gSub (RE X fo) (RE X fi) rSt
def gLs (X : Cx) : List LF → TGs
  | [] => gNil
  | l :: ls => gCons (gL X l) (gLs X ls)
def fDoPar : List LF → List RV → Env → Heap → Out (Env × Heap)
  | [], [], env, h => .ok (env, h)
  | .nm true i :: ls, .ref n :: rs, env, h => fDoPar ls rs (env.set i (some (.ref n))) h
  | .nm false i :: ls, .d v :: rs, env, h => fDoPar ls rs (env.set i (some (.d v))) h
  | .sb o i :: ls, .d v :: rs, env, h => fDoSub false o i v env h >>= fun h1 => fDoPar ls rs env h1
  | _, _, _, _ => .stuck
theorem par_tgt {fr : Hp} {rho : List Addr} {P : Env × Heap → Prop} {Q : L2.St → Hp → Prop} : ∀ {ls : List LF} {rs : List RV} {env : Env} {h : Heap} {vs : List V} {fz0 fz : Hp} {σ : L2.St} {H : Hp}, OkO (fDoPar ls rs env h) P (fun _ _ => False) → RepRs (kf X) fz rho rs vs → Same fz0 fz → StH (kf X) fz fr rho h H → EnvR (kf X) fz rho env σ →
    (∀ env' h' fz' H' σ', P (env', h') → Same fz0 fz' → StH (kf X) fz' fr rho h' H' → EnvR (kf X) fz' rho env' σ' → Q σ' H') → gLs X ls vs σ H Q
  | [], rs, env, h, vs, fz0, fz, σ, H, q, r, s, st, er, k => by
    cases rs with
    | nil => exact ⟨r, k _ _ _ _ _ q s st er⟩
    | cons x rs => exact (show False from q).elim
  | l :: ls, rs, env, h, vs, fz0, fz, σ, H, q, r, s, st, er, k => by
    cases rs with
    | nil => cases l <;> (rename_i a b; first | (cases a <;> exact (show False from q).elim) | exact (show False from q).elim)
    | cons x rs =>
      obtain ⟨v, t, rfl, h1, h2⟩ := r
      refine ⟨v, t, rfl, ?_⟩
      cases l with
      | nm m i =>
        cases m with
        | true =>
          cases x with
          | ref n => exact par_tgt (show OkO (fDoPar ls rs (env.set i (some (.ref n))) h) P (fun _ _ => False) from q) h2 s st (er.set h1) k
          | d y => exact (show False from q).elim
          | nw c => exact (show False from q).elim
        | false =>
          cases x with
          | d y => exact par_tgt (show OkO (fDoPar ls rs (env.set i (some (.d y))) h) P (fun _ _ => False) from q) h2 s st (er.set (r := .d y) h1) k
          | ref n => exact (show False from q).elim
          | nw c => exact (show False from q).elim
      | sb fo fi =>
        cases x with
        | d y =>
          exact gsub_ok (Q := fun σ' H' => gLs X ls t σ' H' Q) (show Rep (kf X) fz y v from h1) st er (OkO.bind (o := fDoSub false fo fi y env h) q) fun h' fz' H' p s' st' er' => par_tgt p (h2.mono s') (s.trans s') st' er' k
        | ref n => exact (show False from q).elim
        | nw c => exact (show False from q).elim
theorem par_len : ∀ {ls : List LF} {rs : List RV} {env : Env} {h : Heap} {P : Env × Heap → Prop}, OkO (fDoPar ls rs env h) P (fun _ _ => False) → rs.length = ls.length
  | [], [], env, h, P, q => rfl
  | [], x :: rs, env, h, P, q => (show False from q).elim
  | l :: ls, [], env, h, P, q => by cases l <;> (rename_i a b; first | (cases a <;> exact (show False from q).elim) | exact (show False from q).elim)
  | .nm true i :: ls, .ref n :: rs, env, h, P, q => by simp [par_len (show OkO (fDoPar ls rs (env.set i (some (.ref n))) h) P (fun _ _ => False) from q)]
  | .nm false i :: ls, .d v :: rs, env, h, P, q => by simp [par_len (show OkO (fDoPar ls rs (env.set i (some (.d v))) h) P (fun _ _ => False) from q)]
  | .sb o i :: ls, .d v :: rs, env, h, P, q => by
    have q1 := OkO.bind (o := fDoSub false o i v env h) q
    cases e : fDoSub false o i v env h with
    | ok h1 => rw [e] at q1; simp [par_len (show OkO (fDoPar ls rs env h1) P (fun _ _ => False) from q1)]
    | exc _ _ => rw [e] at q1; exact q1.elim
    | stuck => rw [e] at q1; exact q1.elim
  | .nm true i :: ls, .d v :: rs, env, h, P, q => (show False from q).elim
  | .nm true i :: ls, .nw v :: rs, env, h, P, q => (show False from q).elim
  | .nm false i :: ls, .ref v :: rs, env, h, P, q => (show False from q).elim
  | .nm false i :: ls, .nw v :: rs, env, h, P, q => (show False from q).elim
  | .sb o i :: ls, .ref v :: rs, env, h, P, q => (show False from q).elim
  | .sb o i :: ls, .nw v :: rs, env, h, P, q => (show False from q).elim
def fPar (fs : FA) (ls : List LF) : FS := fun env h => fs env h >>= fun (xs, h1) => fDoPar ls xs env h1 >>= fun (e2, h2) => .ok (.nx, e2, h2)
/-- behind the values -/
theorem par_go {fs : FA} {ls : List LF} {D : Ends} {σ : L2.St} {H : Hp} (q : RS X base (fPar fs ls) D σ H) {R : List V → Hp → Prop} (k : ∀ vs H1, vs.length = ls.length → gLs X ls vs σ H1 D.nx → (∀ p, H1 p = none → gLs X ls vs σ (upd H1 p (.tup vs)) D.nx) → R vs H1) : RW X fs σ H R := by
  obtain ⟨env, h, fz, fr, rho, st, er, hb, q⟩ := q
  refine ⟨env, h, fz, fr, rho, st, er, OkO.mono q.bind (fun p a fz' rho' vs H' s g st' rr => ?_) fun _ _ z => z⟩
  obtain ⟨xs, h1⟩ := p
  have q1 := OkO.bind (o := fDoPar ls xs env h1) a
  have fin : ∀ H2, StH (kf X) fz' fr rho' h1 H2 → gLs X ls vs σ H2 D.nx := fun H2 st2 => par_tgt q1 rr s st2 ((er.mono s).ext g) fun env' h' fz2 H3 σ' p s2 st3 er3 => PostS.nx p s2 (g.agree (by rw [st.len]; exact hb)) st3 er3
  exact k vs H' (by rw [rr.length]; exact par_len q1) (fin H' st') fun p hp => fin _ (st'.new hp)
/-- .. by a tuple that is made and taken apart -/
theorem par_tup {fs : FA} {ls : List LF} (hl : ls.length ≤ 64) {D : Ends} {σ : L2.St} {H : Hp} (q : RS X base (fPar fs ls) D σ H) : tAsg (tTup (RW X fs)) (gTup X.K ls.length (gLs X ls)) D σ H :=
  par_go q fun vs H1 hv _ k => ⟨by rw [hv, sizeLine_eq]; omega, fun p hp => ⟨p, vs, rfl, .inl (.inl upd_same), hv, k p hp⟩⟩
theorem par_two {fs : FA} {m m' : Bool} {i j : Nat} {D : Ends} {σ : L2.St} {H : Hp} (q : RS X base (fPar fs [.nm m i, .nm m' j]) D σ H) : tPar i j (RW X fs) D σ H :=
  par_go q fun vs H1 hv k _ => by
    obtain ⟨v, r, rfl, w, r2, rfl, rfl, k⟩ := k
    exact ⟨v, w, rfl, k⟩
theorem par_three {fs : FA} {m m' m2 : Bool} {i j l : Nat} {D : Ends} {σ : L2.St} {H : Hp} (q : RS X base (fPar fs [.nm m i, .nm m' j, .nm m2 l]) D σ H) : tPar3 i j l (RW X fs) D σ H :=
  par_go q fun vs H1 hv k _ => by
    obtain ⟨v, r, rfl, w, r2, rfl, u, r3, rfl, rfl, k⟩ := k
    exact ⟨v, w, u, rfl, k⟩
end
end Mini
set_option Elab.async false
set_option linter.all false
set_option autoImplicit false
set_option maxRecDepth 100000
set_option maxHeartbeats 4000000
/- Mini: dicts whose keys are written tuples. Own work. -/
namespace Mini
open PySem PySem.Spec PyProof.Rows L2

/-- a dict of tuple keys, by what is stored -/
abbrev TKv : Type := List Key × Addr × V
def mergeT (kvs : List (List Key × V)) : List TKv → List (List Key × V)
  | [] => kvs
  | p :: r => mergeT (putK kvs p.1 p.2.2) r
section
variable {K : KF} {H : Hp}
theorem repT_len : ∀ {kvs : List (Ky × D)} {ws : List (List Key × V)}, RepT K H kvs ws → ws.length = kvs.length
  | [], ws, r => by rw [show ws = [] by simpa only [RepT] using r]; rfl
  | (k, x) :: kvs, ws, r => by
    simp only [RepT] at r
    obtain ⟨a, v, t, e, _, _, h⟩ := r
    subst e
    simp [repT_len h]
theorem repT_app : ∀ {kvs more : List (Ky × D)} {ws us : List (List Key × V)}, RepT K H kvs ws → RepT K H more us → RepT K H (kvs ++ more) (ws ++ us)
  | [], more, ws, us, r, q => by rw [show ws = [] by simpa only [RepT] using r]; exact q
  | (k, x) :: kvs, more, ws, us, r, q => by
    simp only [RepT] at r
    obtain ⟨a, v, t, e, h1, h2, h⟩ := r
    subst e
    show RepT K H ((k, x) :: (kvs ++ more)) ((a, v) :: (t ++ us))
    simp only [RepT]
    exact ⟨a, v, _, rfl, h1, h2, repT_app h q⟩
theorem repT_any {k : Ky} {a : List Key} (hk : kyT k a) : ∀ {kvs : List (Ky × D)} {ws : List (List Key × V)}, RepT K H kvs ws → (ws.any fun p => decide (p.1 = a)) = (kvs.any fun p => decide (p.1 = k))
  | [], ws, r => by rw [show ws = [] by simpa only [RepT] using r]; rfl
  | (j, x) :: kvs, ws, r => by
    simp only [RepT] at r
    obtain ⟨b, v, t, e, h1, h2, h⟩ := r
    subst e
    have e2 : decide (b = a) = decide (j = k) := by
      by_cases q : j = k
      · subst q
        have := kyT_fun hk h1
        simp [this]
      · have q2 : ¬ b = a := fun z => q (kyT_inj h1 (z ▸ hk))
        simp [q, q2]
    rw [List.any_cons, List.any_cons, repT_any hk h, e2]
theorem repT_map {k : Ky} {a : List Key} {x : D} {v : V} (hk : kyT k a) (hv : Rep K H x v) : ∀ {kvs : List (Ky × D)} {ws : List (List Key × V)}, RepT K H kvs ws →
    RepT K H (kvs.map fun p => if p.1 = k then (p.1, x) else p) (ws.map fun p => if p.1 = a then (p.1, v) else p)
  | [], ws, r => by rw [show ws = [] by simpa only [RepT] using r]; simp only [List.map_nil, RepT]
  | (j, y) :: kvs, ws, r => by
    simp only [RepT] at r
    obtain ⟨b, u, t, e, h1, h2, h⟩ := r
    subst e
    rw [List.map_cons, List.map_cons]
    by_cases q : j = k
    · subst q
      have e2 := kyT_fun hk h1
      rw [if_pos rfl, if_pos e2.symm]
      simp only [RepT]
      exact ⟨b, v, _, rfl, h1, hv, repT_map hk hv h⟩
    · have q2 : ¬ b = a := fun z => q (kyT_inj h1 (z ▸ hk))
      rw [if_neg q, if_neg q2]
      simp only [RepT]
      exact ⟨b, u, _, rfl, h1, h2, repT_map hk hv h⟩
theorem repT_put {kvs : List (Ky × D)} {ws : List (List Key × V)} {k : Ky} {a : List Key} {x : D} {v : V} (r : RepT K H kvs ws) (hk : kyT k a) (hv : Rep K H x v) : RepT K H (dput kvs k x) (putK ws a v) := by
  unfold dput putK
  rw [repT_any hk r]
  split
  · exact repT_map hk hv r
  · refine repT_app r ?_
    simp only [RepT]
    exact ⟨a, v, [], rfl, hk, hv, rfl⟩
theorem repT_nil : RepT K H [] [] := by simp only [RepT]
theorem repT_merge : ∀ {more : List (Ky × D)} {us : List TKv} {kvs : List (Ky × D)} {ws : List (List Key × V)}, RepT K H kvs ws → RepT K H more (us.map fun p => (p.1, p.2.2)) → RepT K H (dmerge kvs more) (mergeT ws us)
  | [], us, kvs, ws, r, q => by
    have : us.map (fun p => (p.1, p.2.2)) = [] := by simpa only [RepT] using q
    rw [List.map_eq_nil_iff.mp this]
    exact r
  | (k, x) :: more, us, kvs, ws, r, q => by
    simp only [RepT] at q
    obtain ⟨a, v, t, e, h1, h2, h⟩ := q
    cases us with
    | nil => cases e
    | cons p us =>
      rw [List.map_cons] at e
      obtain ⟨e1, e2⟩ := List.cons.inj e
      subst e2
      have e3 : p.1 = a := congrArg Prod.fst e1
      have e4 : p.2.2 = v := congrArg Prod.snd e1
      show RepT K H (dmerge (dput kvs k x) more) (mergeT (putK ws p.1 p.2.2) us)
      rw [e3, e4]
      exact repT_merge (repT_put r h1 h2) h
end

section
variable {X : Cx}
/-- what is stored, by the library's own words -/
theorem kt_all {P : Program} {w : World} {H : Hp} {h : PySem.Heap} : ∀ {us : List TKv} {vs : List (Value × Value)} {kvs : List (List Key × V)} {xs : List (List Key × Addr × Value)}, (∀ p ∈ us, H p.2.1 = some (.tup (p.1.map kV))) → HOk P w H h →
    Paired (fun (p : TKv) (q : Value × Value) => q.1 = .ref p.2.1 ∧ RelV p.2.2 q.2) us vs → KT H kvs xs → ∃ ps : List (List Key × Addr × Value), CarriesH (tupleKind (mixKind P w)) h vs ps ∧ KT H (mergeT kvs us) (storedAllH xs ps)
  | [], _, kvs, xs, _, _, .nil, r => ⟨[], trivial, r⟩
  | p :: us, _, kvs, xs, hk, ok, .cons (b := q) h1 t, r => by
    obtain ⟨ps, c, k⟩ := kt_all (fun p hp => hk p (List.mem_cons_of_mem _ hp)) ok t (r.put p.1 (hk p List.mem_cons_self) h1.2)
    exact ⟨(p.1, p.2.1, q.2) :: ps, ⟨h1.1, rfl, key_of ok (hk p List.mem_cons_self), c⟩, k⟩
theorem mergeT_len : ∀ (us : List TKv) (kvs : List (List Key × V)), (mergeT kvs us).length ≤ kvs.length + us.length
  | [], kvs => Nat.le_refl _
  | p :: us, kvs => by
    have h1 := mergeT_len us (putK kvs p.1 p.2.2)
    have h2 := length_putK kvs p.1 p.2.2
    show (mergeT (putK kvs p.1 p.2.2) us).length ≤ _
    rw [List.length_cons]
    omega
theorem tkv_paired : ∀ {us : List TKv} {ws : List (Value × Value)}, VV (us.map fun k => (V.ref k.2.1, k.2.2)) ws → Paired (fun (p : TKv) (q : Value × Value) => q.1 = .ref p.2.1 ∧ RelV p.2.2 q.2) us ws
  | [], ws, r => by cases r; exact .nil
  | u :: us, ws, r => by
    rw [List.map_cons] at r
    cases r with
    | cons a t => exact .cons ⟨a.1, a.2⟩ (tkv_paired t)
/-- {(..): v, ..} -/
theorem pe_dispT (hu : X.A.units + 1 < cLine) {pos : Pos} {keys : List (Option Expr)} {values : List Expr} {trs : List (TE × TE)} (h : PPs X pos keys values trs) (hall : keys.all (·.isSome) = true) (hl : keys.length = values.length) (h0 : keys ≠ []) (h15 : keys.length ≤ 15) :
    PE X (.Dict keys values pos) (fun σ H Q => ∀ p, H p = none → tPairs trs σ (upd H p (.dT [])) fun ps H2 => H2 p = some (.dT []) ∧ ∃ us : List TKv, ps = us.map (fun k => (V.ref k.2.1, k.2.2)) ∧ (∀ k ∈ us, H2 k.2.1 = some (.tup (k.1.map kV))) ∧ us.length ≤ 15 ∧ Q (.ref p) (upd H2 p (.dT (mergeT [] us)))) := by
  refine ⟨fun pins s σ H Q I q => ?_⟩
  have hn := I.hok.fresh (Nat.le_refl s.heap.objs.size)
  have I1 := I.laid (a := s.heap.objs.size) (o := .dT []) (h' := s.heap.push { cls := .type "dict", data := .dict #[] }) (t' := s.toks) (fun _ _ q => Heap.get?_push_of_some _ q) (Nat.le_refl _) (dt_empty s.heap I.big)
  have hpl := pairTrees_length keys values X.env pos hall hl
  rw [arm_eval_Dict, zip_pairTrees keys values X.env pos hall hl, dictDisplay_pairs _ (by intro z; rw [z] at hpl; exact h0 (List.length_eq_zero_iff.mp hpl.symm)) (by rw [hpl]; omega)]
  refine wpAny_bind (wpAny_standAt (wpAny_bind (wpAny_subDictH (knd := tupleKind (mixKind X.prog X.w)) (show X.A.units < cLine by omega) (by rw [hpl]; exact h15) (thn (h.run pins _ σ _ _ I1 (q _ hn)) fun ws s2 ⟨ps, H2, I2, rel, e, us, ep, hk, lk, q2⟩ => ?_))))
  subst ep
  have hr := tkv_paired rel
  obtain ⟨z, hd, xs0, r0, dd⟩ := dt_of I2.hok e
  cases r0
  obtain ⟨rs, c, rk⟩ := kt_all hk I2.hok hr (kvs := []) (xs := []) .nil
  refine ⟨rs, c, dd, fun h' tk dd' hs => wpAny_pure ⟨.ref s.heap.objs.size, _, ?_, rfl, q2⟩⟩
  have hz : (mergeT [] us).length ≤ sizeLine := by
    have h1 := mergeT_len us []
    rw [List.length_nil] at h1
    rw [sizeLine_eq]; omega
  obtain ⟨qo, es, ep, hq, h2, h3, h4, _, h5⟩ := dd'
  refine d_write I2 (by rw [e]; exact True.intro) hs ⟨qo, hq⟩ ⟨hz, hd, _, rk.keeps fun c ys ec => ?_, qo, es, ep, hq, h2, h3, h4, h5⟩
  rw [upd_ne (ne_of ec e (fun z => nomatch z))]
  exact ec
/-- written keys and values, one after the other -/
def KvT (K : KF) (fz : Hp) (rho : List Addr) : List RV → List (V × V) → Prop
  | [], ps => ps = []
  | .d (.tup ds) :: r :: xs, ps => ∃ b vs v t, ps = (V.ref b, v) :: t ∧ fz b = some (.tup vs) ∧ ds.length ≤ LINE ∧ RepL K fz ds vs ∧ RepR K fz rho r v ∧ KvT K fz rho xs t
  | _, _ => False
inductive PrsT (X : Cx) : FA → List (TE × TE) → Prop where
  | nil : PrsT X fNil []
  | cons {fk : FA} {fv : FE} {fs : FA} {trs : List (TE × TE)} (r : PrsT X fs trs) : PrsT X (fCons (fTup fk) (fCons fv fs)) ((tTup (RA X fk), RE X fv) :: trs)
theorem prsT_r {fs : FA} {trs : List (TE × TE)} (p : PrsT X fs trs) : ∀ {σ : L2.St} {H : Hp} {R : List (V × V) → Hp → Prop}, (∃ env h fz fr rho, StH (kf X) fz fr rho h H ∧ EnvR (kf X) fz rho env σ ∧
    OkO (fs env h) (fun p => ∀ fz' ps H', Same fz fz' → StH (kf X) fz' fr rho p.2 H' → KvT (kf X) fz' rho p.1 ps → R ps H') (fun _ _ => False)) → tPairs trs σ H R := by
  induction p with
  | nil =>
    intro σ H R ⟨env, h, fz, fr, rho, st, er, q⟩
    exact (show ∀ fz' ps H', Same fz fz' → StH (kf X) fz' fr rho h H' → KvT (kf X) fz' rho [] ps → R ps H' from q) fz [] H (Same.refl _) st rfl
  | @cons fk fv fs trs r ih =>
    intro σ H R ⟨env, h, fz, fr, rho, st, er, q⟩
    have q0 := q.bind
    have q0' : OkO (fk env h) _ (fun _ _ => False) := OkO.mono (OkO.bind (o := fk env h) q0) (fun p a => a) fun _ _ z => z
    refine TAo.go st er q0' fun xs h1 q1 fz1 vs H1 s1 st1 er1 r1 => ?_
    dsimp only at q1
    cases ex : datasOf xs with
    | none => rw [ex] at q1; exact (show False from q1).elim
    | some ds =>
      rw [ex] at q1
      dsimp only at q1
      split at q1
      · rename_i hl
        have rl := datas_rep r1 ex
        refine ⟨by rw [rl.length, ← line_eq]; exact hl, fun b hb => ?_⟩
        have st2 := st1.new (o := .tup vs) hb
        obtain ⟨s2, st3⟩ := st2.freeze (p := b) (o := .tup vs) upd_same (st1.both hb) (st1.rho_ne hb)
        have q2 : OkO ((fCons fv fs env h1) >>= fun (ys, h2) => Out.ok (nrm (.d (.tup ds)) :: ys, h2)) (fun p => ∀ fz' ps H', Same fz fz' → StH (kf X) fz' fr rho p.2 H' → KvT (kf X) fz' rho p.1 ps → R ps H') (fun _ _ => False) := q1
        have q3 := (OkO.bind q2)
        refine TEo.goN st3 (er1.mono s2) (OkO.mono (OkO.bind (o := fv env h1) q3) (fun p a => a) fun _ _ z => z) fun y h2 q4 fz2 v2 H2 s3 st4 er2 r2 => ?_
        refine ih ⟨env, h2, fz2, fr, rho, st4, er2, ?_⟩
        refine OkO.mono (OkO.bind (o := fs env h2) q4) (fun p a fz3 ps H3 s4 st5 r3 => ?_) fun _ _ z => z
        obtain ⟨zs, h3⟩ := p
        have a2 : ∀ fz' ps H', Same fz fz' → StH (kf X) fz' fr rho h3 H' → KvT (kf X) fz' rho (.d (.tup ds) :: nrm y :: zs) ps → R ps H' := a
        refine a2 fz3 ((.ref b, v2) :: ps) H3 (s1.trans (s2.trans (s3.trans s4))) st5 ⟨b, vs, v2, ps, rfl, s4 _ _ (s3 _ _ upd_same), hl, rl.mono (s2.trans (s3.trans s4)), r2.mono s4, r3⟩
      · exact (show False from q1).elim
theorem kvT_rep {K : KF} {fz : Hp} {rho : List Addr} : ∀ {ds : List D} {kvs : List (Ky × D)} {xs : List RV} {ps : List (V × V)}, datasOf xs = some ds → dictOf true ds = some kvs → KvT K fz rho xs ps →
    ∃ us : List TKv, ps = us.map (fun k => (V.ref k.2.1, k.2.2)) ∧ (∀ k ∈ us, fz k.2.1 = some (.tup (k.1.map kV))) ∧ RepT K fz kvs (us.map fun p => (p.1, p.2.2)) ∧ us.length = kvs.length
  | ds, kvs, [], ps, e1, e2, r => by
    simp only [datasOf] at e1
    cases e1
    simp only [dictOf] at e2
    cases e2
    have r : ps = [] := r
    subst r
    exact ⟨[], rfl, fun _ z => absurd z (by simp), by simp only [List.map_nil]; exact repT_nil, rfl⟩
  | ds, kvs, [x], ps, e1, e2, r => by
    cases x <;> first | exact r.elim | skip
    rename_i d
    cases d <;> exact r.elim
  | ds, kvs, x :: y :: xs, ps, e1, e2, r => by
    cases x <;> try exact r.elim
    rename_i d
    cases d <;> try exact r.elim
    rename_i ks
    obtain ⟨b, vs, v, t, rfl, h1, h2, h3, h4, h5⟩ := r
    simp only [datasOf] at e1
    have e0 : dataOf (.d (.tup ks)) = some (.tup ks) := rfl
    rw [e0] at e1
    cases ey : dataOf y with
    | none => rw [ey] at e1; cases e1
    | some yd =>
      cases ez : datasOf xs with
      | none => rw [ey, ez] at e1; cases e1
      | some zs =>
        rw [ey, ez] at e1
        cases e1
        simp only [dictOf] at e2
        cases ek : keyFor true (.tup ks) with
        | none => rw [ek] at e2; cases e2
        | some ky =>
          cases ed : dictOf true zs with
          | none => rw [ek, ed] at e2; cases e2
          | some more =>
            rw [ek, ed] at e2
            cases e2
            obtain ⟨us, k1, k2, k3, k4⟩ := kvT_rep ez ed h5
            have hy : Rep K fz yd v := by
              cases y <;> simp only [dataOf] at ey <;> try (cases ey; done)
              cases ey
              exact h4
            unfold keyFor at ek
            obtain ⟨k', e3, e4⟩ := Option.bind_eq_some_iff.mp ek
            simp only [keyOf] at e3
            obtain ⟨fks, e5, e6⟩ := Option.map_eq_some_iff.mp e3
            subst e6
            split at e4
            · cases e4
              obtain ⟨as, g1, g2, g3⟩ := fkRs_flat h3 e5
              subst g2
              refine ⟨(as, b, v) :: us, by rw [List.map_cons, ← k1], fun k hk => ?_, ?_, by simp [k4]⟩
              · rcases List.mem_cons.mp hk with rfl | hk
                · exact h1
                · exact k2 k hk
              · rw [List.map_cons]
                simp only [RepT]
                exact ⟨as, v, _, rfl, ⟨g1, by omega⟩, hy, k3⟩
            · cases e4
theorem pe_dcT (hu : X.A.units + 1 < cLine) {fs : FA} {trs : List (TE × TE)} {keys : List (Option Expr)} {values : List Expr} {pos : Pos} (p : PrsT X fs trs) (h : PPs X pos keys values trs) (hall : keys.all (·.isSome) = true) (hl : keys.length = values.length) (h0 : keys ≠ []) (h15 : keys.length ≤ 15) :
    PE X (.Dict keys values pos) (RE X (fDic true fs)) :=
  PE.mono (pe_dispT hu h hall hl h0 h15) fun σ H Q ⟨env, h, fz, fr, rho, st, er, q⟩ => by
    intro a ha
    refine prsT_r p ⟨env, h, fz, upd fr a (.dT []), rho, st.frame ha, er, ?_⟩
    refine OkO.mono q.bind (fun p a1 fz1 ps H1 s1 st1 r1 => ?_) fun _ _ z => z
    obtain ⟨xs, h1⟩ := p
    dsimp only at a1
    cases ex : datasOf xs with
    | none => rw [ex] at a1; exact (show False from a1).elim
    | some ds =>
      rw [ex] at a1
      dsimp only at a1
      cases ey : dictOf true ds with
      | none => rw [ey] at a1; exact (show False from a1).elim
      | some kvs =>
        rw [ey] at a1
        dsimp only at a1
        split at a1
        · rename_i h15
          obtain ⟨g1, g2, g3, g4⟩ := st1.unframe (st.fr_none ha)
          obtain ⟨us, k1, k2, k3, k4⟩ := kvT_rep ex ey r1
          refine ⟨g1, us, k1, fun k hk => st1.sub _ _ (k2 k hk), by rw [k4]; exact h15, ?_⟩
          refine use_ok a1 s1 (g4 _) ⟨a, _, rfl, upd_same, ⟨g2, st.fr_none ha⟩, ⟨_, rfl, ?_, repT_merge repT_nil k3⟩, g3⟩
          refine Nat.le_trans (dmerge_len kvs []) ?_
          simp only [List.length_nil, LINE]
          omega
        · exact (show False from a1).elim

/-- o[.., ..] = v -/
theorem subT_r {base : Nat} {fo fe : FE} {fs : FA} {D : Ends} {σ : L2.St} {H : Hp} (q : RS X base (fSub true fo (fTup fs) fe) D σ H) : tAsg (RE X fe) (gSub (RE X fo) (tTup (RA X fs)) rSetD) D σ H := by
  obtain ⟨env, h, fz, fr, rho, st, er, hb, q⟩ := q
  refine TEo.goN st er q.bind fun x h1 q1 fz1 v1 H1 s1 st1 er1 r1 => ?_
  dsimp only at q1
  split at q1
  · rename_i d ed
    rw [ed] at r1
    have q2 := OkO.bind (o := fDoSub true fo (fTup fs) d env h1) q1
    refine stepE st1 er1 (OkO.bind (o := fo env h1) q2) fun x h2 q3 fz2 v2 H2 s2 st2 er2 r2 => ?_
    have q4 := OkO.bind (o := fTup fs env h2) q3
    refine TAo.go st2 er2 (OkO.mono (OkO.bind (o := fs env h2) q4) (fun p a => a) fun _ _ z => z) fun xs h3 q5 fz3 vs H3 s3 st3 er3 r3 => ?_
    dsimp only at q5
    cases ex : datasOf xs with
    | none => rw [ex] at q5; exact (show False from q5).elim
    | some ds =>
      rw [ex] at q5
      dsimp only at q5
      split at q5
      · rename_i hl
        have rl := datas_rep r3 ex
        refine ⟨by rw [rl.length, ← line_eq]; exact hl, fun b hb' => ?_⟩
        have st4 := st3.new (o := .tup vs) hb'
        have q6 : OkO (match x, nrm (.d (.tup ds)) with
          | .ref n, .d k => (match h3[n]? with
            | some c => (match subV true c k d with
              | some c' => Out.ok (h3.set n c')
              | none => Out.stuck)
            | none => Out.stuck)
          | _, _ => (Out.stuck : Out Heap)) (fun p => PostS (kf X) base fz fr rho D (.nx, env, p)) (fun _ _ => False) := q5
        cases x with
        | d _ => exact (show False from q6).elim
        | nw _ => exact (show False from q6).elim
        | ref n =>
          dsimp only [nrm] at q6
          cases en : h3[n]? with
          | none => rw [en] at q6; exact (show False from q6).elim
          | some c =>
            rw [en] at q6
            dsimp only at q6
            cases es : subV true c (.tup ds) d with
            | none => rw [es] at q6; exact (show False from q6).elim
            | some c' =>
              rw [es] at q6
              have ng : c ≠ .gone := by rintro rfl; simp [subV] at es
              cases c with
              | gone => exact absurd rfl ng
              | lst zs => simp [subV] at es
              | dct t kvs =>
                simp only [subV] at es
                split at es
                · rename_i et
                  subst et
                  obtain ⟨ky, e1, e2⟩ := Option.bind_eq_some_iff.mp es
                  split at e2
                  · rename_i hz
                    cases e2
                    obtain ⟨a, o, rfl, ha, hH, ⟨ws, rfl, hz2, hr⟩⟩ := st4.at en ng ((show RepR (kf X) fz2 rho (.ref n) v2 from r2).mono s3)
                    unfold keyFor at e1
                    obtain ⟨k', e3, e4⟩ := Option.bind_eq_some_iff.mp e1
                    simp only [keyOf] at e3
                    obtain ⟨fks, e5, e6⟩ := Option.map_eq_some_iff.mp e3
                    subst e6
                    split at e4
                    · cases e4
                      obtain ⟨as, g1, g2, g3⟩ := fkRs_flat rl e5
                      subst g2
                      refine ⟨a, _, rfl, DPut.t hH upd_same (by rw [repT_len hr, ← line_eq]; exact hz), ?_⟩
                      exact PostS.nx q6 (s1.trans (s2.trans s3)) .refl (st4.write en ng ha ⟨_, rfl, Nat.le_trans (dput_len kvs (.t fks) d) hz, repT_put hr ⟨g1, by omega⟩ (Rep.mono (s2.trans s3) r1)⟩) er3
                    · cases e4
                  · cases e2
                · cases es
      · exact (show False from q5).elim
  · exact (show False from q1).elim
end
end Mini
set_option Elab.async false
set_option linter.all false
set_option autoImplicit false
set_option maxRecDepth 100000
set_option maxHeartbeats 4000000
/- Mini: sets of texts. Own work, after the layer's sets of ints. -/
namespace Mini
open PySem PySem.Spec PyProof.Rows L2

def memT (e : Int × Value) : PySem.Str := match e.2 with
  | .str x _ => x
  | _ => Str.empty
def GoodT (w : World) (e : Int × Value) : Prop := ∃ x tk, e.2 = Value.str x tk ∧ e.1 = hashStr w x
/-- the set of texts at a, its members those of l -/
structure SetTx (w : World) (h : PySem.Heap) (a : Addr) (l : List PySem.Str) (n : Nat) : Prop where
  ex : ∃ o es ep t, h.get? a = some o ∧ o.ExactSet ∧ o.data = .set es ep t ∧ (∀ e ∈ es.toList, GoodT w e) ∧ (es.toList.map memT).Nodup ∧ (∀ k, k ∈ l ↔ k ∈ es.toList.map memT) ∧
    es.size < scanBound ∧ t.fits es.size = true ∧ es.size = n ∧ Ris t.place.toList ∧ (w.params.followText "set-order" = true ∨ t.led = true)
section
variable {P : Program} {w : World} {h h' : PySem.Heap} {a : Addr} {l l' : List PySem.Str} {n : Nat}
theorem SetTx.at (R : SetTx w h a l n) (k : ∀ o, h.get? a = some o → h'.get? a = some o) : SetTx w h' a l n := by
  obtain ⟨o, es, ep, t, ho, r⟩ := R.ex
  exact ⟨o, es, ep, t, k o ho, r⟩
theorem SetTx.congr (R : SetTx w h a l n) (e : ∀ k, k ∈ l' ↔ k ∈ l) : SetTx w h a l' n := by
  obtain ⟨o, es, ep, t, ho, hx, hd, g, nd, hm, r⟩ := R.ex
  exact ⟨o, es, ep, t, ho, hx, hd, g, nd, fun k => (e k).trans (hm k), r⟩
theorem goodT_is {e : Int × Value} (g : GoodT w e) (k : PySem.Str) : (PySem.strKind P w).is k e.2 = true ↔ memT e = k := by
  obtain ⟨x, tk, h1, _⟩ := g
  unfold memT
  rw [h1]
  show ((x == k) = true) ↔ x = k
  exact beq_iff_eq
theorem goodT_elems {es : List (Int × Value)} (g : ∀ e ∈ es, GoodT w e) : ElemsOf (PySem.strKind P w) es := fun e he => by
  obtain ⟨x, tk, h1, h2⟩ := g e he
  exact ⟨⟨x, by rw [h1]; exact strKind_is P w x tk, h2⟩, by rw [h1] <;> rfl⟩
end

section
variable {P : Program} {w : World} {A : Around} {E : Value → Shared → Prop} {s : Shared} {a : Addr} {l : List PySem.Str} {n : Nat}
/-- behind the table: stored, and laid anew where it is too full -/
theorem tx_tail {g : Bool → Sem Unit} (hg : ∀ (b : Bool) (s₁ : Shared) (Q' : Unit → Shared → Prop), Q' () s₁ → wpAny (model P w) A (g b) Q' E s₁)
    {o : Obj} {es : Array (Int × Value)} {ep : Nat} {t : SetTable} (ho : s.heap.get? a = some o) (hex : o.ExactSet) (hd : o.data = .set es ep t)
    {es1 : Array (Int × Value)} {t2 : SetTable} {l' : List PySem.Str} (g1 : ∀ e ∈ es1.toList, GoodT w e) (nd1 : (es1.toList.map memT).Nodup) (m1 : ∀ k, k ∈ l' ↔ k ∈ es1.toList.map memT)
    (hb1 : es1.size < scanBound) (hf2 : t2.fits es1.size = true) (hr : Ris t2.place.toList) (hl : w.params.followText "set-order" = true ∨ t2.led = true) {wasDummy : Bool} {R : Option Bool → Shared → Prop}
    (hR : ∀ h', Heap.SameBut a s.heap h' → SetTx w h' a l' es1.size → R (some true) { s with heap := h' }) :
    wpAny (model P w) A (do
        storeSet a es1 t2
        if (!wasDummy && t2.tooFull) = true then do
            g (relayAll t2 es1 (SetTable.grown es1.size)).2.2
            storeSet a (relayAll t2 es1 (SetTable.grown es1.size)).1 (relayAll t2 es1 (SetTable.grown es1.size)).2.1
            pure (some true)
          else pure (some true)) R E s := by
  refine wpAny_bind (wpAny_storeSet_of ho hd ?_ (fits_of_scanBound hb1))
  have ho1 := store_at (es' := es1) (t' := t2) ho hd
  have sb1 := Heap.SameBut.update s.heap a (Obj.putSet es1 t2)
  split
  · obtain ⟨pm, hf3, hr3, hl3⟩ : (relayAll t2 es1 (SetTable.grown es1.size)).1.toList.Perm es1.toList ∧ (relayAll t2 es1 (SetTable.grown es1.size)).2.1.fits (relayAll t2 es1 (SetTable.grown es1.size)).1.size = true ∧ Ris (relayAll t2 es1 (SetTable.grown es1.size)).2.1.place.toList ∧ (relayAll t2 es1 (SetTable.grown es1.size)).2.1.led = t2.led :=
      ⟨relayAll_perm .., relayAll_fits .., relayAll_ris .., relayAll_led ..⟩
    generalize relayAll t2 es1 (SetTable.grown es1.size) = Z at pm hf3 hr3 hl3 ⊢
    obtain ⟨es2, t3, gave⟩ := Z
    have hsz : es2.size = es1.size := by rw [← Array.length_toList, pm.length_eq, Array.length_toList]
    have hb2 : es2.size < scanBound := by rw [hsz]; exact hb1
    refine wpAny_bind (hg _ _ _ (wpAny_bind (wpAny_storeSet_of ho1 rfl ?_ (fits_of_scanBound hb2))))
    refine wpAny_pure (hR _ (sb1.trans (Heap.SameBut.update _ a _)) ⟨_, es2, _, t3, store_at (es' := es2) (t' := t3) ho1 rfl, hex, rfl, fun e he => g1 e (pm.mem_iff.mp he), (pm.map memT).nodup_iff.mpr nd1, fun k => (m1 k).trans (pm.map memT).mem_iff.symm, hb2, hf3, hsz, hr3, ?_⟩)
    exact hl.imp id fun z => hl3.trans z
  · exact wpAny_pure (hR _ sb1 ⟨_, es1, _, t2, ho1, hex, rfl, g1, nd1, m1, hb1, hf2, rfl, hr, hl⟩)
/-- a text is put in -/
theorem tx_add {x : PySem.Str} {tk : Tok} {Q : Bool → Shared → Prop} (R : SetTx w s.heap a l n) (room : n + 1 < scanBound)
    (hQ : ∀ h' (b : Bool) c, Heap.SameBut a s.heap h' → SetTx w h' a (l ++ [x]) c → c ≤ n + 1 → Q b { s with heap := h' }) : wpAny (model P w) A (setAddHashed a (.str x tk) ((PySem.strKind P w).hash x)) Q E s := by
  obtain ⟨o, es, ep, t, ho, hex, hd, g, nd, hm, hb, hf, hn, hr, hl⟩ := R.ex
  have hkey : (PySem.strKind P w).is x (.str x tk) = true := strKind_is P w x tk
  have hsc : (Value.str x tk).scannable = true := rfl
  have hel : ElemsOf (PySem.strKind P w) es.toList := goodT_elems g
  unfold setAddHashed setAddHashedIn
  refine wpAny_holding (wpAny_bind (wpAny_setState_of ho hd hf ?_))
  dsimp only
  rw [byScan_of hsc hb hel]
  simp only [↓reduceIte]
  unfold setAddByScan
  refine wpAny_bind (wpAny_bind (wpAny_rule (wpAny_bind (wpAny_setScan_of hkey ho hd hf hel ?_))))
  cases hfi : List.findIdx? (fun e => (PySem.strKind P w).is x e.2) es.toList with
  | some j =>
    dsimp only
    obtain ⟨hj, pj, _⟩ := List.findIdx?_eq_some_iff_getElem.mp hfi
    have hx : x ∈ es.toList.map memT := List.mem_map.mpr ⟨es.toList[j], List.getElem_mem hj, (goodT_is (P := P) (g _ (List.getElem_mem hj)) x).1 pj⟩
    refine wpAny_pure (wpAny_pure (hQ s.heap _ n (Heap.SameBut.refl a s.heap) ⟨o, es, ep, t, ho, hex, hd, g, nd, fun k => ?_, hb, hf, hn, hr, hl⟩ (Nat.le_succ n)))
    rw [List.mem_append, List.mem_singleton, hm k]
    exact ⟨fun z => z.elim id fun e => e ▸ hx, .inl⟩
  | none =>
    dsimp only
    have hnx : x ∉ es.toList.map memT := fun z => by
      obtain ⟨e, he, q⟩ := List.mem_map.mp z
      have c := List.findIdx?_eq_none_iff.mp hfi e he
      rw [(goodT_is (P := P) (g e he) x).2 q] at c
      cases c
    have hgw : ∀ (b : Bool) {s₁ : Shared} {Q' : Unit → Shared → Prop}, Q' () s₁ → wpAny (model P w) A (match b with | true => rule "set.scan.the-table-gave-way" | false => pure ()) Q' E s₁ :=
      fun b s₁ Q' q => by cases b <;> first | exact wpAny_pure q | exact wpAny_rule q
    have pm := layNew_perm t es ((PySem.strKind P w).hash x) (.str x tk)
    have hf1 := layNew_fits t es ((PySem.strKind P w).hash x) (.str x tk)
    have hr1 := layNew_ris t es ((PySem.strKind P w).hash x) (.str x tk) hr
    have hl1 := layNew_led t es ((PySem.strKind P w).hash x) (.str x tk)
    generalize layNew t es ((PySem.strKind P w).hash x) (.str x tk) = Z at pm hf1 hr1 hl1 ⊢
    obtain ⟨es1, t1, wasDummy, gave⟩ := Z
    dsimp only at pm hf1 hr1 hl1 ⊢
    rw [Array.toList_push] at pm
    have pc : es1.toList.Perm (((PySem.strKind P w).hash x, Value.str x tk) :: es.toList) := pm.trans (List.perm_append_singleton _ _)
    have pk : (es1.toList.map memT).Perm (x :: es.toList.map memT) := pc.map memT
    have g1 : ∀ e ∈ es1.toList, GoodT w e := fun e he => by
      rcases List.mem_cons.mp (pc.mem_iff.mp he) with z | z
      · rw [z]; exact ⟨x, tk, rfl, rfl⟩
      · exact g e z
    have nd1 : (es1.toList.map memT).Nodup := pk.nodup_iff.mpr (List.nodup_cons.mpr ⟨hnx, nd⟩)
    have m1 : ∀ k, k ∈ l ++ [x] ↔ k ∈ es1.toList.map memT := fun k => by
      rw [List.mem_append, List.mem_singleton, hm k, pk.mem_iff, List.mem_cons]
      exact Or.comm
    have hsz : es1.size = n + 1 := by rw [← Array.length_toList, pc.length_eq, List.length_cons, Array.length_toList, hn]
    have hb1 : es1.size < scanBound := by rw [hsz]; exact room
    have hled : w.params.followText "set-order" = true ∨ t1.led = true := hl.imp id fun z => hl1.trans z
    have fin : ∀ h', Heap.SameBut a s.heap h' → SetTx w h' a (l ++ [x]) es1.size → Q true { s with heap := h' } := fun h' sb r => hQ h' true _ sb r (by omega)
    refine wpAny_bind (hgw _ ?_)
    split
    · refine wpAny_bind ?_
      rw [hashByValue_scannable 8 hsc]
      refine wpAny_pure (tx_tail ?_ ho hex hd g1 nd1 m1 hb1 ?_ ?_ ?_ ?_)
      · intro b s₁ Q' q; cases b <;> first | exact wpAny_pure q | exact wpAny_rule q
      · first | (split <;> first | exact hf1 | exact SetTable.fits_plain_off hf1) | exact hf1
      · first | (split <;> exact hr1) | exact hr1
      · first | (split <;> exact hled) | exact hled
      · intro h' sb r; dsimp only; exact wpAny_pure (fin h' sb r)
    · refine wpAny_bind (wpAny_pure ?_)
      simp only [↓reduceIte]
      refine tx_tail ?_ ho hex hd g1 nd1 m1 hb1 hf1 hr1 hled ?_
      · intro b s₁ Q' q; cases b <;> first | exact wpAny_pure q | exact wpAny_rule q
      · intro h' sb r; dsimp only; exact wpAny_pure (fin h' sb r)
/-- text by text -/
theorem tx_loop {I : Addr} {fp wr : List Addr} {G : Array GenState → Array GenState → Prop} {n : Nat} {Pv : Nat → Value → Prop} {St : Nat → Shared → Prop} {R : Result → Shared → Prop}
    (W : WalksS P w A.in1 I fp wr G n Pv St) (S : Addr) (hSf : S ∉ fp) (ns : List PySem.Str) (hn : n = ns.length) (hb : ns.length + 1 < scanBound) (hval : ∀ i v, Pv i v → ∃ k t, ns[i]? = some k ∧ v = .str k t) :
    ∀ (k i : Nat) (s : Shared), n - i = k → i ≤ n → St i s → (∃ c, c ≤ i ∧ SetTx w s.heap S (ns.take i) c) →
      (∀ s' c, Moved (S :: wr) G s s' → c ≤ n → SetTx w s'.heap S ns c → R (.ok (.ret .none)) s') →
      codeAny (model P w) A (.builtin "set.update.loop" ⟨[.ref S, .ref I], []⟩) R s := by
  have hSw : S ∉ wr := fun h => hSf (W.sub _ h)
  have hsub : ∀ b ∈ wr, b ∈ S :: wr := fun b hb => List.mem_cons_of_mem _ hb
  intro k
  induction k with
  | zero =>
    intro i s hk' hi hst ⟨c, hc, hS⟩ hR
    have hin : i = n := by omega
    subst hin
    refine codeAny_builtin F.entry_set_update_loop ?_
    rw [Around.under_plainId F.plain_set_update_loop _]
    show wpAny _ A.in1 (pyNext (.ref I) >>= _) _ _ s
    refine wpAny_bind (W.done s _ _ hst fun s' hm => ?_)
    show wpAny _ A.in1 (ret Value.none) _ _ s'
    rw [List.take_of_length_le (by omega)] at hS
    exact wpAny_pure (hR s' c (hm.mono hsub) hc (hS.at fun o e => hm.heap S o hSw e))
  | succ k ih =>
    intro i s hk' hi hst ⟨c, hc, hS⟩ hR
    have hlt : i < n := by omega
    refine codeAny_builtin F.entry_set_update_loop ?_
    rw [Around.under_plainId F.plain_set_update_loop _]
    show wpAny _ A.in1 (pyNext (.ref I) >>= _) _ _ s
    refine wpAny_bind (W.item i s _ _ hlt hst fun v s' hP hst' hm => ?_)
    obtain ⟨z, t, hz, rfl⟩ := hval i v hP
    have hS' : SetTx w s'.heap S (ns.take i) c := hS.at fun o e => hm.heap S o hSw e
    show wpAny _ A.in1 (holding [Value.str z t] (setAdd S (.str z t)) >>= _) _ _ s'
    refine wpAny_bind (wpAny_holding ?_)
    unfold setAdd
    refine wpAny_holding (wpAny_bind ((PySem.strKind P w).pyHash (k := z) (strKind_is _ _ _ _) ?_))
    refine tx_add (s := { s' with toks := s'.toks + 1 }) hS' (by omega) fun h' b c2 hsb hS2 hc2 => ?_
    have hS3 : SetTx w h' S (ns.take (i + 1)) c2 := by
      rw [List.take_add_one, hz]
      exact hS2
    refine wpAny_pure ⟨plainId_quiet F.plain_set_update_loop _, ih (i + 1) _ (by omega) hlt (W.frame _ s' _ _ hst' (Nat.le_succ _) fun b hb o e => ?_) ⟨c2, by omega, hS3⟩ fun s'' c3 hm'' hc'' hS'' => ?_⟩
    · rw [hsb.2 b (fun h : b = S => hSf (by rw [← h]; exact hb))]; exact e
    · refine hR s'' c3 (Moved.trans W.gtrans ((hm.mono hsub).then_heap (Nat.le_succ _) fun b o hb e => ?_) hm'') hc'' hS''
      rw [hsb.2 b (fun h : b = S => hb (by rw [h]; exact List.mem_cons_self))]; exact e
theorem tx_fresh {h : PySem.Heap} {a : Addr} (w : World) (hget : h.get? a = some { cls := .type "set", dict := none, data := .set #[] 0 (.fresh 0 0 (!w.params.followText "set-order")) }) : SetTx w h a [] 0 :=
  ⟨_, #[], 0, _, hget, ⟨rfl, rfl, rfl⟩, rfl, (fun e he => by simp at he), (by simp), (fun k => by simp), (by decide), (by rfl), rfl, List.Pairwise.nil, by
    show _ ∨ (!w.params.followText "set-order") = true
    cases w.params.followText "set-order"
    · exact .inr rfl
    · exact .inl rfl⟩
/-- set(xs), a list of texts -/
theorem call_setT {l : Addr} {items : Array Value} (ns : List PySem.Str) {Q : Value → Shared → Prop} (hh : A.handled = none) (hl : s.heap.IsList l items) (hit : StrsAre items.toList ns) (hb : ns.length + 1 < scanBound)
    (h : ∀ (h' : PySem.Heap) (tk c : Nat), SetTx w h' s.heap.objs.size ns c → (∀ b o, s.heap.get? b = some o → h'.get? b = some o) → Q (.ref s.heap.objs.size) { s with heap := h', toks := tk }) :
    wpAny (model P w) A (call (.type "set") [.ref l]) Q E s := by
  have hisz : items.size = ns.length := by rw [← Array.length_toList, StrsAre.len_eq hit]
  obtain ⟨c, tl, hmro⟩ := F.called_set.mro
  have hmade := F.called_set.made
  have hsub := F.called_set.sub
  refine wpAny_call (codeAny_of_tree ?_)
  show wpAny _ _ (callAny (.type "set") _) _ _ _
  refine wpAny_pure ⟨Code.quiet_builtin _ (by decide +kernel), codeAny_builtin F.entry_type_call ?_⟩
  rw [Around.under_plain (weight_type_call_type "set" [.ref l] []) rfl]
  have h1 := F.called_set.notType
  have h2 := F.called_set.canCreate
  have hct := F.typeCall_set_1 (.ref l)
  repeat (any_goals (first | assumption | wp_step))
  refine codeAny_mono (code_set_led1 (.ref l) (E := E) (Q₁ := fun obj s₁ => obj = .ref s.heap.objs.size ∧ s₁ = { s with heap := s.heap.push { cls := .type "set", dict := none, data := .set #[] 0 (.fresh 0 0 (!w.params.followText "set-order")) } }) ⟨rfl, rfl⟩) fun r s₁ hr => ?_
  cases r with
  | error e => exact hr
  | ok fl =>
    cases fl with
    | ret obj =>
      obtain ⟨rfl, rfl⟩ := hr
      have hS : (s.heap.push { cls := .type "set", dict := none, data := .set #[] 0 (.fresh 0 0 (!w.params.followText "set-order")) }).get? s.heap.objs.size = some { cls := .type "set", dict := none, data := .set #[] 0 (.fresh 0 0 (!w.params.followText "set-order")) } := Heap.get?_push_size _ rfl
      have hT : Shared.TypeIs { s with heap := s.heap.push { cls := .type "set", dict := none, data := .set #[] 0 (.fresh 0 0 (!w.params.followText "set-order")) } } (.ref s.heap.objs.size) "set" := ⟨_, hS, rfl⟩
      have hli := F.called_set.init.lookup
      have hbi := F.called_set.init.bind (.ref s.heap.objs.size)
      repeat (any_goals (first | assumption | wp_step))
      refine codeAny_mono (codeAny_call_builtin (R := wants (fun r s₂ => r = .none ∧ ∃ h' tk c, s₂ = { s with heap := h', toks := tk } ∧ SetTx w h' s.heap.objs.size ns c ∧ (∀ b o, s.heap.get? b = some o → h'.get? b = some o)) E) F.called_set.init.plain F.entry_set_init (check_set_init_1 hT ?_)) fun r₂ s₂ hr₂ => ?_
      · obtain ⟨ol, hol, hcl, nl, hdl⟩ := hl
        obtain ⟨ocls, odict, odata, oslots⟩ := ol
        simp only at hcl hdl
        subst hcl; subst hdl
        have hol' : (s.heap.push { cls := .type "set", dict := none, data := .set #[] 0 (.fresh 0 0 (!w.params.followText "set-order")) }).get? l = some { cls := .type "list", dict := odict, data := .seq items nl, slots := oslots } := Heap.get?_push_of_some _ hol
        have hsls := F.sub_list_set
        have hslf := F.sub_list_frozenset
        have hne : (Value.type "list" == Value.type "dict") = false := by decide
        have hl1 : (s.heap.push { cls := .type "set", dict := none, data := .set #[] 0 (.fresh 0 0 (!w.params.followText "set-order")) }).IsList l items := ⟨_, hol', rfl, nl, rfl⟩
        unfold Builtin.«set.__init__» noKeywords Builtin.Frozenset.updateFrom
        generalize hPI : pyIter = PI
        wp_walk
        subst hPI
        refine wpAny_pyIter_list hl1 ?_
        refine wpAny_bind (wpAny_runValue ?_)
        have hlS : l < s.heap.objs.size := Heap.lt_size hol
        have hh3 : A.in1.in1.in1.handled = none := by simp [hh]
        have hneI : l ≠ (s.heap.push { cls := .type "set", dict := none, data := .set #[] 0 (.fresh 0 0 (!w.params.followText "set-order")) }).objs.size := by
          rw [Heap.size_push]; exact Nat.ne_of_lt (Nat.lt_succ_of_lt hlS)
        have hSf : s.heap.objs.size ∉ [(s.heap.push { cls := .type "set", dict := none, data := .set #[] 0 (.fresh 0 0 (!w.params.followText "set-order")) }).objs.size, l] := by
          rw [Heap.size_push]; simp only [List.mem_cons, List.mem_singleton, List.not_mem_nil, or_false, not_or]
          exact ⟨Nat.ne_of_lt (Nat.lt_succ_self _), Nat.ne_of_gt hlS⟩
        have at_ : ∀ {us : List Value} {xs : List PySem.Str}, StrsAre us xs → ∀ (i : Nat) (v : Value), us[i]? = some v → ∃ k t, xs[i]? = some k ∧ v = .str k t := by
          intro us xs r
          induction r with
          | nil => intro i v e; simp at e
          | cons x t r ih =>
            intro i v e
            cases i with
            | zero => simp at e; subst e; exact ⟨_, _, by simp, rfl⟩
            | succ i =>
              obtain ⟨k, t, h1, h2⟩ := ih i v (by simpa using e)
              exact ⟨k, t, by simpa using h1, h2⟩
        have hval : ∀ (i : Nat) (v : Value), items[i]? = some v → ∃ k t, ns[i]? = some k ∧ v = .str k t := fun i v hv => at_ hit i v (by rw [Array.getElem?_toList]; exact hv)
        refine tx_loop ((Walks.list hh3 _ l hneI items).toS) s.heap.objs.size
          hSf ns hisz hb hval (items.size - 0) 0 _ (by omega) (Nat.zero_le _)
          ⟨⟨_, Heap.get?_push_size _ rfl, rfl, rfl⟩, (hl1.push _)⟩ ?hS0 ?hR
        case hS0 => exact ⟨0, Nat.le_refl 0, tx_fresh w (Heap.get?_push_of_some _ hS)⟩
        case hR =>
          intro s' c' hm hc' hS'
          obtain ⟨h', g2, d', tk', os'⟩ := s'
          have eg : g2 = s.gens := hm.gens
          have ed : d' = s.drawn := hm.drawn
          have eo : os' = s.os := hm.os
          subst eg; subst ed; subst eo
          show wpAny _ _ _ _ _ _
          refine wpAny_pure ?_
          show wpAny _ _ (ret Value.none) _ _ _
          refine wpAny_pure ⟨rfl, h', tk', c', rfl, hS', fun b o e => ?_⟩
          have hb0 : b < s.heap.objs.size := Heap.lt_size e
          have hb1 : b ≠ s.heap.objs.size := Nat.ne_of_lt hb0
          have hb2 : b ≠ (s.heap.push { cls := .type "set", dict := none, data := .set #[] 0 (.fresh 0 0 (!w.params.followText "set-order")) }).objs.size := by
            rw [Heap.size_push]; exact Nat.ne_of_lt (Nat.lt_succ_of_lt hb0)
          exact hm.heap b o (by simp only [List.mem_cons, List.mem_singleton, List.not_mem_nil, or_false, not_or]; exact ⟨hb1, hb2⟩) (Heap.get?_push_of_some _ (Heap.get?_push_of_some _ e))
      · cases r₂ with
        | error e => exact hr₂
        | ok fl₂ =>
          cases fl₂ with
          | ret r =>
            obtain ⟨rfl, h', tk, c', rfl, hS', hk'⟩ := hr₂
            repeat (any_goals (first | assumption | wp_step))
            exact h _ _ _ hS' hk'
          | _ => exact hr₂.elim
    | _ => exact hr.elim
/-- sorted of a set of texts, fewer than 64 -/
theorem sorted_setT (R : SetTx w s.heap a l n) (hh : A.handled = none) (h64 : n < 64) {Q : Value → Shared → Prop}
    (hQ : ∀ s' p (out : Array Value) (c : Nat) (ys : List PySem.Str), (∀ b o, s.heap.get? b = some o → s'.heap.get? b = some o) → s'.gens = s.gens → s'.os = s.os → s.heap.objs.size ≤ p →
      s'.heap.get? p = some (seqObj "list" out c) → StrsAre out.toList ys → sortedS ys = true → ys.Nodup → (∀ k, k ∈ ys ↔ k ∈ l) → Q (.ref p) s') : wpAny (model P w) A (call (.builtin "sorted") [.ref a]) Q E s := by
  obtain ⟨o, es, ep, t, ho, hex, hd, g, nd, hm, hb, hf, hn, hr, hl⟩ := R.ex
  refine Calls.call_function_entry kind_sorted plain_sorted entry_sorted (args_sorted1 _) ?_
  unfold Builtin.«sorted»
  refine wpAny_bind (m := checkCount "sorted" 1 1 _) (wpAny_pure ?_)
  refine wpAny_bind (collect_set (A := A.in1) hh ⟨o, ho, hex.1, hd⟩ hf hb hr hl fun s1 vs k1 hz g1 o1 pm => ?_)
  have hvl : vs.length = n := by rw [pm.length_eq, List.length_map, Array.length_toList]; exact hn
  have hI : StrsAre vs (vs.map strOf) := strsAre_map vs fun v hv => by
    obtain ⟨e, he, q⟩ := List.mem_map.mp (pm.mem_iff.mp hv)
    obtain ⟨k, tk, h1, _⟩ := g e he
    exact ⟨k, tk, by rw [← q]; exact h1⟩
  have pk : (vs.map strOf).Perm (es.toList.map memT) := by
    have q := pm.map strOf
    rw [List.map_map] at q
    have e : es.toList.map (strOf ∘ fun x => x.2) = es.toList.map memT := List.map_congr_left fun e he => by
      obtain ⟨k, tk, h1, _⟩ := g e he
      show strOf e.2 = memT e
      unfold memT
      rw [h1]
      rfl
    rw [← e]
    exact q
  refine wpAny_bind (wpAny_newList ?_ (by rw [hvl, sizeLine_eq]; omega))
  have hoL : (s1.heap.push (seqObj "list" vs.toArray 0)).get? s1.heap.objs.size = some (seqObj "list" vs.toArray 0) := Heap.get?_push_size _ rfl
  refine wpAny_bind (wpAny_holding (wpAny_call_entry slot_list_sort ⟨_, hoL, rfl⟩ entry_list_sort
    (list_sort_treeK strKind_oneLt hoL hI.keysOf (fun v₁ v₂ rest e => keyKind_strs (by rw [← e]; exact hI)) (by rw [hvl]; exact h64) fun st' hp hs => ⟨_, rfl, ?_⟩) (args_list_sort _)))
  obtain ⟨ys, b1, b2, b3⟩ := sorted_out_str hI hp hs
  obtain ⟨c, hc⟩ := sortedHeap_at (vs := vs) (out := (arrOf st').map (·.2)) hoL
  have pn : ys.Perm (es.toList.map memT) := b2.trans pk
  refine wpAny_pure ⟨_, rfl, hQ _ s1.heap.objs.size _ c ys (fun b u e => ?_) g1 o1 hz hc b1 b3 (pn.nodup_iff.mpr nd) fun k => by rw [pn.mem_iff, ← hm k]⟩
  have q := k1 b u e
  have hlt := Heap.lt_size q
  show (sortedHeap (s1.heap.push (seqObj "list" vs.toArray 0)) s1.heap.objs.size vs ((arrOf st').map (·.2))).get? b = some u
  rw [sortedHeap_old (Nat.ne_of_lt hlt) (by rw [size_push']; exact Nat.lt_succ_of_lt hlt)]
  exact Heap.get?_push_of_some _ q
end

section
variable {X : Cx}
theorem boot_set' : bootBuiltins (Str.ofString "set") = some (.type "set") := by decide +kernel
theorem boot_len' : bootBuiltins (Str.ofString "len") = some (.builtin "len") := by decide +kernel
theorem boot_sorted' : bootBuiltins (Str.ofString "sorted") = some (.builtin "sorted") := by decide +kernel
/-- len(set(xs)), texts -/
theorem pe_lenSetT {e : Expr} {t : TA} {p p2 q pos : Pos} (hg : Gl X (Str.ofString "len")) (hm : X.mg (Str.ofString "len") = none) (hg2 : Gl X (Str.ofString "set")) (hm2 : X.mg (Str.ofString "set") = none) (hc : X.calm = true)
    (ha : PA X [e] t) (na : starEach [e] X.env = (false, eval e X.env) :: starEach [] X.env) : PE X (.Call (.Name (Str.ofString "len") p) [.Call (.Name (Str.ofString "set") p2) [e] [] q] [] pos)
    (fun σ H Q => t σ H fun vs H1 => ∃ (l : Addr) (ns : List PySem.Str), vs = [.ref l] ∧ SqL X.K H1 l (ns.map V.str) ∧ ns.length ≤ 4000 ∧ ∀ ds : List PySem.Str, ds.Nodup → (∀ k, k ∈ ds ↔ k ∈ ns) → Q (.int ds.length) H1) := by
  refine ⟨fun pins s σ H Q I h => ?_⟩
  refine Call_ (ld_blt I hg hm boot_len' ?_ (by decide) (by decide))
  refine PyProof.Rows.callWith_builtin1 (PyProof.Rows.args_cons ?_ rfl) rfl rfl
  refine Call_ (ld_blt I hg2 hm2 boot_set' ?_ (by decide) (by decide))
  refine PyProof.Rows.callWith_type1 (thn (ha.run q pins s σ H _ I h) fun us s1 ⟨vs, H1, I1, r1, l, ns, ev, hq, hl, q1⟩ => ?_) na rfl
  subst ev
  obtain ⟨u, rfl, ru⟩ := vals1 r1
  cases ru
  obtain ⟨its, r, pl, hz⟩ := I1.list hq
  have hlen : its.toArray.size = ns.length := by rw [List.size_toArray, ← r.length, List.length_map]
  refine call_setT ns (I1.ok.hd hc) pl.isList r.strs (by unfold scanBound; omega) fun h' tk c hS hk => ?_
  refine PyProof.Rows.args_nil ?_
  obtain ⟨o, es, ep, tb, ho, hex, hd, g, nd, hm', hb, hf, hn, _⟩ := hS.ex
  have I2 : Inv X pins σ H1 { s1 with heap := h', toks := tk } := I1.kept hk
  have e1 : es.size = (es.toList.map memT).length := by simp
  refine call_len_set ho hex hd hf (by unfold scanBound at hb; omega) ⟨.int es.size, H1, I2.tok _, ⟨_, rfl⟩, ?_⟩
  rw [e1]
  exact q1 _ nd fun k => (hm' k).symm
/-- sorted(set(xs)), texts -/
theorem pe_sortSetT {e : Expr} {t : TA} {p p2 q pos : Pos} (hg : Gl X (Str.ofString "sorted")) (hm : X.mg (Str.ofString "sorted") = none) (hg2 : Gl X (Str.ofString "set")) (hm2 : X.mg (Str.ofString "set") = none) (hc : X.calm = true)
    (ha : PA X [e] t) (na : starEach [e] X.env = (false, eval e X.env) :: starEach [] X.env) : PE X (.Call (.Name (Str.ofString "sorted") p) [.Call (.Name (Str.ofString "set") p2) [e] [] q] [] pos)
    (fun σ H Q => t σ H fun vs H1 => ∃ (l : Addr) (ns : List PySem.Str), vs = [.ref l] ∧ SqL X.K H1 l (ns.map V.str) ∧ ns.length ≤ 4000 ∧ (∀ ds : List PySem.Str, ds.Nodup → (∀ k, k ∈ ds ↔ k ∈ ns) → ds.length < 64) ∧
      ∀ (ys : List PySem.Str) (p : Addr), sortedS ys = true → ys.Nodup → (∀ k, k ∈ ys ↔ k ∈ ns) → H1 p = none → Q (.ref p) (upd H1 p (.lst (ys.map V.str)))) := by
  refine ⟨fun pins s σ H Q I h => ?_⟩
  refine Call_ (ld_blt I hg hm boot_sorted' ?_ (by decide) (by decide))
  refine PyProof.Rows.callWith_builtin1 (PyProof.Rows.args_cons ?_ rfl) rfl rfl
  refine Call_ (ld_blt I hg2 hm2 boot_set' ?_ (by decide) (by decide))
  refine PyProof.Rows.callWith_type1 (thn (ha.run q pins s σ H _ I h) fun us s1 ⟨vs, H1, I1, r1, l, ns, ev, hq, hl, h64, q1⟩ => ?_) na rfl
  subst ev
  obtain ⟨u, rfl, ru⟩ := vals1 r1
  cases ru
  obtain ⟨its, r, pl, hz⟩ := I1.list hq
  refine call_setT ns (I1.ok.hd hc) pl.isList r.strs (by unfold scanBound; omega) fun h' tk c hS hk => ?_
  refine PyProof.Rows.args_nil ?_
  have hn64 : c < 64 := by
    obtain ⟨o, es, ep, tb, ho, hex, hd, g, nd, hm', hb, hf, hn, _⟩ := hS.ex
    have := h64 _ nd fun k => (hm' k).symm
    rw [List.length_map, Array.length_toList, hn] at this
    exact this
  have I2 : Inv X pins σ H1 { s1 with heap := h', toks := tk } := I1.kept hk
  refine sorted_setT hS (I1.ok.hd hc) hn64 fun s' p out c' ys k g o hp hgt hi hs hnd hmem => ?_
  have hlen : (ys.map V.str).length ≤ sizeLine := by
    rw [List.length_map, sizeLine_eq]
    have := h64 ys hnd hmem
    omega
  have hnone : H1 p = none := I2.hok.fresh hp
  have J : Inv X pins σ (upd H1 p (.lst (ys.map V.str))) { s1 with heap := s'.heap, gens := s'.gens, drawn := s'.drawn, toks := s'.toks } := by
    have J0 := Inv.call (g' := s'.gens) (d' := s'.drawn) (t' := s'.toks) (h' := s'.heap) (ch := []) (H' := upd H1 p (.lst (ys.map V.str))) I2 (Un.laid k hp hnone) (I2.hok.laid k hp (show ObjOk X.prog X.w _ _ p (.lst (ys.map V.str)) from ⟨hlen, out.toList, c', vals_of_strs hi, hgt⟩)) (by rw [g]; exact I2.bare) (fun _ z => nomatch z)
    exact J0
  have e : s' = { s1 with heap := s'.heap, gens := s'.gens, drawn := s'.drawn, toks := s'.toks } := by
    cases s'
    cases s1
    cases o
    rfl
  rw [e]
  exact ⟨.ref p, _, J, rfl, q1 ys p hs hnd hmem hnone⟩
theorem dedup_mem {α : Type} [DecidableEq α] : ∀ {l : List α} {x : α}, x ∈ dedup l ↔ x ∈ l
  | [], x => by simp [dedup]
  | a :: l, x => by
    unfold dedup
    split
    · rename_i h
      rw [dedup_mem, List.mem_cons]
      exact ⟨.inr, fun z => z.elim (fun e => e ▸ h) id⟩
    · rw [List.mem_cons, List.mem_cons, dedup_mem]
theorem dedup_nodup {α : Type} [DecidableEq α] : ∀ l : List α, (dedup l).Nodup
  | [] => by simp [dedup]
  | a :: l => by
    unfold dedup
    split
    · exact dedup_nodup l
    · rename_i h
      exact List.nodup_cons.mpr ⟨fun z => h (dedup_mem.mp z), dedup_nodup l⟩
theorem toS_nodup : ∀ {l : List (List Nat)}, l.Nodup → (l.map toS).Nodup
  | [], _ => by simp
  | a :: l, h => by
    rw [List.nodup_cons] at h
    rw [List.map_cons, List.nodup_cons]
    refine ⟨fun z => ?_, toS_nodup h.2⟩
    obtain ⟨b, hb, e⟩ := List.mem_map.mp z
    exact h.1 (toS_inj e ▸ hb)
theorem toS_mem {l : List (List Nat)} {m : List (List Nat)} (h : ∀ x, x ∈ l ↔ x ∈ m) (k : PySem.Str) : k ∈ l.map toS ↔ k ∈ m.map toS := by
  simp only [List.mem_map]
  exact ⟨fun ⟨x, a, b⟩ => ⟨x, (h x).mp a, b⟩, fun ⟨x, a, b⟩ => ⟨x, (h x).mpr a, b⟩⟩
theorem same_len {α : Type} [DecidableEq α] {l m : List α} (h1 : l.Nodup) (h2 : m.Nodup) (h : ∀ x, x ∈ l ↔ x ∈ m) : l.Perm m := (List.perm_ext_iff_of_nodup h1 h2).mpr h
theorem lset_r {fs : FA} {σ : L2.St} {H : Hp} {Q : VK} (q : RE X (fBi (biV .lset) fs) σ H Q) : RA X fs σ H fun vs H1 => ∃ (l : Addr) (ns : List PySem.Str), vs = [.ref l] ∧ SqL X.K H1 l (ns.map V.str) ∧ ns.length ≤ 4000 ∧ ∀ ds : List PySem.Str, ds.Nodup → (∀ k, k ∈ ds ↔ k ∈ ns) → Q (.int ds.length) H1 := by
  have q2 := bi_r q
  obtain ⟨env, h, fz, fr, rho, st, er, q3⟩ := q2
  refine ⟨env, h, fz, fr, rho, st, er, OkO.mono q3 (fun p a fz' vs H' s st' rr => ?_) fun _ _ z => z⟩
  obtain ⟨fz2, fr2, rho2, h2, ds, r, st2, tops, e, k⟩ := a fz' vs H' s st' rr
  unfold biV at e
  split at e <;> try (first | (cases e; done) | contradiction)
  obtain ⟨ns, e0, e⟩ := Option.bind_eq_some_iff.mp e
  split at e
  · rename_i hl
    cases e
    obtain ⟨v, e1, t⟩ := tops.one
    subst e1
    obtain ⟨a, vs, e2, h1, h3, h4⟩ := t.lst
    subst e2
    obtain ⟨e5, _⟩ := strs_rep h4 e0
    subst e5
    refine ⟨a, ns.map toS, rfl, h1, by rw [List.length_map]; exact hl, fun us hu hm => ?_⟩
    have pm := same_len hu (toS_nodup (dedup_nodup ns)) fun x => (hm x).trans (toS_mem (fun y => dedup_mem.symm) x)
    rw [pm.length_eq, List.length_map]
    exact k fz2 _ H' (Same.refl _) st2 res_int
  · cases e
theorem sset_r {fs : FA} {σ : L2.St} {H : Hp} {Q : VK} (q : RE X (fBi (biV .sset) fs) σ H Q) : RA X fs σ H fun vs H1 => ∃ (l : Addr) (ns : List PySem.Str), vs = [.ref l] ∧ SqL X.K H1 l (ns.map V.str) ∧ ns.length ≤ 4000 ∧ (∀ ds : List PySem.Str, ds.Nodup → (∀ k, k ∈ ds ↔ k ∈ ns) → ds.length < 64) ∧
      ∀ (ys : List PySem.Str) (p : Addr), sortedS ys = true → ys.Nodup → (∀ k, k ∈ ys ↔ k ∈ ns) → H1 p = none → Q (.ref p) (upd H1 p (.lst (ys.map V.str))) := by
  have q2 := bi_r q
  obtain ⟨env, h, fz, fr, rho, st, er, q3⟩ := q2
  refine ⟨env, h, fz, fr, rho, st, er, OkO.mono q3 (fun p a fz' vs H' s st' rr => ?_) fun _ _ z => z⟩
  obtain ⟨fz2, fr2, rho2, h2, ds, r, st2, tops, e, k⟩ := a fz' vs H' s st' rr
  unfold biV at e
  split at e <;> try (first | (cases e; done) | contradiction)
  obtain ⟨ns, e0, e⟩ := Option.bind_eq_some_iff.mp e
  split at e
  · rename_i hl
    rw [Bool.and_eq_true, decide_eq_true_eq, decide_eq_true_eq] at hl
    cases e
    obtain ⟨v, e1, t⟩ := tops.one
    subst e1
    obtain ⟨a, vs, e2, h1, h3, h4⟩ := t.lst
    subst e2
    obtain ⟨e5, ok⟩ := strs_rep h4 e0
    subst e5
    have pm : ∀ us : List PySem.Str, us.Nodup → (∀ k, k ∈ us ↔ k ∈ ns.map toS) → us.Perm ((dedup ns).map toS) := fun us hu hm => same_len hu (toS_nodup (dedup_nodup ns)) fun x => (hm x).trans (toS_mem (fun y => dedup_mem.symm) x)
    refine ⟨a, ns.map toS, rfl, h1, by rw [List.length_map]; exact hl.1, fun us hu hm => ?_, fun ys p hs hu hm hn => ?_⟩
    · rw [(pm us hu hm).length_eq, List.length_map]
      exact hl.2
    · rw [sortStr_unique (pm ys hu hm) hs]
      obtain ⟨st', r'⟩ := st2.newLst (rep_strs (sortBy ltStr (dedup ns)) (sort_ok fun x hx => ok x (dedup_mem.mp hx))) (by rw [List.length_map, sortBy_len]; exact Nat.le_trans (Nat.le_of_lt hl.2) (by decide)) hn
      exact k _ _ _ (Same.refl _) st' r'
  · cases e
end
end Mini
set_option Elab.async false
set_option linter.all false
set_option autoImplicit false
set_option maxRecDepth 100000
set_option maxHeartbeats 4000000
/- Mini: the check of a text against its own tree: expressions. Own work. -/
namespace Mini
open PySem PySem.Spec PyProof.Rows L2

/- one and the same data -/
mutual
def sameD : D → D → Bool
  | .non, .non => true
  | .bl a, .bl b => a == b
  | .int i, .int j => i == j
  | .str x, .str y => x == y
  | .tup xs, .tup ys => sameDs xs ys
  | .lst xs, .lst ys => sameDs xs ys
  | .dct t xs, .dct u ys => t == u && sameKs xs ys
  | _, _ => false
def sameDs : List D → List D → Bool
  | [], [] => true
  | x :: xs, y :: ys => sameD x y && sameDs xs ys
  | _, _ => false
def sameKs : List (Ky × D) → List (Ky × D) → Bool
  | [], [] => true
  | (k, x) :: xs, (j, y) :: ys => decide (k = j) && sameD x y && sameKs xs ys
  | _, _ => false
end
mutual
theorem sameD_eq : ∀ {x y : D}, sameD x y = true → x = y
  | .non, y, h => by cases y <;> first | rfl | cases h
  | .bl a, y, h => by cases y <;> try (cases h; done)
                      simp only [sameD, beq_iff_eq] at h; rw [h]
  | .int a, y, h => by cases y <;> try (cases h; done)
                       simp only [sameD, beq_iff_eq] at h; rw [h]
  | .str a, y, h => by cases y <;> try (cases h; done)
                       simp only [sameD, beq_iff_eq] at h; rw [h]
  | .tup a, y, h => by cases y <;> try (cases h; done)
                       simp only [sameD] at h; rw [sameDs_eq h]
  | .lst a, y, h => by cases y <;> try (cases h; done)
                       simp only [sameD] at h; rw [sameDs_eq h]
  | .dct t a, y, h => by cases y <;> try (cases h; done)
                         simp only [sameD, Bool.and_eq_true, beq_iff_eq] at h; rw [h.1, sameKs_eq h.2]
theorem sameDs_eq : ∀ {x y : List D}, sameDs x y = true → x = y
  | [], y, h => by cases y <;> first | rfl | cases h
  | x :: xs, y, h => by
    cases y with
    | nil => cases h
    | cons z zs => simp only [sameDs, Bool.and_eq_true] at h; rw [sameD_eq h.1, sameDs_eq h.2]
theorem sameKs_eq : ∀ {x y : List (Ky × D)}, sameKs x y = true → x = y
  | [], y, h => by cases y <;> first | rfl | cases h
  | (k, x) :: xs, y, h => by
    cases y with
    | nil => cases h
    | cons z zs =>
      obtain ⟨j, z⟩ := z
      simp only [sameKs, Bool.and_eq_true, decide_eq_true_eq] at h
      rw [h.1.1, sameD_eq h.1.2, sameKs_eq h.2]
end

/-- what is known of the module -/
structure Glob where
  funs : List (PySem.Str × Nat)
  cons : List (PySem.Str × D)
/-- a block -/
structure Bc where
  sc : Scope
  oc : PySem.Str → Bool
  N : List PySem.Str
def bltN : List PySem.Str := [Str.ofString "len", Str.ofString "abs", Str.ofString "int", Str.ofString "str", Str.ofString "sum", Str.ofString "max", Str.ofString "min", Str.ofString "all", Str.ofString "any", Str.ofString "tuple", Str.ofString "list", Str.ofString "sorted", Str.ofString "dict",
  Str.ofString "isinstance", Str.ofString "range", Str.ofString "zip", Str.ofString "enumerate", Str.ofString "set", Str.ofString "bool"]
structure Gd (G : Glob) (Φ : Calls) (b : Bc) (X : Cx) : Prop where
  calm : X.calm = true
  scope : X.env.scope = b.sc
  names : X.N = b.N
  nd : b.N.Nodup
  room : X.A.units + 200 < cLine
  fn : ∀ x, b.oc x = true → X.fn x = true
  funs : ∀ x f, (x, f) ∈ G.funs → FunAt X x (Φ f)
  cons : ∀ x d, (x, d) ∈ G.cons → ∃ u v, X.mg x = some u ∧ RelV v u ∧ ∀ fz, Rep (kf X) fz d v
  blt : ∀ x, x ∈ bltN → X.mg x = none

def visB (b : Bc) (i : Nat) (x : PySem.Str) : Bool := decide (b.N[i]? = some x) && (match b.sc.names.lookup x with
  | some .local => true
  | some .cell => true
  | some .free => true
  | _ => false) && !(x == ("__debug__" : PySem.Str)) && !(x == ("__classdict__" : PySem.Str))
def locB (b : Bc) (i : Nat) (x : PySem.Str) : Bool := decide (b.N[i]? = some x) && (match b.sc.names.lookup x with
  | some .local => true
  | some .cell => b.oc x
  | _ => false)
def glB (b : Bc) (x : PySem.Str) : Bool := decide (b.sc.names.lookup x = some .globalImplicit) && !(x == ("__debug__" : PySem.Str)) && !(x == ("__name__" : PySem.Str))
def litOk : D → Expr → Bool
  | .non, .Constant .none _ _ => true
  | .bl x, .Constant (.bool y) _ _ => x == y
  | .int i, .Constant (.int j) _ _ => i == j
  | .str s, .Constant (.str t) _ _ => decide (toS s = t) && okS s
  | _, _ => false
def conOk (G : Glob) (b : Bc) (d : D) (e : Expr) : Bool := litOk d e || (match e with
  | .Name x _ => glB b x && G.cons.any fun p => decide (p.1 = x) && sameD p.2 d
  | _ => false)
def notStar : Expr → Bool
  | .Starred _ _ => false
  | _ => true
def plainIx : Expr → Bool
  | .Slice _ _ _ _ => false
  | _ => true
/-- its truth is its value's -/
def plainT : Expr → Bool
  | .UnaryOp .Not _ _ => false
  | .BoolOp _ _ _ => false
  | .IfExp _ _ _ _ => false
  | .Compare _ _ _ _ => false
  | _ => true
def tailE (op : BoolOp) (es : List Expr) (pos : Pos) : Expr := match es with
  | [e] => e
  | es => .BoolOp op es pos
def biStr : Bi → PySem.Str
  | .len => Str.ofString "len"
  | .abs => Str.ofString "abs"
  | .int => Str.ofString "int"
  | .str => Str.ofString "str"
  | .sum => Str.ofString "sum"
  | .max => Str.ofString "max"
  | .min => Str.ofString "min"
  | .all => Str.ofString "all"
  | .any => Str.ofString "any"
  | .tuple => Str.ofString "tuple"
  | .list => Str.ofString "list"
  | .sorted => Str.ofString "sorted"
  | .dict => Str.ofString "dict"
  | .sset => Str.ofString "sorted"
  | .lset => Str.ofString "len"
def tyStr : Ty → PySem.Str
  | .int => Str.ofString "int"
  | .bool => Str.ofString "bool"
  | .str => Str.ofString "str"
  | .tuple => Str.ofString "tuple"
  | .list => Str.ofString "list"
  | .dict => Str.ofString "dict"
/-- built-in functions that have their rule -/
def biHas : Bi → Bool
  | .max => false
  | .min => false
  | .sset => false
  | .lset => false
  | _ => true
/-- of a set that is made at once -/
def biSet : Bi → Bool
  | .sset => true
  | .lset => true
  | _ => false
def mtStr : Mt → PySem.Str
  | .append => Str.ofString "append"
  | .pop => Str.ofString "pop"
  | .get => Str.ofString "get"
  | .update => Str.ofString "update"
  | _ => Str.ofString ""
def isCallNm : Expr → Bool
  | .Name _ _ => true
  | _ => false

/- a target -/
mutual
def chkTg : Tg → Bc → Expr → Bool
  | .nm i, b, e => (match e with
    | .Name x _ => locB b i x
    | _ => false)
  | .tp ts, b, e => (match e with
    | .Tuple es _ _ => chkTgs ts b es
    | _ => false)
  | _, _, _ => false
def chkTgs : Tg → Bc → List Expr → Bool
  | .nil, _, es => es.isEmpty
  | .cons t r, b, es => (match es with
    | e :: es => chkTg t b e && chkTgs r b es
    | _ => false)
  | _, _, _ => false
end
/-- the block of a comprehension -/
def blkB (b : Bc) (scope : Scope) : Bc := ⟨relS scope b.sc, fun x => scope.names.lookup x == some .cell, b.N⟩
def ownL (b : Bc) (own : List Nat) : List (PySem.Str × Nat) := own.filterMap fun i => (b.N[i]?).map fun x => (x, i)
def ownOk (b : Bc) (scope : Scope) (own : List Nat) : Bool := decide ((ownL b own).map (·.2) = own) && blkC b.N b.sc scope (ownL b own)
def isSetE : Expr → Bool
  | .Set _ _ _ => true
  | _ => false

section
variable (G : Glob)
mutual
def chkE : C → Bc → Expr → Bool
  | .con d, b, e => conOk G b d e
  | .var i, b, e => (match e with
    | .Name x _ => visB b i x
    | _ => false)
  | .take i, b, e => (match e with
    | .Name x _ => visB b i x
    | _ => false)
  | .bin o p q, b, e => (match e with
    | .BinOp ep op eq _ => decide (op = opOf o) && chkE p b ep && chkE q b eq
    | _ => false)
  | .neg p, b, e => (match e with
    | .UnaryOp .USub ep _ => chkE p b ep
    | _ => false)
  | .cmp o p q, b, e => (match e with
    | .Compare ep [op] [eq] _ => decide (op = copOf o) && !behindInMarks op eq && chkE p b ep && chkE q b eq
    | _ => false)
  | .chn o o' p q r, b, e => (match e with
    | .Compare ep [op, op'] [eq, er] _ => decide (op = copOf o) && decide (op' = copOf o') && !lastMarks [op, op'] [eq, er] && chkE p b ep && chkE q b eq && chkE r b er
    | _ => false)
  | .and_ p q, b, e => (match e with
    | .BoolOp .And (ep :: eq :: es) pos => chkE p b ep && chkE q b (tailE .And (eq :: es) pos)
    | _ => false)
  | .or_ p q, b, e => (match e with
    | .BoolOp .Or (ep :: eq :: es) pos => chkE p b ep && chkE q b (tailE .Or (eq :: es) pos)
    | _ => false)
  | .not_ p, b, e => (match e with
    | .UnaryOp .Not ep _ => chkE p b ep
    | _ => false)
  | .ite t p q, b, e => (match e with
    | .IfExp et ep eq _ => chkT t b et && chkE p b ep && chkE q b eq
    | _ => false)
  | .tup as, b, e => (match e with
    | .Tuple es _ _ => chkEs as b es
    | _ => false)
  | .lst as, b, e => (match e with
    | .List es _ => chkEs as b es
    | _ => false)
  | .dic t as, b, e => (match e with
    | .Dict keys values _ => !keys.isEmpty && decide (keys.length ≤ 15) && decide (keys.length = values.length) && (if t then chkDT as b keys values else chkD as b keys values)
    | _ => false)
  | .idx p q, b, e => (match e with
    | .Subscript ep eq _ => plainIx eq && chkE p b ep && chkE q b eq
    | _ => false)
  | .sli p lo hi, b, e => (match e with
    | .Subscript ep (.Slice l u none _) _ => chkE p b ep && chkP lo b l && chkP hi b u
    | _ => false)
  | .rev p, b, e => (match e with
    | .Subscript ep (.Slice none none (some (.UnaryOp .USub (.Constant (.int 1) _ _) _)) _) _ => chkE p b ep
    | _ => false)
  | .call f as, b, e => (match e with
    | .Call (.Name x _) es [] _ => glB b x && decide ((x, f) ∈ G.funs) && chkEs as b es
    | _ => false)
  | .bi g as, b, e => (match e with
    | .Call (.Name x _) es [] _ => glB b x && decide (x = biStr g) && (if biSet g then (match es with
      | [.Call (.Name y _) [e] [] _] => glB b y && decide (y = Str.ofString "set") && chkEs as b [e]
      | _ => false) else biHas g && !es.isEmpty && chkEs as b es)
    | _ => false)
  | .mt m o as, b, e => (match e with
    | .Call (.Attribute eo name apos) es [] cpos => isCallNm eo && decide (name = mtStr m) && decide (apos.endLine = cpos.line) && (match m, es.length with
      | .append, 1 => true
      | .pop, 0 => true
      | .get, 1 => true
      | .get, 2 => true
      | .update, 1 => true
      | _, _ => false) && chkE o b eo && chkEs as b es
    | _ => false)
  | .isi p t, b, e => (match e with
    | .Call (.Name x _) [ep, .Name y _] [] _ => glB b x && decide (x = Str.ofString "isinstance") && glB b y && decide (y = tyStr t) && notStar ep && chkE p b ep
    | _ => false)
  | .comp own t it c p, b, e => (match e with
    | .ListComp ep [⟨tg, iter, ifs, 0⟩] scope _ => ownOk b scope own && (tgSlots t).all (own.contains ·) && chkTg t (blkB b scope) tg && chkW it b t tg iter && !isSetE iter && chkC c (blkB b scope) ifs && chkE p (blkB b scope) ep
    | _ => false)
  | .comp2 own t it c own2 t2 it2 c2 p, b, e => (match e with
    | .ListComp ep [⟨tg, iter, ifs, 0⟩, ⟨tg2, iter2, ifs2, 0⟩] scope _ => ownOk b scope own && own2.all (own.contains ·) && (tgSlots t).all (own.contains ·) && (tgSlots t2).all (own2.contains ·) &&
      chkTg t (blkB b scope) tg && chkW it b t tg iter && !isSetE iter && chkC c (blkB b scope) ifs &&
      chkTg t2 (blkB b scope) tg2 && chkW it2 (blkB b scope) t2 tg2 iter2 && !isSetE iter2 && chkC c2 (blkB b scope) ifs2 && chkE p (blkB b scope) ep
    | _ => false)
  | _, _, _ => false
def chkEs : C → Bc → List Expr → Bool
  | .nil, _, es => es.isEmpty
  | .cons a r, b, es => (match es with
    | e :: es => notStar e && chkE a b e && chkEs r b es
    | [] => false)
  | _, _, _ => false
def chkD : C → Bc → List (Option Expr) → List Expr → Bool
  | .nil, _, ks, vs => ks.isEmpty && vs.isEmpty
  | .cons k r, b, ks, vs => (match ks with
    | some ek :: ks => chkE k b ek && chkV r b ks vs
    | _ => false)
  | _, _, _, _ => false
def chkV : C → Bc → List (Option Expr) → List Expr → Bool
  | .cons v r, b, ks, vs => (match vs with
    | e :: vs => chkE v b e && chkD r b ks vs
    | _ => false)
  | _, _, _, _ => false
def chkDT : C → Bc → List (Option Expr) → List Expr → Bool
  | .nil, _, ks, vs => ks.isEmpty && vs.isEmpty
  | .cons k r, b, ks, vs => (match ks with
    | some (.Tuple es _ _) :: ks => chkK k b es && chkVT r b ks vs
    | _ => false)
  | _, _, _, _ => false
def chkVT : C → Bc → List (Option Expr) → List Expr → Bool
  | .cons v r, b, ks, vs => (match vs with
    | e :: vs => chkE v b e && chkDT r b ks vs
    | _ => false)
  | _, _, _, _ => false
/-- a written tuple -/
def chkK : C → Bc → List Expr → Bool
  | .tup as, b, es => chkEs as b es
  | _, _, _ => false
def chkT : C → Bc → Expr → Bool
  | .tand p q, b, e => (match e with
    | .BoolOp .And (ep :: eq :: es) pos => chkT p b ep && chkT q b (tailE .And (eq :: es) pos)
    | _ => false)
  | .tor p q, b, e => (match e with
    | .BoolOp .Or (ep :: eq :: es) pos => chkT p b ep && chkT q b (tailE .Or (eq :: es) pos)
    | _ => false)
  | .tnot p, b, e => (match e with
    | .UnaryOp .Not ep _ => chkT p b ep
    | _ => false)
  | .te p, b, e => (plainT e && chkE p b e) || chkM p b e
  | _, _, _ => false
/-- a comparison as a test -/
def chkM : C → Bc → Expr → Bool
  | .cmp o p q, b, e => (match e with
    | .Compare ep [op] [eq] _ => decide (op = copOf o) && !behindInMarks op eq && chkE p b ep && chkE q b eq
    | _ => false)
  | .chn o o' p q r, b, e => (match e with
    | .Compare ep [op, op'] [eq, er] _ => decide (op = copOf o) && decide (op' = copOf o') && !lastMarks [op, op'] [eq, er] && chkE p b ep && chkE q b eq && chkE r b er
    | _ => false)
  | _, _, _ => false
/-- the tests of a clause -/
def chkC : C → Bc → List Expr → Bool
  | .tyes, _, es => es.isEmpty
  | .te p, b, es => (match es with
    | [e] => (plainT e && chkE p b e) || chkM p b e
    | _ => false)
  | .tand p q, b, es => (match es with
    | [.BoolOp .And (ep :: eq :: es) pos] => chkT p b ep && chkT q b (tailE .And (eq :: es) pos)
    | _ => false)
  | .tor p q, b, es => (match es with
    | [.BoolOp .Or (ep :: eq :: es) pos] => chkT p b ep && chkT q b (tailE .Or (eq :: es) pos)
    | _ => false)
  | .tnot p, b, es => (match es with
    | [.UnaryOp .Not ep _] => chkT p b ep
    | _ => false)
  | _, _, _ => false
def chkP : C → Bc → Option Expr → Bool
  | .nil, _, o => o.isNone
  | .pv p, b, o => (match o with
    | some e => chkE p b e
    | none => false)
  | _, _, _ => false
def chkW : C → Bc → Tg → Expr → Expr → Bool
  | .rng1 p, b, _, _, e => (match e with
    | .Call (.Name x _) [ep] [] _ => glB b x && decide (x = Str.ofString "range") && notStar ep && chkE p b ep
    | _ => false)
  | .rng2 p q, b, _, _, e => (match e with
    | .Call (.Name x _) [ep, eq] [] _ => glB b x && decide (x = Str.ofString "range") && notStar ep && notStar eq && chkE p b ep && chkE q b eq
    | _ => false)
  | .zip2 p q, b, t, tg, e => isTp t && (match tg, e with
    | .Tuple _ _ _, .Call (.Name x _) [ep, eq] [] _ => glB b x && decide (x = Str.ofString "zip") && notStar ep && notStar eq && chkE p b ep && chkE q b eq
    | _, _ => false)
  | .enu p, b, t, tg, e => isTp t && (match tg, e with
    | .Tuple _ _ _, .Call (.Name x _) [ep] [] _ => glB b x && decide (x = Str.ofString "enumerate") && notStar ep && chkE p b ep
    | _, _ => false)
  | .wv p, b, _, _, e => chkE p b e
  | _, _, _, _, _ => false
end
end
end Mini
set_option Elab.async false
set_option linter.all false
set_option autoImplicit false
set_option maxRecDepth 100000
set_option maxHeartbeats 4000000
/- Mini: the check is sound: helpers. Own work. -/
namespace Mini
open PySem PySem.Spec PyProof.Rows L2 RZ

section
variable {G : Glob} {Φ : Calls} {b : Bc} {X : Cx}
theorem visB_ok (g : Gd G Φ b X) {i : Nat} {x : PySem.Str} {pos : Pos} (h : visB b i x = true) : PE X (.Name x pos) (tVar i) := by
  unfold visB at h
  simp only [Bool.and_eq_true, decide_eq_true_eq, Bool.not_eq_true'] at h
  obtain ⟨⟨⟨h1, h2⟩, h3⟩, h4⟩ := h
  refine pe_var (by rw [g.names]; exact h1) ?_ h3 h4
  unfold Vis
  rw [g.scope]
  split at h2 <;> first | exact .inl (by assumption) | exact .inr (.inl (by assumption)) | exact .inr (.inr (by assumption)) | cases h2
theorem locB_ok (g : Gd G Φ b X) {i : Nat} {x : PySem.Str} (h : locB b i x = true) : X.N[i]? = some x ∧ L2.Loc X.env.scope x ∧ (X.fn x = true ∨ X.env.scope.names.lookup x = some .local) := by
  unfold locB at h
  simp only [Bool.and_eq_true, decide_eq_true_eq] at h
  obtain ⟨h1, h2⟩ := h
  refine ⟨by rw [g.names]; exact h1, ?_⟩
  unfold L2.Loc
  rw [g.scope]
  split at h2
  · rename_i e
    exact ⟨.inl e, .inr e⟩
  · rename_i e
    exact ⟨.inr e, .inl (g.fn x h2)⟩
  · cases h2
theorem glB_ok (g : Gd G Φ b X) {x : PySem.Str} (h : glB b x = true) : Gl X x ∧ (x == ("__debug__" : PySem.Str)) = false ∧ x ≠ ("__name__" : PySem.Str) := by
  unfold glB at h
  simp only [Bool.and_eq_true, decide_eq_true_eq, Bool.not_eq_true'] at h
  obtain ⟨⟨h1, h2⟩, h3⟩ := h
  refine ⟨?_, h2, fun z => by rw [z] at h3; simp at h3⟩
  show X.env.kindOf x = some .globalImplicit
  unfold Env.kindOf
  rw [g.scope]
  exact h1
theorem litOk_ok {d : D} {e : Expr} (h : litOk d e = true) : ∃ v, PE X e (tC v) ∧ ∀ fz, Rep (kf X) fz d v := by
  unfold litOk at h
  split at h
  · exact ⟨_, pe_non, fun _ => rep_non⟩
  · simp only [beq_iff_eq] at h
    rw [h]
    exact ⟨_, pe_bl, fun _ => rep_bl⟩
  · simp only [beq_iff_eq] at h
    rw [h]
    exact ⟨_, pe_int, fun _ => rep_int⟩
  · simp only [Bool.and_eq_true, decide_eq_true_eq] at h
    rw [← h.1]
    exact ⟨_, pe_str, fun _ => rep_str h.2⟩
  · cases h
theorem conOk_ok (g : Gd G Φ b X) {d : D} {e : Expr} (h : conOk G b d e = true) : PE X e (RE X fun _ h => .ok (.d d, h)) := by
  unfold conOk at h
  rw [Bool.or_eq_true] at h
  rcases h with h | h
  · obtain ⟨v, h1, h2⟩ := litOk_ok (X := X) h
    exact pe_const h1 h2
  · split at h
    · rename_i x pos
      rw [Bool.and_eq_true, List.any_eq_true] at h
      obtain ⟨h1, p, hp, h2⟩ := h
      simp only [Bool.and_eq_true, decide_eq_true_eq] at h2
      obtain ⟨h3, h4, _⟩ := glB_ok g h1
      obtain ⟨u, v, k1, k2, k3⟩ := g.cons p.1 p.2 hp
      rw [h2.1] at k1
      rw [sameD_eq h2.2] at k3
      exact pe_const (pe_glob h3 k1 k2 h4) k3
    · cases h
theorem star_ok {e : Expr} {es : List Expr} {env : PySem.Env} (h : notStar e = true) : starEach (e :: es) env = (false, eval e env) :: starEach es env := by
  cases e <;> first | rfl | cases h
theorem isTrue_ok {e : Expr} {env : PySem.Env} (h : plainT e = true) : ∀ whole, isTrue e env whole = (do let v ← whole; standAt e.pos; holding [v] (truthy v)) := by
  intro whole
  cases e <;> first | rfl | (cases h; done) | skip
  rename_i op a pos
  cases op <;> first | rfl | cases h
theorem plainIx_ok {e : Expr} (h : plainIx e = true) : PlainIx e := by
  intro o i
  cases e <;> first | rfl | cases h
theorem folded_ok {e : Expr} (h : isSetE e = false) (env : PySem.Env) : ∀ x, foldedSetIterable e env x = pure x := by
  intro x
  cases e <;> first | rfl | cases h
theorem pe_tail {op : BoolOp} {e : Expr} {es : List Expr} {pos : Pos} {t : TE} (h : PE X (tailE op (e :: es) pos) t) : PE X (.BoolOp op (e :: es) pos) t := by
  cases es with
  | nil => exact pe_one h
  | cons e2 es => exact h
def isBool : Expr → Bool
  | .BoolOp _ _ _ => true
  | _ => false
/-- a test, whatever its whole is where it is one of and, or -/
def PTW (X : Cx) (e : Expr) (t : TT) : Prop := PT X e t ∧ (isBool e = true → PW X e t)
theorem pw_tail {op : BoolOp} {e : Expr} {es : List Expr} {pos : Pos} {t : TT} (h : PTW X (tailE op (e :: es) pos) t) : PW X (.BoolOp op (e :: es) pos) t := by
  cases es with
  | nil =>
    cases op with
    | And => exact pw_and1 h.1
    | Or => exact pw_or1 h.1
  | cons e2 es => exact h.2 rfl
theorem ptw_and {e1 e2 : Expr} {es : List Expr} {pos : Pos} {ta tb : FT} (h1 : PT X e1 (RT X ta)) (h2 : PTW X (tailE .And (e2 :: es) pos) (RT X tb)) : PTW X (.BoolOp .And (e1 :: e2 :: es) pos) (RT X (fTand ta tb)) := by
  have h := PW.mono (pw_and h1 (pw_tail h2)) fun σ H Q q => tand_r q
  exact ⟨h.pt, fun _ => h⟩
theorem ptw_or {e1 e2 : Expr} {es : List Expr} {pos : Pos} {ta tb : FT} (h1 : PT X e1 (RT X ta)) (h2 : PTW X (tailE .Or (e2 :: es) pos) (RT X tb)) : PTW X (.BoolOp .Or (e1 :: e2 :: es) pos) (RT X (fTor ta tb)) := by
  have h := PW.mono (pw_or h1 (pw_tail h2)) fun σ H Q q => tor_r q
  exact ⟨h.pt, fun _ => h⟩
theorem ptw_not {e : Expr} {pos : Pos} {ta : FT} (h : PT X e (RT X ta)) : PTW X (.UnaryOp .Not e pos) (RT X (fTnot ta)) := ⟨PT.mono (pt_not h) fun σ H Q q => tnot_r q, fun z => nomatch z⟩
/-- a block is like its surroundings -/
theorem Gd.blk (g : Gd G Φ b X) (s : Shared) (H : Hp) (scope : Scope) (C : Addr) (cl : List (PySem.Str × Addr)) (fp : List Addr) : Gd G Φ (blkB b scope) (X.blk s H scope (compEnvC scope cl C X.env) fp) where
  calm := g.calm
  scope := by
    show (compEnvC scope cl C X.env).scope = relS scope b.sc
    rw [← g.scope]
    rfl
  names := g.names
  nd := g.nd
  room := g.room
  fn := fun x h => h
  funs := fun x f h => ⟨(g.funs x f h).ex⟩
  cons := g.cons
  blt := g.blt

/-! ### targets -/
mutual
theorem chkTg_ok : ∀ {t : Tg} {b : Bc} {X : Cx} {e : Expr}, Gd G Φ b X → chkTg t b e = true → PG X e (gT X.K t)
  | .nm i, b, X, e, g, h => by
    simp only [chkTg] at h
    split at h
    · obtain ⟨h1, h2, h3⟩ := locB_ok g h
      exact pg_name (by rw [g.names]; exact g.nd) h1 h2 h3
    · cases h
  | .tp ts, b, X, e, g, h => by
    simp only [chkTg] at h
    split at h
    · obtain ⟨h1, h2, h3⟩ := chkTgs_ok g h
      exact pg_tup g.calm h1 h2 h3
    · cases h
  | .nil, _, _, _, _, h => by simp only [chkTg] at h; cases h
  | .cons _ _, _, _, _, _, h => by simp only [chkTg] at h; cases h
theorem chkTgs_ok : ∀ {t : Tg} {b : Bc} {X : Cx} {es : List Expr}, Gd G Φ b X → chkTgs t b es = true → PGs X es (gTs X.K t) ∧ (assignEach es X.env).length = tgLen t ∧ (assignEach es X.env).findIdx? (·.1) = none
  | .nil, b, X, es, g, h => by
    simp only [chkTgs] at h
    cases es with
    | nil => exact ⟨pgs_nil, rfl, rfl⟩
    | cons e es => cases h
  | .cons t r, b, X, es, g, h => by
    cases es with
    | nil => simp only [chkTgs] at h; cases h
    | cons e es =>
      simp only [chkTgs, Bool.and_eq_true] at h
      have h1 := chkTg_ok g h.1
      obtain ⟨h2, h3, h4⟩ := chkTgs_ok g h.2
      have ha : assignEach (e :: es) X.env = (false, assign e X.env) :: assignEach es X.env := by
        have := h.1
        cases t <;> simp only [chkTg] at this <;> (try (cases this; done)) <;> (split at this <;> first | rfl | cases this)
      refine ⟨pgs_cons h1 h2 (by rw [ha]; rfl), by rw [ha, List.length_cons, h3]; rfl, ?_⟩
      rw [ha, List.findIdx?_cons]
      simp [h4]
  | .nm _, _, _, _, _, h => by simp only [chkTgs] at h; cases h
  | .tp _, _, _, _, _, h => by simp only [chkTgs] at h; cases h
end

/-! ### built-in functions -/
def biTy : Bi → Option String
  | .int => some "int"
  | .str => some "str"
  | .tuple => some "tuple"
  | .list => some "list"
  | .dict => some "dict"
  | _ => none
theorem bi_mem (g : Bi) : biStr g ∈ bltN := by
  cases g <;> decide +kernel
theorem biB {x : String} {id : String} {r : List V → Hp → VK → Prop} {p pos : Pos} {es : List Expr} {t : TA} (hm : X.mg (Str.ofString x) = none) (hv : bootBuiltins (Str.ofString x) = some (.builtin id)) (hc : CallR X (.builtin id) r) (hg : Gl X (Str.ofString x)) (hn : Str.ofString x ≠ ("__name__" : PySem.Str)) (hdb : (Str.ofString x == ("__debug__" : PySem.Str)) = false) (ha : PA X es t) (h0 : es ≠ [])
    (hst : ∀ e ∈ es, notStar e = true) : PE X (.Call (.Name (Str.ofString x) p) es [] pos) (tCB r t) := by
  cases es with
  | nil => exact absurd rfl h0
  | cons e es => exact pe_callB hc hg hm hv ha hn hdb (star_ok (hst e List.mem_cons_self)) (stars_ok fun e' he => hst e' (List.mem_cons_of_mem _ he))
where
  stars_ok {pos : Pos} : ∀ {es : List Expr}, (∀ e ∈ es, notStar e = true) → (backTo pos (starEach es X.env)).any (·.1) = false
  | [], _ => rfl
  | e :: es, h => by
    rw [star_ok (h e List.mem_cons_self)]
    show (false || (backTo pos (starEach es X.env)).any (·.1)) = false
    rw [Bool.false_or]
    exact stars_ok fun e' he => h e' (List.mem_cons_of_mem _ he)
theorem biT {x : String} {T : String} {r : List V → Hp → VK → Prop} {p pos : Pos} {es : List Expr} {t : TA} (hm : X.mg (Str.ofString x) = none) (hv : bootBuiltins (Str.ofString x) = some (.type T)) (hc : CallR X (.type T) r) (hg : Gl X (Str.ofString x)) (hn : Str.ofString x ≠ ("__name__" : PySem.Str)) (hdb : (Str.ofString x == ("__debug__" : PySem.Str)) = false) (ha : PA X es t) (h0 : es ≠ [])
    (hst : ∀ e ∈ es, notStar e = true) : PE X (.Call (.Name (Str.ofString x) p) es [] pos) (tCB r t) := by
  cases es with
  | nil => exact absurd rfl h0
  | cons e es => exact pe_callTy hc hg hm hv ha hn hdb (star_ok (hst e List.mem_cons_self)) (biB.stars_ok fun e' he => hst e' (List.mem_cons_of_mem _ he))
theorem boot_len : bootBuiltins (Str.ofString "len") = some (.builtin "len") := by decide +kernel
theorem boot_abs : bootBuiltins (Str.ofString "abs") = some (.builtin "abs") := by decide +kernel
theorem boot_sum : bootBuiltins (Str.ofString "sum") = some (.builtin "sum") := by decide +kernel
theorem boot_all : bootBuiltins (Str.ofString "all") = some (.builtin "all") := by decide +kernel
theorem boot_any : bootBuiltins (Str.ofString "any") = some (.builtin "any") := by decide +kernel
theorem boot_sorted : bootBuiltins (Str.ofString "sorted") = some (.builtin "sorted") := by decide +kernel
theorem boot_isinstance : bootBuiltins (Str.ofString "isinstance") = some (.builtin "isinstance") := by decide +kernel
theorem boot_int : bootBuiltins (Str.ofString "int") = some (.type "int") := by decide +kernel
theorem boot_bool : bootBuiltins (Str.ofString "bool") = some (.type "bool") := by decide +kernel
theorem boot_str : bootBuiltins (Str.ofString "str") = some (.type "str") := by decide +kernel
theorem boot_tuple : bootBuiltins (Str.ofString "tuple") = some (.type "tuple") := by decide +kernel
theorem boot_list : bootBuiltins (Str.ofString "list") = some (.type "list") := by decide +kernel
theorem boot_dict : bootBuiltins (Str.ofString "dict") = some (.type "dict") := by decide +kernel
theorem bi_ok (g : Gd G Φ b X) {k : Bi} (hk : biHas k = true) {x : PySem.Str} {p pos : Pos} {es : List Expr} {fs : FA} (ex : x = biStr k) (hg : glB b x = true) (ha : PA X es (RA X fs)) (h0 : es ≠ []) (hst : ∀ e ∈ es, notStar e = true) : PE X (.Call (.Name x p) es [] pos) (RE X (fBi (biV k) fs)) := by
  obtain ⟨h1, h2, h3⟩ := glB_ok g hg
  have hm := g.blt _ (bi_mem k)
  subst ex
  refine PE.mono (t := tCB (rBi (kf X) (biV k)) (RA X fs)) ?_ fun σ H Q q => bi_r q
  cases k <;> first | (cases hk; done) | skip
  · exact biB hm boot_len cr_len h1 h3 h2 ha h0 hst
  · exact biB hm boot_abs cr_abs h1 h3 h2 ha h0 hst
  · exact biT hm boot_int cr_int h1 h3 h2 ha h0 hst
  · exact biT hm boot_str cr_str h1 h3 h2 ha h0 hst
  · exact biB hm boot_sum (cr_sum' g.calm) h1 h3 h2 ha h0 hst
  · exact biB hm boot_all (cr_all' g.calm) h1 h3 h2 ha h0 hst
  · exact biB hm boot_any (cr_any' g.calm) h1 h3 h2 ha h0 hst
  · exact biT hm boot_tuple cr_tuple h1 h3 h2 ha h0 hst
  · exact biT hm boot_list cr_list h1 h3 h2 ha h0 hst
  · exact biB hm boot_sorted (cr_sorted' g.calm) h1 h3 h2 ha h0 hst
  · exact biT hm boot_dict (cr_dict g.calm) h1 h3 h2 ha h0 hst
theorem ty_ok (g : Gd G Φ b X) {t : Ty} {y : PySem.Str} {pos : Pos} (e : y = tyStr t) (hg : glB b y = true) : PE X (.Name y pos) (tC (.ty (tyNm t))) := by
  obtain ⟨h1, h2, h3⟩ := glB_ok g hg
  subst e
  have hm : X.mg (tyStr t) = none := g.blt _ (by cases t <;> decide +kernel)
  cases t
  · exact pe_bltn h1 hm boot_int rfl h3 h2
  · exact pe_bltn h1 hm boot_bool rfl h3 h2
  · exact pe_bltn h1 hm boot_str rfl h3 h2
  · exact pe_bltn h1 hm boot_tuple rfl h3 h2
  · exact pe_bltn h1 hm boot_list rfl h3 h2
  · exact pe_bltn h1 hm boot_dict rfl h3 h2
end
end Mini
set_option Elab.async false
set_option linter.all false
set_option autoImplicit false
set_option maxRecDepth 100000
set_option maxHeartbeats 4000000
/- Mini: what the interpreter does, by the named steps. Own work. -/
namespace Mini
open PySem PySem.Spec PyProof.Rows L2 RZ

section
variable (Φ : Calls)
theorem ev_con (d : D) : ev Φ (.con d) = fun _ h => .ok (.d d, h) := rfl
theorem ev_var (i : Nat) : ev Φ (.var i) = fVar i := rfl
theorem ev_take (i : Nat) : ev Φ (.take i) = fTake i := rfl
theorem ev_bin (o : Bin) (p q : C) : ev Φ (.bin o p q) = f2 (binV o) (ev Φ p) (ev Φ q) := rfl
theorem ev_neg (p : C) : ev Φ (.neg p) = fNeg (ev Φ p) := rfl
theorem ev_cmp (o : Cmp) (p q : C) : ev Φ (.cmp o p q) = fB (cmpV o) (ev Φ p) (ev Φ q) := rfl
theorem ev_chn (o o' : Cmp) (p q r : C) : ev Φ (.chn o o' p q r) = fChn (cmpV o) (cmpV o') (ev Φ p) (ev Φ q) (ev Φ r) := rfl
theorem ev_and (p q : C) : ev Φ (.and_ p q) = fAnd (ev Φ p) (ev Φ q) := rfl
theorem ev_or (p q : C) : ev Φ (.or_ p q) = fOr (ev Φ p) (ev Φ q) := rfl
theorem ev_not (p : C) : ev Φ (.not_ p) = fNot (ev Φ p) := rfl
theorem ev_ite (t p q : C) : ev Φ (.ite t p q) = fIte (tst Φ t) (ev Φ p) (ev Φ q) := rfl
theorem ev_tup (as : C) : ev Φ (.tup as) = fTup (evs Φ as) := rfl
theorem ev_lst (as : C) : ev Φ (.lst as) = fLst (evs Φ as) := rfl
theorem ev_dic (t : Bool) (as : C) : ev Φ (.dic t as) = fDic t (evs Φ as) := rfl
theorem ev_idx (p q : C) : ev Φ (.idx p q) = fIdx (ev Φ p) (ev Φ q) := rfl
theorem ev_sli (p lo hi : C) : ev Φ (.sli p lo hi) = fSli (ev Φ p) (part Φ lo) (part Φ hi) := rfl
theorem ev_rev (p : C) : ev Φ (.rev p) = fRev (ev Φ p) := rfl
theorem ev_call (f : Nat) (as : C) : ev Φ (.call f as) = fCall (Φ f) (evs Φ as) := rfl
theorem ev_bi (g : Bi) (as : C) : ev Φ (.bi g as) = fBi (biV g) (evs Φ as) := rfl
theorem ev_isi (p : C) (t : Ty) : ev Φ (.isi p t) = fIsi t (ev Φ p) := rfl
theorem ev_mtR (m : Mt) (o as : C) (h : writes m = false) : ev Φ (.mt m o as) = fMtR m (ev Φ o) (evs Φ as) := by
  cases m <;> first | (cases h; done) | rfl
theorem ev_mtW (m : Mt) (o as : C) (h : writes m = true) : ev Φ (.mt m o as) = fMtW m (ev Φ o) (evs Φ as) := by
  cases m <;> first | (cases h; done) | rfl
theorem ev_comp (own : List Nat) (t : Tg) (it c p : C) : ev Φ (.comp own t it c p) = fComp own t (walk Φ it) (tst Φ c) (ev Φ p) := rfl
theorem ev_comp2 (own : List Nat) (t : Tg) (it c : C) (own2 : List Nat) (t2 : Tg) (it2 c2 p : C) : ev Φ (.comp2 own t it c own2 t2 it2 c2 p) = fComp2 own t (walk Φ it) (tst Φ c) own2 t2 (walk Φ it2) (tst Φ c2) (ev Φ p) := rfl
theorem evs_nil : evs Φ .nil = fNil := rfl
theorem evs_cons (p r : C) : evs Φ (.cons p r) = fCons (ev Φ p) (evs Φ r) := rfl
theorem tst_te (p : C) : tst Φ (.te p) = fTe (ev Φ p) := rfl
theorem tst_and (p q : C) : tst Φ (.tand p q) = fTand (tst Φ p) (tst Φ q) := rfl
theorem tst_or (p q : C) : tst Φ (.tor p q) = fTor (tst Φ p) (tst Φ q) := rfl
theorem tst_not (p : C) : tst Φ (.tnot p) = fTnot (tst Φ p) := rfl
theorem tst_yes : tst Φ .tyes = fun _ h => .ok (true, h) := rfl
theorem part_nil : part Φ .nil = fPn := rfl
theorem part_pv (p : C) : part Φ (.pv p) = fPv (ev Φ p) := rfl
theorem walk_rng1 (p : C) : walk Φ (.rng1 p) = fRng1 (ev Φ p) := rfl
theorem walk_rng2 (p q : C) : walk Φ (.rng2 p q) = fRng2 (ev Φ p) (ev Φ q) := rfl
theorem walk_zip2 (p q : C) : walk Φ (.zip2 p q) = fZip (ev Φ p) (ev Φ q) := rfl
theorem walk_enu (p : C) : walk Φ (.enu p) = fEnu (ev Φ p) := rfl
theorem walk_wv (p : C) : walk Φ (.wv p) = fWv (ev Φ p) := rfl
end

section
variable {G : Glob} {Φ : Calls}
/-- how a walk is read -/
def wiOf (Φ : Calls) (X : Cx) : C → TI
  | .rng1 p => iRng1 (tCons (RE X (ev Φ p)) tNil)
  | .rng2 p q => iRng2 (tCons (RE X (ev Φ p)) (tCons (RE X (ev Φ q)) tNil))
  | .zip2 p q => iZipA X.K (tCons (RE X (ev Φ p)) (tCons (RE X (ev Φ q)) tNil))
  | .enu p => iEnum X.K (tCons (RE X (ev Φ p)) tNil)
  | .wv p => iAny X.K (RE X (ev Φ p))
  | _ => fun _ _ _ => False
def prOf : C → Bool
  | .zip2 _ _ => true
  | .enu _ => true
  | _ => false
theorem wi_ok {X : Cx} : ∀ {c : C} {b : Bc} {t : Tg} {tg e : Expr}, chkW G c b t tg e = true → ∀ σ H R, TWo (kf X) (prOf c) (walk Φ c) σ H R → wiOf Φ X c σ H R
  | .rng1 p, _, _, _, _, _, σ, H, R, q => rng1_r q
  | .rng2 p r, _, _, _, _, _, σ, H, R, q => rng2_r q
  | .zip2 p r, _, _, _, _, _, σ, H, R, q => zip_r q
  | .enu p, _, _, _, _, _, σ, H, R, q => enu_r q
  | .wv p, _, _, _, _, _, σ, H, R, q => wv_r q
  | .con _, _, _, _, _, h, _, _, _, _ => by simp only [chkW] at h; cases h
  | .var _, _, _, _, _, h, _, _, _, _ => by simp only [chkW] at h; cases h
  | .take _, _, _, _, _, h, _, _, _, _ => by simp only [chkW] at h; cases h
  | .bin _ _ _, _, _, _, _, h, _, _, _, _ => by simp only [chkW] at h; cases h
  | .neg _, _, _, _, _, h, _, _, _, _ => by simp only [chkW] at h; cases h
  | .cmp _ _ _, _, _, _, _, h, _, _, _, _ => by simp only [chkW] at h; cases h
  | .chn _ _ _ _ _, _, _, _, _, h, _, _, _, _ => by simp only [chkW] at h; cases h
  | .and_ _ _, _, _, _, _, h, _, _, _, _ => by simp only [chkW] at h; cases h
  | .or_ _ _, _, _, _, _, h, _, _, _, _ => by simp only [chkW] at h; cases h
  | .not_ _, _, _, _, _, h, _, _, _, _ => by simp only [chkW] at h; cases h
  | .ite _ _ _, _, _, _, _, h, _, _, _, _ => by simp only [chkW] at h; cases h
  | .tup _, _, _, _, _, h, _, _, _, _ => by simp only [chkW] at h; cases h
  | .lst _, _, _, _, _, h, _, _, _, _ => by simp only [chkW] at h; cases h
  | .dic _ _, _, _, _, _, h, _, _, _, _ => by simp only [chkW] at h; cases h
  | .idx _ _, _, _, _, _, h, _, _, _, _ => by simp only [chkW] at h; cases h
  | .sli _ _ _, _, _, _, _, h, _, _, _, _ => by simp only [chkW] at h; cases h
  | .rev _, _, _, _, _, h, _, _, _, _ => by simp only [chkW] at h; cases h
  | .call _ _, _, _, _, _, h, _, _, _, _ => by simp only [chkW] at h; cases h
  | .bi _ _, _, _, _, _, h, _, _, _, _ => by simp only [chkW] at h; cases h
  | .mt _ _ _, _, _, _, _, h, _, _, _, _ => by simp only [chkW] at h; cases h
  | .isi _ _, _, _, _, _, h, _, _, _, _ => by simp only [chkW] at h; cases h
  | .comp _ _ _ _ _, _, _, _, _, h, _, _, _, _ => by simp only [chkW] at h; cases h
  | .comp2 _ _ _ _ _ _ _ _ _, _, _, _, _, h, _, _, _, _ => by simp only [chkW] at h; cases h
  | .dcomp _ _ _ _ _ _, _, _, _, _, h, _, _, _, _ => by simp only [chkW] at h; cases h
  | .items _, _, _, _, _, h, _, _, _, _ => by simp only [chkW] at h; cases h
  | .te _, _, _, _, _, h, _, _, _, _ => by simp only [chkW] at h; cases h
  | .tand _ _, _, _, _, _, h, _, _, _, _ => by simp only [chkW] at h; cases h
  | .tor _ _, _, _, _, _, h, _, _, _, _ => by simp only [chkW] at h; cases h
  | .tnot _, _, _, _, _, h, _, _, _, _ => by simp only [chkW] at h; cases h
  | .tyes, _, _, _, _, h, _, _, _, _ => by simp only [chkW] at h; cases h
  | .pv _, _, _, _, _, h, _, _, _, _ => by simp only [chkW] at h; cases h
  | .nil, _, _, _, _, h, _, _, _, _ => by simp only [chkW] at h; cases h
  | .cons _ _, _, _, _, _, h, _, _, _, _ => by simp only [chkW] at h; cases h
theorem pr_ok {c : C} {b : Bc} {t : Tg} {tg e : Expr} (h : chkW G c b t tg e = true) : prOf c = true → isTp t = true := by
  intro hp
  cases c <;> first | (cases hp; done) | (simp only [chkW, Bool.and_eq_true] at h; exact h.1)
/-- a comprehension's own names -/
theorem own_ok {b : Bc} {X : Cx} {scope : Scope} {own : List Nat} (g : Gd G Φ b X) (h : ownOk b scope own = true) : (ownL b own).map (·.2) = own ∧ BlkOk X.N X.env.scope scope (ownL b own) := by
  unfold ownOk at h
  simp only [Bool.and_eq_true, decide_eq_true_eq] at h
  refine ⟨h.1, ?_⟩
  rw [g.names, g.scope]
  exact blkOk_by h.2
theorem all_mem {xs ys : List Nat} (h : (xs.all fun i => ys.contains i) = true) : ∀ i ∈ xs, i ∈ ys := fun i hi => by
  rw [List.all_eq_true] at h
  simpa using h i hi
end
end Mini
set_option Elab.async false
set_option linter.all false
set_option autoImplicit false
set_option maxRecDepth 100000
set_option maxHeartbeats 4000000
/- Mini: the check of expressions is sound. Own work. -/
namespace Mini
open PySem PySem.Spec PyProof.Rows L2 RZ

section
variable {G : Glob} {Φ : Calls}
theorem base_ok {o : Expr} {name : PySem.Str} {env : PySem.Env} (h : isCallNm o = true) : attributeBase o name env (eval o env) = eval o env := by
  cases o <;> first | rfl | cases h
theorem few_ok {X : Cx} {cpos : Pos} {e : Expr} {es : List Expr} (hs : ∀ x ∈ e :: es, notStar x = true) (hn : es.length < 20) :
    ((backTo cpos (starEach (e :: es) X.env)).all (fun x => !x.1) && (backToKw cpos (keywordEach [] X.env)).all (fun x => x.1.isSome) && decide ((e :: es).length + ([] : List Keyword).length + (if ([] : List Keyword).isEmpty then 0 else 1) < 30)) = true := by
  have h1 := biB.stars_ok (X := X) (pos := cpos) hs
  have h2 : (backTo cpos (starEach (e :: es) X.env)).all (fun x => !x.1) = true := by
    rw [List.all_eq_true]
    intro x hx
    rw [List.any_eq_false] at h1
    simpa using h1 x hx
  rw [h2]
  simp only [keywordEach, backToKw, List.map_nil, List.all_nil, Bool.true_and, decide_eq_true_eq, List.length_cons, List.length_nil]
  simp only [List.isEmpty_nil, if_true]
  omega
/-- a method of a dict -/
theorem pe_dmA {X : Cx} {o e : Expr} {es : List Expr} {name : PySem.Str} {apos cpos : Pos} {id : String} {r : RGet} {to : TE} {t : TA} (slot : Slot "dict" name id) (hty : typeOf (.builtin id) = pure (.type "method_descriptor")) (hm : DMt X id r) (ho : PE X o to) (ha : PA X (e :: es) t)
    (hbase : attributeBase o name X.env (eval o X.env) = eval o X.env) (hs : ∀ x ∈ e :: es, notStar x = true) (hn : es.length < 20) (hline : (apos.endLine == cpos.line) = true) :
    PE X (.Call (.Attribute o name apos) (e :: es) [] cpos) (fun σ H Q => to σ H fun x H1 => IsDc (kf X) H1 x ∧ t σ H1 fun xs H2 => r x xs H2 Q) := by
  refine ⟨fun pins s σ H Q I h => ?_⟩
  refine wpAny_Call_method_late hbase (few_ok hs hn) hline rfl (thn (ho.run pins s σ H _ I h) fun v s1 ⟨x, H1, I1, r1, d, q1⟩ => ?_)
  obtain ⟨h1, h2⟩ := isDc_at I1 r1 d
  refine ⟨"dict", id, PySem.F.plainAttrs_dict, slot, hty, h1, h2, ?_⟩
  have hA := ha.run cpos pins s1 σ H1 _ I1 q1
  have e0 := star_ok (es := es) (env := X.env) (hs e List.mem_cons_self)
  rw [e0] at hA ⊢
  refine Calls.callWith_builtin ?_ (Calls.evalArgs_plain ?_)
  · show (false || (backTo cpos (starEach es X.env)).any (·.1)) = false
    rw [Bool.false_or]
    exact biB.stars_ok fun x hx => hs x (List.mem_cons_of_mem _ hx)
  · exact thn hA fun us s2 ⟨vs, H2, I2, r2, q2⟩ => hm pins s2 σ H2 x vs v us Q I2 r1 r2 q2
theorem chkEs_star : ∀ {c : C} {b : Bc} {es : List Expr}, chkEs G c b es = true → ∀ e ∈ es, notStar e = true := by
  intro c b es
  induction es generalizing c with
  | nil => exact fun _ e he => absurd he (by simp)
  | cons e es ih =>
    intro h
    cases c <;> simp only [chkEs] at h <;> try (cases h; done)
    simp only [Bool.and_eq_true] at h
    intro e' he
    rcases List.mem_cons.mp he with rfl | he
    · exact h.1.1
    · exact ih h.2 e' he
theorem chkEs_nil {c : C} {b : Bc} (h : chkEs G c b [] = true) : c = .nil := by
  cases c <;> simp only [chkEs] at h <;> first | rfl | cases h
theorem chkEs_cons {c : C} {b : Bc} {e : Expr} {es : List Expr} (h : chkEs G c b (e :: es) = true) : ∃ p r, c = .cons p r ∧ notStar e = true ∧ chkE G p b e = true ∧ chkEs G r b es = true := by
  cases c <;> simp only [chkEs] at h <;> try (cases h; done)
  simp only [Bool.and_eq_true] at h
  exact ⟨_, _, rfl, h.1.1, h.1.2, h.2⟩

theorem pts_of {X : Cx} {e : Expr} {t : TT} (h : PT X e t) : PTs X [e] t := pts_one h
theorem pts_yes {X : Cx} : PTs X [] (RT X (fun _ h => .ok (true, h))) := ⟨fun pins s σ H Q I h => pts_nil.run pins s σ H Q I (by
  obtain ⟨env, hh, fz, fr, rho, st, er, q⟩ := h
  exact (show ∀ fz' H', Same fz fz' → StH (kf X) fz' fr rho hh H' → Q true H' from q) fz H (Same.refl _) st)⟩

mutual
theorem chkE_ok : ∀ (c : C) {b : Bc} {X : Cx} {e : Expr}, Gd G Φ b X → chkE G c b e = true → PE X e (RE X (ev Φ c))
  | .con d, b, X, e, g, h => by
    simp only [chkE] at h
    exact conOk_ok g h
  | .var i, b, X, e, g, h => by
    simp only [chkE] at h
    split at h
    · exact pe_v (visB_ok g h)
    · cases h
  | .take i, b, X, e, g, h => by
    simp only [chkE] at h
    split at h
    · exact pe_take (visB_ok g h)
    · cases h
  | .bin o p q, b, X, e, g, h => by
    simp only [chkE] at h
    split at h
    · simp only [Bool.and_eq_true, decide_eq_true_eq] at h
      obtain ⟨⟨rfl, h1⟩, h2⟩ := h
      exact pe_bin (chkE_ok p g h1) (chkE_ok q g h2)
    · cases h
  | .neg p, b, X, e, g, h => by
    simp only [chkE] at h
    split at h
    · exact pe_neg' (chkE_ok p g h)
    · cases h
  | .cmp o p q, b, X, e, g, h => by
    simp only [chkE] at h
    split at h
    · simp only [Bool.and_eq_true, decide_eq_true_eq, Bool.not_eq_true'] at h
      obtain ⟨⟨⟨rfl, h0⟩, h1⟩, h2⟩ := h
      exact pe_cmp' (by have := g.room; omega) h0 (chkE_ok p g h1) (chkE_ok q g h2)
    · cases h
  | .chn o o' p q r, b, X, e, g, h => by
    simp only [chkE] at h
    split at h
    · simp only [Bool.and_eq_true, decide_eq_true_eq, Bool.not_eq_true'] at h
      obtain ⟨⟨⟨⟨⟨rfl, rfl⟩, h0⟩, h1⟩, h2⟩, h3⟩ := h
      exact pe_chn (by have := g.room; omega) h0 (chkE_ok p g h1) (chkE_ok q g h2) (chkE_ok r g h3)
    · cases h
  | .and_ p q, b, X, e, g, h => by
    simp only [chkE] at h
    split at h
    · simp only [Bool.and_eq_true] at h
      exact PE.mono (pe_and (chkE_ok p g h.1) (pe_tail (chkE_ok q g h.2))) fun σ H Q k => and_r k
    · cases h
  | .or_ p q, b, X, e, g, h => by
    simp only [chkE] at h
    split at h
    · simp only [Bool.and_eq_true] at h
      exact PE.mono (pe_or (chkE_ok p g h.1) (pe_tail (chkE_ok q g h.2))) fun σ H Q k => or_r k
    · cases h
  | .not_ p, b, X, e, g, h => by
    simp only [chkE] at h
    split at h
    · exact PE.mono (pe_not (chkE_ok p g h)) fun σ H Q k => not_r k
    · cases h
  | .ite t p q, b, X, e, g, h => by
    simp only [chkE] at h
    split at h
    · simp only [Bool.and_eq_true] at h
      exact PE.mono (pe_ifExp (chkT_ok t g h.1.1).1 (chkE_ok p g h.1.2) (chkE_ok q g h.2)) fun σ H Q k => ite_r k
    · cases h
  | .tup as, b, X, e, g, h => by
    simp only [chkE] at h
    split at h
    · exact pe_tp (chkEs_ok as g h)
    · cases h
  | .lst as, b, X, e, g, h => by
    simp only [chkE] at h
    split at h
    · exact pe_ls (chkEs_ok as g h)
    · cases h
  | .dic t as, b, X, e, g, h => by
    simp only [chkE] at h
    split at h
    · simp only [Bool.and_eq_true, decide_eq_true_eq, Bool.not_eq_true'] at h
      obtain ⟨⟨⟨h1, h2⟩, h3⟩, h4⟩ := h
      rename_i keys values pos
      cases t with
      | false =>
        obtain ⟨trs, k1, k2, k3⟩ := chkD_ok as (pos := pos) g h4
        exact pe_dc k2 k1 k3 h3 (by intro z; rw [z] at h1; cases h1) h2
      | true =>
        obtain ⟨trs, k1, k2, k3⟩ := chkDT_ok as (pos := pos) g h4
        exact pe_dcT (by have := g.room; omega) k2 k1 k3 h3 (by intro z; rw [z] at h1; cases h1) h2
    · cases h
  | .idx p q, b, X, e, g, h => by
    simp only [chkE] at h
    split at h
    · simp only [Bool.and_eq_true] at h
      exact pe_idx (by have := g.room; omega) (plainIx_ok h.1.1) (chkE_ok p g h.1.2) (chkE_ok q g h.2)
    · cases h
  | .sli p lo hi, b, X, e, g, h => by
    simp only [chkE] at h
    split at h
    · simp only [Bool.and_eq_true] at h
      exact pe_sli (chkE_ok p g h.1.1) (chkP_ok lo g h.1.2) (chkP_ok hi g h.2)
    · cases h
  | .rev p, b, X, e, g, h => by
    simp only [chkE] at h
    split at h
    · exact pe_rv (chkE_ok p g h) trivial
    · cases h
  | .call f as, b, X, e, g, h => by
    simp only [chkE] at h
    split at h
    · simp only [Bool.and_eq_true, decide_eq_true_eq] at h
      obtain ⟨⟨h1, h2⟩, h3⟩ := h
      obtain ⟨k1, k2, _⟩ := glB_ok g h1
      have hs := chkEs_star h3
      refine pe_cl (g.funs _ _ h2) k1 k2 (chkEs_ok as g h3) (fun e es' z => star_ok (hs e (by rw [z]; exact List.mem_cons_self))) (fun e es' z => biB.stars_ok fun e' he => hs e' (by rw [z]; exact List.mem_cons_of_mem _ he)) fun z => ?_
      subst z
      rw [chkEs_nil h3]
      rfl
    · cases h
  | .bi k as, b, X, e, g, h => by
    simp only [chkE] at h
    split at h
    · simp only [Bool.and_eq_true, decide_eq_true_eq] at h
      obtain ⟨⟨h1, h2⟩, h3⟩ := h
      split at h3
      · rename_i hk
        split at h3
        · rename_i y _ e1 _
          simp only [Bool.and_eq_true, decide_eq_true_eq] at h3
          obtain ⟨⟨k1, k2⟩, k3⟩ := h3
          subst k2
          have hs := star_ok (es := []) (env := X.env) (chkEs_star k3 e1 (by simp))
          cases k <;> try (cases hk; done)
          · subst h2
            exact PE.mono (pe_sortSetT (glB_ok g h1).1 (g.blt _ (by decide +kernel)) (glB_ok g k1).1 (g.blt _ (by decide +kernel)) g.calm (chkEs_ok as g k3) hs) fun σ H Q q => sset_r q
          · subst h2
            exact PE.mono (pe_lenSetT (glB_ok g h1).1 (g.blt _ (by decide +kernel)) (glB_ok g k1).1 (g.blt _ (by decide +kernel)) g.calm (chkEs_ok as g k3) hs) fun σ H Q q => lset_r q
        · cases h3
      · simp only [Bool.and_eq_true, Bool.not_eq_true'] at h3
        obtain ⟨⟨h3, h4⟩, h5⟩ := h3
        exact bi_ok g h3 h2 h1 (chkEs_ok as g h5) (by intro z; rw [z] at h4; cases h4) (chkEs_star h5)
    · cases h
  | .mt m o as, b, X, e, g, h => by
    simp only [chkE] at h
    split at h
    · rename_i eo name apos es cpos
      simp only [Bool.and_eq_true, decide_eq_true_eq] at h
      obtain ⟨⟨⟨⟨⟨h1, h2⟩, h3⟩, h4⟩, h5⟩, h6⟩ := h
      have ho := chkE_ok o g h5
      have hs := chkEs_star h6
      have ha := chkEs_ok as g h6
      subst h2
      split at h4
      · rename_i hl
        obtain ⟨e1, rfl⟩ := List.length_eq_one_iff.mp hl
        have s1 := hs e1 (by simp)
        rw [ev_mtW Φ _ _ _ rfl]
        exact PE.mono (pe_bm PySem.F.plainAttrs_list PySem.F.slot_list_append PySem.F.type_list_append mt_app ho ha (base_ok h1) (few_ok hs (by decide)) (by rw [h3]; simp) (star_ok s1) rfl) fun σ H Q q => mtW_r (fun st rr ek => kind_ls (.inl rfl) st rr ek) q
      · rename_i hl
        have ez := List.length_eq_zero_iff.mp hl
        subst ez
        rw [ev_mtW Φ _ _ _ rfl, chkEs_nil h6]
        refine PE.mono (pe_bm0 PySem.F.plainAttrs_list PySem.F.slot_list_pop PySem.F.type_list_pop mt_pp ho (base_ok h1) (by rw [h3]; simp)) fun σ H Q q => ?_
        have q2 := mtW_r (X := X) (fun st rr ek => kind_ls (.inr rfl) st rr ek) q
        obtain ⟨env, h, fz, fr, rho, st, er, q3⟩ := q2
        exact ⟨env, h, fz, fr, rho, st, er, OkO.mono q3 (fun p a fz' v H' s st' rr => ⟨(a fz' v H' s st' rr).1, nil_r (a fz' v H' s st' rr).2⟩) fun _ _ z => z⟩
      · rename_i hl
        obtain ⟨e1, rfl⟩ := List.length_eq_one_iff.mp hl
        rw [ev_mtR Φ _ _ _ rfl]
        exact PE.mono (pe_dmA PySem.F.slot_dict_get PySem.F.type_dict_get (mt_get (by have := g.room; omega)) ho ha (base_ok h1) hs (by decide) (by rw [h3]; simp)) fun σ H Q q => mtR_r (fun st rr ek => kind_dc (.inl rfl) st rr ek) q
      · rename_i hl
        obtain ⟨e1, es', rfl⟩ : ∃ e1 es', es = e1 :: es' := by
          cases es with
          | nil => cases hl
          | cons e1 es' => exact ⟨e1, es', rfl⟩
        rw [ev_mtR Φ _ _ _ rfl]
        exact PE.mono (pe_dmA PySem.F.slot_dict_get PySem.F.type_dict_get (mt_get (by have := g.room; omega)) ho ha (base_ok h1) hs (by simp at hl; omega) (by rw [h3]; simp)) fun σ H Q q => mtR_r (fun st rr ek => kind_dc (.inl rfl) st rr ek) q
      · rename_i hl
        obtain ⟨e1, rfl⟩ := List.length_eq_one_iff.mp hl
        rw [ev_mtW Φ _ _ _ rfl]
        exact PE.mono (pe_dmA PySem.F.slot_dict_update PySem.F.type_dict_update mt_upd ho ha (base_ok h1) hs (by decide) (by rw [h3]; simp)) fun σ H Q q => mtW_r (fun st rr ek => kind_dc (.inr rfl) st rr ek) q
      · cases h4
    · cases h
  | .isi p t, b, X, e, g, h => by
    simp only [chkE] at h
    split at h
    · simp only [Bool.and_eq_true, decide_eq_true_eq] at h
      obtain ⟨⟨⟨⟨⟨h1, h2⟩, h3⟩, h4⟩, h5⟩, h6⟩ := h
      obtain ⟨k1, k2, k3⟩ := glB_ok g h1
      subst h2
      exact PE.mono (pe_callB call_isi k1 (g.blt _ (by decide +kernel)) boot_isinstance (pa_cons (chkE_ok p g h6) (pa_cons (ty_ok g h4 h3) pa_nil (star_ok rfl)) (star_ok h5)) k3 k2 (star_ok h5) rfl) fun σ H Q q => isi_r q
    · cases h
  | .comp own t it c p, b, X, e, g, h => by
    simp only [chkE] at h
    split at h
    · simp only [Bool.and_eq_true, Bool.not_eq_true'] at h
      obtain ⟨⟨⟨⟨⟨⟨h1, h2⟩, h3⟩, h4⟩, h5⟩, h6⟩, h7⟩ := h
      obtain ⟨o1, o2⟩ := own_ok g h1
      rename_i pos
      have q := pe_lc (pos := pos) (te := RE X (ev Φ p)) (tt := RT X (tst Φ c)) (g := gT X.K t) g.calm (by rw [g.names]; exact g.nd) (chkW_ok it g h4) o2 (fun s H C cl fp => chkTg_ok (g.blk s H _ C cl fp) h3) (fun s H C cl fp => chkC_ok c (g.blk s H _ C cl fp) h6) (fun s H C cl fp => chkE_ok p (g.blk s H _ C cl fp) h7) (folded_ok h5 _)
      rw [o1] at q
      exact PE.mono q fun σ H Q k => comp_r (wi_ok h4) (all_mem h2) (pr_ok h4) k
    · cases h
  | .comp2 own t it c own2 t2 it2 c2 p, b, X, e, g, h => by
    simp only [chkE] at h
    split at h
    · simp only [Bool.and_eq_true, Bool.not_eq_true'] at h
      obtain ⟨⟨⟨⟨⟨⟨⟨⟨⟨⟨⟨⟨h1, h0⟩, h2⟩, h2'⟩, h3⟩, h4⟩, h5⟩, h6⟩, h3'⟩, h4'⟩, h5'⟩, h6'⟩, h7⟩ := h
      obtain ⟨o1, o2⟩ := own_ok g h1
      rename_i pos
      have q := pe_lc2 (pos := pos) (vs1 := own2) (te := RE X (ev Φ p)) (tt := RT X (tst Φ c)) (g := gT X.K t) (tt1 := RT X (tst Φ c2)) (g1 := gT X.K t2) (wi1 := wiOf Φ X it2) g.calm (by rw [g.names]; exact g.nd) (chkW_ok it g h4) o2 (by rw [o1]; exact all_mem h0)
        (fun s H C cl fp => chkTg_ok (g.blk s H _ C cl fp) h3) (fun s H C cl fp => chkC_ok c (g.blk s H _ C cl fp) h6)
        (fun s H C cl fp => chkW_ok it2 (g.blk s H _ C cl fp) h4') (fun s H C cl fp => chkTg_ok (g.blk s H _ C cl fp) h3') (fun s H C cl fp => chkC_ok c2 (g.blk s H _ C cl fp) h6') (fun s H C cl fp => chkE_ok p (g.blk s H _ C cl fp) h7) (folded_ok h5 _) (folded_ok h5')
      rw [o1] at q
      exact PE.mono q fun σ H Q k => comp2_r (wi_ok h4) (all_mem h2) (pr_ok h4) (wi_ok h4') (all_mem h2') (pr_ok h4') k
    · cases h
  | .dcomp _ _ _ _ _ _, _, _, _, _, h => by simp only [chkE] at h; cases h
  | .rng1 _, _, _, _, _, h => by simp only [chkE] at h; cases h
  | .rng2 _ _, _, _, _, _, h => by simp only [chkE] at h; cases h
  | .zip2 _ _, _, _, _, _, h => by simp only [chkE] at h; cases h
  | .enu _, _, _, _, _, h => by simp only [chkE] at h; cases h
  | .items _, _, _, _, _, h => by simp only [chkE] at h; cases h
  | .te _, _, _, _, _, h => by simp only [chkE] at h; cases h
  | .tand _ _, _, _, _, _, h => by simp only [chkE] at h; cases h
  | .tor _ _, _, _, _, _, h => by simp only [chkE] at h; cases h
  | .tnot _, _, _, _, _, h => by simp only [chkE] at h; cases h
  | .tyes, _, _, _, _, h => by simp only [chkE] at h; cases h
  | .pv _, _, _, _, _, h => by simp only [chkE] at h; cases h
  | .wv _, _, _, _, _, h => by simp only [chkE] at h; cases h
  | .nil, _, _, _, _, h => by simp only [chkE] at h; cases h
  | .cons _ _, _, _, _, _, h => by simp only [chkE] at h; cases h
theorem chkEs_ok : ∀ (c : C) {b : Bc} {X : Cx} {es : List Expr}, Gd G Φ b X → chkEs G c b es = true → PA X es (RA X (evs Φ c))
  | .cons p r, b, X, es, g, h => by
    simp only [chkEs] at h
    split at h
    · simp only [Bool.and_eq_true] at h
      exact pa_c (chkE_ok p g h.1.2) (chkEs_ok r g h.2) (star_ok h.1.1)
    · cases h
  | .nil, b, X, es, g, h => by
    simp only [chkEs] at h
    cases es with
    | nil => exact pa_n
    | cons e es => cases h
  | .con _, _, _, _, _, h => by simp only [chkEs] at h; cases h
  | .var _, _, _, _, _, h => by simp only [chkEs] at h; cases h
  | .take _, _, _, _, _, h => by simp only [chkEs] at h; cases h
  | .bin _ _ _, _, _, _, _, h => by simp only [chkEs] at h; cases h
  | .neg _, _, _, _, _, h => by simp only [chkEs] at h; cases h
  | .cmp _ _ _, _, _, _, _, h => by simp only [chkEs] at h; cases h
  | .chn _ _ _ _ _, _, _, _, _, h => by simp only [chkEs] at h; cases h
  | .and_ _ _, _, _, _, _, h => by simp only [chkEs] at h; cases h
  | .or_ _ _, _, _, _, _, h => by simp only [chkEs] at h; cases h
  | .not_ _, _, _, _, _, h => by simp only [chkEs] at h; cases h
  | .ite _ _ _, _, _, _, _, h => by simp only [chkEs] at h; cases h
  | .tup _, _, _, _, _, h => by simp only [chkEs] at h; cases h
  | .lst _, _, _, _, _, h => by simp only [chkEs] at h; cases h
  | .dic _ _, _, _, _, _, h => by simp only [chkEs] at h; cases h
  | .idx _ _, _, _, _, _, h => by simp only [chkEs] at h; cases h
  | .sli _ _ _, _, _, _, _, h => by simp only [chkEs] at h; cases h
  | .rev _, _, _, _, _, h => by simp only [chkEs] at h; cases h
  | .call _ _, _, _, _, _, h => by simp only [chkEs] at h; cases h
  | .bi _ _, _, _, _, _, h => by simp only [chkEs] at h; cases h
  | .mt _ _ _, _, _, _, _, h => by simp only [chkEs] at h; cases h
  | .isi _ _, _, _, _, _, h => by simp only [chkEs] at h; cases h
  | .comp _ _ _ _ _, _, _, _, _, h => by simp only [chkEs] at h; cases h
  | .comp2 _ _ _ _ _ _ _ _ _, _, _, _, _, h => by simp only [chkEs] at h; cases h
  | .dcomp _ _ _ _ _ _, _, _, _, _, h => by simp only [chkEs] at h; cases h
  | .rng1 _, _, _, _, _, h => by simp only [chkEs] at h; cases h
  | .rng2 _ _, _, _, _, _, h => by simp only [chkEs] at h; cases h
  | .zip2 _ _, _, _, _, _, h => by simp only [chkEs] at h; cases h
  | .enu _, _, _, _, _, h => by simp only [chkEs] at h; cases h
  | .items _, _, _, _, _, h => by simp only [chkEs] at h; cases h
  | .te _, _, _, _, _, h => by simp only [chkEs] at h; cases h
  | .tand _ _, _, _, _, _, h => by simp only [chkEs] at h; cases h
  | .tor _ _, _, _, _, _, h => by simp only [chkEs] at h; cases h
  | .tnot _, _, _, _, _, h => by simp only [chkEs] at h; cases h
  | .tyes, _, _, _, _, h => by simp only [chkEs] at h; cases h
  | .pv _, _, _, _, _, h => by simp only [chkEs] at h; cases h
  | .wv _, _, _, _, _, h => by simp only [chkEs] at h; cases h
theorem chkD_ok : ∀ (c : C) {b : Bc} {X : Cx} {ks : List (Option Expr)} {vs : List Expr} {pos : Pos}, Gd G Φ b X → chkD G c b ks vs = true → ∃ trs, PPs X pos ks vs trs ∧ Prs X (evs Φ c) trs ∧ ks.all (·.isSome) = true
  | .nil, b, X, ks, vs, pos, g, h => by
    simp only [chkD, Bool.and_eq_true, List.isEmpty_iff] at h
    obtain ⟨rfl, rfl⟩ := h
    exact ⟨[], pps_nil, .nil, rfl⟩
  | .cons k r, b, X, ks, vs, pos, g, h => by
    simp only [chkD] at h
    split at h
    · simp only [Bool.and_eq_true] at h
      obtain ⟨f, trs, hp, k2, k3, k4⟩ := chkV_ok r (pos := pos) g h.2 (chkE_ok k g h.1)
      exact ⟨_, hp, k3, by simp [k4]⟩
    · cases h
  | .con _, _, _, _, _, _, _, h => by simp only [chkD] at h; cases h
  | .var _, _, _, _, _, _, _, h => by simp only [chkD] at h; cases h
  | .take _, _, _, _, _, _, _, h => by simp only [chkD] at h; cases h
  | .bin _ _ _, _, _, _, _, _, _, h => by simp only [chkD] at h; cases h
  | .neg _, _, _, _, _, _, _, h => by simp only [chkD] at h; cases h
  | .cmp _ _ _, _, _, _, _, _, _, h => by simp only [chkD] at h; cases h
  | .chn _ _ _ _ _, _, _, _, _, _, _, h => by simp only [chkD] at h; cases h
  | .and_ _ _, _, _, _, _, _, _, h => by simp only [chkD] at h; cases h
  | .or_ _ _, _, _, _, _, _, _, h => by simp only [chkD] at h; cases h
  | .not_ _, _, _, _, _, _, _, h => by simp only [chkD] at h; cases h
  | .ite _ _ _, _, _, _, _, _, _, h => by simp only [chkD] at h; cases h
  | .tup _, _, _, _, _, _, _, h => by simp only [chkD] at h; cases h
  | .lst _, _, _, _, _, _, _, h => by simp only [chkD] at h; cases h
  | .dic _ _, _, _, _, _, _, _, h => by simp only [chkD] at h; cases h
  | .idx _ _, _, _, _, _, _, _, h => by simp only [chkD] at h; cases h
  | .sli _ _ _, _, _, _, _, _, _, h => by simp only [chkD] at h; cases h
  | .rev _, _, _, _, _, _, _, h => by simp only [chkD] at h; cases h
  | .call _ _, _, _, _, _, _, _, h => by simp only [chkD] at h; cases h
  | .bi _ _, _, _, _, _, _, _, h => by simp only [chkD] at h; cases h
  | .mt _ _ _, _, _, _, _, _, _, h => by simp only [chkD] at h; cases h
  | .isi _ _, _, _, _, _, _, _, h => by simp only [chkD] at h; cases h
  | .comp _ _ _ _ _, _, _, _, _, _, _, h => by simp only [chkD] at h; cases h
  | .comp2 _ _ _ _ _ _ _ _ _, _, _, _, _, _, _, h => by simp only [chkD] at h; cases h
  | .dcomp _ _ _ _ _ _, _, _, _, _, _, _, h => by simp only [chkD] at h; cases h
  | .rng1 _, _, _, _, _, _, _, h => by simp only [chkD] at h; cases h
  | .rng2 _ _, _, _, _, _, _, _, h => by simp only [chkD] at h; cases h
  | .zip2 _ _, _, _, _, _, _, _, h => by simp only [chkD] at h; cases h
  | .enu _, _, _, _, _, _, _, h => by simp only [chkD] at h; cases h
  | .items _, _, _, _, _, _, _, h => by simp only [chkD] at h; cases h
  | .te _, _, _, _, _, _, _, h => by simp only [chkD] at h; cases h
  | .tand _ _, _, _, _, _, _, _, h => by simp only [chkD] at h; cases h
  | .tor _ _, _, _, _, _, _, _, h => by simp only [chkD] at h; cases h
  | .tnot _, _, _, _, _, _, _, h => by simp only [chkD] at h; cases h
  | .tyes, _, _, _, _, _, _, h => by simp only [chkD] at h; cases h
  | .pv _, _, _, _, _, _, _, h => by simp only [chkD] at h; cases h
  | .wv _, _, _, _, _, _, _, h => by simp only [chkD] at h; cases h
theorem chkV_ok : ∀ (c : C) {b : Bc} {X : Cx} {ks : List (Option Expr)} {vs : List Expr} {pos : Pos} {ek : Expr} {fk : FE}, Gd G Φ b X → chkV G c b ks vs = true → PE X ek (RE X fk) →
    ∃ (f : FE) (trs : List (TE × TE)), PPs X pos (some ek :: ks) vs ((RE X fk, RE X f) :: trs) ∧ True ∧ Prs X (fCons fk (evs Φ c)) ((RE X fk, RE X f) :: trs) ∧ ks.all (·.isSome) = true
  | .cons v r, b, X, ks, vs, pos, ek, fk, g, h, hk => by
    simp only [chkV] at h
    split at h
    · simp only [Bool.and_eq_true] at h
      obtain ⟨trs, k1, k2, k3⟩ := chkD_ok r (pos := pos) g h.2
      exact ⟨ev Φ v, trs, pps_cons hk (chkE_ok v g h.1) k1, trivial, .cons k2, k3⟩
    · cases h
  | .con _, _, _, _, _, _, _, _, _, h, _ => by simp only [chkV] at h; cases h
  | .var _, _, _, _, _, _, _, _, _, h, _ => by simp only [chkV] at h; cases h
  | .take _, _, _, _, _, _, _, _, _, h, _ => by simp only [chkV] at h; cases h
  | .bin _ _ _, _, _, _, _, _, _, _, _, h, _ => by simp only [chkV] at h; cases h
  | .neg _, _, _, _, _, _, _, _, _, h, _ => by simp only [chkV] at h; cases h
  | .cmp _ _ _, _, _, _, _, _, _, _, _, h, _ => by simp only [chkV] at h; cases h
  | .chn _ _ _ _ _, _, _, _, _, _, _, _, _, h, _ => by simp only [chkV] at h; cases h
  | .and_ _ _, _, _, _, _, _, _, _, _, h, _ => by simp only [chkV] at h; cases h
  | .or_ _ _, _, _, _, _, _, _, _, _, h, _ => by simp only [chkV] at h; cases h
  | .not_ _, _, _, _, _, _, _, _, _, h, _ => by simp only [chkV] at h; cases h
  | .ite _ _ _, _, _, _, _, _, _, _, _, h, _ => by simp only [chkV] at h; cases h
  | .tup _, _, _, _, _, _, _, _, _, h, _ => by simp only [chkV] at h; cases h
  | .lst _, _, _, _, _, _, _, _, _, h, _ => by simp only [chkV] at h; cases h
  | .dic _ _, _, _, _, _, _, _, _, _, h, _ => by simp only [chkV] at h; cases h
  | .idx _ _, _, _, _, _, _, _, _, _, h, _ => by simp only [chkV] at h; cases h
  | .sli _ _ _, _, _, _, _, _, _, _, _, h, _ => by simp only [chkV] at h; cases h
  | .rev _, _, _, _, _, _, _, _, _, h, _ => by simp only [chkV] at h; cases h
  | .call _ _, _, _, _, _, _, _, _, _, h, _ => by simp only [chkV] at h; cases h
  | .bi _ _, _, _, _, _, _, _, _, _, h, _ => by simp only [chkV] at h; cases h
  | .mt _ _ _, _, _, _, _, _, _, _, _, h, _ => by simp only [chkV] at h; cases h
  | .isi _ _, _, _, _, _, _, _, _, _, h, _ => by simp only [chkV] at h; cases h
  | .comp _ _ _ _ _, _, _, _, _, _, _, _, _, h, _ => by simp only [chkV] at h; cases h
  | .comp2 _ _ _ _ _ _ _ _ _, _, _, _, _, _, _, _, _, h, _ => by simp only [chkV] at h; cases h
  | .dcomp _ _ _ _ _ _, _, _, _, _, _, _, _, _, h, _ => by simp only [chkV] at h; cases h
  | .rng1 _, _, _, _, _, _, _, _, _, h, _ => by simp only [chkV] at h; cases h
  | .rng2 _ _, _, _, _, _, _, _, _, _, h, _ => by simp only [chkV] at h; cases h
  | .zip2 _ _, _, _, _, _, _, _, _, _, h, _ => by simp only [chkV] at h; cases h
  | .enu _, _, _, _, _, _, _, _, _, h, _ => by simp only [chkV] at h; cases h
  | .items _, _, _, _, _, _, _, _, _, h, _ => by simp only [chkV] at h; cases h
  | .te _, _, _, _, _, _, _, _, _, h, _ => by simp only [chkV] at h; cases h
  | .tand _ _, _, _, _, _, _, _, _, _, h, _ => by simp only [chkV] at h; cases h
  | .tor _ _, _, _, _, _, _, _, _, _, h, _ => by simp only [chkV] at h; cases h
  | .tnot _, _, _, _, _, _, _, _, _, h, _ => by simp only [chkV] at h; cases h
  | .tyes, _, _, _, _, _, _, _, _, h, _ => by simp only [chkV] at h; cases h
  | .pv _, _, _, _, _, _, _, _, _, h, _ => by simp only [chkV] at h; cases h
  | .wv _, _, _, _, _, _, _, _, _, h, _ => by simp only [chkV] at h; cases h
  | .nil, _, _, _, _, _, _, _, _, h, _ => by simp only [chkV] at h; cases h
theorem chkDT_ok : ∀ (c : C) {b : Bc} {X : Cx} {ks : List (Option Expr)} {vs : List Expr} {pos : Pos}, Gd G Φ b X → chkDT G c b ks vs = true → ∃ trs, PPs X pos ks vs trs ∧ PrsT X (evs Φ c) trs ∧ ks.all (·.isSome) = true
  | .nil, b, X, ks, vs, pos, g, h => by
    simp only [chkDT, Bool.and_eq_true, List.isEmpty_iff] at h
    obtain ⟨rfl, rfl⟩ := h
    exact ⟨[], pps_nil, .nil, rfl⟩
  | .cons k r, b, X, ks, vs, pos, g, h => by
    simp only [chkDT] at h
    split at h
    · simp only [Bool.and_eq_true] at h
      obtain ⟨fk, ek, hk⟩ := chkK_ok k g h.1
      obtain ⟨f, trs, hp, k3, k4⟩ := chkVT_ok r (pos := pos) g h.2 (pe_tup hk)
      refine ⟨_, hp, ?_, by simp [k4]⟩
      rw [evs_cons, ek]
      exact k3
    · cases h
  | .con _, _, _, _, _, _, _, h => by simp only [chkDT] at h; cases h
  | .var _, _, _, _, _, _, _, h => by simp only [chkDT] at h; cases h
  | .take _, _, _, _, _, _, _, h => by simp only [chkDT] at h; cases h
  | .bin _ _ _, _, _, _, _, _, _, h => by simp only [chkDT] at h; cases h
  | .neg _, _, _, _, _, _, _, h => by simp only [chkDT] at h; cases h
  | .cmp _ _ _, _, _, _, _, _, _, h => by simp only [chkDT] at h; cases h
  | .chn _ _ _ _ _, _, _, _, _, _, _, h => by simp only [chkDT] at h; cases h
  | .and_ _ _, _, _, _, _, _, _, h => by simp only [chkDT] at h; cases h
  | .or_ _ _, _, _, _, _, _, _, h => by simp only [chkDT] at h; cases h
  | .not_ _, _, _, _, _, _, _, h => by simp only [chkDT] at h; cases h
  | .ite _ _ _, _, _, _, _, _, _, h => by simp only [chkDT] at h; cases h
  | .tup _, _, _, _, _, _, _, h => by simp only [chkDT] at h; cases h
  | .lst _, _, _, _, _, _, _, h => by simp only [chkDT] at h; cases h
  | .dic _ _, _, _, _, _, _, _, h => by simp only [chkDT] at h; cases h
  | .idx _ _, _, _, _, _, _, _, h => by simp only [chkDT] at h; cases h
  | .sli _ _ _, _, _, _, _, _, _, h => by simp only [chkDT] at h; cases h
  | .rev _, _, _, _, _, _, _, h => by simp only [chkDT] at h; cases h
  | .call _ _, _, _, _, _, _, _, h => by simp only [chkDT] at h; cases h
  | .bi _ _, _, _, _, _, _, _, h => by simp only [chkDT] at h; cases h
  | .mt _ _ _, _, _, _, _, _, _, h => by simp only [chkDT] at h; cases h
  | .isi _ _, _, _, _, _, _, _, h => by simp only [chkDT] at h; cases h
  | .comp _ _ _ _ _, _, _, _, _, _, _, h => by simp only [chkDT] at h; cases h
  | .comp2 _ _ _ _ _ _ _ _ _, _, _, _, _, _, _, h => by simp only [chkDT] at h; cases h
  | .dcomp _ _ _ _ _ _, _, _, _, _, _, _, h => by simp only [chkDT] at h; cases h
  | .rng1 _, _, _, _, _, _, _, h => by simp only [chkDT] at h; cases h
  | .rng2 _ _, _, _, _, _, _, _, h => by simp only [chkDT] at h; cases h
  | .zip2 _ _, _, _, _, _, _, _, h => by simp only [chkDT] at h; cases h
  | .enu _, _, _, _, _, _, _, h => by simp only [chkDT] at h; cases h
  | .items _, _, _, _, _, _, _, h => by simp only [chkDT] at h; cases h
  | .te _, _, _, _, _, _, _, h => by simp only [chkDT] at h; cases h
  | .tand _ _, _, _, _, _, _, _, h => by simp only [chkDT] at h; cases h
  | .tor _ _, _, _, _, _, _, _, h => by simp only [chkDT] at h; cases h
  | .tnot _, _, _, _, _, _, _, h => by simp only [chkDT] at h; cases h
  | .tyes, _, _, _, _, _, _, h => by simp only [chkDT] at h; cases h
  | .pv _, _, _, _, _, _, _, h => by simp only [chkDT] at h; cases h
  | .wv _, _, _, _, _, _, _, h => by simp only [chkDT] at h; cases h
theorem chkVT_ok : ∀ (c : C) {b : Bc} {X : Cx} {ks : List (Option Expr)} {vs : List Expr} {pos : Pos} {ek : Expr} {fk : FA}, Gd G Φ b X → chkVT G c b ks vs = true → PE X ek (tTup (RA X fk)) →
    ∃ (f : FE) (trs : List (TE × TE)), PPs X pos (some ek :: ks) vs ((tTup (RA X fk), RE X f) :: trs) ∧ PrsT X (fCons (fTup fk) (evs Φ c)) ((tTup (RA X fk), RE X f) :: trs) ∧ ks.all (·.isSome) = true
  | .cons v r, b, X, ks, vs, pos, ek, fk, g, h, hk => by
    simp only [chkVT] at h
    split at h
    · simp only [Bool.and_eq_true] at h
      obtain ⟨trs, k1, k2, k3⟩ := chkDT_ok r (pos := pos) g h.2
      exact ⟨ev Φ v, trs, pps_cons hk (chkE_ok v g h.1) k1, .cons k2, k3⟩
    · cases h
  | .con _, _, _, _, _, _, _, _, _, h, _ => by simp only [chkVT] at h; cases h
  | .var _, _, _, _, _, _, _, _, _, h, _ => by simp only [chkVT] at h; cases h
  | .take _, _, _, _, _, _, _, _, _, h, _ => by simp only [chkVT] at h; cases h
  | .bin _ _ _, _, _, _, _, _, _, _, _, h, _ => by simp only [chkVT] at h; cases h
  | .neg _, _, _, _, _, _, _, _, _, h, _ => by simp only [chkVT] at h; cases h
  | .cmp _ _ _, _, _, _, _, _, _, _, _, h, _ => by simp only [chkVT] at h; cases h
  | .chn _ _ _ _ _, _, _, _, _, _, _, _, _, h, _ => by simp only [chkVT] at h; cases h
  | .and_ _ _, _, _, _, _, _, _, _, _, h, _ => by simp only [chkVT] at h; cases h
  | .or_ _ _, _, _, _, _, _, _, _, _, h, _ => by simp only [chkVT] at h; cases h
  | .not_ _, _, _, _, _, _, _, _, _, h, _ => by simp only [chkVT] at h; cases h
  | .ite _ _ _, _, _, _, _, _, _, _, _, h, _ => by simp only [chkVT] at h; cases h
  | .tup _, _, _, _, _, _, _, _, _, h, _ => by simp only [chkVT] at h; cases h
  | .lst _, _, _, _, _, _, _, _, _, h, _ => by simp only [chkVT] at h; cases h
  | .dic _ _, _, _, _, _, _, _, _, _, h, _ => by simp only [chkVT] at h; cases h
  | .idx _ _, _, _, _, _, _, _, _, _, h, _ => by simp only [chkVT] at h; cases h
  | .sli _ _ _, _, _, _, _, _, _, _, _, h, _ => by simp only [chkVT] at h; cases h
  | .rev _, _, _, _, _, _, _, _, _, h, _ => by simp only [chkVT] at h; cases h
  | .call _ _, _, _, _, _, _, _, _, _, h, _ => by simp only [chkVT] at h; cases h
  | .bi _ _, _, _, _, _, _, _, _, _, h, _ => by simp only [chkVT] at h; cases h
  | .mt _ _ _, _, _, _, _, _, _, _, _, h, _ => by simp only [chkVT] at h; cases h
  | .isi _ _, _, _, _, _, _, _, _, _, h, _ => by simp only [chkVT] at h; cases h
  | .comp _ _ _ _ _, _, _, _, _, _, _, _, _, h, _ => by simp only [chkVT] at h; cases h
  | .comp2 _ _ _ _ _ _ _ _ _, _, _, _, _, _, _, _, _, h, _ => by simp only [chkVT] at h; cases h
  | .dcomp _ _ _ _ _ _, _, _, _, _, _, _, _, _, h, _ => by simp only [chkVT] at h; cases h
  | .rng1 _, _, _, _, _, _, _, _, _, h, _ => by simp only [chkVT] at h; cases h
  | .rng2 _ _, _, _, _, _, _, _, _, _, h, _ => by simp only [chkVT] at h; cases h
  | .zip2 _ _, _, _, _, _, _, _, _, _, h, _ => by simp only [chkVT] at h; cases h
  | .enu _, _, _, _, _, _, _, _, _, h, _ => by simp only [chkVT] at h; cases h
  | .items _, _, _, _, _, _, _, _, _, h, _ => by simp only [chkVT] at h; cases h
  | .te _, _, _, _, _, _, _, _, _, h, _ => by simp only [chkVT] at h; cases h
  | .tand _ _, _, _, _, _, _, _, _, _, h, _ => by simp only [chkVT] at h; cases h
  | .tor _ _, _, _, _, _, _, _, _, _, h, _ => by simp only [chkVT] at h; cases h
  | .tnot _, _, _, _, _, _, _, _, _, h, _ => by simp only [chkVT] at h; cases h
  | .tyes, _, _, _, _, _, _, _, _, h, _ => by simp only [chkVT] at h; cases h
  | .pv _, _, _, _, _, _, _, _, _, h, _ => by simp only [chkVT] at h; cases h
  | .wv _, _, _, _, _, _, _, _, _, h, _ => by simp only [chkVT] at h; cases h
  | .nil, _, _, _, _, _, _, _, _, h, _ => by simp only [chkVT] at h; cases h
theorem chkK_ok : ∀ (c : C) {b : Bc} {X : Cx} {es : List Expr}, Gd G Φ b X → chkK G c b es = true → ∃ fk : FA, ev Φ c = fTup fk ∧ PA X es (RA X fk)
  | .tup as, b, X, es, g, h => by
    simp only [chkK] at h
    exact ⟨evs Φ as, rfl, chkEs_ok as g h⟩
  | .con _, _, _, _, _, h => by simp only [chkK] at h; cases h
  | .var _, _, _, _, _, h => by simp only [chkK] at h; cases h
  | .take _, _, _, _, _, h => by simp only [chkK] at h; cases h
  | .bin _ _ _, _, _, _, _, h => by simp only [chkK] at h; cases h
  | .neg _, _, _, _, _, h => by simp only [chkK] at h; cases h
  | .cmp _ _ _, _, _, _, _, h => by simp only [chkK] at h; cases h
  | .chn _ _ _ _ _, _, _, _, _, h => by simp only [chkK] at h; cases h
  | .and_ _ _, _, _, _, _, h => by simp only [chkK] at h; cases h
  | .or_ _ _, _, _, _, _, h => by simp only [chkK] at h; cases h
  | .not_ _, _, _, _, _, h => by simp only [chkK] at h; cases h
  | .ite _ _ _, _, _, _, _, h => by simp only [chkK] at h; cases h
  | .lst _, _, _, _, _, h => by simp only [chkK] at h; cases h
  | .dic _ _, _, _, _, _, h => by simp only [chkK] at h; cases h
  | .idx _ _, _, _, _, _, h => by simp only [chkK] at h; cases h
  | .sli _ _ _, _, _, _, _, h => by simp only [chkK] at h; cases h
  | .rev _, _, _, _, _, h => by simp only [chkK] at h; cases h
  | .call _ _, _, _, _, _, h => by simp only [chkK] at h; cases h
  | .bi _ _, _, _, _, _, h => by simp only [chkK] at h; cases h
  | .mt _ _ _, _, _, _, _, h => by simp only [chkK] at h; cases h
  | .isi _ _, _, _, _, _, h => by simp only [chkK] at h; cases h
  | .comp _ _ _ _ _, _, _, _, _, h => by simp only [chkK] at h; cases h
  | .comp2 _ _ _ _ _ _ _ _ _, _, _, _, _, h => by simp only [chkK] at h; cases h
  | .dcomp _ _ _ _ _ _, _, _, _, _, h => by simp only [chkK] at h; cases h
  | .rng1 _, _, _, _, _, h => by simp only [chkK] at h; cases h
  | .rng2 _ _, _, _, _, _, h => by simp only [chkK] at h; cases h
  | .zip2 _ _, _, _, _, _, h => by simp only [chkK] at h; cases h
  | .enu _, _, _, _, _, h => by simp only [chkK] at h; cases h
  | .items _, _, _, _, _, h => by simp only [chkK] at h; cases h
  | .te _, _, _, _, _, h => by simp only [chkK] at h; cases h
  | .tand _ _, _, _, _, _, h => by simp only [chkK] at h; cases h
  | .tor _ _, _, _, _, _, h => by simp only [chkK] at h; cases h
  | .tnot _, _, _, _, _, h => by simp only [chkK] at h; cases h
  | .tyes, _, _, _, _, h => by simp only [chkK] at h; cases h
  | .pv _, _, _, _, _, h => by simp only [chkK] at h; cases h
  | .wv _, _, _, _, _, h => by simp only [chkK] at h; cases h
  | .nil, _, _, _, _, h => by simp only [chkK] at h; cases h
  | .cons _ _, _, _, _, _, h => by simp only [chkK] at h; cases h
theorem chkT_ok : ∀ (c : C) {b : Bc} {X : Cx} {e : Expr}, Gd G Φ b X → chkT G c b e = true → PTW X e (RT X (tst Φ c))
  | .tand p q, b, X, e, g, h => by
    simp only [chkT] at h
    split at h
    · simp only [Bool.and_eq_true] at h
      exact ptw_and (chkT_ok p g h.1).1 (chkT_ok q g h.2)
    · cases h
  | .tor p q, b, X, e, g, h => by
    simp only [chkT] at h
    split at h
    · simp only [Bool.and_eq_true] at h
      exact ptw_or (chkT_ok p g h.1).1 (chkT_ok q g h.2)
    · cases h
  | .tnot p, b, X, e, g, h => by
    simp only [chkT] at h
    split at h
    · exact ptw_not (chkT_ok p g h).1
    · cases h
  | .te p, b, X, e, g, h => by
    simp only [chkT, Bool.or_eq_true, Bool.and_eq_true] at h
    refine ⟨?_, fun z => ?_⟩
    · rcases h with h | h
      · exact pt_te (isTrue_ok h.1) (chkE_ok p g h.2)
      · exact chkM_ok p g h
    · exfalso
      cases e <;> first | (cases z; done) | skip
      rcases h with h | h
      · cases h.1
      · cases p <;> (simp only [chkM] at h; cases h)
  | .con _, _, _, _, _, h => by simp only [chkT] at h; cases h
  | .var _, _, _, _, _, h => by simp only [chkT] at h; cases h
  | .take _, _, _, _, _, h => by simp only [chkT] at h; cases h
  | .bin _ _ _, _, _, _, _, h => by simp only [chkT] at h; cases h
  | .neg _, _, _, _, _, h => by simp only [chkT] at h; cases h
  | .cmp _ _ _, _, _, _, _, h => by simp only [chkT] at h; cases h
  | .chn _ _ _ _ _, _, _, _, _, h => by simp only [chkT] at h; cases h
  | .and_ _ _, _, _, _, _, h => by simp only [chkT] at h; cases h
  | .or_ _ _, _, _, _, _, h => by simp only [chkT] at h; cases h
  | .not_ _, _, _, _, _, h => by simp only [chkT] at h; cases h
  | .ite _ _ _, _, _, _, _, h => by simp only [chkT] at h; cases h
  | .tup _, _, _, _, _, h => by simp only [chkT] at h; cases h
  | .lst _, _, _, _, _, h => by simp only [chkT] at h; cases h
  | .dic _ _, _, _, _, _, h => by simp only [chkT] at h; cases h
  | .idx _ _, _, _, _, _, h => by simp only [chkT] at h; cases h
  | .sli _ _ _, _, _, _, _, h => by simp only [chkT] at h; cases h
  | .rev _, _, _, _, _, h => by simp only [chkT] at h; cases h
  | .call _ _, _, _, _, _, h => by simp only [chkT] at h; cases h
  | .bi _ _, _, _, _, _, h => by simp only [chkT] at h; cases h
  | .mt _ _ _, _, _, _, _, h => by simp only [chkT] at h; cases h
  | .isi _ _, _, _, _, _, h => by simp only [chkT] at h; cases h
  | .comp _ _ _ _ _, _, _, _, _, h => by simp only [chkT] at h; cases h
  | .comp2 _ _ _ _ _ _ _ _ _, _, _, _, _, h => by simp only [chkT] at h; cases h
  | .dcomp _ _ _ _ _ _, _, _, _, _, h => by simp only [chkT] at h; cases h
  | .rng1 _, _, _, _, _, h => by simp only [chkT] at h; cases h
  | .rng2 _ _, _, _, _, _, h => by simp only [chkT] at h; cases h
  | .zip2 _ _, _, _, _, _, h => by simp only [chkT] at h; cases h
  | .enu _, _, _, _, _, h => by simp only [chkT] at h; cases h
  | .items _, _, _, _, _, h => by simp only [chkT] at h; cases h
  | .tyes, _, _, _, _, h => by simp only [chkT] at h; cases h
  | .pv _, _, _, _, _, h => by simp only [chkT] at h; cases h
  | .wv _, _, _, _, _, h => by simp only [chkT] at h; cases h
  | .nil, _, _, _, _, h => by simp only [chkT] at h; cases h
  | .cons _ _, _, _, _, _, h => by simp only [chkT] at h; cases h
theorem chkM_ok : ∀ (c : C) {b : Bc} {X : Cx} {e : Expr}, Gd G Φ b X → chkM G c b e = true → PT X e (RT X (fTe (ev Φ c)))
  | .cmp o p q, b, X, e, g, h => by
    simp only [chkM] at h
    split at h
    · simp only [Bool.and_eq_true, decide_eq_true_eq, Bool.not_eq_true'] at h
      obtain ⟨⟨⟨rfl, h0⟩, h1⟩, h2⟩ := h
      exact pt_cmp' (by have := g.room; omega) h0 (chkE_ok p g h1) (chkE_ok q g h2)
    · cases h
  | .chn o o' p q r, b, X, e, g, h => by
    simp only [chkM] at h
    split at h
    · simp only [Bool.and_eq_true, decide_eq_true_eq, Bool.not_eq_true'] at h
      obtain ⟨⟨⟨⟨⟨rfl, rfl⟩, h0⟩, h1⟩, h2⟩, h3⟩ := h
      exact pt_chn (by have := g.room; omega) h0 (chkE_ok p g h1) (chkE_ok q g h2) (chkE_ok r g h3)
    · cases h
  | .con _, _, _, _, _, h => by simp only [chkM] at h; cases h
  | .var _, _, _, _, _, h => by simp only [chkM] at h; cases h
  | .take _, _, _, _, _, h => by simp only [chkM] at h; cases h
  | .bin _ _ _, _, _, _, _, h => by simp only [chkM] at h; cases h
  | .neg _, _, _, _, _, h => by simp only [chkM] at h; cases h
  | .and_ _ _, _, _, _, _, h => by simp only [chkM] at h; cases h
  | .or_ _ _, _, _, _, _, h => by simp only [chkM] at h; cases h
  | .not_ _, _, _, _, _, h => by simp only [chkM] at h; cases h
  | .ite _ _ _, _, _, _, _, h => by simp only [chkM] at h; cases h
  | .tup _, _, _, _, _, h => by simp only [chkM] at h; cases h
  | .lst _, _, _, _, _, h => by simp only [chkM] at h; cases h
  | .dic _ _, _, _, _, _, h => by simp only [chkM] at h; cases h
  | .idx _ _, _, _, _, _, h => by simp only [chkM] at h; cases h
  | .sli _ _ _, _, _, _, _, h => by simp only [chkM] at h; cases h
  | .rev _, _, _, _, _, h => by simp only [chkM] at h; cases h
  | .call _ _, _, _, _, _, h => by simp only [chkM] at h; cases h
  | .bi _ _, _, _, _, _, h => by simp only [chkM] at h; cases h
  | .mt _ _ _, _, _, _, _, h => by simp only [chkM] at h; cases h
  | .isi _ _, _, _, _, _, h => by simp only [chkM] at h; cases h
  | .comp _ _ _ _ _, _, _, _, _, h => by simp only [chkM] at h; cases h
  | .comp2 _ _ _ _ _ _ _ _ _, _, _, _, _, h => by simp only [chkM] at h; cases h
  | .dcomp _ _ _ _ _ _, _, _, _, _, h => by simp only [chkM] at h; cases h
  | .rng1 _, _, _, _, _, h => by simp only [chkM] at h; cases h
  | .rng2 _ _, _, _, _, _, h => by simp only [chkM] at h; cases h
  | .zip2 _ _, _, _, _, _, h => by simp only [chkM] at h; cases h
  | .enu _, _, _, _, _, h => by simp only [chkM] at h; cases h
  | .items _, _, _, _, _, h => by simp only [chkM] at h; cases h
  | .te _, _, _, _, _, h => by simp only [chkM] at h; cases h
  | .tand _ _, _, _, _, _, h => by simp only [chkM] at h; cases h
  | .tor _ _, _, _, _, _, h => by simp only [chkM] at h; cases h
  | .tnot _, _, _, _, _, h => by simp only [chkM] at h; cases h
  | .tyes, _, _, _, _, h => by simp only [chkM] at h; cases h
  | .pv _, _, _, _, _, h => by simp only [chkM] at h; cases h
  | .wv _, _, _, _, _, h => by simp only [chkM] at h; cases h
  | .nil, _, _, _, _, h => by simp only [chkM] at h; cases h
  | .cons _ _, _, _, _, _, h => by simp only [chkM] at h; cases h
theorem chkC_ok : ∀ (c : C) {b : Bc} {X : Cx} {es : List Expr}, Gd G Φ b X → chkC G c b es = true → PTs X es (RT X (tst Φ c))
  | .tyes, b, X, es, g, h => by
    simp only [chkC, List.isEmpty_iff] at h
    subst h
    exact pts_yes
  | .te p, b, X, es, g, h => by
    simp only [chkC] at h
    split at h
    · simp only [Bool.or_eq_true, Bool.and_eq_true] at h
      refine pts_of ?_
      rcases h with h | h
      · exact pt_te (isTrue_ok h.1) (chkE_ok p g h.2)
      · exact chkM_ok p g h
    · cases h
  | .tand p q, b, X, es, g, h => by
    simp only [chkC] at h
    split at h
    · simp only [Bool.and_eq_true] at h
      exact pts_of (ptw_and (chkT_ok p g h.1).1 (chkT_ok q g h.2)).1
    · cases h
  | .tor p q, b, X, es, g, h => by
    simp only [chkC] at h
    split at h
    · simp only [Bool.and_eq_true] at h
      exact pts_of (ptw_or (chkT_ok p g h.1).1 (chkT_ok q g h.2)).1
    · cases h
  | .tnot p, b, X, es, g, h => by
    simp only [chkC] at h
    split at h
    · exact pts_of (ptw_not (chkT_ok p g h).1).1
    · cases h
  | .con _, _, _, _, _, h => by simp only [chkC] at h; cases h
  | .var _, _, _, _, _, h => by simp only [chkC] at h; cases h
  | .take _, _, _, _, _, h => by simp only [chkC] at h; cases h
  | .bin _ _ _, _, _, _, _, h => by simp only [chkC] at h; cases h
  | .neg _, _, _, _, _, h => by simp only [chkC] at h; cases h
  | .cmp _ _ _, _, _, _, _, h => by simp only [chkC] at h; cases h
  | .chn _ _ _ _ _, _, _, _, _, h => by simp only [chkC] at h; cases h
  | .and_ _ _, _, _, _, _, h => by simp only [chkC] at h; cases h
  | .or_ _ _, _, _, _, _, h => by simp only [chkC] at h; cases h
  | .not_ _, _, _, _, _, h => by simp only [chkC] at h; cases h
  | .ite _ _ _, _, _, _, _, h => by simp only [chkC] at h; cases h
  | .tup _, _, _, _, _, h => by simp only [chkC] at h; cases h
  | .lst _, _, _, _, _, h => by simp only [chkC] at h; cases h
  | .dic _ _, _, _, _, _, h => by simp only [chkC] at h; cases h
  | .idx _ _, _, _, _, _, h => by simp only [chkC] at h; cases h
  | .sli _ _ _, _, _, _, _, h => by simp only [chkC] at h; cases h
  | .rev _, _, _, _, _, h => by simp only [chkC] at h; cases h
  | .call _ _, _, _, _, _, h => by simp only [chkC] at h; cases h
  | .bi _ _, _, _, _, _, h => by simp only [chkC] at h; cases h
  | .mt _ _ _, _, _, _, _, h => by simp only [chkC] at h; cases h
  | .isi _ _, _, _, _, _, h => by simp only [chkC] at h; cases h
  | .comp _ _ _ _ _, _, _, _, _, h => by simp only [chkC] at h; cases h
  | .comp2 _ _ _ _ _ _ _ _ _, _, _, _, _, h => by simp only [chkC] at h; cases h
  | .dcomp _ _ _ _ _ _, _, _, _, _, h => by simp only [chkC] at h; cases h
  | .rng1 _, _, _, _, _, h => by simp only [chkC] at h; cases h
  | .rng2 _ _, _, _, _, _, h => by simp only [chkC] at h; cases h
  | .zip2 _ _, _, _, _, _, h => by simp only [chkC] at h; cases h
  | .enu _, _, _, _, _, h => by simp only [chkC] at h; cases h
  | .items _, _, _, _, _, h => by simp only [chkC] at h; cases h
  | .pv _, _, _, _, _, h => by simp only [chkC] at h; cases h
  | .wv _, _, _, _, _, h => by simp only [chkC] at h; cases h
  | .nil, _, _, _, _, h => by simp only [chkC] at h; cases h
  | .cons _ _, _, _, _, _, h => by simp only [chkC] at h; cases h
theorem chkP_ok : ∀ (c : C) {b : Bc} {X : Cx} {o : Option Expr}, Gd G Φ b X → chkP G c b o = true → PO X o (RO X (part Φ c))
  | .nil, b, X, o, g, h => by
    simp only [chkP, Option.isNone_iff_eq_none] at h
    subst h
    exact po_n
  | .pv p, b, X, o, g, h => by
    simp only [chkP] at h
    split at h
    · exact po_v (chkE_ok p g h)
    · cases h
  | .con _, _, _, _, _, h => by simp only [chkP] at h; cases h
  | .var _, _, _, _, _, h => by simp only [chkP] at h; cases h
  | .take _, _, _, _, _, h => by simp only [chkP] at h; cases h
  | .bin _ _ _, _, _, _, _, h => by simp only [chkP] at h; cases h
  | .neg _, _, _, _, _, h => by simp only [chkP] at h; cases h
  | .cmp _ _ _, _, _, _, _, h => by simp only [chkP] at h; cases h
  | .chn _ _ _ _ _, _, _, _, _, h => by simp only [chkP] at h; cases h
  | .and_ _ _, _, _, _, _, h => by simp only [chkP] at h; cases h
  | .or_ _ _, _, _, _, _, h => by simp only [chkP] at h; cases h
  | .not_ _, _, _, _, _, h => by simp only [chkP] at h; cases h
  | .ite _ _ _, _, _, _, _, h => by simp only [chkP] at h; cases h
  | .tup _, _, _, _, _, h => by simp only [chkP] at h; cases h
  | .lst _, _, _, _, _, h => by simp only [chkP] at h; cases h
  | .dic _ _, _, _, _, _, h => by simp only [chkP] at h; cases h
  | .idx _ _, _, _, _, _, h => by simp only [chkP] at h; cases h
  | .sli _ _ _, _, _, _, _, h => by simp only [chkP] at h; cases h
  | .rev _, _, _, _, _, h => by simp only [chkP] at h; cases h
  | .call _ _, _, _, _, _, h => by simp only [chkP] at h; cases h
  | .bi _ _, _, _, _, _, h => by simp only [chkP] at h; cases h
  | .mt _ _ _, _, _, _, _, h => by simp only [chkP] at h; cases h
  | .isi _ _, _, _, _, _, h => by simp only [chkP] at h; cases h
  | .comp _ _ _ _ _, _, _, _, _, h => by simp only [chkP] at h; cases h
  | .comp2 _ _ _ _ _ _ _ _ _, _, _, _, _, h => by simp only [chkP] at h; cases h
  | .dcomp _ _ _ _ _ _, _, _, _, _, h => by simp only [chkP] at h; cases h
  | .rng1 _, _, _, _, _, h => by simp only [chkP] at h; cases h
  | .rng2 _ _, _, _, _, _, h => by simp only [chkP] at h; cases h
  | .zip2 _ _, _, _, _, _, h => by simp only [chkP] at h; cases h
  | .enu _, _, _, _, _, h => by simp only [chkP] at h; cases h
  | .items _, _, _, _, _, h => by simp only [chkP] at h; cases h
  | .te _, _, _, _, _, h => by simp only [chkP] at h; cases h
  | .tand _ _, _, _, _, _, h => by simp only [chkP] at h; cases h
  | .tor _ _, _, _, _, _, h => by simp only [chkP] at h; cases h
  | .tnot _, _, _, _, _, h => by simp only [chkP] at h; cases h
  | .tyes, _, _, _, _, h => by simp only [chkP] at h; cases h
  | .wv _, _, _, _, _, h => by simp only [chkP] at h; cases h
  | .cons _ _, _, _, _, _, h => by simp only [chkP] at h; cases h
theorem chkW_ok : ∀ (c : C) {b : Bc} {X : Cx} {t : Tg} {tg e : Expr}, Gd G Φ b X → chkW G c b t tg e = true → PI X tg e (wiOf Φ X c)
  | .rng1 p, b, X, t, tg, e, g, h => by
    simp only [chkW] at h
    split at h
    · simp only [Bool.and_eq_true, decide_eq_true_eq] at h
      obtain ⟨⟨⟨h1, rfl⟩, h3⟩, h4⟩ := h
      exact pi_range1 (glB_ok g h1).1 (g.blt _ (by decide +kernel)) (pa_cons (chkE_ok p g h4) pa_nil (star_ok h3)) (star_ok h3)
    · cases h
  | .rng2 p q, b, X, t, tg, e, g, h => by
    simp only [chkW] at h
    split at h
    · simp only [Bool.and_eq_true, decide_eq_true_eq] at h
      obtain ⟨⟨⟨⟨⟨h1, rfl⟩, h3⟩, h4⟩, h5⟩, h6⟩ := h
      exact pi_range2 (glB_ok g h1).1 (g.blt _ (by decide +kernel)) (pa_cons (chkE_ok p g h5) (pa_cons (chkE_ok q g h6) pa_nil (star_ok h4)) (star_ok h3)) (by rw [star_ok h3, star_ok h4]; rfl) (by rw [star_ok h4]; rfl)
    · cases h
  | .zip2 p q, b, X, t, tg, e, g, h => by
    simp only [chkW, Bool.and_eq_true] at h
    obtain ⟨_, h⟩ := h
    split at h
    · simp only [Bool.and_eq_true, decide_eq_true_eq] at h
      obtain ⟨⟨⟨⟨⟨h1, rfl⟩, h3⟩, h4⟩, h5⟩, h6⟩ := h
      exact pi_zipA (glB_ok g h1).1 (g.blt _ (by decide +kernel)) (pa_cons (chkE_ok p g h5) (pa_cons (chkE_ok q g h6) pa_nil (star_ok h4)) (star_ok h3)) (star_ok h3) (by rw [star_ok h4]; rfl)
    · cases h
  | .enu p, b, X, t, tg, e, g, h => by
    simp only [chkW, Bool.and_eq_true] at h
    obtain ⟨_, h⟩ := h
    split at h
    · simp only [Bool.and_eq_true, decide_eq_true_eq] at h
      obtain ⟨⟨⟨h1, rfl⟩, h3⟩, h4⟩ := h
      exact pi_enum (glB_ok g h1).1 (g.blt _ (by decide +kernel)) (pa_cons (chkE_ok p g h4) pa_nil (star_ok h3)) (star_ok h3)
    · cases h
  | .wv p, b, X, t, tg, e, g, h => by
    simp only [chkW] at h
    exact pi_any (chkE_ok p g h)
  | .con _, _, _, _, _, _, _, h => by simp only [chkW] at h; cases h
  | .var _, _, _, _, _, _, _, h => by simp only [chkW] at h; cases h
  | .take _, _, _, _, _, _, _, h => by simp only [chkW] at h; cases h
  | .bin _ _ _, _, _, _, _, _, _, h => by simp only [chkW] at h; cases h
  | .neg _, _, _, _, _, _, _, h => by simp only [chkW] at h; cases h
  | .cmp _ _ _, _, _, _, _, _, _, h => by simp only [chkW] at h; cases h
  | .chn _ _ _ _ _, _, _, _, _, _, _, h => by simp only [chkW] at h; cases h
  | .and_ _ _, _, _, _, _, _, _, h => by simp only [chkW] at h; cases h
  | .or_ _ _, _, _, _, _, _, _, h => by simp only [chkW] at h; cases h
  | .not_ _, _, _, _, _, _, _, h => by simp only [chkW] at h; cases h
  | .ite _ _ _, _, _, _, _, _, _, h => by simp only [chkW] at h; cases h
  | .tup _, _, _, _, _, _, _, h => by simp only [chkW] at h; cases h
  | .lst _, _, _, _, _, _, _, h => by simp only [chkW] at h; cases h
  | .dic _ _, _, _, _, _, _, _, h => by simp only [chkW] at h; cases h
  | .idx _ _, _, _, _, _, _, _, h => by simp only [chkW] at h; cases h
  | .sli _ _ _, _, _, _, _, _, _, h => by simp only [chkW] at h; cases h
  | .rev _, _, _, _, _, _, _, h => by simp only [chkW] at h; cases h
  | .call _ _, _, _, _, _, _, _, h => by simp only [chkW] at h; cases h
  | .bi _ _, _, _, _, _, _, _, h => by simp only [chkW] at h; cases h
  | .mt _ _ _, _, _, _, _, _, _, h => by simp only [chkW] at h; cases h
  | .isi _ _, _, _, _, _, _, _, h => by simp only [chkW] at h; cases h
  | .comp _ _ _ _ _, _, _, _, _, _, _, h => by simp only [chkW] at h; cases h
  | .comp2 _ _ _ _ _ _ _ _ _, _, _, _, _, _, _, h => by simp only [chkW] at h; cases h
  | .dcomp _ _ _ _ _ _, _, _, _, _, _, _, h => by simp only [chkW] at h; cases h
  | .items _, _, _, _, _, _, _, h => by simp only [chkW] at h; cases h
  | .te _, _, _, _, _, _, _, h => by simp only [chkW] at h; cases h
  | .tand _ _, _, _, _, _, _, _, h => by simp only [chkW] at h; cases h
  | .tor _ _, _, _, _, _, _, _, h => by simp only [chkW] at h; cases h
  | .tnot _, _, _, _, _, _, _, h => by simp only [chkW] at h; cases h
  | .tyes, _, _, _, _, _, _, h => by simp only [chkW] at h; cases h
  | .pv _, _, _, _, _, _, _, h => by simp only [chkW] at h; cases h
  | .nil, _, _, _, _, _, _, h => by simp only [chkW] at h; cases h
  | .cons _ _, _, _, _, _, _, _, h => by simp only [chkW] at h; cases h
end
end
end Mini
set_option Elab.async false
set_option linter.all false
set_option autoImplicit false
set_option maxRecDepth 100000
set_option maxHeartbeats 4000000
/- Mini: the check of statements. Own work. -/
namespace Mini
open PySem PySem.Spec PyProof.Rows L2 RZ

def nmLoc (sc : Scope) (line : Nat) : Expr → Option PySem.Str
  | .Name id pos => if sc.names.lookup id == some .local && pos.line == line then some id else none
  | _ => none
def tLine (ts : List Expr) : Nat := (ts.head?.map (·.pos.line)).getD 0
/-- no stores are swapped -/
def swNone (sc : Scope) (ts vs : List Expr) : Bool := !(ts.length == 2 || ts.length == 3) || vs.length != ts.length || (ts.filterMap (nmLoc sc (tLine ts))).length != ts.length
def swSome (sc : Scope) (ts vs : List Expr) (ns : List PySem.Str) : Bool := (ts.length == 2 || ts.length == 3) && vs.length == ts.length && decide (sc.kind = .function) && vs.all notStar && decide (ts.filterMap (nmLoc sc (tLine ts)) = ns) && decide (ns.length = ts.length) && decide (ns.eraseDups.length = ns.length) &&
  !(vs.all (foldedForSure 8)) && !(vs.all (constantsAlone 8))
theorem nmLoc_eq (env : PySem.Env) (line : Nat) : (fun (e : Expr) => match e with
    | .Name id pos => if env.kindOf id == some .local && pos.line == line then some id else none
    | _ => none) = nmLoc env.scope line := by
  funext e
  cases e <;> rfl
theorem swNone_ok {env : PySem.Env} {ts vs : List Expr} {k k2 : Nat} {p p2 : Pos} (h : swNone env.scope ts vs = true) : swappedStores [.Tuple ts k p] (.Tuple vs k2 p2) env = pure none := by
  unfold swappedStores
  have e := nmLoc_eq env (tLine ts)
  unfold tLine at e
  simp only
  split
  · rfl
  · rename_i h1
    split
    · rfl
    · split
      · rfl
      · rename_i h3
        exfalso
        unfold swNone tLine at h
        rw [← e] at h
        simp only [Bool.or_eq_true, Bool.not_eq_true', bne_iff_ne, ne_eq, not_or, Bool.not_eq_true] at h h1 h3
        rcases h with (h | h) | h
        · exact h1.1.1 h
        · exact h1.1.2 h
        · exact h3.1 h
theorem swSome_ok {env : PySem.Env} {ts vs : List Expr} {ns : List PySem.Str} {k k2 : Nat} {p p2 : Pos} (h : swSome env.scope ts vs ns = true) : swappedStores [.Tuple ts k p] (.Tuple vs k2 p2) env = pure (some ns) := by
  unfold swSome at h
  simp only [Bool.and_eq_true, decide_eq_true_eq, Bool.not_eq_true', beq_iff_eq] at h
  obtain ⟨⟨⟨⟨⟨⟨⟨⟨h1, h2⟩, h3⟩, h4⟩, h5⟩, h6⟩, h7⟩, h8⟩, h9⟩ := h
  have e := nmLoc_eq env (tLine ts)
  unfold tLine at e h5
  unfold swappedStores
  simp only
  have hk : env.blockKind = .function := by
    unfold Env.blockKind
    rw [h3]
    rfl
  have a1 : (!(ts.length == 2 || ts.length == 3) || vs.length != ts.length || env.blockKind != .function) = false := by
    rw [h1, hk, h2]
    simp
  have h5' := h5
  rw [← e] at h5'
  split
  · rename_i z
    rw [a1] at z
    cases z
  · split
    · rename_i z
      exfalso
      rw [List.any_eq_true] at z
      obtain ⟨x, hx, hz⟩ := z
      rw [List.all_eq_true] at h4
      have := h4 x hx
      cases x <;> first | (cases hz; done) | cases this
    · split
      · rename_i z
        exfalso
        have z' : ((ts.filterMap (nmLoc env.scope ((ts.head?.map (·.pos.line)).getD 0))).length != ts.length || (ts.filterMap (nmLoc env.scope ((ts.head?.map (·.pos.line)).getD 0))).eraseDups.length != (ts.filterMap (nmLoc env.scope ((ts.head?.map (·.pos.line)).getD 0))).length) = true := by
          rw [← e]
          exact z
        rw [h5, h6, h7, h6] at z'
        simp at z'
      · split
        · rename_i z
          rw [h8] at z
          cases z
        · split
          · rename_i z
            rw [h9] at z
            cases z
          · exact congrArg (fun n => (pure (some n) : Sem (Option (List PySem.Str)))) h5'
end Mini
set_option Elab.async false
set_option linter.all false
set_option autoImplicit false
set_option maxRecDepth 100000
set_option maxHeartbeats 4000000
/- Mini: statements by the named steps; the check of statements is sound. Own work. -/
namespace Mini
open PySem PySem.Spec PyProof.Rows L2 RZ

section
variable (Φ : Calls) (base : Nat)
/-- a target as the steps see it -/
def lf : L → LF
  | .nm m i => .nm m i
  | .sb o i => .sb (ev Φ o) (ev Φ i)
def okL : L → Bool
  | .nm _ _ => true
  | .sb _ i => !isTupC i
theorem doSub_eq (o i : C) (hi : isTupC i = false) : (fun v env h => doSub Φ o i v env h) = fDoSub false (ev Φ o) (ev Φ i) := by
  funext v env h
  unfold doSub fDoSub
  rw [hi]
  all_goals rfl
theorem doPar_eq : ∀ (ls : List L) (rs : List RV) (env : Env) (h : Heap), ls.all okL = true → doPar Φ ls rs env h = fDoPar (ls.map (lf Φ)) rs env h
  | [], [], env, h, _ => rfl
  | [], _ :: _, env, h, _ => rfl
  | .nm true i :: ls, [], env, h, _ => rfl
  | .nm false i :: ls, [], env, h, _ => rfl
  | .sb o i :: ls, [], env, h, _ => rfl
  | .nm true i :: ls, .ref n :: rs, env, h, k => doPar_eq ls rs _ h (by simp only [List.all_cons, Bool.and_eq_true] at k; exact k.2)
  | .nm true i :: ls, .d n :: rs, env, h, k => rfl
  | .nm true i :: ls, .nw n :: rs, env, h, k => rfl
  | .nm false i :: ls, .d v :: rs, env, h, k => doPar_eq ls rs _ h (by simp only [List.all_cons, Bool.and_eq_true] at k; exact k.2)
  | .nm false i :: ls, .ref v :: rs, env, h, k => rfl
  | .nm false i :: ls, .nw v :: rs, env, h, k => rfl
  | .sb o i :: ls, .d v :: rs, env, h, k => by
    simp only [List.all_cons, Bool.and_eq_true, okL, Bool.not_eq_true'] at k
    show (doSub Φ o i v env h >>= fun h1 => doPar Φ ls rs env h1) = (fDoSub false (ev Φ o) (ev Φ i) v env h >>= fun h1 => fDoPar (ls.map (lf Φ)) rs env h1)
    have e : (fun h1 => doPar Φ ls rs env h1) = fun h1 => fDoPar (ls.map (lf Φ)) rs env h1 := funext fun h1 => doPar_eq ls rs env h1 k.2
    rw [e, show doSub Φ o i v env h = fDoSub false (ev Φ o) (ev Φ i) v env h from congrFun (congrFun (congrFun (doSub_eq Φ o i k.1) v) env) h]
  | .sb o i :: ls, .ref v :: rs, env, h, k => rfl
  | .sb o i :: ls, .nw v :: rs, env, h, k => rfl
/-- the values at the right -/
def fEvw : List L → C → FA
  | [], .nil => fWnil
  | l :: ls, .cons a r => fWcons (isMut l) (ev Φ a) (fEvw ls r)
  | _, _ => fun _ _ => .stuck
theorem evw_eq : ∀ (ls : List L) (as : C), evw Φ ls as = fEvw Φ ls as
  | [], as => by cases as <;> rfl
  | l :: ls, as => by
    cases as <;> try rfl
    rename_i a r
    funext env h
    show (ev Φ a env h >>= _) = (ev Φ a env h >>= _)
    rw [evw_eq ls r]
    all_goals rfl
theorem ex_par (ls : List L) (as : C) (h : ls.all okL = true) : exS Φ base (.par ls as) = fPar (fEvw Φ ls as) (ls.map (lf Φ)) := by
  funext env hh
  show (evw Φ ls as env hh >>= _) = (fEvw Φ ls as env hh >>= _)
  rw [evw_eq]
  congr 1
  funext p
  obtain ⟨xs, h1⟩ := p
  show (doPar Φ ls xs env h1 >>= _) = (fDoPar (ls.map (lf Φ)) xs env h1 >>= _)
  rw [doPar_eq Φ ls xs env h1 h]
theorem ex_skip : exS Φ base .skip = fSkip := rfl
theorem ex_seq (p q : S) : exS Φ base (.seq p q) = fSeq (exS Φ base p) (exS Φ base q) := rfl
theorem ex_asg (m : Bool) (i : Nat) (c : C) : exS Φ base (.asg m (.nm i) c) = fAsg base m i (ev Φ c) := rfl
theorem ex_tgt (m : Bool) (ts : Tg) (c : C) : exS Φ base (.asg m (.tp ts) c) = fTgt (.tp ts) (ev Φ c) := rfl
theorem ex_sub (o i c : C) (h : isTupC i = false) : exS Φ base (.sub o i c) = fSub false (ev Φ o) (ev Φ i) (ev Φ c) := by
  funext env hh
  show (ev Φ c env hh >>= _) = (ev Φ c env hh >>= _)
  congr 1
  funext p
  obtain ⟨z, h0⟩ := p
  have e := doSub_eq Φ o i h
  show (match nrm z with
    | .d v => doSub Φ o i v env h0 >>= fun h1 => Out.ok (Fl.nx, env, h1)
    | _ => (Out.stuck : Out SR)) = (match nrm z with
    | .d v => fDoSub false (ev Φ o) (ev Φ i) v env h0 >>= fun h1 => Out.ok (Fl.nx, env, h1)
    | _ => (Out.stuck : Out SR))
  rw [← e]
theorem doSubT_eq (o as : C) : (fun v env h => doSub Φ o (.tup as) v env h) = fDoSub true (ev Φ o) (fTup (evs Φ as)) := rfl
theorem ex_subT (o as c : C) : exS Φ base (.sub o (.tup as) c) = fSub true (ev Φ o) (fTup (evs Φ as)) (ev Φ c) := rfl
theorem ex_aug (i : Nat) (o : Bin) (c : C) : exS Φ base (.aug i o c) = fAug i o (ev Φ c) := rfl
theorem ex_exp (c : C) : exS Φ base (.exp c) = fExp (ev Φ c) := rfl
theorem ex_ret (c : C) : exS Φ base (.ret c) = fRet (ev Φ c) := rfl
theorem ex_retn : exS Φ base .retn = fRetn := rfl
theorem ex_ite (t : C) (p q : S) : exS Φ base (.ite t p q) = fIf (tst Φ t) (exS Φ base p) (exS Φ base q) := rfl
theorem ex_whl (t : C) (p : S) : exS Φ base (.whl t p) = fWhl (tst Φ t) (exS Φ base p) := rfl
theorem ex_for (t : Tg) (it : C) (p : S) : exS Φ base (.for_ t it p) = fFor t (walk Φ it) (exS Φ base p) := rfl
theorem ex_brk : exS Φ base .brk = fBrk := rfl
theorem ex_cnt : exS Φ base .cnt = fCnt := rfl
end

section
variable (G : Glob)
def isCalled : Expr → Bool
  | .Call _ _ _ _ => true
  | .Name _ _ => true
  | .Subscript _ _ _ => true
  | _ => false
def isComp : Expr → Bool
  | .ListComp _ _ _ _ => true
  | .SetComp _ _ _ _ => true
  | .DictComp _ _ _ _ _ => true
  | _ => false
def chkL : L → Bc → Expr → Bool
  | .nm _ i, b, e => (match e with
    | .Name x _ => locB b i x
    | _ => false)
  | .sb o i, b, e => (match e with
    | .Subscript eo ei _ => !isTupC i && plainIx ei && chkE G o b eo && chkE G i b ei
    | _ => false)
def chkLs : List L → Bc → List Expr → Bool
  | [], _, es => es.isEmpty
  | l :: ls, b, es => (match es with
    | e :: es => chkL G l b e && chkLs ls b es
    | [] => false)
def chkWs : List L → C → Bc → List Expr → Bool
  | [], .nil, _, es => es.isEmpty
  | _ :: ls, .cons a r, b, es => (match es with
    | e :: es => notStar e && chkE G a b e && chkWs ls r b es
    | [] => false)
  | _, _, _, _ => false
/-- two, three names set at once -/
def chkSw : List L → Bc → List Expr → List Expr → Bool
  | [.nm _ i, .nm _ j], b, ts, vs => (match ts, vs with
    | [.Name x _, .Name y _], [_, _] => decide (i ≠ j) && decide (b.N[i]? = some x) && decide (b.N[j]? = some y) && decide (b.sc.names.lookup x = some .local) && decide (b.sc.names.lookup y = some .local) && swSome b.sc ts vs [x, y]
    | _, _ => false)
  | [.nm _ i, .nm _ j, .nm _ l], b, ts, vs => (match ts, vs with
    | [.Name x _, .Name y _, .Name z _], [_, _, _] => decide (i ≠ j) && decide (i ≠ l) && decide (j ≠ l) && decide (b.N[i]? = some x) && decide (b.N[j]? = some y) && decide (b.N[l]? = some z) && decide (b.sc.names.lookup x = some .local) && decide (b.sc.names.lookup y = some .local) &&
      decide (b.sc.names.lookup z = some .local) && swSome b.sc ts vs [x, y, z]
    | _, _ => false)
  | _, _, _, _ => false
def chkS : S → Bc → List Stmt → Bool
  | .skip, _, sts => (match sts with
    | [] => true
    | [.Pass _] => true
    | _ => false)
  | .seq p q, b, sts => (match sts with
    | st :: rest => !rest.isEmpty && chkS p b [st] && chkS q b rest
    | [] => false)
  | .asg m t c, b, sts => (match t, sts with
    | .nm i, [.Assign [.Name x px] ve pos] => locB b i x && chkE G c b ve && (!isComp ve || (match ve with
      | .ListComp _ gens scope cpos => decide (b.sc.kind = .function) && decide (b.sc.names.lookup x = some .local) && (px.line == cpos.line) && !(scope.names.any fun (n, k) => n == x && (k == .local || k == .cell)) && decide (gens.length ≤ 2)
      | _ => false))
    | .tp ts, [.Assign [.Tuple es k p] ve pos] => chkTg (.tp ts) b (.Tuple es k p) && isCalled ve && chkE G c b ve
    | _, _ => false)
  | .par ls as, b, sts => (match sts with
    | [.Assign [.Tuple ts _ _] (.Tuple vs _ _) _] => chkWs G ls as b vs && (chkSw ls b ts vs || (ls.all okL && decide (ls.length ≤ 64) && chkLs G ls b ts && swNone b.sc ts vs))
    | _ => false)
  | .sub o i c, b, sts => (match sts with
    | [.Assign [.Subscript eo ei _] ve _] => plainIx ei && chkE G o b eo && (if isTupC i then (match ei with
      | .Tuple es _ _ => chkK G i b es
      | _ => false) else chkE G i b ei) && chkE G c b ve
    | _ => false)
  | .aug i o c, b, sts => (match sts with
    | [.AugAssign (.Name x _) op ve _] => locB b i x && decide (op = opOf o) && chkE G c b ve
    | _ => false)
  | .exp c, b, sts => (match sts with
    | [.Expr ve _] => isCalled ve && chkE G c b ve
    | _ => false)
  | .ret c, b, sts => (match sts with
    | [.Return (some ve) _] => chkE G c b ve
    | _ => false)
  | .retn, _, sts => (match sts with
    | [.Return none _] => true
    | _ => false)
  | .ite t p q, b, sts => (match sts with
    | [.If et ep eq _] => chkT G t b et && chkS p b ep && chkS q b eq
    | _ => false)
  | .whl t p, b, sts => (match sts with
    | [.While et ep [] _] => chkT G t b et && chkS p b ep
    | _ => false)
  | .for_ t it p, b, sts => (match sts with
    | [.For tg iter ep [] _] => !isSetE iter && chkTg t b tg && chkW G it b t tg iter && chkS p b ep
    | _ => false)
  | .brk, _, sts => (match sts with
    | [.Break _] => true
    | _ => false)
  | .cnt, _, sts => (match sts with
    | [.Continue _] => true
    | _ => false)
  | .rse _, _, sts => (match sts with
    | [.Raise _ _ _] => true
    | _ => false)
end
end Mini
set_option Elab.async false
set_option linter.all false
set_option autoImplicit false
set_option maxRecDepth 100000
set_option maxHeartbeats 4000000
/- Mini: the check of statements is sound. Own work. -/
namespace Mini
open PySem PySem.Spec PyProof.Rows L2 RZ

section
variable {G : Glob} {Φ : Calls} {base : Nat} {b : Bc} {X : Cx}
/-- a list of one statement, as one -/
def PS1 (X : Cx) (sts : List Stmt) (t : TS) : Prop := PSs X sts t ∧ ∀ st, sts = [st] → PS X st t
theorem ps1 {st : Stmt} {t : TS} (h : PS X st t) : PS1 X [st] t := ⟨pss_one h, fun st' e => by cases e; exact h⟩
theorem sw_plain {e : Expr} (h : isComp e = false) (t : Option Expr) (l : Nat) (env : PySem.Env) : swapsWith e t l env = pure false := by
  cases e <;> first | rfl | cases h
theorem called_comp {e : Expr} (h : isCalled e = true) : isComp e = false := by
  cases e <;> first | rfl | cases h
theorem stores_called {e : Expr} {t : Expr} {env : PySem.Env} (h : isCalled e = true) : swappedStores [t] e env = pure none := by
  cases e <;> first | (cases h; done) | (cases t <;> rfl)
theorem stores_sub {e o i : Expr} {p : Pos} {env : PySem.Env} : swappedStores [.Subscript o i p] e env = pure none := by
  cases e <;> rfl
theorem sw_sole {e t : Expr} {l : Nat} {env : PySem.Env} (h : isComp e = false) : swapsWithSole [t] e l env = pure false := sw_plain h (some t) l env
theorem sw_sub {e o i : Expr} {p : Pos} {l : Nat} {env : PySem.Env} : swapsWithSole [.Subscript o i p] e l env = pure false := by
  cases e <;> rfl
theorem asg_sub {o i : Expr} {p : Pos} {env : PySem.Env} (h : plainIx i = true) (v : Value) : assign (.Subscript o i p) env v = (do
    let ov ← holding [v] (eval o env)
    let iv ← holding [v, ov] (eval i env)
    standAt p
    holding [v, ov, iv] (setItem ov iv v)
    release [v, ov, iv] []) := by
  cases i <;> first | rfl | cases h
theorem chkWs_ok (g : Gd G Φ b X) : ∀ {ls : List L} {as : C} {es : List Expr}, chkWs G ls as b es = true → PA X es (RW X (fEvw Φ ls as)) ∧ ∀ e ∈ es, notStar e = true
  | [], as, es, h => by
    cases as <;> simp only [chkWs] at h <;> try (cases h; done)
    rw [List.isEmpty_iff] at h
    subst h
    exact ⟨pa_wn, fun _ z => absurd z (by simp)⟩
  | l :: ls, as, es, h => by
    cases as <;> simp only [chkWs] at h <;> try (cases h; done)
    cases es with
    | nil => cases h
    | cons e es =>
      simp only [Bool.and_eq_true] at h
      obtain ⟨k1, k2⟩ := chkWs_ok g h.2
      refine ⟨pa_wc (chkE_ok _ g h.1.2) k1 (star_ok h.1.1), fun x hx => ?_⟩
      rcases List.mem_cons.mp hx with rfl | hx
      · exact h.1.1
      · exact k2 x hx
theorem chkL_ok (g : Gd G Φ b X) {l : L} {e : Expr} (h : chkL G l b e = true) : PG X e (gL X (lf Φ l)) ∧ ∀ es : List Expr, assignEach (e :: es) X.env = (false, assign e X.env) :: assignEach es X.env := by
  cases l with
  | nm m i =>
    simp only [chkL] at h
    split at h
    · obtain ⟨h1, h2, h3⟩ := locB_ok g h
      exact ⟨pg_name (by rw [g.names]; exact g.nd) h1 h2 h3, fun _ => rfl⟩
    · cases h
  | sb o i =>
    simp only [chkL] at h
    split at h
    · simp only [Bool.and_eq_true] at h
      exact ⟨pg_sub (chkE_ok o g h.1.2) (chkE_ok i g h.2) (set_st (by have := g.room; omega)) (asg_sub h.1.1.2), fun _ => rfl⟩
    · cases h
theorem chkLs_ok (g : Gd G Φ b X) : ∀ {ls : List L} {es : List Expr}, chkLs G ls b es = true → PGs X es (gLs X (ls.map (lf Φ))) ∧ (assignEach es X.env).length = ls.length ∧ (assignEach es X.env).findIdx? (·.1) = none
  | [], es, h => by
    simp only [chkLs, List.isEmpty_iff] at h
    subst h
    exact ⟨pgs_nil, rfl, rfl⟩
  | l :: ls, es, h => by
    cases es with
    | nil => cases h
    | cons e es =>
      simp only [chkLs, Bool.and_eq_true] at h
      obtain ⟨k1, k2⟩ := chkL_ok g h.1
      obtain ⟨k3, k4, k5⟩ := chkLs_ok g h.2
      refine ⟨pgs_cons k1 k3 (by rw [k2]; rfl), by rw [k2, List.length_cons, k4]; rfl, ?_⟩
      rw [k2, List.findIdx?_cons]
      simp [k5]
theorem chkSw_okL {ls : List L} {ts vs : List Expr} (h : chkSw ls b ts vs = true) : ls.all okL = true := by
  unfold chkSw at h
  split at h <;> first | rfl | cases h
theorem chkSw_ok (g : Gd G Φ b X) {ls : List L} {as : C} {ts vs : List Expr} {k k2 : Nat} {p p2 pos : Pos} (h : chkSw ls b ts vs = true) (ha : PA X vs (RW X (fEvw Φ ls as))) : PS X (.Assign [.Tuple ts k p] (.Tuple vs k2 p2) pos) (RS X base (fPar (fEvw Φ ls as) (ls.map (lf Φ)))) := by
  have nd : X.N.Nodup := by rw [g.names]; exact g.nd
  unfold chkSw at h
  split at h
  · split at h
    · simp only [Bool.and_eq_true, decide_eq_true_eq] at h
      obtain ⟨⟨⟨⟨⟨h1, h2⟩, h3⟩, h4⟩, h5⟩, h6⟩ := h
      exact PS.mono (ps_par g.calm nd (by rw [g.names]; exact h2) (by rw [g.names]; exact h3) h1 (by rw [g.scope]; exact h4) (by rw [g.scope]; exact h5) ha (swSome_ok (by rw [g.scope]; exact h6)) rfl) fun D σ H q => par_two q
    · cases h
  · split at h
    · simp only [Bool.and_eq_true, decide_eq_true_eq] at h
      obtain ⟨⟨⟨⟨⟨⟨⟨⟨⟨h1, h2⟩, h3⟩, h4⟩, h5⟩, h6⟩, h7⟩, h8⟩, h9⟩, h10⟩ := h
      exact PS.mono (ps_par3 g.calm nd (by rw [g.names]; exact h4) (by rw [g.names]; exact h5) (by rw [g.names]; exact h6) h1 h2 h3 (by rw [g.scope]; exact h7) (by rw [g.scope]; exact h8) (by rw [g.scope]; exact h9) ha (swSome_ok (by rw [g.scope]; exact h10)) rfl) fun D σ H q => par_three q
    · cases h
  · cases h
/-- name = [..], at once -/
theorem set_comp (g : Gd G Φ b X) {m : Bool} {i : Nat} {x : PySem.Str} {px pos : Pos} {c : C} {ep : Expr} {gens : List Comprehension} {scope : Scope} {cpos : Pos} (hl : locB b i x = true) (hc : chkE G c b (.ListComp ep gens scope cpos) = true)
    (hx : b.sc.names.lookup x = some .local) (hk : b.sc.kind = .function) (hp : (px.line == cpos.line) = true) (hs : (scope.names.any fun (n, k) => n == x && (k == .local || k == .cell)) = false) :
    PS X (.Assign [.Name x px] (.ListComp ep gens scope cpos) pos) (RS X base (fAsg base m i (ev Φ c))) := by
  have nd : X.N.Nodup := by rw [g.names]; exact g.nd
  obtain ⟨k1, _, _⟩ := locB_ok g hl
  have hsw : ∀ l, swapsWith (.ListComp ep gens scope cpos) (some (.Name x px)) l X.env = pure true := fun l => sw_true (by rw [g.scope]; exact hk) (by rw [g.scope]; exact hx) hp hs
  cases c <;> simp only [chkE, conOk, litOk, Bool.false_or] at hc <;> try (cases hc; done)
  · rename_i own t it c p
    split at hc
    · rename_i heq
      cases heq
      simp only [Bool.and_eq_true, Bool.not_eq_true'] at hc
      obtain ⟨⟨⟨⟨⟨⟨h1, h2⟩, h3⟩, h4⟩, h5⟩, h6⟩, h7⟩ := hc
      obtain ⟨o1, o2⟩ := own_ok g h1
      have q := ps_setLc (i := i) (spos := pos) (te := RE X (ev Φ p)) (tt := RT X (tst Φ c)) (g := gT X.K t) g.calm nd k1 (by rw [g.scope]; exact hx) (hsw _) (chkW_ok it g h4) o2 (fun s H C cl fp => chkTg_ok (g.blk s H _ C cl fp) h3) (fun s H C cl fp => chkC_ok c (g.blk s H _ C cl fp) h6)
        (fun s H C cl fp => chkE_ok p (g.blk s H _ C cl fp) h7) (folded_ok h5 _)
      rw [o1] at q
      exact PS.mono q fun D σ H k => set_r' (fun σ H Q k => comp_r (wi_ok h4) (all_mem h2) (pr_ok h4) k) k
    · cases hc
  · rename_i own t it c own2 t2 it2 c2 p
    split at hc
    · rename_i heq
      cases heq
      simp only [Bool.and_eq_true, Bool.not_eq_true'] at hc
      obtain ⟨⟨⟨⟨⟨⟨⟨⟨⟨⟨⟨⟨h1, h0⟩, h2⟩, h2'⟩, h3⟩, h4⟩, h5⟩, h6⟩, h3'⟩, h4'⟩, h5'⟩, h6'⟩, h7⟩ := hc
      obtain ⟨o1, o2⟩ := own_ok g h1
      have q := ps_setLc2 (i := i) (spos := pos) (vs1 := own2) (te := RE X (ev Φ p)) (tt := RT X (tst Φ c)) (g := gT X.K t) (tt1 := RT X (tst Φ c2)) (g1 := gT X.K t2) (wi1 := wiOf Φ X it2) g.calm nd k1 (by rw [g.scope]; exact hx) (hsw _) (chkW_ok it g h4) o2 (by rw [o1]; exact all_mem h0)
        (fun s H C cl fp => chkTg_ok (g.blk s H _ C cl fp) h3) (fun s H C cl fp => chkC_ok c (g.blk s H _ C cl fp) h6)
        (fun s H C cl fp => chkW_ok it2 (g.blk s H _ C cl fp) h4') (fun s H C cl fp => chkTg_ok (g.blk s H _ C cl fp) h3') (fun s H C cl fp => chkC_ok c2 (g.blk s H _ C cl fp) h6') (fun s H C cl fp => chkE_ok p (g.blk s H _ C cl fp) h7) (folded_ok h5 _) (folded_ok h5')
      rw [o1] at q
      exact PS.mono q fun D σ H k => set_r' (fun σ H Q k => comp2_r (wi_ok h4) (all_mem h2) (pr_ok h4) (wi_ok h4') (all_mem h2') (pr_ok h4') k) k
    · cases hc

theorem chkS_ok (hp : PassesOwn (model X.prog X.w) X.A X.env X.xe) (g : Gd G Φ b X) : ∀ (s : S) {sts : List Stmt}, chkS G s b sts = true → PS1 X sts (RS X base (exS Φ base s))
  | .skip, sts, h => by
    simp only [chkS] at h
    split at h
    · exact ⟨PSs.mono pss_nil fun D σ H q => skip_r q, fun st e => by cases e⟩
    · exact ps1 (PS.mono ps_pass fun D σ H q => skip_r q)
    · cases h
  | .seq p q, sts, h => by
    cases sts with
    | nil => simp only [chkS] at h; cases h
    | cons st rest =>
      simp only [chkS, Bool.and_eq_true] at h
      have h1 := (chkS_ok hp g p h.1.2).2 st rfl
      have h2 := (chkS_ok hp g q h.2).1
      have h3 : PSs X (st :: rest) (RS X base (exS Φ base (.seq p q))) := PSs.mono (pss_cons h1 h2) fun D σ H k => seq_r k
      refine ⟨h3, fun st' e => ?_⟩
      cases e
      exact absurd h.1.1 (by decide)
  | .asg m t c, sts, h => by
    simp only [chkS] at h
    split at h
    · rename_i i x px ve pos
      simp only [Bool.and_eq_true, Bool.or_eq_true, Bool.not_eq_true'] at h
      obtain ⟨⟨h1, h2⟩, h3⟩ := h
      rcases h3 with h3 | h3
      · obtain ⟨k1, k2, k3⟩ := locB_ok g h1
        exact ps1 (PS.mono (ps_set (by rw [g.names]; exact g.nd) k1 k2 (chkE_ok c g h2) (sw_plain h3 _ _ _) k3) fun D σ H q => set_r q)
      · split at h3
        · simp only [Bool.and_eq_true, decide_eq_true_eq, Bool.not_eq_true'] at h3
          obtain ⟨⟨⟨⟨k1, k2⟩, k3⟩, k4⟩, k5⟩ := h3
          exact ps1 (set_comp g h1 h2 k2 k1 k3 k4)
        · cases h3
    · simp only [Bool.and_eq_true] at h
      obtain ⟨⟨h1, h2⟩, h3⟩ := h
      exact ps1 (PS.mono (ps_asg (chkE_ok c g h3) (chkTg_ok g h1) (sw_sole (called_comp h2)) (stores_called h2) rfl) fun D σ H q => tgt_r q)
    · cases h
  | .par ls as, sts, h => by
    simp only [chkS] at h
    split at h
    · simp only [Bool.and_eq_true, Bool.or_eq_true, decide_eq_true_eq] at h
      obtain ⟨h1, h2⟩ := h
      obtain ⟨ha, hst⟩ := chkWs_ok g h1
      rcases h2 with h2 | ⟨⟨⟨h2, h3⟩, h4⟩, h5⟩
      · rw [ex_par Φ base ls as (chkSw_okL h2)]
        exact ps1 (chkSw_ok g h2 ha)
      · rw [ex_par Φ base ls as h2]
        obtain ⟨k1, k2, k3⟩ := chkLs_ok g h4
        refine ps1 (PS.mono (ps_asg (pe_tup ha) (pg_tup (n := ls.length) g.calm k1 k2 k3) rfl (swNone_ok (by rw [g.scope]; exact h5)) rfl) fun D σ H q => ?_)
        have q2 := par_tup (by rw [List.length_map]; exact h3) q
        rw [List.length_map] at q2
        exact q2
    · cases h
  | .sub o i c, sts, h => by
    simp only [chkS] at h
    split at h
    · simp only [Bool.and_eq_true, Bool.not_eq_true'] at h
      obtain ⟨⟨⟨h0, h2⟩, h3⟩, h4⟩ := h
      cases ht : isTupC i with
      | false =>
        rw [ht] at h3
        rw [ex_sub Φ base o i c ht]
        exact ps1 (PS.mono (ps_asg (chkE_ok c g h4) (pg_sub (chkE_ok o g h2) (chkE_ok i g h3) (set_st (by have := g.room; omega)) (asg_sub h0)) sw_sub stores_sub rfl) fun D σ H q => sub_r q)
      | true =>
        rw [ht, if_pos rfl] at h3
        split at h3
        · cases i <;> try (cases ht; done)
          rename_i as
          simp only [chkK] at h3
          rw [ex_subT Φ base o as c]
          exact ps1 (PS.mono (ps_asg (chkE_ok c g h4) (pg_sub (chkE_ok o g h2) (pe_tup (chkEs_ok as g h3)) (set_dict (by have := g.room; omega)) (asg_sub h0)) sw_sub stores_sub rfl) fun D σ H q => subT_r q)
        · cases h3
    · cases h
  | .aug i o c, sts, h => by
    simp only [chkS] at h
    split at h
    · simp only [Bool.and_eq_true, decide_eq_true_eq] at h
      obtain ⟨⟨h1, rfl⟩, h2⟩ := h
      obtain ⟨k1, k2, k3⟩ := locB_ok g h1
      exact ps1 (PS.mono (ps_aug (by rw [g.names]; exact g.nd) k1 k2 (chkE_ok c g h2) (ip_aug o) k3) fun D σ H q => aug_r q)
    · cases h
  | .exp c, sts, h => by
    simp only [chkS] at h
    split at h
    · simp only [Bool.and_eq_true] at h
      exact ps1 (PS.mono (ps_expr (chkE_ok c g h.2) (sw_plain (called_comp h.1) _ _ _)) fun D σ H q => exp_r q)
    · cases h
  | .ret c, sts, h => by
    simp only [chkS] at h
    split at h
    · exact ps1 (PS.mono (ps_ret (chkE_ok c g h)) fun D σ H q => ret_r q)
    · cases h
  | .retn, sts, h => by
    simp only [chkS] at h
    split at h
    · exact ps1 (PS.mono ps_retN fun D σ H q => retn_r q)
    · cases h
  | .ite t p q, sts, h => by
    simp only [chkS] at h
    split at h
    · simp only [Bool.and_eq_true] at h
      exact ps1 (PS.mono (ps_if (chkT_ok t g h.1.1).1 (chkS_ok hp g p h.1.2).1 (chkS_ok hp g q h.2).1) fun D σ H q => if_r q)
    · cases h
  | .whl t p, sts, h => by
    simp only [chkS] at h
    split at h
    · simp only [Bool.and_eq_true] at h
      exact ps1 (PS.mono (ps_while hp (chkT_ok t g h.1).1 (chkS_ok hp g p h.2).1) fun D σ H q => whl_r q)
    · cases h
  | .for_ t it p, sts, h => by
    simp only [chkS] at h
    split at h
    · simp only [Bool.and_eq_true, Bool.not_eq_true'] at h
      exact ps1 (PS.mono (ps_for hp g.calm (chkW_ok it g h.1.2) (chkTg_ok g h.1.1.2) (chkS_ok hp g p h.2).1 (folded_ok h.1.1.1 _)) fun D σ H q => for_r (wi_ok h.1.2) (pr_ok h.1.2) q)
    · cases h
  | .brk, sts, h => by
    simp only [chkS] at h
    split at h
    · exact ps1 (PS.mono ps_break fun D σ H q => brk_r q)
    · cases h
  | .cnt, sts, h => by
    simp only [chkS] at h
    split at h
    · exact ps1 (PS.mono ps_continue fun D σ H q => cnt_r q)
    · cases h
  | .rse k, sts, h => by
    simp only [chkS] at h
    split at h
    · exact ps1 (PS.mono ps_never fun D σ H ⟨env, hh, fz, fr, rho, st, er, hb, q⟩ => (show False from q))
    · cases h
end
end Mini
set_option Elab.async false
set_option linter.all false
set_option autoImplicit false
set_option maxRecDepth 100000
set_option maxHeartbeats 4000000
/- Mini: every def does what the interpreter does. Own work. -/
namespace Mini
open PySem PySem.Spec PyProof.Rows L2 RZ

section
variable {K : KF} {fz fr : Hp} {rho rho' : List Addr} {h : Heap} {H : Hp}
theorem live_take {n m : Nat} (l : Live (h.take n) m) : m < n ∧ Live h m := by
  obtain ⟨c, h1, h2⟩ := l
  have hm : m < n := by
    have := (List.getElem?_eq_some_iff.mp h1).1
    rw [List.length_take] at this
    omega
  rw [List.getElem?_take_of_lt hm] at h1
  exact ⟨hm, c, h1, h2⟩
/-- the def's own things are gone -/
theorem StH.trunc {n : Nat} (st : StH K fz fr rho' h H) (g : Agree n rho rho') (hl : rho.length = n) (hn : n ≤ h.length) : StH K fz fr rho (h.take n) H where
  sub := st.sub
  subF := st.subF
  dis := st.dis
  len := by rw [hl, List.length_take]; omega
  cells := fun m c h1 h2 => by
    obtain ⟨hm, _⟩ := live_take ⟨c, h1, h2⟩
    rw [List.getElem?_take_of_lt hm] at h1
    obtain ⟨a, o, e1, e2⟩ := st.cells m c h1 h2
    exact ⟨a, o, by rw [← g m hm]; exact e1, e2⟩
  inj := fun i j a l1 l2 e1 e2 => by
    obtain ⟨hi, l1⟩ := live_take l1
    obtain ⟨hj, l2⟩ := live_take l2
    exact st.inj i j a l1 l2 (by rw [g i hi]; exact e1) (by rw [g j hj]; exact e2)
theorem start_env {N : List PySem.Str} {ns : Nat} (hN : N.length = ns) : ∀ {xs : List RV} {vs : List V}, RepRs K fz rho xs vs → xs.length ≤ ns → EnvR K fz rho (startE ns xs) (L2.start N vs) := by
  intro xs vs r hl
  have e := r.length
  refine ⟨by simp [startE, L2.start, e, hN], fun i x hx => ?_⟩
  unfold startE at hx
  by_cases hi : i < xs.length
  · rw [List.getElem?_append_left (by simpa using hi), List.getElem?_map] at hx
    obtain ⟨y, h1, h2⟩ := Option.map_eq_some_iff.mp hx
    cases h2
    have get : ∀ {xs : List RV} {vs : List V} {i : Nat} {x : RV}, RepRs K fz rho xs vs → xs[i]? = some x → ∃ v, vs[i]? = some v ∧ RepR K fz rho x v := by
      intro xs
      induction xs with
      | nil => intro vs i x _ e; simp at e
      | cons y ys ih =>
        intro vs i x r e
        obtain ⟨v, t, rfl, k1, k2⟩ := r
        cases i with
        | zero => simp at e; subst e; exact ⟨v, by simp, k1⟩
        | succ i =>
          obtain ⟨u, k3, k4⟩ := ih k2 (by simpa using e)
          exact ⟨u, by simpa using k3, k4⟩
    obtain ⟨v, k1, k2⟩ := get r h1
    refine ⟨v, ?_, k2⟩
    unfold L2.start
    rw [List.getElem?_append_left (by rw [List.length_map, e]; exact hi), List.getElem?_map, k1]
    rfl
  · rw [List.getElem?_append_right (by simpa using hi), List.getElem?_replicate] at hx
    split at hx <;> cases hx
end

/-- a def of the module, as it is written and as it stands -/
structure DefAt (G : Glob) (K : PySem.W.Frag) (d : Def) (a : Addr) (N : List PySem.Str) : Prop where
  ex : ∃ (name qual : PySem.Str) (params : Arguments) (body : List Stmt) (scope : Scope) (dV kV doc pm cdv ct oc : Value) (an od : Option Addr) (osl : Array (Option Value)),
    K.lookup a = some ⟨oc, od, .func (PySem.W.fnOf name qual params body scope dV kV doc pm an cdv ct), osl⟩ ∧ PySem.W.codeIn K cdv qual = true ∧ FnScope N (N.take d.ar) scope ∧ (N.take d.ar).length = d.ar ∧ N.length = d.ns ∧
    chkS G d.body ⟨scope, fun _ => true, N⟩ body = true ∧ (∀ us : List Value, us.length = (N.take d.ar).length → bindArgs (PySem.W.fnOf name qual params body scope dV kV doc pm an cdv ct) ⟨us, []⟩ = pure ((N.take d.ar).zip us)) ∧ PySem.W.keepIn K (.ref a) = true
/-- what must be known of the module -/
structure ModAt (G : Glob) (defs : Nat → Option Def) (nm : Nat → List PySem.Str) (fa : Nat → Addr) (K : PySem.W.Frag) (w : World) (mg : PySem.Str → Option Value) : Prop where
  defsAt : ∀ f d, defs f = some d → DefAt G K d (fa f) (nm f)
  funs : ∀ x f, (x, f) ∈ G.funs → (∃ d, defs f = some d) ∧ mg x = some (.ref (fa f))
  cons : ∀ x d, (x, d) ∈ G.cons → ∃ u v, mg x = some u ∧ RelV v u ∧ ∀ fz, Rep (K, w) fz d v
  blt : ∀ x, x ∈ bltN → mg x = none
theorem spO_len {K : KF} {defs : Nat → Option Def} {k f : Nat} {d : Def} (hd : defs f = some d) {vs : List V} {H : Hp} {Q : VK} {E : XK} (h : spO K (run defs k f) vs H Q E) : vs.length = d.ar := by
  obtain ⟨xs, hh, fz, fr, rho, st, r, q⟩ := h
  rw [r.length]
  cases k with
  | zero => exact (show False from q).elim
  | succ k =>
    unfold run at q
    rw [hd] at q
    dsimp only at q
    split at q
    · assumption
    · exact (show False from q).elim
/-- the whole module runs as the interpreter tells -/
theorem run_ok {G : Glob} {defs : Nat → Option Def} {fa : Nat → Addr} {P : Program} {w : World} {K : PySem.W.Frag} {mg : PySem.Str → Option Value} {base : PySem.Heap} {nm : Nat → List PySem.Str} (M : ModAt G defs nm fa K w mg) : ∀ (k f : Nat) (d : Def), defs f = some d →
    ∃ (fd : FuncData), FnOk P w K mg base CX0 k (fa f) fd ((nm f).take d.ar) (spO (K, w) (run defs k f)) ∧ PySem.W.keepIn K (.ref (fa f)) = true ∧ Binds K fd ((nm f).take d.ar) []
  | 0, f, d, hd => by
    obtain ⟨name, qual, params, body, scope, dV, kV, doc, pm, cdv, ct, oc, an, od, osl, lk, hcd, S, hps, hN, hc, hb, hk⟩ := (M.defsAt f d hd).ex
    refine ⟨_, ⟨fun vs H Q E h => ?_, fun A outer s H args us vs Q E _ _ _ _ h => ?_⟩, hk, Binds.all hb⟩
    · obtain ⟨xs, hh, fz, fr, rho, st, r, q⟩ := h
      exact (show False from q).elim
    · obtain ⟨xs, hh, fz, fr, rho, st, r, q⟩ := h
      exact (show False from q).elim
  | k + 1, f, d, hd => by
    obtain ⟨name, qual, params, body, scope, dV, kV, doc, pm, cdv, ct, oc, an, od, osl, lk, hcd, S, hps, hN, hc, hb, hk⟩ := (M.defsAt f d hd).ex
    refine ⟨_, fn_of lk hcd S (fun vs H Q E h => by rw [hps]; exact spO_len hd h) (fun A outer s H vs Q E hr h => ?_), hk, Binds.all hb⟩
    obtain ⟨xs, hh, fz, fr, rho, st, r, q⟩ := h
    unfold run at q
    rw [hd] at q
    dsimp only at q
    split at q
    · rename_i hl
      let X : Cx := cxOf CX0 P w K mg base (nm f) qual scope (fa f) cdv A outer s H E
      have g : Gd G (run defs k) ⟨scope, fun _ => true, nm f⟩ X :=
        { calm := rfl, scope := rfl, names := rfl, nd := S.nd
          room := by have := hr.un; show (A.deeper (envOfC qual scope s.heap.objs.size (fa f) cdv)).units + 200 < _; omega
          fn := fun _ _ => rfl
          funs := fun x f' hx => by
            obtain ⟨⟨d', hd'⟩, hm⟩ := M.funs x f' hx
            obtain ⟨fd, F, hk', hb'⟩ := run_ok (P := P) (base := base) M k f' d' hd'
            exact ⟨k, fa f', fd, _, F, hr, hm, hk', hb'⟩
          cons := M.cons
          blt := M.blt }
      have hp : PassesOwn (model X.prog X.w) X.A X.env X.xe := passes_of (X := X) rfl
      refine ⟨RS X hh.length (exS (run defs k) hh.length d.body), (chkS_ok (base := hh.length) hp g d.body hc).1, startE d.ns xs, hh, fz, fr, rho, st, start_env hN r ?_, Nat.le_refl _, ?_⟩
      · rw [List.length_take] at hps
        omega
      · cases er : exS (run defs k) hh.length d.body (startE d.ns xs) hh with
        | stuck => rw [er] at q; exact q
        | exc e h1 => rw [er] at q; exact q
        | ok p =>
          obtain ⟨fl, e1, h1⟩ := p
          rw [er] at q
          intro fz' rho' σ' H' s1 g1 st' er'
          have hn : hh.length ≤ h1.length := by
            rw [← st'.len]
            exact g1.len (by rw [st.len]; exact Nat.le_refl _)
          have tr := st'.trunc g1 st.len hn
          cases fl with
          | nx => exact (show ∀ fz' v H', Same fz fz' → StH (K, w) fz' fr rho (h1.take hh.length) H' → ResR (K, w) fz' fr rho (h1.take hh.length) H' (.d .non) v → Q v H' from q) fz' .non H' s1 tr (show Rep (K, w) fz' .non .non from rep_non)
          | bk => exact (show False from q).elim
          | ct => exact (show False from q).elim
          | rt r =>
            intro v rr
            cases r with
            | d x => exact (show ∀ fz' v H', Same fz fz' → StH (K, w) fz' fr rho (h1.take hh.length) H' → ResR (K, w) fz' fr rho (h1.take hh.length) H' (.d x) v → Q v H' from q) fz' v H' s1 tr rr
            | ref n => exact (show False from q).elim
            | nw c =>
              obtain ⟨p, o, rfl, hp1, hf, hc1, hne⟩ := rr
              refine (show ∀ fz' v H', Same fz fz' → StH (K, w) fz' fr rho (h1.take hh.length) H' → ResR (K, w) fz' fr rho (h1.take hh.length) H' (.nw c) v → Q v H' from q) fz' _ H' s1 tr ⟨p, o, rfl, hp1, hf, hc1, fun m l z => ?_⟩
              obtain ⟨hm, l2⟩ := live_take l
              exact hne m l2 (by rw [g1 m hm]; exact z)
    · exact (show False from q).elim
/-- .. one function object for every base -/
theorem run_top_ok {G : Glob} {defs : Nat → Option Def} {fa : Nat → Addr} {P : Program} {w : World} {K : PySem.W.Frag} {mg : PySem.Str → Option Value} {nm : Nat → List PySem.Str} (M : ModAt G defs nm fa K w mg) (k f : Nat) (d : Def) (hd : defs f = some d) :
    ∃ (fd : FuncData), (∀ base : PySem.Heap, FnOk P w K mg base CX0 (k + 1) (fa f) fd ((nm f).take d.ar) (spO (K, w) (run defs (k + 1) f))) ∧ ∀ us : List Value, us.length = ((nm f).take d.ar).length → bindArgs fd ⟨us, []⟩ = pure (((nm f).take d.ar).zip us) := by
    obtain ⟨name, qual, params, body, scope, dV, kV, doc, pm, cdv, ct, oc, an, od, osl, lk, hcd, S, hps, hN, hc, hb, hk⟩ := (M.defsAt f d hd).ex
    refine ⟨_, fun base => fn_of lk hcd S (fun vs H Q E h => by rw [hps]; exact spO_len hd h) (fun A outer s H vs Q E hr h => ?_), hb⟩
    obtain ⟨xs, hh, fz, fr, rho, st, r, q⟩ := h
    unfold run at q
    rw [hd] at q
    dsimp only at q
    split at q
    · rename_i hl
      let X : Cx := cxOf CX0 P w K mg base (nm f) qual scope (fa f) cdv A outer s H E
      have g : Gd G (run defs k) ⟨scope, fun _ => true, nm f⟩ X :=
        { calm := rfl, scope := rfl, names := rfl, nd := S.nd
          room := by have := hr.un; show (A.deeper (envOfC qual scope s.heap.objs.size (fa f) cdv)).units + 200 < _; omega
          fn := fun _ _ => rfl
          funs := fun x f' hx => by
            obtain ⟨⟨d', hd'⟩, hm⟩ := M.funs x f' hx
            obtain ⟨fd, F, hk', hb'⟩ := run_ok (P := P) (base := base) M k f' d' hd'
            exact ⟨k, fa f', fd, _, F, hr, hm, hk', hb'⟩
          cons := M.cons
          blt := M.blt }
      have hp : PassesOwn (model X.prog X.w) X.A X.env X.xe := passes_of (X := X) rfl
      refine ⟨RS X hh.length (exS (run defs k) hh.length d.body), (chkS_ok (base := hh.length) hp g d.body hc).1, startE d.ns xs, hh, fz, fr, rho, st, start_env hN r ?_, Nat.le_refl _, ?_⟩
      · rw [List.length_take] at hps
        omega
      · cases er : exS (run defs k) hh.length d.body (startE d.ns xs) hh with
        | stuck => rw [er] at q; exact q
        | exc e h1 => rw [er] at q; exact q
        | ok p =>
          obtain ⟨fl, e1, h1⟩ := p
          rw [er] at q
          intro fz' rho' σ' H' s1 g1 st' er'
          have hn : hh.length ≤ h1.length := by
            rw [← st'.len]
            exact g1.len (by rw [st.len]; exact Nat.le_refl _)
          have tr := st'.trunc g1 st.len hn
          cases fl with
          | nx => exact (show ∀ fz' v H', Same fz fz' → StH (K, w) fz' fr rho (h1.take hh.length) H' → ResR (K, w) fz' fr rho (h1.take hh.length) H' (.d .non) v → Q v H' from q) fz' .non H' s1 tr (show Rep (K, w) fz' .non .non from rep_non)
          | bk => exact (show False from q).elim
          | ct => exact (show False from q).elim
          | rt r =>
            intro v rr
            cases r with
            | d x => exact (show ∀ fz' v H', Same fz fz' → StH (K, w) fz' fr rho (h1.take hh.length) H' → ResR (K, w) fz' fr rho (h1.take hh.length) H' (.d x) v → Q v H' from q) fz' v H' s1 tr rr
            | ref n => exact (show False from q).elim
            | nw c =>
              obtain ⟨p, o, rfl, hp1, hf, hc1, hne⟩ := rr
              refine (show ∀ fz' v H', Same fz fz' → StH (K, w) fz' fr rho (h1.take hh.length) H' → ResR (K, w) fz' fr rho (h1.take hh.length) H' (.nw c) v → Q v H' from q) fz' _ H' s1 tr ⟨p, o, rfl, hp1, hf, hc1, fun m l z => ?_⟩
              obtain ⟨hm, l2⟩ := live_take l
              exact hne m l2 (by rw [g1 m hm]; exact z)
    · exact (show False from q).elim
end Mini
set_option Elab.async false
set_option linter.all false
set_option autoImplicit false
set_option maxRecDepth 100000
set_option maxHeartbeats 4000000
/- Mini: what stands in the module, looked at by the kernel; the head. Own work. -/
namespace Mini
open PySem PySem.Spec PyProof.Rows L2 RZ

/-! ### parameters, all given -/
theorem lk_zip : ∀ {ps : List PySem.Str} {us : List Value}, ps.Nodup → us.length = ps.length → ∀ n ∈ ps, ∃ v, (ps.zip us).lookup n = some v
  | [], _, _, _, n, h => absurd h (by simp)
  | p :: ps, [], _, hl, n, h => by simp at hl
  | p :: ps, u :: us, hn, hl, n, h => by
    rw [List.zip_cons_cons, List.lookup_cons]
    by_cases e : n = p
    · subst e; exact ⟨u, by simp⟩
    · have : (n == p) = false := by simpa using e
      rw [this]
      exact lk_zip (List.nodup_cons.mp hn).2 (by simpa using hl) n (by rcases List.mem_cons.mp h with z | z; exact absurd z e; exact z)
theorem fm_zip : ∀ {ps : List PySem.Str} {us : List Value}, ps.Nodup → us.length = ps.length → (ps.filterMap fun n => ((ps.zip us).lookup n).map fun v => (n, v)) = ps.zip us
  | [], us, _, hl => by simp
  | p :: ps, [], _, hl => by simp at hl
  | p :: ps, u :: us, hn, hl => by
    have ih := fm_zip (List.nodup_cons.mp hn).2 (show us.length = ps.length by simpa using hl)
    rw [List.zip_cons_cons, List.filterMap_cons]
    have h1 : ((p, u) :: ps.zip us).lookup p = some u := by simp
    rw [h1]
    simp only [Option.map_some]
    congr 1
    exact (Mini.fm_congr fun n hm => by
      have z : (n == p) = false := by
        have : n ≠ p := fun z => (List.nodup_cons.mp hn).1 (z ▸ hm)
        simpa using this
      rw [List.lookup_cons, z]).trans ih
theorem bind_plain {fd : FuncData} {as : List Arg} {us : List Value} (hp : fd.params = ⟨[], as, none, [], [], none, []⟩) (hd : fd.defaults = .none) (hn : (as.map (·.arg)).Nodup) (hl : us.length = as.length) : bindArgs fd ⟨us, []⟩ = pure ((as.map (·.arg)).zip us) := by
  have hl' : us.length = (as.map (·.arg)).length := by rw [List.length_map]; exact hl
  have h1 : ((as.map (·.arg)).filter fun n => (((as.map (·.arg)).zip us).lookup n).isNone) = [] := by
    rw [List.filter_eq_nil_iff]
    intro n hm
    obtain ⟨v, e⟩ := lk_zip hn hl' n hm
    simp [e]
  have h2 := fm_zip hn hl'
  have h0 : seqItems? Value.none = pure none := rfl
  unfold bindArgs
  rw [hp, hd]
  simp only [h0, List.map_nil, List.nil_append, List.forIn_nil, pure_bind, List.append_nil]
  have e1 : (decide (us.length > (as.map (·.arg)).length) && (none : Option Arg).isNone) = false := by simp [hl]
  simp only [e1, Bool.false_eq_true, if_false]
  have e2 : ((none : Option (Array Value)).getD #[]).toList = [] := rfl
  simp only [e2, List.drop_nil, List.length_nil, Nat.sub_zero, List.take_length, h1, List.isEmpty_nil, Bool.not_true, Bool.false_eq_true, if_false, List.zip_nil_right, List.forIn_nil, pure_bind, h2]

/-! ### a def as it stands -/
def scopeB (N P : List PySem.Str) (sc : Scope) : Bool := decide (sc.kind = .function) && !sc.isCoroutine && !sc.isGenerator && decide N.Nodup && decide (N.take P.length = P) && (P.all fun x => decide (sc.names.lookup x = some .local) || decide (sc.names.lookup x = some .cell)) && sc.names.all fun y => !(y.2 == .free)
theorem scopeB_ok {N P : List PySem.Str} {sc : Scope} (h : scopeB N P sc = true) : FnScope N P sc := by
  unfold scopeB at h
  simp only [Bool.and_eq_true, decide_eq_true_eq, Bool.not_eq_true', List.all_eq_true, Bool.or_eq_true] at h
  obtain ⟨⟨⟨⟨⟨⟨h1, h2⟩, h3⟩, h4⟩, h5⟩, h6⟩, h7⟩ := h
  exact ⟨h1, h2, h3, h4, h5, h6, fun y hy e => by have := h7 y hy; rw [e] at this; simp at this⟩
def isNonV : Value → Bool
  | .none => true
  | _ => false
def defB (G : Glob) (d : Def) (N : List PySem.Str) (K : PySem.W.Frag) (a : Addr) : Bool := match K.lookup a with
  | some ⟨_, _, .func ⟨_, qual, params, .stmts body, scope, glb, clo, dV, _, _, _, _, cdv, _, blt⟩, _⟩ => (match params with
    | ⟨[], as, none, [], [], none, []⟩ => decide (glb = mainGlobals) && clo.isEmpty && decide (blt = builtinsNs) && isNonV dV && PySem.W.codeIn K cdv qual && scopeB N (as.map (·.arg)) scope && decide (as.length = d.ar) && decide (N.length = d.ns) && chkS G d.body ⟨scope, fun _ => true, N⟩ body &&
      PySem.W.keepIn K (.ref a)
    | _ => false)
  | _ => false
theorem defB_ok {G : Glob} {d : Def} {N : List PySem.Str} {K : PySem.W.Frag} {a : Addr} (h : defB G d N K a = true) : DefAt G K d a N := by
  unfold defB at h
  split at h
  · rename_i oc od nm qual params body scope glb clo dV kV doc pm an cdv ct blt osl lk
    split at h
    · rename_i as
      simp only [Bool.and_eq_true, decide_eq_true_eq, List.isEmpty_iff] at h
      obtain ⟨⟨⟨⟨⟨⟨⟨⟨⟨h1, h2⟩, h3⟩, h4⟩, h5⟩, h6⟩, h7⟩, h8⟩, h9⟩, h10⟩ := h
      subst h1 h2 h3
      have hd : dV = .none := by
        cases dV <;> first | rfl | cases h4
      subst hd
      have S := scopeB_ok h6
      have ep : N.take d.ar = as.map (·.arg) := by
        have := S.pre
        rw [List.length_map, h7] at this
        exact this
      refine ⟨nm, qual, _, body, scope, .none, kV, doc, pm, cdv, ct, oc, an, od, osl, lk, h5, by rw [ep]; exact S, by rw [ep, List.length_map]; exact h7, h8, h9, ?_, h10⟩
      rw [ep]
      refine fun us hl => bind_plain rfl rfl ?_ (by rw [List.length_map] at hl; exact hl)
      rw [← S.pre]
      exact S.nd.sublist (List.take_sublist _ _)
    · cases h
  · cases h

/-! ### a constant as it stands -/
mutual
def repB (K : PySem.W.Frag) : D → Value → Bool
  | .non, u => isNonV u
  | .bl b, u => (match u with
    | .bool c => b == c
    | _ => false)
  | .int i, u => (match u with
    | .int j _ => decide (i = j)
    | _ => false)
  | .str s, u => (match u with
    | .str t _ => decide (toS s = t) && okS s
    | _ => false)
  | .tup xs, u => (match u with
    | .ref a => (match K.lookup a with
      | some ⟨.type c, none, .seq its _, _⟩ => decide (c = "tuple") && decide (its.size ≤ 16777216) && decide (xs.length ≤ LINE) && repBs K xs its.toList
      | _ => false)
    | _ => false)
  | _, _ => false
def repBs (K : PySem.W.Frag) : List D → List Value → Bool
  | [], us => us.isEmpty
  | x :: xs, us => (match us with
    | u :: us => repB K x u && repBs K xs us
    | [] => false)
end
mutual
theorem repB_ok {K : PySem.W.Frag} {w : World} : ∀ {d : D} {u : Value}, repB K d u = true → ∃ v, RelV v u ∧ ∀ fz, Rep (K, w) fz d v
  | .non, u, h => by
    cases u <;> first | (cases h; done) | exact ⟨.non, rfl, fun _ => rep_non⟩
  | .bl b, u, h => by
    cases u <;> first | (cases h; done) | skip
    simp only [repB, beq_iff_eq] at h
    subst h
    exact ⟨.bl b, rfl, fun _ => rep_bl⟩
  | .int i, u, h => by
    cases u <;> first | (cases h; done) | skip
    simp only [repB, decide_eq_true_eq] at h
    subst h
    exact ⟨.int i, ⟨_, rfl⟩, fun _ => rep_int⟩
  | .str s, u, h => by
    cases u <;> first | (cases h; done) | skip
    simp only [repB, Bool.and_eq_true, decide_eq_true_eq] at h
    obtain ⟨rfl, h2⟩ := h
    exact ⟨.str (toS s), ⟨_, rfl⟩, fun _ => rep_str h2⟩
  | .tup xs, u, h => by
    cases u <;> first | (cases h; done) | skip
    rename_i a
    simp only [repB] at h
    split at h
    · rename_i c its n sl lk
      simp only [Bool.and_eq_true, decide_eq_true_eq] at h
      obtain ⟨⟨⟨rfl, h2⟩, h3⟩, h4⟩ := h
      obtain ⟨vs, h5, h6⟩ := repBs_ok (w := w) h4
      refine ⟨.ref a, rfl, fun fz => ?_⟩
      simp only [Rep]
      exact ⟨a, vs, rfl, .inr ⟨_, its, n, lk, ⟨rfl, rfl⟩, rfl, by rw [sizeLine_eq]; exact h2, h5⟩, h3, h6 fz⟩
    · cases h
  | .lst _, u, h => by cases u <;> cases h
  | .dct _ _, u, h => by cases u <;> cases h
theorem repBs_ok {K : PySem.W.Frag} {w : World} : ∀ {ds : List D} {us : List Value}, repBs K ds us = true → ∃ vs, Vals vs us ∧ ∀ fz, RepL (K, w) fz ds vs
  | [], us, h => by
    simp only [repBs, List.isEmpty_iff] at h
    subst h
    exact ⟨[], .nil, fun _ => .nil⟩
  | d :: ds, us, h => by
    cases us with
    | nil => simp only [repBs] at h; cases h
    | cons u us =>
      simp only [repBs, Bool.and_eq_true] at h
      obtain ⟨v, h1, h2⟩ := repB_ok (w := w) h.1
      obtain ⟨vs, h3, h4⟩ := repBs_ok (w := w) h.2
      exact ⟨v :: vs, .cons h1 h3, fun fz => .cons (h2 fz) (h4 fz)⟩
end
/-! a dict of the module: its keys' hashes are told beside -/
def keyV : Ky → Option Key
  | .i n => some (.inl n)
  | .s x => if okS x then some (.inr (toS x)) else none
  | .t _ => none
def entB (K : PySem.W.Frag) : List (Ky × D) → List DictEntry → Bool
  | [], es => es.isEmpty
  | (k, d) :: kvs, es => (match es, keyV k with
    | e :: es, some k => keyIs k e.key && repB K d e.val && entB K kvs es
    | _, _ => false)
def dctB (K : PySem.W.Frag) (kvs : List (Ky × D)) (u : Value) : Bool := match u with
  | .ref a => (match K.lookup a with
    | some ⟨.type c, none, .dict es _, sl⟩ => decide (c = "dict") && sl.isEmpty && !(a == sysModules) && decide (kvs.length ≤ 1000) && decide (kvs.map (·.1)).Nodup && entB K kvs es.toList
    | _ => false)
  | _ => false
def hshOf (K : PySem.W.Frag) (x : PySem.Str) : List Int := match PySem.W.nsIn K mainGlobals x with
  | some (some (.ref a)) => (match K.lookup a with
    | some ⟨_, _, .dict es _, _⟩ => es.toList.map (·.hash)
    | _ => [])
  | _ => []
def hshD (w : World) (kvs : List (Ky × D)) : List Int := kvs.map fun p => match keyV p.1 with
  | some k => keyH w k
  | none => 0
theorem keyV_ky {k : Ky} {a : Key} (h : keyV k = some a) : kyR k a := by
  cases k <;> simp only [keyV] at h
  · cases h; exact rfl
  · split at h
    · cases h; exact ⟨rfl, by assumption⟩
    · cases h
  · cases h
theorem ent_ok {K : PySem.W.Frag} {w : World} : ∀ {kvs : List (Ky × D)} {es : List DictEntry}, entB K kvs es = true → es.map (·.hash) = hshD w kvs → ∃ ws : List (Key × V), Paired (fun (p : Key × V) (e : DictEntry) => keyIs p.1 e.key = true ∧ RelV p.2 e.val ∧ e.hash = keyH w p.1) ws es ∧ (∀ fz, RepK (K, w) fz kvs ws) ∧ Paired (fun (p : Ky × D) (q : Key × V) => kyR p.1 q.1) kvs ws
  | [], es, h, _ => by
    simp only [entB, List.isEmpty_iff] at h
    subst h
    exact ⟨[], .nil, fun _ => repK_nil, .nil⟩
  | (k, d) :: kvs, es, h, hh => by
    unfold entB at h
    split at h
    · rename_i e es a ek
      simp only [Bool.and_eq_true] at h
      have hh' : e.hash :: es.map (·.hash) = (match keyV k with
        | some k => keyH w k
        | none => 0) :: hshD w kvs := hh
      rw [ek] at hh'
      obtain ⟨e1, e2⟩ := List.cons.inj hh'
      obtain ⟨v, h1, h2⟩ := repB_ok (w := w) h.1.2
      obtain ⟨ws, h3, h4, h5⟩ := ent_ok h.2 e2
      refine ⟨(a, v) :: ws, .cons ⟨h.1.1, h1, e1⟩ h3, fun fz => ?_, .cons (keyV_ky ek) h5⟩
      simp only [RepK]
      exact ⟨a, v, ws, rfl, keyV_ky ek, h2 fz, h4 fz⟩
    · cases h
theorem nodup_keys : ∀ {kvs : List (Ky × D)} {ws : List (Key × V)}, Paired (fun (p : Ky × D) (q : Key × V) => kyR p.1 q.1) kvs ws → (kvs.map (·.1)).Nodup → (ws.map (·.1)).Nodup
  | _, _, .nil, _ => by simp
  | _, _, .cons (a := p) (b := q) h t, n => by
    rw [List.map_cons, List.nodup_cons] at n ⊢
    refine ⟨fun z => n.1 ?_, nodup_keys t n.2⟩
    have find : ∀ {ps : List (Ky × D)} {qs : List (Key × V)}, Paired (fun (p : Ky × D) (q : Key × V) => kyR p.1 q.1) ps qs → q.1 ∈ qs.map (·.1) → p.1 ∈ ps.map (·.1) := by
      intro ps qs t
      induction t with
      | nil => intro z; simp at z
      | @cons a b as bs h2 t ih =>
        intro z
        rw [List.map_cons, List.mem_cons] at z ⊢
        rcases z with z | z
        · exact .inl (kyR_inj h (z ▸ h2))
        · exact .inr (ih z)
    exact find t z
theorem paired_len {α β : Type} {F : α → β → Prop} : ∀ {as : List α} {bs : List β}, Paired F as bs → as.length = bs.length
  | _, _, .nil => rfl
  | _, _, .cons _ t => by simp [paired_len t]
theorem dctB_ok {K : PySem.W.Frag} {w : World} {kvs : List (Ky × D)} {x : PySem.Str} {u : Value} (hx : PySem.W.nsIn K mainGlobals x = some (some u)) (h : dctB K kvs u = true) (hh : hshOf K x = hshD w kvs) : ∃ v, RelV v u ∧ ∀ fz, Rep (K, w) fz (.dct false kvs) v := by
  unfold dctB at h
  split at h
  · rename_i a
    split at h
    · rename_i c es n sl lk
      simp only [Bool.and_eq_true, decide_eq_true_eq, Bool.not_eq_true', Array.isEmpty_iff] at h
      obtain ⟨⟨⟨⟨⟨rfl, rfl⟩, h3⟩, h4⟩, h5⟩, h6⟩ := h
      have hh' : es.toList.map (·.hash) = hshD w kvs := by
        unfold hshOf at hh
        rw [hx] at hh
        dsimp only at hh
        rw [lk] at hh
        exact hh
      obtain ⟨ws, k1, k2, k3⟩ := ent_ok h6 hh'
      refine ⟨.ref a, rfl, fun fz => ?_⟩
      simp only [Rep]
      exact ⟨a, ws, rfl, .inr ⟨es, n, lk, h3, by rw [← paired_len k3, sizeLine_eq]; omega, nodup_keys k3 h5, k1⟩, k2 fz⟩
    · cases h
  · cases h

/-! ### the table of a law -/
structure Tbl where
  fs : List (Nat × PySem.Str × Def × List PySem.Str)
  cs : List (PySem.Str × D)
  ds : List (PySem.Str × List (Ky × D))
def Tbl.G (T : Tbl) : Glob := ⟨T.fs.map fun p => (p.2.1, p.1), T.cs ++ T.ds.map fun p => (p.1, .dct false p.2)⟩
def Tbl.row (T : Tbl) (f : Nat) : Option (Nat × PySem.Str × Def × List PySem.Str) := T.fs.find? fun p => p.1 == f
def Tbl.defs (T : Tbl) (f : Nat) : Option Def := (T.row f).map fun p => p.2.2.1
def Tbl.nm (T : Tbl) (f : Nat) : List PySem.Str := match T.row f with
  | some p => p.2.2.2
  | none => []
def Tbl.fa (T : Tbl) (K : PySem.W.Frag) (f : Nat) : Addr := match T.row f with
  | some p => He.ga K p.2.1
  | none => 0
def isRefAt (K : PySem.W.Frag) (x : PySem.Str) : Bool := match PySem.W.nsIn K mainGlobals x with
  | some (some (.ref _)) => true
  | _ => false
theorem isRefAt_ok {K : PySem.W.Frag} {x : PySem.Str} (h : isRefAt K x = true) : PySem.W.nsIn K mainGlobals x = some (some (.ref (He.ga K x))) := by
  unfold isRefAt at h
  split at h
  · rename_i a e
    unfold He.ga
    rw [e]
  · cases h
def valAt (K : PySem.W.Frag) (x : PySem.Str) (f : Value → Bool) : Bool := match PySem.W.nsIn K mainGlobals x with
  | some (some u) => f u
  | _ => false
theorem valAt_ok {K : PySem.W.Frag} {x : PySem.Str} {f : Value → Bool} (h : valAt K x f = true) : ∃ u, PySem.W.nsIn K mainGlobals x = some (some u) ∧ f u = true := by
  unfold valAt at h
  split at h
  · rename_i u e
    exact ⟨u, e, h⟩
  · cases h
def isFree (K : PySem.W.Frag) (x : PySem.Str) : Bool := match PySem.W.nsIn K mainGlobals x with
  | some none => true
  | _ => false
def okM (T : Tbl) (K : PySem.W.Frag) : Bool :=
  (T.fs.all fun p => isRefAt K p.2.1 && (match T.row p.1 with
    | some q => decide (q.2.1 = p.2.1)
    | none => false) && defB T.G p.2.2.1 p.2.2.2 K (He.ga K p.2.1)) &&
  (T.cs.all fun p => valAt K p.1 (repB K p.2)) && (T.ds.all fun p => valAt K p.1 (dctB K p.2)) && bltN.all (isFree K)
abbrev AlM : Type := Bool × List (List Int)
def obsM (T : Tbl) (K : PySem.W.Frag) : AlM := (okM T K, T.ds.map fun p => hshOf K p.1)
def valM (T : Tbl) (w : World) : AlM := (true, T.ds.map fun p => hshD w p.2)
theorem map_eq_at {α β : Type} {f g : α → β} : ∀ {l : List α}, l.map f = l.map g → ∀ a ∈ l, f a = g a
  | [], _, a, h => absurd h (by simp)
  | b :: l, e, a, h => by
    rw [List.map_cons, List.map_cons] at e
    obtain ⟨e1, e2⟩ := List.cons.inj e
    rcases List.mem_cons.mp h with rfl | h
    · exact e1
    · exact map_eq_at e2 a h
/-- the module is as the table says -/
theorem modAt_of {T : Tbl} {K : PySem.W.Frag} {w : World} {h : PySem.Heap} {mg : PySem.Str → Option Value} (X : K.In h) (G : h.Ns mainGlobals mg) (e : obsM T K = valM T w) : ModAt T.G T.defs T.nm (T.fa K) K w mg := by
  have e1 : okM T K = true := congrArg (fun z : AlM => z.1) e
  have e2 : T.ds.map (fun p => hshOf K p.1) = T.ds.map fun p => hshD w p.2 := congrArg (fun z : AlM => z.2) e
  unfold okM at e1
  simp only [Bool.and_eq_true, List.all_eq_true] at e1
  obtain ⟨⟨⟨h1, h2⟩, h3⟩, h4⟩ := e1
  refine ⟨fun f d hd => ?_, fun x f hx => ?_, fun x d hx => ?_, fun x hx => ?_⟩
  · unfold Tbl.defs at hd
    obtain ⟨p, hp, rfl⟩ := Option.map_eq_some_iff.mp hd
    have hm : p ∈ T.fs := List.mem_of_find?_eq_some hp
    have k := (h1 p hm).2
    have ea : T.fa K f = He.ga K p.2.1 := by unfold Tbl.fa; rw [hp]
    have en : T.nm f = p.2.2.2 := by unfold Tbl.nm; rw [hp]
    rw [ea, en]
    exact defB_ok k
  · obtain ⟨p, hp, ep⟩ := List.mem_map.mp hx
    cases ep
    obtain ⟨⟨k1, k2⟩, k3⟩ := h1 p hp
    split at k2
    · rename_i q hq
      rw [decide_eq_true_eq] at k2
      refine ⟨⟨q.2.2.1, by unfold Tbl.defs; rw [hq]; rfl⟩, ?_⟩
      have ea : T.fa K p.1 = He.ga K p.2.1 := by
        unfold Tbl.fa
        rw [hq]
        show He.ga K q.2.1 = _
        rw [k2]
      rw [ea]
      exact PySem.W.mg_of X G (isRefAt_ok k1)
    · cases k2
  · rcases List.mem_append.mp hx with hx | hx
    · obtain ⟨u, k1, k2⟩ := valAt_ok (h2 (x, d) hx)
      obtain ⟨v, k3, k4⟩ := repB_ok (w := w) k2
      exact ⟨u, v, PySem.W.mg_of X G k1, k3, k4⟩
    · obtain ⟨p, hp, ep⟩ := List.mem_map.mp hx
      cases ep
      obtain ⟨u, k1, k2⟩ := valAt_ok (h3 p hp)
      obtain ⟨v, k3, k4⟩ := dctB_ok (w := w) k1 k2 (map_eq_at e2 p hp)
      exact ⟨u, v, PySem.W.mg_of X G k1, k3, k4⟩
  · have k := h4 x hx
    unfold isFree at k
    split at k
    · rename_i q
      exact PySem.W.mg_none_of X G q
    · cases k
def obsMG (n : Nat) (T : Tbl) (g : Addr → Option Obj) : AlM := obsM T (He.frG g (He.asD g n))
def hookM (n : Nat) (T : Tbl) : PySem.W.Hook where
  α := AlM
  obs := fun s => obsMG n T s.heap.get?
  val := fun w => valM T w
  says := fun w h => ∃ K : PySem.W.Frag, K.In h ∧ obsM T K = valM T w
  of := fun _ _ e => ⟨_, He.frG_in, e⟩
  keeps := fun _ _ _ ⟨K, hK, c⟩ k => ⟨K, PySem.W.Frag.In.keeps hK k, c⟩
theorem obsMG_eq {n : Nat} {T : Tbl} {g : Addr → Option Obj} {s : Shared} (h : ∀ a, g a = s.heap.get? a) : obsMG n T g = (hookM n T).obs s := by
  have e : g = s.heap.get? := funext h
  rw [e] <;> rfl

/-- the law's promise, from the run of the interpreter -/
theorem law_sp {K : KF} {T : Tbl} {k f : Nat} {H : Hp} {a : Addr} {ns : List Int} (hO : Only H) (hS : SqL K.1 H a (ns.map V.int)) (hl : ns.length ≤ LINE) (hr : run T.defs k f [.d (.lst (ns.map .int))] [] = .ok (.d (.bl true), [])) :
    spO K (run T.defs k f) [.ref a] H (fun v _ => v = .bl true) (fun _ _ _ => False) := by
  refine ⟨[.d (.lst (ns.map .int))], [], H, fun _ => none, [], ⟨Same.refl _, (fun _ _ q => nomatch q), (fun _ _ q => nomatch q), rfl, (fun n c e => by simp at e), (fun i j b l => by obtain ⟨c, e, _⟩ := l; simp at e)⟩, ⟨.ref a, [], rfl, ?_, rfl⟩, ?_⟩
  · show Rep K H (.lst (ns.map .int)) (.ref a)
    simp only [Rep]
    exact ⟨a, _, rfl, hS, by rw [List.length_map]; exact hl, rep_ints ns⟩
  · rw [hr]
    intro fz' v H' s st r
    exact Rep.bl_inv (show Rep K fz' (.bl true) v from r)
end Mini
set_option Elab.async false
set_option linter.all false
set_option autoImplicit false
set_option maxRecDepth 100000
set_option maxHeartbeats 4000000
/- Mini: how runs are reckoned. Own work. -/
namespace Mini

theorem nd {α : Sort _} {a b : α} (h : a = b) : a = b := h
theorem run_at {defs : Nat → Option Def} {d f : Nat} {xs : List RV} {h : Heap} {g : Def} (hg : defs f = some g) (hl : xs.length = g.ar) :
    run defs (d + 1) f xs h = exitF h.length (exS (run defs d) h.length g.body (startE g.ns xs) h) := by
  show (match defs f with
    | some g => if xs.length = g.ar then exitF h.length (exS (run defs d) h.length g.body (startE g.ns xs) h) else .stuck
    | none => .stuck) = _
  rw [hg]
  exact if_pos hl

/-! ### sequencing, without pairs -/
def b2 {α β : Type} (a : Out (α × Heap)) (f : α → Heap → Out β) : Out β := a.bind fun p => f p.1 p.2
def b3 {β : Type} (a : Out SR) (f : Fl → Env → Heap → Out β) : Out β := a.bind fun p => f p.1 p.2.1 p.2.2
def b1 {α β : Type} (a : Out α) (f : α → Out β) : Out β := a.bind f
def op1 {α β : Type} (f : α → Out β) : Option α → Out β
  | some a => f a
  | none => .stuck
def op2 {α β γ : Type} (f : α → β → Out γ) : Option α → Option β → Out γ
  | some a, some b => f a b
  | _, _ => .stuck
def op3 {α β : Type} (f : Option α → Out β) (a : Option α) : Out β := f a
def ifB {β : Type} (t f : Out β) : RV → Out β
  | .d (.bl true) => t
  | .d (.bl false) => f
  | _ => .stuck
def onI {β : Type} (f : Int → Out β) : RV → Out β
  | .d (.int i) => f i
  | _ => .stuck
def onD {β : Type} (f : D → Out β) : RV → Out β
  | .d i => f i
  | _ => .stuck
def onR {β : Type} (f : Nat → Out β) : RV → Out β
  | .ref i => f i
  | _ => .stuck
def cond2 {β : Type} (t f : Out β) : Bool → Out β
  | true => t
  | false => f
def oSeq (f : Env → Heap → Out SR) : Fl → Env → Heap → Out SR
  | .nx, e, h => f e h
  | g, e, h => .ok (g, e, h)
def oLoop (f : Env → Heap → Out SR) : Fl → Env → Heap → Out SR
  | .nx, e, h => f e h
  | .ct, e, h => f e h
  | .bk, e, h => .ok (.nx, e, h)
  | .rt r, e, h => .ok (.rt r, e, h)
def chk {β : Type} (p : Prop) [Decidable p] (a : Out β) : Out β := if p then a else .stuck
section
variable {α β γ : Type}
@[simp] theorem b1_ok (a : α) (f : α → Out β) : b1 (.ok a) f = f a := nd rfl
@[simp] theorem b2_ok (a : α) (h : Heap) (f : α → Heap → Out β) : b2 (.ok (a, h)) f = f a h := nd rfl
@[simp] theorem b3_ok (a : Fl) (e : Env) (h : Heap) (f : Fl → Env → Heap → Out β) : b3 (.ok (a, e, h)) f = f a e h := nd rfl
@[simp] theorem b1_exc (x : Ex) (k : Heap) (f : α → Out β) : b1 (.exc x k) f = .exc x k := nd rfl
@[simp] theorem b2_exc (x : Ex) (k : Heap) (f : α → Heap → Out β) : b2 (.exc x k) f = .exc x k := nd rfl
@[simp] theorem b3_exc (x : Ex) (k : Heap) (f : Fl → Env → Heap → Out β) : b3 (.exc x k) f = .exc x k := nd rfl
@[simp] theorem op1_some (a : α) (f : α → Out β) : op1 f (some a) = f a := nd rfl
@[simp] theorem op2_some (a : α) (b : β) (f : α → β → Out γ) : op2 f (some a) (some b) = f a b := nd rfl
@[simp] theorem ifB_t (t f : Out β) : ifB t f (.d (.bl true)) = t := nd rfl
@[simp] theorem ifB_f (t f : Out β) : ifB t f (.d (.bl false)) = f := nd rfl
@[simp] theorem onI_d (f : Int → Out β) (i : Int) : onI f (.d (.int i)) = f i := nd rfl
@[simp] theorem onD_d (f : D → Out β) (i : D) : onD f (.d i) = f i := nd rfl
@[simp] theorem onR_r (f : Nat → Out β) (i : Nat) : onR f (.ref i) = f i := nd rfl
@[simp] theorem cond2_t (t f : Out β) : cond2 t f true = t := nd rfl
@[simp] theorem cond2_f (t f : Out β) : cond2 t f false = f := nd rfl
@[simp] theorem oSeq_nx (f : Env → Heap → Out SR) (e : Env) (h : Heap) : oSeq f .nx e h = f e h := nd rfl
@[simp] theorem oSeq_rt (f : Env → Heap → Out SR) (r : RV) (e : Env) (h : Heap) : oSeq f (.rt r) e h = .ok (.rt r, e, h) := nd rfl
@[simp] theorem oSeq_bk (f : Env → Heap → Out SR) (e : Env) (h : Heap) : oSeq f .bk e h = .ok (.bk, e, h) := nd rfl
@[simp] theorem oSeq_ct (f : Env → Heap → Out SR) (e : Env) (h : Heap) : oSeq f .ct e h = .ok (.ct, e, h) := nd rfl
@[simp] theorem oLoop_nx (f : Env → Heap → Out SR) (e : Env) (h : Heap) : oLoop f .nx e h = f e h := nd rfl
@[simp] theorem oLoop_ct (f : Env → Heap → Out SR) (e : Env) (h : Heap) : oLoop f .ct e h = f e h := nd rfl
@[simp] theorem oLoop_bk (f : Env → Heap → Out SR) (e : Env) (h : Heap) : oLoop f .bk e h = .ok (.nx, e, h) := nd rfl
@[simp] theorem oLoop_rt (f : Env → Heap → Out SR) (r : RV) (e : Env) (h : Heap) : oLoop f (.rt r) e h = .ok (.rt r, e, h) := nd rfl
end
@[simp] theorem exitF_d (n : Nat) (v : D) (e : Env) (h : Heap) : exitF n (.ok (.rt (.d v), e, h)) = .ok (.d v, h.take n) := nd rfl
@[simp] theorem exitF_nw (n : Nat) (c : Cell) (e : Env) (h : Heap) : exitF n (.ok (.rt (.nw c), e, h)) = .ok (.nw c, h.take n) := nd rfl
@[simp] theorem exitF_nx (n : Nat) (e : Env) (h : Heap) : exitF n (.ok (.nx, e, h)) = .ok (.d .non, h.take n) := nd rfl
@[simp] theorem exitF_exc (n : Nat) (e : Ex) (h : Heap) : exitF n (.exc e h) = .exc e (h.take n) := nd rfl
@[simp] theorem take_self (h : Heap) : h.take h.length = h := List.take_length
@[simp] theorem take_app (h t : Heap) : (h ++ t).take h.length = h := List.take_left
theorem dep {d n : Nat} (h : n + 1 ≤ d) : ∃ e, d = e + 1 ∧ n ≤ e := ⟨d - 1, by omega, by omega⟩

section
variable (Φ : Calls)
/-! ### loops by name -/
def forS (base : Nat) (t : Tg) (b : S) : List D → Env → Heap → Out SR := forGo (fun x env h => match setTg t x env with
      | some e1 => exS Φ base b e1 h
      | none => .stuck)
def whlS (base : Nat) (c : C) (b : S) : Nat → Env → Heap → Out SR := whlGo (tst Φ c) (exS Φ base b)
def stepS (own : List Nat) (t : Tg) (c e : C) (env : Env) (x : D) (h : Heap) : Out (List D × Heap) := match setTg t x (wipe env own) with
      | some env1 => tst Φ c env1 h >>= fun (k, h2) => if k then ev Φ e env1 h2 >>= fun (y, h3) => (match nrm y with
          | .d v => .ok ([v], h3)
          | _ => .stuck) else .ok ([], h2)
      | none => .stuck
def mapS (own : List Nat) (t : Tg) (c e : C) (env : Env) : List D → Heap → Out (List D × Heap) := mapGo (stepS Φ own t c e env)
def stepS2 (own : List Nat) (t : Tg) (c : C) (own2 : List Nat) (t2 : Tg) (it2 c2 e : C) (env : Env) (x : D) (h : Heap) : Out (List D × Heap) := match setTg t x (wipe env own) with
      | some env1 => tst Φ c env1 h >>= fun (k, h2) => if k then
          walk Φ it2 env1 h2 >>= fun (zs, h3) => mapS Φ own2 t2 c2 e env1 zs h3
        else .ok ([], h2)
      | none => .stuck
def mapS2 (own : List Nat) (t : Tg) (c : C) (own2 : List Nat) (t2 : Tg) (it2 c2 e : C) (env : Env) : List D → Heap → Out (List D × Heap) := mapGo (stepS2 Φ own t c own2 t2 it2 c2 e env)
theorem forS_nil (base : Nat) (t : Tg) (b : S) (env : Env) (h : Heap) : forS Φ base t b [] env h = .ok (.nx, env, h) := nd rfl
theorem oforS_cons (base : Nat) (t : Tg) (b : S) (x : D) (xs : List D) (env : Env) (h : Heap) : forS Φ base t b (x :: xs) env h = b3 (op1 (fun e1 => exS Φ base b e1 h) (setTg t x env)) (oLoop (forS Φ base t b xs)) := by
  unfold forS b3 op1 oLoop
  conv => lhs; unfold forGo
  cases setTg t x env with
  | none => rfl
  | some e =>
    show Out.bind (exS Φ base b e h) _ = Out.bind (exS Φ base b e h) _
    congr 1
    funext p
    obtain ⟨f, e1, h1⟩ := p
    cases f <;> rfl
theorem owhlS_succ (base : Nat) (c : C) (b : S) (n : Nat) (env : Env) (h : Heap) : whlS Φ base c b (n + 1) env h = b2 (tst Φ c env h) fun k h0 => cond2 (b3 (exS Φ base b env h0) (oLoop (whlS Φ base c b n))) (.ok (.nx, env, h0)) k := by
  unfold whlS b2 b3 oLoop cond2
  conv => lhs; unfold whlGo
  show Out.bind (tst Φ c env h) _ = Out.bind (tst Φ c env h) _
  congr 1
  funext p
  obtain ⟨k, h0⟩ := p
  cases k with
  | false => rfl
  | true =>
    show Out.bind (exS Φ base b env h0) _ = Out.bind (exS Φ base b env h0) _
    congr 1
    funext p
    obtain ⟨f, e1, h1⟩ := p
    cases f <;> rfl
theorem ostepS_eq (own : List Nat) (t : Tg) (c e : C) (env : Env) (x : D) (h : Heap) : stepS Φ own t c e env x h = op1 (fun env1 => b2 (tst Φ c env1 h) fun k h2 => cond2 (b2 (ev Φ e env1 h2) fun y h3 => onD (fun v => .ok ([v], h3)) (nrm y)) (.ok ([], h2)) k) (setTg t x (wipe env own)) := by
  unfold stepS op1
  cases setTg t x (Mini.wipe env own) with
  | none => rfl
  | some e1 =>
    show Out.bind (tst Φ c e1 h) _ = Out.bind (tst Φ c e1 h) _
    congr 1
    funext p
    obtain ⟨k, h0⟩ := p
    cases k with
    | false => rfl
    | true =>
      rfl
theorem ostepS2_eq (own : List Nat) (t : Tg) (c : C) (own2 : List Nat) (t2 : Tg) (it2 c2 e : C) (env : Env) (x : D) (h : Heap) : stepS2 Φ own t c own2 t2 it2 c2 e env x h = op1 (fun env1 => b2 (tst Φ c env1 h) fun k h2 => cond2 (b2 (walk Φ it2 env1 h2) fun zs h3 => mapS Φ own2 t2 c2 e env1 zs h3) (.ok ([], h2)) k) (setTg t x (wipe env own)) := by
  unfold stepS2 op1
  cases setTg t x (Mini.wipe env own) with
  | none => rfl
  | some e1 =>
    show Out.bind (tst Φ c e1 h) _ = Out.bind (tst Φ c e1 h) _
    congr 1
    funext p
    obtain ⟨k, h0⟩ := p
    cases k <;> rfl
theorem mapS_nil (own : List Nat) (t : Tg) (c e : C) (env : Env) (h : Heap) : mapS Φ own t c e env [] h = .ok ([], h) := nd rfl
theorem omapS_cons (own : List Nat) (t : Tg) (c e : C) (env : Env) (x : D) (xs : List D) (h : Heap) : mapS Φ own t c e env (x :: xs) h = b2 (stepS Φ own t c e env x h) fun p h1 => b2 (mapS Φ own t c e env xs h1) fun q h2 => .ok (p ++ q, h2) := nd rfl
theorem mapS2_nil (own : List Nat) (t : Tg) (c : C) (own2 : List Nat) (t2 : Tg) (it2 c2 e : C) (env : Env) (h : Heap) : mapS2 Φ own t c own2 t2 it2 c2 e env [] h = .ok ([], h) := nd rfl
theorem omapS2_cons (own : List Nat) (t : Tg) (c : C) (own2 : List Nat) (t2 : Tg) (it2 c2 e : C) (env : Env) (x : D) (xs : List D) (h : Heap) : mapS2 Φ own t c own2 t2 it2 c2 e env (x :: xs) h = b2 (stepS2 Φ own t c own2 t2 it2 c2 e env x h) fun p h1 => b2 (mapS2 Φ own t c own2 t2 it2 c2 e env xs h1) fun q h2 => .ok (p ++ q, h2) := nd rfl
theorem flatMap_single {α β : Type} (g : α → β) : ∀ xs : List α, xs.flatMap (fun x => [g x]) = xs.map g
  | [] => rfl
  | x :: xs => by simp [flatMap_single g xs]
/-- each turn leaves the heap as it is -/
theorem mapGo_enc {α : Type} {f : D → Heap → Out (List D × Heap)} {h : Heap} (en : α → D) (g : α → List D) : ∀ {xs : List α}, (∀ x ∈ xs, f (en x) h = .ok (g x, h)) → mapGo f (xs.map en) h = .ok (xs.flatMap g, h)
  | [], _ => rfl
  | x :: xs, q => by
    have e1 := q x (by simp)
    have e2 := mapGo_enc (f := f) (h := h) en g (xs := xs) fun y hy => q y (by simp [hy])
    show (f (en x) h >>= fun p => mapGo f (xs.map en) p.2 >>= fun r => .ok (p.1 ++ r.1, r.2)) = _
    rw [e1, Out.ok_bind, e2]
    simp
section
variable {own : List Nat} {t : Tg} {c e : C} {env : Env} {h : Heap} {own2 : List Nat} {t2 : Tg} {it2 c2 : C}
theorem mapS_enc {α : Type} {xs : List α} (en : α → D) (g : α → List D) (q : ∀ x ∈ xs, stepS Φ own t c e env (en x) h = .ok (g x, h)) : mapS Φ own t c e env (xs.map en) h = .ok (xs.flatMap g, h) := mapGo_enc en g q
theorem mapS_encm {α : Type} {xs : List α} (en : α → D) (g : α → D) (q : ∀ x ∈ xs, stepS Φ own t c e env (en x) h = .ok ([g x], h)) : mapS Φ own t c e env (xs.map en) h = .ok (xs.map g, h) := by
  rw [mapS_enc Φ en (fun x => [g x]) q, flatMap_single]
theorem mapS_flat {xs : List D} (g : D → List D) (q : ∀ x ∈ xs, stepS Φ own t c e env x h = .ok (g x, h)) : mapS Φ own t c e env xs h = .ok (xs.flatMap g, h) := by
  have := mapS_enc Φ (fun x : D => x) g q
  simpa using this
theorem mapS_map {xs : List D} (g : D → D) (q : ∀ x ∈ xs, stepS Φ own t c e env x h = .ok ([g x], h)) : mapS Φ own t c e env xs h = .ok (xs.map g, h) := by
  rw [mapS_flat Φ (fun x => [g x]) q, flatMap_single]
theorem mapS2_enc {α : Type} {xs : List α} (en : α → D) (g : α → List D) (q : ∀ x ∈ xs, stepS2 Φ own t c own2 t2 it2 c2 e env (en x) h = .ok (g x, h)) : mapS2 Φ own t c own2 t2 it2 c2 e env (xs.map en) h = .ok (xs.flatMap g, h) := mapGo_enc en g q
end

/-! ### expressions -/
theorem oev_con (d : D) (env : Env) (h : Heap) : ev Φ (.con d) env h = .ok (.d d, h) := nd rfl
def oTake (n : Nat) (h : Heap) : Cell → Out (RV × Heap)
  | .gone => .stuck
  | c => .ok (.nw c, h.set n .gone)
theorem oTake_l (n : Nat) (h : Heap) (xs : List D) : oTake n h (.lst xs) = .ok (.nw (.lst xs), h.set n .gone) := nd rfl
theorem oTake_d (n : Nat) (h : Heap) (t : Bool) (xs : List (Ky × D)) : oTake n h (.dct t xs) = .ok (.nw (.dct t xs), h.set n .gone) := nd rfl
theorem oev_take (i : Nat) (env : Env) (h : Heap) : ev Φ (.take i) env h = b2 (ev Φ (.var i) env h) fun x h1 => onR (fun n => op1 (oTake n h1) (h1[n]?)) x := by
  rw [show ev Φ (.take i) env h = (match env[i]? with
    | some (some (.ref n)) => (match h[n]? with
      | some .gone => .stuck
      | some c => .ok (.nw c, h.set n .gone)
      | none => .stuck)
    | _ => .stuck) from rfl, show ev Φ (.var i) env h = (match env[i]? with
    | some (some r) => .ok (r, h)
    | _ => .stuck) from rfl]
  cases env[i]? with
  | none => rfl
  | some r =>
    cases r with
    | none => rfl
    | some r =>
      cases r with
      | ref n =>
        dsimp only [b2, Out.bind, onR]
        cases h[n]? with
        | none => rfl
        | some c => cases c <;> rfl
      | _ => rfl
def oBin (o : Bin) (x y : RV) (h : Heap) : Out (RV × Heap) := op2 (fun p q => b1 (binV o p q) fun r => .ok (r, h)) (view h (nrm x)) (view h (nrm y))
theorem oev_bin (o : Bin) (a b : C) (env : Env) (h : Heap) : ev Φ (.bin o a b) env h = b2 (ev Φ a env h) fun x h1 => b2 (ev Φ b env h1) fun y h2 => op2 (fun p q => b1 (binV o p q) fun r => .ok (r, h2)) (view h2 (nrm x)) (view h2 (nrm y)) := by
  show Out.bind _ _ = Out.bind _ _
  congr 1; funext p
  obtain ⟨x, h1⟩ := p
  show Out.bind _ _ = Out.bind _ _
  congr 1; funext q
  obtain ⟨y, h2⟩ := q
  dsimp only
  generalize view h2 (nrm x) = u
  generalize view h2 (nrm y) = v
  cases u with
  | none => cases v <;> rfl
  | some u =>
    cases v with
    | none => rfl
    | some v => rfl
theorem oev_neg (a : C) (env : Env) (h : Heap) : ev Φ (.neg a) env h = b2 (ev Φ a env h) fun x h1 => onI (fun i => .ok (.d (.int (-i)), h1)) x := by
  rfl
theorem oev_cmp (o : Cmp) (a b : C) (env : Env) (h : Heap) : ev Φ (.cmp o a b) env h = b2 (ev Φ a env h) fun x h1 => b2 (ev Φ b env h1) fun y h2 => op2 (fun p q => op1 (fun k => .ok (.d (.bl k), h2)) (cmpV o p q)) (view h2 (nrm x)) (view h2 (nrm y)) := by
  show Out.bind _ _ = Out.bind _ _
  congr 1; funext p
  obtain ⟨x, h1⟩ := p
  show Out.bind _ _ = Out.bind _ _
  congr 1; funext q
  obtain ⟨y, h2⟩ := q
  dsimp only
  generalize view h2 (nrm x) = u
  generalize view h2 (nrm y) = v
  cases u with
  | none => cases v <;> rfl
  | some u =>
    cases v with
    | none => rfl
    | some v => dsimp only [op2, op1]; cases cmpV o u v <;> rfl
theorem oev_chn (o p : Cmp) (a b c : C) (env : Env) (h : Heap) : ev Φ (.chn o p a b c) env h = b2 (ev Φ a env h) fun x h1 => b2 (ev Φ b env h1) fun y h2 =>
    op2 (fun u v => op1 (cond2 (b2 (ev Φ c env h2) fun z h3 => op2 (fun v' w => op1 (fun k => .ok (.d (.bl k), h3)) (cmpV p v' w)) (view h3 (nrm y)) (view h3 (nrm z))) (.ok (.d (.bl false), h2))) (cmpV o u v)) (view h2 (nrm x)) (view h2 (nrm y)) := by
  show Out.bind _ _ = Out.bind _ _
  congr 1; funext p
  obtain ⟨x, h1⟩ := p
  show Out.bind _ _ = Out.bind _ _
  congr 1; funext q
  obtain ⟨y, h2⟩ := q
  dsimp only
  cases view h2 (nrm x) with
  | none => cases view h2 (nrm y) <;> rfl
  | some u =>
    cases view h2 (nrm y) with
    | none => rfl
    | some v =>
      dsimp only [op2]
      cases cmpV o u v with
      | none => rfl
      | some k =>
        cases k with
        | false => rfl
        | true =>
          show Out.bind _ _ = Out.bind _ _
          congr 1; funext z
          obtain ⟨z, h3⟩ := z
          dsimp only
          generalize view h3 (nrm y) = v
          generalize view h3 (nrm z) = w
          cases v with
          | none => cases w <;> rfl
          | some v =>
            cases w with
            | none => rfl
            | some w => dsimp only [op2, op1]; cases cmpV p v w <;> rfl
theorem oev_and (a b : C) (env : Env) (h : Heap) : ev Φ (.and_ a b) env h = b2 (ev Φ a env h) fun x h1 => ifB (ev Φ b env h1) (.ok (.d (.bl false), h1)) x := by
  rfl
theorem oev_or (a b : C) (env : Env) (h : Heap) : ev Φ (.or_ a b) env h = b2 (ev Φ a env h) fun x h1 => ifB (.ok (.d (.bl true), h1)) (ev Φ b env h1) x := by
  show Out.bind _ _ = Out.bind _ _
  congr 1; funext p
  obtain ⟨x, h1⟩ := p
  cases x with
  | d x => cases x with
    | bl b => cases b <;> rfl
    | _ => rfl
  | _ => rfl
theorem oev_not (a : C) (env : Env) (h : Heap) : ev Φ (.not_ a) env h = b2 (ev Φ a env h) fun x h1 => ifB (.ok (.d (.bl false), h1)) (.ok (.d (.bl true), h1)) x := by
  show Out.bind _ _ = Out.bind _ _
  congr 1; funext p
  obtain ⟨x, h1⟩ := p
  cases x with
  | d x => cases x with
    | bl b => cases b <;> rfl
    | _ => rfl
  | _ => rfl
theorem oev_ite (c a b : C) (env : Env) (h : Heap) : ev Φ (.ite c a b) env h = b2 (tst Φ c env h) fun k h1 => cond2 (ev Φ a env h1) (ev Φ b env h1) k := by
  show Out.bind _ _ = Out.bind _ _
  congr 1; funext p
  obtain ⟨k, h1⟩ := p
  cases k <;> rfl
theorem oev_tup (as : C) (env : Env) (h : Heap) : ev Φ (.tup as) env h = b2 (evs Φ as env h) fun x h1 => op1 (fun ds => if ds.length ≤ LINE then .ok (.d (.tup ds), h1) else .stuck) (datasOf x) := by
  show Out.bind _ _ = Out.bind _ _
  congr 1; funext p
  obtain ⟨x, h1⟩ := p
  dsimp only
  generalize datasOf x = u
  cases u with
  | none => rfl
  | some u => rfl
theorem oev_lst (as : C) (env : Env) (h : Heap) : ev Φ (.lst as) env h = b2 (evs Φ as env h) fun x h1 => op1 (fun ds => if ds.length ≤ LINE then .ok (.nw (.lst ds), h1) else .stuck) (datasOf x) := by
  show Out.bind _ _ = Out.bind _ _
  congr 1; funext p
  obtain ⟨x, h1⟩ := p
  dsimp only
  generalize datasOf x = u
  cases u with
  | none => rfl
  | some u => rfl
theorem oev_dic (t : Bool) (as : C) (env : Env) (h : Heap) : ev Φ (.dic t as) env h = b2 (evs Φ as env h) fun x h1 => op1 (fun ds => op1 (fun kvs => if kvs.length ≤ 15 then .ok (.nw (.dct t (dmerge [] kvs)), h1) else .stuck) (dictOf t ds)) (datasOf x) := by
  show Out.bind _ _ = Out.bind _ _
  congr 1; funext p
  obtain ⟨x, h1⟩ := p
  dsimp only
  generalize datasOf x = u
  cases u with
  | none => rfl
  | some u => dsimp only [op1]; cases dictOf t u <;> rfl
theorem oev_idx (a i : C) (env : Env) (h : Heap) : ev Φ (.idx a i) env h = b2 (ev Φ a env h) fun x h1 => b2 (ev Φ i env h1) fun y h2 => op2 (fun p q => op1 (fun v => .ok (.d v, h2)) (idxV p q)) (view h2 (nrm x)) (view h2 (nrm y)) := by
  show Out.bind _ _ = Out.bind _ _
  congr 1; funext p
  obtain ⟨x, h1⟩ := p
  show Out.bind _ _ = Out.bind _ _
  congr 1; funext q
  obtain ⟨y, h2⟩ := q
  dsimp only
  generalize view h2 (nrm x) = u
  generalize view h2 (nrm y) = v
  cases u with
  | none => cases v <;> rfl
  | some u =>
    cases v with
    | none => rfl
    | some v => dsimp only [op2, op1]; cases idxV u v <;> rfl
theorem oev_sli (a lo hi : C) (env : Env) (h : Heap) : ev Φ (.sli a lo hi) env h = b2 (ev Φ a env h) fun x h1 => b2 (part Φ lo env h1) fun l h2 => b2 (part Φ hi env h2) fun u h3 => op1 (fun p => op1 (fun r => .ok (r, h3)) (sliV p l u)) (view h3 (nrm x)) := by
  show Out.bind _ _ = Out.bind _ _
  congr 1; funext p
  obtain ⟨x, h1⟩ := p
  show Out.bind _ _ = Out.bind _ _
  congr 1; funext q
  obtain ⟨l, h2⟩ := q
  show Out.bind _ _ = Out.bind _ _
  congr 1; funext z
  obtain ⟨u, h3⟩ := z
  dsimp only
  generalize view h3 (nrm x) = v
  cases v with
  | none => rfl
  | some v => dsimp only [op1]; cases sliV v l u <;> rfl
theorem oev_rev (a : C) (env : Env) (h : Heap) : ev Φ (.rev a) env h = b2 (ev Φ a env h) fun x h1 => op1 (fun p => op1 (fun r => .ok (r, h1)) (revV p)) (view h1 (nrm x)) := by
  show Out.bind _ _ = Out.bind _ _
  congr 1; funext p
  obtain ⟨x, h1⟩ := p
  dsimp only
  generalize view h1 (nrm x) = u
  cases u with
  | none => rfl
  | some u => dsimp only [op1]; cases revV u <;> rfl
theorem oev_call (f : Nat) (as : C) (env : Env) (h : Heap) : ev Φ (.call f as) env h = b2 (evs Φ as env h) fun x h1 => Φ f x h1 := nd rfl
theorem oev_bi (b : Bi) (as : C) (env : Env) (h : Heap) : ev Φ (.bi b as) env h = b2 (evs Φ as env h) fun x h1 => op1 (fun ds => op1 (fun r => .ok (r, h1)) (biV b ds)) (views h1 x) := by
  show Out.bind _ _ = Out.bind _ _
  congr 1; funext p
  obtain ⟨x, h1⟩ := p
  dsimp only
  generalize views h1 x = u
  cases u with
  | none => rfl
  | some u => dsimp only [op1]; cases biV b u <;> rfl
def oMt (m : Mt) (x : RV) (ys : List RV) (h : Heap) : Bool → Out (RV × Heap)
  | true => onR (fun n => op2 (fun c ds => op1 (fun p => .ok (.d p.1, h.set n p.2)) (mtW m c ds)) (h[n]?) (datasOf ys)) x
  | false => op2 (fun p ds => op1 (fun r => .ok (r, h)) (mtV m p ds)) (view h x) (datasOf ys)
theorem oMt_t (m : Mt) (x : RV) (ys : List RV) (h : Heap) : oMt m x ys h true = onR (fun n => op2 (fun c ds => op1 (fun p => .ok (.d p.1, h.set n p.2)) (mtW m c ds)) (h[n]?) (datasOf ys)) x := nd rfl
theorem oMt_f (m : Mt) (x : RV) (ys : List RV) (h : Heap) : oMt m x ys h false = op2 (fun p ds => op1 (fun r => .ok (r, h)) (mtV m p ds)) (view h x) (datasOf ys) := nd rfl
theorem oev_mt (m : Mt) (o as : C) (env : Env) (h : Heap) : ev Φ (.mt m o as) env h = b2 (ev Φ o env h) fun x h1 => op1 (cond2 (b2 (evs Φ as env h1) fun ys h2 => oMt m (nrm x) ys h2 (writes m)) .stuck) ((view h1 (nrm x)).map (onKind m)) := by
  show Out.bind _ _ = Out.bind _ _
  congr 1; funext p
  obtain ⟨x, h1⟩ := p
  dsimp only
  cases (view h1 (nrm x)).map (onKind m) with
  | none => rfl
  | some k =>
    cases k with
    | false => rfl
    | true =>
      rw [if_pos rfl]
      show Out.bind _ _ = Out.bind _ _
      congr 1; funext q
      obtain ⟨ys, h2⟩ := q
      dsimp only
      cases writes m with
      | true =>
        rw [if_pos rfl, oMt_t]
        cases nrm x with
        | ref n =>
          dsimp only [onR]
          cases datasOf ys with
          | none => cases h2[n]? <;> rfl
          | some ds =>
            dsimp only
            cases h2[n]? with
            | none => rfl
            | some c => dsimp only [op2]; cases mtW m c ds <;> rfl
        | _ => rfl
      | false =>
        rw [if_neg (by decide), oMt_f]
        cases view h2 (nrm x) with
        | none => cases datasOf ys <;> rfl
        | some c =>
          cases datasOf ys with
          | none => rfl
          | some ds => dsimp only [op2]; cases mtV m c ds <;> rfl
theorem oev_isi (a : C) (t : Ty) (env : Env) (h : Heap) : ev Φ (.isi a t) env h = b2 (ev Φ a env h) fun x h1 => op1 (fun p => op1 (fun k => .ok (.d (.bl k), h1)) (isiV t p)) (view h1 (nrm x)) := by
  show Out.bind _ _ = Out.bind _ _
  congr 1; funext p
  obtain ⟨x, h1⟩ := p
  dsimp only
  generalize view h1 (nrm x) = u
  cases u with
  | none => rfl
  | some u => dsimp only [op1]; cases isiV t u <;> rfl
theorem oev_comp (own : List Nat) (t : Tg) (it c e : C) (env : Env) (h : Heap) : ev Φ (.comp own t it c e) env h = b2 (walk Φ it env h) fun x h1 => b2 (mapS Φ own t c e env x h1).calm fun ys h2 => if ys.length ≤ LINE then .ok (.nw (.lst ys), h2) else .stuck := nd rfl
theorem oev_comp2 (own : List Nat) (t : Tg) (it c : C) (own2 : List Nat) (t2 : Tg) (it2 c2 e : C) (env : Env) (h : Heap) : ev Φ (.comp2 own t it c own2 t2 it2 c2 e) env h = b2 (walk Φ it env h) fun x h1 => b2 (mapS2 Φ own t c own2 t2 it2 c2 e env x h1).calm fun ys h2 => if ys.length ≤ LINE then .ok (.nw (.lst ys), h2) else .stuck := nd rfl
theorem oevs_nil (env : Env) (h : Heap) : evs Φ .nil env h = .ok ([], h) := nd rfl
theorem oevs_cons (a r : C) (env : Env) (h : Heap) : evs Φ (.cons a r) env h = b2 (ev Φ a env h) fun x h1 => b2 (evs Φ r env h1) fun xs h2 => .ok (nrm x :: xs, h2) := nd rfl
theorem otst_and (a b : C) (env : Env) (h : Heap) : tst Φ (.tand a b) env h = b2 (tst Φ a env h) fun k h1 => cond2 (tst Φ b env h1) (.ok (false, h1)) k := by
  show Out.bind _ _ = Out.bind _ _
  congr 1; funext p
  obtain ⟨k, h1⟩ := p
  cases k <;> rfl
theorem otst_or (a b : C) (env : Env) (h : Heap) : tst Φ (.tor a b) env h = b2 (tst Φ a env h) fun k h1 => cond2 (.ok (true, h1)) (tst Φ b env h1) k := by
  show Out.bind _ _ = Out.bind _ _
  congr 1; funext p
  obtain ⟨k, h1⟩ := p
  cases k <;> rfl
theorem otst_not (a : C) (env : Env) (h : Heap) : tst Φ (.tnot a) env h = b2 (tst Φ a env h) fun k h1 => .ok (!k, h1) := nd rfl
theorem otst_yes (env : Env) (h : Heap) : tst Φ .tyes env h = .ok (true, h) := nd rfl
theorem otst_te (c : C) (env : Env) (h : Heap) : tst Φ (.te c) env h = b2 (ev Φ c env h) fun x h1 => op1 (fun p => op1 (fun k => .ok (k, h1)) (truth p)) (view h1 (nrm x)) := by
  show Out.bind _ _ = Out.bind _ _
  congr 1; funext p
  obtain ⟨x, h1⟩ := p
  dsimp only
  generalize view h1 (nrm x) = u
  cases u with
  | none => rfl
  | some u => dsimp only [op1, Option.bind_some]; cases truth u <;> rfl
theorem opart_nil (env : Env) (h : Heap) : part Φ .nil env h = .ok (none, h) := nd rfl
theorem opart_pv (c : C) (env : Env) (h : Heap) : part Φ (.pv c) env h = b2 (ev Φ c env h) fun x h1 => onI (fun i => .ok (some i, h1)) x := by
  rfl
theorem owalk_rng1 (a : C) (env : Env) (h : Heap) : walk Φ (.rng1 a) env h = b2 (ev Φ a env h) fun x h1 => onI (fun i => if -(LINE : Int) ≤ i ∧ i ≤ LINE then .ok (rangeD 0 i, h1) else .stuck) x := by
  rfl
theorem owalk_rng2 (a b : C) (env : Env) (h : Heap) : walk Φ (.rng2 a b) env h = b2 (ev Φ a env h) fun x h1 => b2 (ev Φ b env h1) fun y h2 => onI (fun i => onI (fun j => if i ≤ LINE ∧ j ≤ LINE ∧ 0 ≤ i ∧ 0 ≤ j then .ok (rangeD i j, h2) else .stuck) y) x := by
  show Out.bind _ _ = Out.bind _ _
  congr 1; funext p
  show Out.bind _ _ = Out.bind _ _
  congr 1; funext q
  obtain ⟨x, h1⟩ := p
  obtain ⟨y, h2⟩ := q
  cases x with
  | d x => cases y with
    | d y => cases x <;> cases y <;> rfl
    | _ => cases x <;> rfl
  | _ => rfl
theorem owalk_zip2 (a b : C) (env : Env) (h : Heap) : walk Φ (.zip2 a b) env h = b2 (ev Φ a env h) fun x h1 => b2 (ev Φ b env h1) fun y h2 => match nrm x, nrm y with
    | .d (.lst xs), .d (.lst ys) => .ok (zipD xs ys, h2)
    | .d (.tup xs), .d (.tup ys) => .ok (zipD xs ys, h2)
    | _, _ => .stuck := nd rfl
theorem owalk_enu (a : C) (env : Env) (h : Heap) : walk Φ (.enu a) env h = b2 (ev Φ a env h) fun x h1 => match nrm x with
    | .d (.lst xs) => .ok (enuD 0 xs, h1)
    | _ => .stuck := nd rfl
theorem owalk_wv (c : C) (env : Env) (h : Heap) : walk Φ (.wv c) env h = b2 (ev Φ c env h) fun x h1 => onD (fun p => op1 (fun xs => .ok (xs, h1)) (itemsV p)) (nrm x) := by
  show Out.bind _ _ = Out.bind _ _
  congr 1; funext p
  obtain ⟨x, h1⟩ := p
  dsimp only
  cases nrm x with
  | d p => dsimp only [onD, op1]; cases itemsV p <;> rfl
  | _ => rfl
/-! ### statements -/
theorem oexS_skip (base : Nat) (env : Env) (h : Heap) : exS Φ base .skip env h = .ok (.nx, env, h) := nd rfl
theorem oexS_seq (base : Nat) (a b : S) (env : Env) (h : Heap) : exS Φ base (.seq a b) env h = b3 (exS Φ base a env h) (oSeq (exS Φ base b)) := by
  show Out.bind _ _ = Out.bind _ _
  congr 1; funext p
  obtain ⟨f, e, h1⟩ := p
  cases f <;> rfl
theorem oexS_asg (base : Nat) (m : Bool) (i : Nat) (e : C) (env : Env) (h : Heap) : exS Φ base (.asg m (.nm i) e) env h = b2 (ev Φ e env h) fun x h1 => b2 (asgV base m i x env h1) fun e2 h2 => .ok (.nx, e2, h2) := nd rfl
theorem oexS_asgT (base : Nat) (m : Bool) (ts : Tg) (e : C) (env : Env) (h : Heap) : exS Φ base (.asg m (.tp ts) e) env h = b2 (ev Φ e env h) fun x h1 => onD (fun v => op1 (fun e2 => .ok (.nx, e2, h1)) (setTg (.tp ts) v env)) (nrm x) := by
  show Out.bind _ _ = Out.bind _ _
  congr 1; funext p
  obtain ⟨x, h1⟩ := p
  dsimp only
  cases nrm x with
  | d p => dsimp only [onD, op1]; cases setTg (.tp ts) p env <;> rfl
  | _ => rfl
theorem oexS_par (base : Nat) (ls : List L) (as : C) (env : Env) (h : Heap) : exS Φ base (.par ls as) env h = b2 (evw Φ ls as env h) fun x h1 => b2 (doPar Φ ls x env h1) fun e2 h2 => .ok (.nx, e2, h2) := nd rfl
theorem oexS_sub (base : Nat) (o i e : C) (env : Env) (h : Heap) : exS Φ base (.sub o i e) env h = b2 (ev Φ e env h) fun z h0 => onD (fun v => b1 (doSub Φ o i v env h0) fun h1 => .ok (.nx, env, h1)) (nrm z) := by
  rfl
def oAugR (o : Bin) (n : Nat) (env : Env) (h : Heap) : RV → Option Cell → Out SR
  | .nw (.lst ys), some (.lst xs) => (match o with
    | .add => if xs.length + ys.length ≤ LINE then .ok (.nx, env, h.set n (.lst (xs ++ ys))) else .stuck
    | _ => .stuck)
  | _, _ => .stuck
theorem oAugR_eq (n : Nat) (env : Env) (h : Heap) (xs ys : List D) : oAugR .add n env h (.nw (.lst ys)) (some (.lst xs)) = if xs.length + ys.length ≤ LINE then .ok (.nx, env, h.set n (.lst (xs ++ ys))) else .stuck := nd rfl
def oAug (base : Nat) (i : Nat) (o : Bin) (e : C) (env : Env) (h : Heap) : RV → Out SR
  | .d x => b2 (ev Φ e env h) fun z h1 => op1 (fun y => b1 (augV o x y) fun v => .ok (.nx, env.set i (some (.d v)), h1)) (view h1 (nrm z))
  | .ref n => b2 (ev Φ e env h) fun z h1 => oAugR o n env h1 z (h1[n]?)
  | _ => .stuck
theorem oAug_d (base : Nat) (i : Nat) (o : Bin) (e : C) (env : Env) (h : Heap) (x : D) : oAug Φ base i o e env h (.d x) = b2 (ev Φ e env h) fun z h1 => op1 (fun y => b1 (augV o x y) fun v => .ok (.nx, env.set i (some (.d v)), h1)) (view h1 (nrm z)) := nd rfl
theorem oAug_r (base : Nat) (i : Nat) (o : Bin) (e : C) (env : Env) (h : Heap) (n : Nat) : oAug Φ base i o e env h (.ref n) = b2 (ev Φ e env h) fun z h1 => oAugR o n env h1 z (h1[n]?) := nd rfl
theorem oexS_aug (base : Nat) (i : Nat) (o : Bin) (e : C) (env : Env) (h : Heap) : exS Φ base (.aug i o e) env h = b2 (ev Φ (.var i) env h) fun x h1 => oAug Φ base i o e env h1 x := by
  rw [exS, show ev Φ (.var i) env h = (match env[i]? with
    | some (some r) => .ok (r, h)
    | _ => .stuck) from rfl]
  cases env[i]? with
  | none => rfl
  | some r =>
    cases r with
    | none => rfl
    | some r =>
      cases r with
      | d x =>
        show Out.bind (ev Φ e env h) _ = Out.bind (ev Φ e env h) _
        congr 1; funext p
        obtain ⟨z, h1⟩ := p
        dsimp only
        cases view h1 (nrm z) <;> rfl
      | ref n =>
        show Out.bind (ev Φ e env h) _ = Out.bind (ev Φ e env h) _
        congr 1; funext p
        obtain ⟨z, h1⟩ := p
        dsimp only
        cases h1[n]? with
        | none => cases o <;> cases z <;> first | rfl | (rename_i c; cases c <;> rfl)
        | some c2 => cases o <;> cases z <;> first | rfl | (rename_i c; cases c <;> cases c2 <;> rfl)
      | nw c => rfl
theorem oexS_exp (base : Nat) (e : C) (env : Env) (h : Heap) : exS Φ base (.exp e) env h = b2 (ev Φ e env h) fun _ h1 => .ok (.nx, env, h1) := nd rfl
theorem oexS_ret (base : Nat) (e : C) (env : Env) (h : Heap) : exS Φ base (.ret e) env h = b2 (ev Φ e env h) fun x h1 => .ok (.rt x, env, h1) := nd rfl
theorem oexS_retn (base : Nat) (env : Env) (h : Heap) : exS Φ base .retn env h = .ok (.rt (.d .non), env, h) := nd rfl
theorem oexS_ite (base : Nat) (c : C) (a b : S) (env : Env) (h : Heap) : exS Φ base (.ite c a b) env h = b2 (tst Φ c env h) fun k h1 => cond2 (exS Φ base a env h1) (exS Φ base b env h1) k := by
  show Out.bind _ _ = Out.bind _ _
  congr 1; funext p
  obtain ⟨k, h1⟩ := p
  cases k <;> rfl
theorem oexS_whl (base : Nat) (c : C) (b : S) (env : Env) (h : Heap) : exS Φ base (.whl c b) env h = whlS Φ base c b TURNS env h := nd rfl
theorem oexS_for (base : Nat) (t : Tg) (it : C) (b : S) (env : Env) (h : Heap) : exS Φ base (.for_ t it b) env h = b2 (walk Φ it env h) fun x h1 => forS Φ base t b x env h1 := nd rfl
theorem oexS_brk (base : Nat) (env : Env) (h : Heap) : exS Φ base .brk env h = .ok (.bk, env, h) := nd rfl
theorem oexS_cnt (base : Nat) (env : Env) (h : Heap) : exS Φ base .cnt env h = .ok (.ct, env, h) := nd rfl
theorem oexS_rse (base : Nat) (c : Nat) (env : Env) (h : Heap) : exS Φ base (.rse c) env h = .exc ⟨c, []⟩ h := nd rfl
theorem oevw_nil (env : Env) (h : Heap) : evw Φ [] .nil env h = .ok ([], h) := nd rfl
theorem oevw_mut (i : Nat) (ls : List L) (a r : C) (env : Env) (h : Heap) : evw Φ (.nm true i :: ls) (.cons a r) env h = b2 (ev Φ a env h) fun x h1 => (match x with
    | .nw c => evw Φ ls r env (h1 ++ [c]) >>= fun y => .ok (.ref h1.length :: y.1, y.2)
    | _ => .stuck) := by
  show Out.bind _ _ = Out.bind _ _
  congr 1; funext p
  obtain ⟨x, h1⟩ := p
  cases x <;> rfl
def oNew (f : Heap → Out (List RV × Heap)) (h : Heap) : RV → Out (List RV × Heap)
  | .nw c => b2 (f (h ++ [c])) fun y h1 => .ok (.ref h.length :: y, h1)
  | _ => .stuck
theorem oNew_l (f : Heap → Out (List RV × Heap)) (h : Heap) (c : Cell) : oNew f h (.nw c) = b2 (f (h ++ [c])) fun y h1 => .ok (.ref h.length :: y, h1) := nd rfl
theorem oevw_new (i : Nat) (ls : List L) (a r : C) (env : Env) (h : Heap) : evw Φ (.nm true i :: ls) (.cons a r) env h = b2 (ev Φ a env h) fun x h1 => oNew (evw Φ ls r env) h1 x := by
  show Out.bind _ _ = Out.bind _ _
  congr 1; funext p
  obtain ⟨x, h1⟩ := p
  cases x <;> rfl
theorem oevw_dat (i : Nat) (ls : List L) (a r : C) (env : Env) (h : Heap) : evw Φ (.nm false i :: ls) (.cons a r) env h = b2 (ev Φ a env h) fun x h1 => b2 (evw Φ ls r env h1) fun y h2 => .ok (nrm x :: y, h2) := by
  rfl
theorem oevw_sub (o i : C) (ls : List L) (a r : C) (env : Env) (h : Heap) : evw Φ (.sb o i :: ls) (.cons a r) env h = b2 (ev Φ a env h) fun x h1 => b2 (evw Φ ls r env h1) fun y h2 => .ok (nrm x :: y, h2) := by
  rfl
theorem odoSub (o i : C) (v : D) (env : Env) (h : Heap) : doSub Φ o i v env h = b2 (ev Φ o env h) fun x h1 => b2 (ev Φ i env h1) fun y h2 => onR (fun n => onD (fun k => op1 (fun c => op1 (fun c' => .ok (h2.set n c')) (subV (isTupC i) c k v)) (h2[n]?)) (nrm y)) x := by
  show Out.bind _ _ = Out.bind _ _
  congr 1; funext p
  show Out.bind _ _ = Out.bind _ _
  congr 1; funext q
  obtain ⟨x, h1⟩ := p
  obtain ⟨y, h2⟩ := q
  cases x with
  | ref n =>
    dsimp only
    cases nrm y with
    | d k =>
      simp only [onR, onD, op1]
      cases h2[n]? with
      | none => rfl
      | some c => dsimp only; cases subV (isTupC i) c k v <;> rfl
    | _ => rfl
  | _ => rfl
end
end Mini
namespace Mini
@[simp] theorem at_0 {α : Type} (x : α) (xs : List α) : atD (x :: xs) 0 = some x := by simp [atD, place]
@[simp] theorem at_1 {α : Type} (x y : α) (xs : List α) : atD (x :: y :: xs) 1 = some y := by
  have : (1 : Int) < ((x :: y :: xs).length : Int) := by simp; omega
  unfold atD place
  rw [if_pos (by decide), if_pos (by exact_mod_cast this)]; rfl
@[simp] theorem at_2 {α : Type} (x y z : α) (xs : List α) : atD (x :: y :: z :: xs) 2 = some z := by
  have : (2 : Int) < ((x :: y :: z :: xs).length : Int) := by simp; omega
  unfold atD place
  rw [if_pos (by decide), if_pos (by exact_mod_cast this)]; rfl
@[simp] theorem at_3 {α : Type} (x y z u : α) (xs : List α) : atD (x :: y :: z :: u :: xs) 3 = some u := by
  have : (3 : Int) < ((x :: y :: z :: u :: xs).length : Int) := by simp; omega
  unfold atD place
  rw [if_pos (by decide), if_pos (by exact_mod_cast this)]; rfl
@[simp] theorem at_4 {α : Type} (x y z u v : α) (xs : List α) : atD (x :: y :: z :: u :: v :: xs) 4 = some v := by
  have : (4 : Int) < ((x :: y :: z :: u :: v :: xs).length : Int) := by simp; omega
  unfold atD place
  rw [if_pos (by decide), if_pos (by exact_mod_cast this)]; rfl
@[simp] theorem at_last {α : Type} (xs : List α) (x : α) : atD (xs ++ [x]) (-1) = some x := by
  unfold atD place
  have h1 : ¬ (0 : Int) ≤ -1 := by decide
  have h2 : -((xs ++ [x]).length : Int) ≤ -1 := by simp; omega
  rw [if_neg h1, if_pos h2]
  have h3 : (-1 + ((xs ++ [x]).length : Int)).toNat = xs.length := by simp; omega
  rw [Option.bind_some, h3]
  simp
theorem cut_from {α : Type} (xs : List α) (n : Nat) : cut xs (some (n : Int)) none = xs.drop n := by
  unfold cut cutIx
  have h1 : ¬ (n : Int) < 0 := by omega
  simp only [h1, if_false, Int.toNat_natCast]
  by_cases q : n ≤ xs.length
  · rw [Nat.min_eq_left q, List.take_of_length_le (by simp)]
  · rw [Nat.min_eq_right (by omega), List.drop_of_length_le (Nat.le_refl _), List.drop_of_length_le (by omega)]
    simp
@[simp] theorem cut_1 {α : Type} (x : α) (xs : List α) : cut (x :: xs) (some 1) none = xs := by simpa using cut_from (x :: xs) 1
@[simp] theorem cut_2 {α : Type} (x y : α) (xs : List α) : cut (x :: y :: xs) (some 2) none = xs := by simpa using cut_from (x :: y :: xs) 2
theorem cut_to {α : Type} (xs : List α) (n : Nat) : cut xs none (some (n : Int)) = xs.take n := by
  unfold cut cutIx
  have h1 : ¬ (n : Int) < 0 := by omega
  simp only [h1, if_false, Int.toNat_natCast, List.drop_zero, Nat.sub_zero]
  rcases Nat.le_total n xs.length with q | q
  · rw [Nat.min_eq_left q]
  · rw [Nat.min_eq_right q, List.take_of_length_le (Nat.le_refl _), List.take_of_length_le q]
@[simp] theorem cut_init {α : Type} (xs : List α) (x : α) : cut (xs ++ [x]) none (some (-1)) = xs := by
  unfold cut cutIx
  simp
  have e : (-1 + ((xs.length : Int) + 1)).toNat = xs.length := by omega
  rw [e, List.take_left]
theorem LINE_eq : LINE = 16777216 := rfl
@[simp] theorem lit_le {n : Nat} (h : n ≤ 100) : n ≤ LINE := by rw [LINE_eq]; omega
@[simp] theorem lit_lt {n : Nat} (h : n ≤ 100) : n < LINE := by rw [LINE_eq]; omega
end Mini

namespace Mini
/-! ### a def's own things behind those that stand -/
@[simp] theorem own_at (h : Heap) (c : Cell) (t : Heap) : (h ++ c :: t)[h.length]? = some c := by simp
@[simp] theorem own_at1 (h : Heap) (a c : Cell) (t : Heap) : (h ++ a :: c :: t)[h.length + 1]? = some c := by simp
@[simp] theorem own_at2 (h : Heap) (a b c : Cell) (t : Heap) : (h ++ a :: b :: c :: t)[h.length + 2]? = some c := by simp
@[simp] theorem own_set (h : Heap) (c d : Cell) (t : Heap) : (h ++ c :: t).set h.length d = h ++ d :: t := by simp
@[simp] theorem own_set1 (h : Heap) (a c d : Cell) (t : Heap) : (h ++ a :: c :: t).set (h.length + 1) d = h ++ a :: d :: t := by
  rw [List.set_append_right _ _ (by omega)]
  have e : h.length + 1 - h.length = 1 := by omega
  rw [e]; rfl
@[simp] theorem own_set2 (h : Heap) (a b c d : Cell) (t : Heap) : (h ++ a :: b :: c :: t).set (h.length + 2) d = h ++ a :: b :: d :: t := by
  rw [List.set_append_right _ _ (by omega)]
  have e : h.length + 2 - h.length = 2 := by omega
  rw [e]; rfl
theorem asgM_new {base i : Nat} {c : Cell} {env : Env} {h : Heap} (e : env[i]? = some none) : asgM base i c env h = (env.set i (some (.ref h.length)), h ++ [c]) := by unfold asgM; rw [e]
theorem asgM_dat {base i : Nat} {c : Cell} {env : Env} {h : Heap} {x : D} (e : env[i]? = some (some (.d x))) : asgM base i c env h = (env.set i (some (.ref h.length)), h ++ [c]) := by unfold asgM; rw [e]
theorem asgM_own {base i n : Nat} {c : Cell} {env : Env} {h : Heap} (e : env[i]? = some (some (.ref n))) (q : base ≤ n ∧ n < h.length ∧ alone n i 0 env = true) : asgM base i c env h = (env, h.set n c) := by
  unfold asgM; rw [e]; exact if_pos q
end Mini
namespace Mini
theorem asgV_own {base i n : Nat} {c : Cell} {env : Env} {h : Heap} (e : env[i]? = some (some (.ref n))) (q1 : base ≤ n) (q2 : n < h.length) (q3 : alone n i 0 env = true) : asgV base true i (.nw c) env h = .ok (env, h.set n c) := by
  show Out.ok (asgM base i c env h) = _
  rw [asgM_own e ⟨q1, q2, q3⟩]
@[simp] theorem at_last2 {α : Type} (xs : List α) (a b : α) : atD (xs ++ [a, b]) (-1) = some b := by
  have := at_last (xs ++ [a]) b
  simpa using this
@[simp] theorem at_last3 {α : Type} (xs : List α) (a b : α) : atD (xs ++ [a, b]) (-2) = some a := by
  unfold atD place
  have h1 : ¬ (0 : Int) ≤ -2 := by decide
  have h2 : -((xs ++ [a, b]).length : Int) ≤ -2 := by simp; omega
  rw [if_neg h1, if_pos h2]
  have h3 : (-2 + ((xs ++ [a, b]).length : Int)).toNat = xs.length := by simp; omega
  rw [Option.bind_some, h3]
  simp
@[simp] theorem cut_init2 {α : Type} (xs : List α) (a b : α) : cut (xs ++ [a, b]) none (some (-2)) = xs := by
  unfold cut cutIx
  simp
  have e : (-2 + ((xs.length : Int) + 2)).toNat = xs.length := by omega
  rw [e, List.take_left]
@[simp] theorem cut_end1 {α : Type} (xs : List α) (a : α) : cut (xs ++ [a]) (some (-1)) none = [a] := by
  unfold cut cutIx
  simp
  have e : (-1 + ((xs.length : Int) + 1)).toNat = xs.length := by omega
  rw [e, List.drop_left]
  simp
@[simp] theorem cut_end2 {α : Type} (xs : List α) (a b : α) : cut (xs ++ [a, b]) (some (-2)) none = [a, b] := by
  unfold cut cutIx
  simp
  have e : (-2 + ((xs.length : Int) + 2)).toNat = xs.length := by omega
  rw [e, List.drop_left]
  have e2 : xs.length + 2 - xs.length = 2 := by omega
  rw [e2]; rfl
end Mini
set_option Elab.async false
set_option linter.all false
set_option autoImplicit false
set_option maxRecDepth 100000
set_option maxHeartbeats 4000000
/- Mini: the interpreter's equations, what comes behind by name (so that simp reckons from the left). Own work. -/
namespace Mini
section
variable (Φ : Calls)
/-! ### what comes behind -/
def kR (h : Heap) (r : RV) : Out (RV × Heap) := .ok (r, h)
@[simp] theorem kR_e (h : Heap) (r : RV) : kR h r = .ok (r, h) := nd rfl
def kOpt (h : Heap) (o : Option RV) : Out (RV × Heap) := op1 (fun r => .ok (r, h)) o
@[simp] theorem kOpt_e (h : Heap) (r : RV) : kOpt h (some r) = .ok (r, h) := nd rfl
def kCmp4 (h : Heap) (o : Option Bool) : Out (RV × Heap) := op1 (fun k => .ok (.d (.bl k), h)) o
@[simp] theorem kCmp4_e (h : Heap) (k : Bool) : kCmp4 h (some k) = .ok (.d (.bl k), h) := nd rfl
def kIdx4 (h : Heap) (o : Option D) : Out (RV × Heap) := op1 (fun v => .ok (.d v, h)) o
@[simp] theorem kIdx4_e (h : Heap) (v : D) : kIdx4 h (some v) = .ok (.d v, h) := nd rfl
def kTe3 (h : Heap) (o : Option Bool) : Out (Bool × Heap) := op1 (fun k => .ok (k, h)) o
@[simp] theorem kTe3_e (h : Heap) (k : Bool) : kTe3 h (some k) = .ok (k, h) := nd rfl
def kBin3 (o : Bin) (h : Heap) (u v : Option D) : Out (RV × Heap) := op2 (fun p q => b1 (binV o p q) (kR h)) u v
@[simp] theorem kBin3_e (o : Bin) (h : Heap) (p q : D) : kBin3 o h (some p) (some q) = b1 (binV o p q) (kR h) := nd rfl
def kBin2 (o : Bin) (x : RV) (y : RV) (h : Heap) : Out (RV × Heap) := kBin3 o h (view h (nrm x)) (view h (nrm y))
@[simp] theorem kBin2_e (o : Bin) (x : RV) (y : RV) (h : Heap) : kBin2 o x y h = kBin3 o h (view h (nrm x)) (view h (nrm y)) := nd rfl
def kBin1 (Φ : Calls) (o : Bin) (b : C) (env : Env) (x : RV) (h : Heap) : Out (RV × Heap) := b2 (ev Φ b env h) (kBin2 o x)
@[simp] theorem kBin1_e (Φ : Calls) (o : Bin) (b : C) (env : Env) (x : RV) (h : Heap) : kBin1 Φ o b env x h = b2 (ev Φ b env h) (kBin2 o x) := nd rfl
def kCmp3 (o : Cmp) (h : Heap) (u v : Option D) : Out (RV × Heap) := op2 (fun p q => kCmp4 h (cmpV o p q)) u v
@[simp] theorem kCmp3_e (o : Cmp) (h : Heap) (p q : D) : kCmp3 o h (some p) (some q) = kCmp4 h (cmpV o p q) := nd rfl
def kCmp2 (o : Cmp) (x : RV) (y : RV) (h : Heap) : Out (RV × Heap) := kCmp3 o h (view h (nrm x)) (view h (nrm y))
@[simp] theorem kCmp2_e (o : Cmp) (x : RV) (y : RV) (h : Heap) : kCmp2 o x y h = kCmp3 o h (view h (nrm x)) (view h (nrm y)) := nd rfl
def kCmp1 (Φ : Calls) (o : Cmp) (b : C) (env : Env) (x : RV) (h : Heap) : Out (RV × Heap) := b2 (ev Φ b env h) (kCmp2 o x)
@[simp] theorem kCmp1_e (Φ : Calls) (o : Cmp) (b : C) (env : Env) (x : RV) (h : Heap) : kCmp1 Φ o b env x h = b2 (ev Φ b env h) (kCmp2 o x) := nd rfl
def kIdx3 (h : Heap) (u v : Option D) : Out (RV × Heap) := op2 (fun p q => kIdx4 h (idxV p q)) u v
@[simp] theorem kIdx3_e (h : Heap) (p q : D) : kIdx3 h (some p) (some q) = kIdx4 h (idxV p q) := nd rfl
def kIdx2 (x : RV) (y : RV) (h : Heap) : Out (RV × Heap) := kIdx3 h (view h (nrm x)) (view h (nrm y))
@[simp] theorem kIdx2_e (x : RV) (y : RV) (h : Heap) : kIdx2 x y h = kIdx3 h (view h (nrm x)) (view h (nrm y)) := nd rfl
def kIdx1 (Φ : Calls) (b : C) (env : Env) (x : RV) (h : Heap) : Out (RV × Heap) := b2 (ev Φ b env h) (kIdx2 x)
@[simp] theorem kIdx1_e (Φ : Calls) (b : C) (env : Env) (x : RV) (h : Heap) : kIdx1 Φ b env x h = b2 (ev Φ b env h) (kIdx2 x) := nd rfl
def kNeg (x : RV) (h : Heap) : Out (RV × Heap) := onI (fun i => .ok (.d (.int (-i)), h)) x
@[simp] theorem kNeg_e (i : Int) (h : Heap) : kNeg (.d (.int i)) h = .ok (.d (.int (-i)), h) := nd rfl
def kChn4 (Φ : Calls) (p : Cmp) (c : C) (env : Env) (y : RV) (h : Heap) (o : Option Bool) : Out (RV × Heap) := op1 (cond2 (b2 (ev Φ c env h) (kCmp2 p y)) (.ok (.d (.bl false), h))) o
@[simp] theorem kChn4_t (p : Cmp) (c : C) (env : Env) (y : RV) (h : Heap) : kChn4 Φ p c env y h (some true) = b2 (ev Φ c env h) (kCmp2 p y) := nd rfl
@[simp] theorem kChn4_f (p : Cmp) (c : C) (env : Env) (y : RV) (h : Heap) : kChn4 Φ p c env y h (some false) = .ok (.d (.bl false), h) := nd rfl
def kChn3 (Φ : Calls) (o p : Cmp) (c : C) (env : Env) (y : RV) (h : Heap) (u v : Option D) : Out (RV × Heap) := op2 (fun a b => kChn4 Φ p c env y h (cmpV o a b)) u v
@[simp] theorem kChn3_e (o p : Cmp) (c : C) (env : Env) (y : RV) (h : Heap) (a b : D) : kChn3 Φ o p c env y h (some a) (some b) = kChn4 Φ p c env y h (cmpV o a b) := nd rfl
def kChn2 (Φ : Calls) (o p : Cmp) (c : C) (env : Env) (x : RV) (y : RV) (h : Heap) : Out (RV × Heap) := kChn3 Φ o p c env y h (view h (nrm x)) (view h (nrm y))
@[simp] theorem kChn2_e (Φ : Calls) (o p : Cmp) (c : C) (env : Env) (x : RV) (y : RV) (h : Heap) : kChn2 Φ o p c env x y h = kChn3 Φ o p c env y h (view h (nrm x)) (view h (nrm y)) := nd rfl
def kChn1 (Φ : Calls) (o p : Cmp) (b c : C) (env : Env) (x : RV) (h : Heap) : Out (RV × Heap) := b2 (ev Φ b env h) (kChn2 Φ o p c env x)
@[simp] theorem kChn1_e (Φ : Calls) (o p : Cmp) (b c : C) (env : Env) (x : RV) (h : Heap) : kChn1 Φ o p b c env x h = b2 (ev Φ b env h) (kChn2 Φ o p c env x) := nd rfl
def kAnd (Φ : Calls) (b : C) (env : Env) (x : RV) (h : Heap) : Out (RV × Heap) := ifB (ev Φ b env h) (.ok (.d (.bl false), h)) x
@[simp] theorem kAnd_t (b : C) (env : Env) (h : Heap) : kAnd Φ b env (.d (.bl true)) h = ev Φ b env h := nd rfl
@[simp] theorem kAnd_f (b : C) (env : Env) (h : Heap) : kAnd Φ b env (.d (.bl false)) h = .ok (.d (.bl false), h) := nd rfl
def kOr (Φ : Calls) (b : C) (env : Env) (x : RV) (h : Heap) : Out (RV × Heap) := ifB (.ok (.d (.bl true), h)) (ev Φ b env h) x
@[simp] theorem kOr_t (b : C) (env : Env) (h : Heap) : kOr Φ b env (.d (.bl true)) h = .ok (.d (.bl true), h) := nd rfl
@[simp] theorem kOr_f (b : C) (env : Env) (h : Heap) : kOr Φ b env (.d (.bl false)) h = ev Φ b env h := nd rfl
def kNot (x : RV) (h : Heap) : Out (RV × Heap) := ifB (.ok (.d (.bl false), h)) (.ok (.d (.bl true), h)) x
@[simp] theorem kNot_e (b : Bool) (h : Heap) : kNot (.d (.bl b)) h = .ok (.d (.bl !b), h) := by cases b <;> rfl
def kIte (Φ : Calls) (a b : C) (env : Env) (k : Bool) (h : Heap) : Out (RV × Heap) := cond2 (ev Φ a env h) (ev Φ b env h) k
@[simp] theorem kIte_t (a b : C) (env : Env) (h : Heap) : kIte Φ a b env true h = ev Φ a env h := nd rfl
@[simp] theorem kIte_f (a b : C) (env : Env) (h : Heap) : kIte Φ a b env false h = ev Φ b env h := nd rfl
def kTup2 (h : Heap) (o : Option (List D)) : Out (RV × Heap) := op1 (fun ds => if ds.length ≤ LINE then .ok (.d (.tup ds), h) else .stuck) o
@[simp] theorem kTup2_e (h : Heap) (ds : List D) : kTup2 h (some ds) = if ds.length ≤ LINE then .ok (.d (.tup ds), h) else .stuck := nd rfl
def kTup (x : List RV) (h : Heap) : Out (RV × Heap) := kTup2 h (datasOf x)
@[simp] theorem kTup_e (x : List RV) (h : Heap) : kTup x h = kTup2 h (datasOf x) := nd rfl
def kLst2 (h : Heap) (o : Option (List D)) : Out (RV × Heap) := op1 (fun ds => if ds.length ≤ LINE then .ok (.nw (.lst ds), h) else .stuck) o
@[simp] theorem kLst2_e (h : Heap) (ds : List D) : kLst2 h (some ds) = if ds.length ≤ LINE then .ok (.nw (.lst ds), h) else .stuck := nd rfl
def kLst (x : List RV) (h : Heap) : Out (RV × Heap) := kLst2 h (datasOf x)
@[simp] theorem kLst_e (x : List RV) (h : Heap) : kLst x h = kLst2 h (datasOf x) := nd rfl
def kDic3 (t : Bool) (h : Heap) (o : Option (List (Ky × D))) : Out (RV × Heap) := op1 (fun kvs => if kvs.length ≤ 15 then .ok (.nw (.dct t (dmerge [] kvs)), h) else .stuck) o
@[simp] theorem kDic3_e (t : Bool) (h : Heap) (kvs : List (Ky × D)) : kDic3 t h (some kvs) = if kvs.length ≤ 15 then .ok (.nw (.dct t (dmerge [] kvs)), h) else .stuck := nd rfl
def kDic2 (t : Bool) (h : Heap) (o : Option (List D)) : Out (RV × Heap) := op1 (fun ds => kDic3 t h (dictOf t ds)) o
@[simp] theorem kDic2_e (t : Bool) (h : Heap) (ds : List D) : kDic2 t h (some ds) = kDic3 t h (dictOf t ds) := nd rfl
def kDic (t : Bool) (x : List RV) (h : Heap) : Out (RV × Heap) := kDic2 t h (datasOf x)
@[simp] theorem kDic_e (t : Bool) (x : List RV) (h : Heap) : kDic t x h = kDic2 t h (datasOf x) := nd rfl
def kSli4 (l u : Option Int) (h : Heap) (o : Option D) : Out (RV × Heap) := op1 (fun p => kOpt h (sliV p l u)) o
@[simp] theorem kSli4_e (l u : Option Int) (h : Heap) (p : D) : kSli4 l u h (some p) = kOpt h (sliV p l u) := nd rfl
def kSli3 (x : RV) (l : Option Int) (u : Option Int) (h : Heap) : Out (RV × Heap) := kSli4 l u h (view h (nrm x))
@[simp] theorem kSli3_e (x : RV) (l : Option Int) (u : Option Int) (h : Heap) : kSli3 x l u h = kSli4 l u h (view h (nrm x)) := nd rfl
def kSli2 (Φ : Calls) (hi : C) (env : Env) (x : RV) (l : Option Int) (h : Heap) : Out (RV × Heap) := b2 (part Φ hi env h) (kSli3 x l)
@[simp] theorem kSli2_e (Φ : Calls) (hi : C) (env : Env) (x : RV) (l : Option Int) (h : Heap) : kSli2 Φ hi env x l h = b2 (part Φ hi env h) (kSli3 x l) := nd rfl
def kSli1 (Φ : Calls) (lo hi : C) (env : Env) (x : RV) (h : Heap) : Out (RV × Heap) := b2 (part Φ lo env h) (kSli2 Φ hi env x)
@[simp] theorem kSli1_e (Φ : Calls) (lo hi : C) (env : Env) (x : RV) (h : Heap) : kSli1 Φ lo hi env x h = b2 (part Φ lo env h) (kSli2 Φ hi env x) := nd rfl
def kRev2 (h : Heap) (o : Option D) : Out (RV × Heap) := op1 (fun p => kOpt h (revV p)) o
@[simp] theorem kRev2_e (h : Heap) (p : D) : kRev2 h (some p) = kOpt h (revV p) := nd rfl
def kRev (x : RV) (h : Heap) : Out (RV × Heap) := kRev2 h (view h (nrm x))
@[simp] theorem kRev_e (x : RV) (h : Heap) : kRev x h = kRev2 h (view h (nrm x)) := nd rfl
def kBi2 (b : Bi) (h : Heap) (o : Option (List D)) : Out (RV × Heap) := op1 (fun p => kOpt h (biV b p)) o
@[simp] theorem kBi2_e (b : Bi) (h : Heap) (p : List D) : kBi2 b h (some p) = kOpt h (biV b p) := nd rfl
def kBi (b : Bi) (x : List RV) (h : Heap) : Out (RV × Heap) := kBi2 b h (views h x)
@[simp] theorem kBi_e (b : Bi) (x : List RV) (h : Heap) : kBi b x h = kBi2 b h (views h x) := nd rfl
def kIsi2 (t : Ty) (h : Heap) (o : Option D) : Out (RV × Heap) := op1 (fun p => kCmp4 h (isiV t p)) o
@[simp] theorem kIsi2_e (t : Ty) (h : Heap) (p : D) : kIsi2 t h (some p) = kCmp4 h (isiV t p) := nd rfl
def kIsi (t : Ty) (x : RV) (h : Heap) : Out (RV × Heap) := kIsi2 t h (view h (nrm x))
@[simp] theorem kIsi_e (t : Ty) (x : RV) (h : Heap) : kIsi t x h = kIsi2 t h (view h (nrm x)) := nd rfl
def kMtW2 (n : Nat) (h : Heap) (o : Option (D × Cell)) : Out (RV × Heap) := op1 (fun p => .ok (.d p.1, h.set n p.2)) o
@[simp] theorem kMtW2_e (n : Nat) (h : Heap) (v : D) (c : Cell) : kMtW2 n h (some (v, c)) = .ok (.d v, h.set n c) := nd rfl
def kMtW (m : Mt) (n : Nat) (h : Heap) (c : Option Cell) (o : Option (List D)) : Out (RV × Heap) := op2 (fun c ds => kMtW2 n h (mtW m c ds)) c o
@[simp] theorem kMtW_e (m : Mt) (n : Nat) (h : Heap) (c : Cell) (ds : List D) : kMtW m n h (some c) (some ds) = kMtW2 n h (mtW m c ds) := nd rfl
def kMtR (m : Mt) (ys : List RV) (h : Heap) (x : RV) : Out (RV × Heap) := onR (fun n => kMtW m n h (h[n]?) (datasOf ys)) x
@[simp] theorem kMtR_e (m : Mt) (ys : List RV) (h : Heap) (n : Nat) : kMtR m ys h (.ref n) = kMtW m n h (h[n]?) (datasOf ys) := nd rfl
def kMtV (m : Mt) (h : Heap) (u : Option D) (o : Option (List D)) : Out (RV × Heap) := op2 (fun p ds => kOpt h (mtV m p ds)) u o
@[simp] theorem kMtV_e (m : Mt) (h : Heap) (p : D) (ds : List D) : kMtV m h (some p) (some ds) = kOpt h (mtV m p ds) := nd rfl
def kMt4 (m : Mt) (x : RV) (ys : List RV) (h : Heap) (w : Bool) : Out (RV × Heap) := oMt m x ys h w
@[simp] theorem kMt4_t (m : Mt) (x : RV) (ys : List RV) (h : Heap) : kMt4 m x ys h true = kMtR m ys h x := nd rfl
@[simp] theorem kMt4_f (m : Mt) (x : RV) (ys : List RV) (h : Heap) : kMt4 m x ys h false = kMtV m h (view h x) (datasOf ys) := nd rfl
def kMt3 (m : Mt) (x : RV) (ys : List RV) (h : Heap) : Out (RV × Heap) := kMt4 m x ys h (writes m)
@[simp] theorem kMt3_e (m : Mt) (x : RV) (ys : List RV) (h : Heap) : kMt3 m x ys h = kMt4 m x ys h (writes m) := nd rfl
def kMt2 (Φ : Calls) (m : Mt) (as : C) (env : Env) (x : RV) (h : Heap) (o : Option Bool) : Out (RV × Heap) := op1 (cond2 (b2 (evs Φ as env h) (kMt3 m (nrm x))) .stuck) o
@[simp] theorem kMt2_e (m : Mt) (as : C) (env : Env) (x : RV) (h : Heap) : kMt2 Φ m as env x h (some true) = b2 (evs Φ as env h) (kMt3 m (nrm x)) := nd rfl
def kMt1 (Φ : Calls) (m : Mt) (as : C) (env : Env) (x : RV) (h : Heap) : Out (RV × Heap) := kMt2 Φ m as env x h ((view h (nrm x)).map (onKind m))
@[simp] theorem kMt1_e (Φ : Calls) (m : Mt) (as : C) (env : Env) (x : RV) (h : Heap) : kMt1 Φ m as env x h = kMt2 Φ m as env x h ((view h (nrm x)).map (onKind m)) := nd rfl
def kComp2 (ys : List D) (h : Heap) : Out (RV × Heap) := if ys.length ≤ LINE then .ok (.nw (.lst ys), h) else .stuck
@[simp] theorem kComp2_e (ys : List D) (h : Heap) : kComp2 ys h = if ys.length ≤ LINE then .ok (.nw (.lst ys), h) else .stuck := nd rfl
def kComp1 (Φ : Calls) (own : List Nat) (t : Tg) (c e : C) (env : Env) (x : List D) (h : Heap) : Out (RV × Heap) := b2 (mapS Φ own t c e env x h).calm kComp2
@[simp] theorem kComp1_e (Φ : Calls) (own : List Nat) (t : Tg) (c e : C) (env : Env) (x : List D) (h : Heap) : kComp1 Φ own t c e env x h = b2 (mapS Φ own t c e env x h).calm kComp2 := nd rfl
def kComq1 (Φ : Calls) (own : List Nat) (t : Tg) (c : C) (own2 : List Nat) (t2 : Tg) (it2 c2 e : C) (env : Env) (x : List D) (h : Heap) : Out (RV × Heap) := b2 (mapS2 Φ own t c own2 t2 it2 c2 e env x h).calm kComp2
@[simp] theorem kComq1_e (Φ : Calls) (own : List Nat) (t : Tg) (c : C) (own2 : List Nat) (t2 : Tg) (it2 c2 e : C) (env : Env) (x : List D) (h : Heap) : kComq1 Φ own t c own2 t2 it2 c2 e env x h = b2 (mapS2 Φ own t c own2 t2 it2 c2 e env x h).calm kComp2 := nd rfl
def kArg2 (x : RV) (xs : List RV) (h : Heap) : Out (List RV × Heap) := .ok (nrm x :: xs, h)
@[simp] theorem kArg2_e (x : RV) (xs : List RV) (h : Heap) : kArg2 x xs h = .ok (nrm x :: xs, h) := nd rfl
def kArg1 (Φ : Calls) (r : C) (env : Env) (x : RV) (h : Heap) : Out (List RV × Heap) := b2 (evs Φ r env h) (kArg2 x)
@[simp] theorem kArg1_e (Φ : Calls) (r : C) (env : Env) (x : RV) (h : Heap) : kArg1 Φ r env x h = b2 (evs Φ r env h) (kArg2 x) := nd rfl
def kTand (Φ : Calls) (b : C) (env : Env) (k : Bool) (h : Heap) : Out (Bool × Heap) := cond2 (tst Φ b env h) (.ok (false, h)) k
@[simp] theorem kTand_t (b : C) (env : Env) (h : Heap) : kTand Φ b env true h = tst Φ b env h := nd rfl
@[simp] theorem kTand_f (b : C) (env : Env) (h : Heap) : kTand Φ b env false h = .ok (false, h) := nd rfl
def kTor (Φ : Calls) (b : C) (env : Env) (k : Bool) (h : Heap) : Out (Bool × Heap) := cond2 (.ok (true, h)) (tst Φ b env h) k
@[simp] theorem kTor_t (b : C) (env : Env) (h : Heap) : kTor Φ b env true h = .ok (true, h) := nd rfl
@[simp] theorem kTor_f (b : C) (env : Env) (h : Heap) : kTor Φ b env false h = tst Φ b env h := nd rfl
def kTnot (k : Bool) (h : Heap) : Out (Bool × Heap) := .ok (!k, h)
@[simp] theorem kTnot_e (k : Bool) (h : Heap) : kTnot k h = .ok (!k, h) := nd rfl
def kTe2 (h : Heap) (o : Option D) : Out (Bool × Heap) := op1 (fun p => kTe3 h (truth p)) o
@[simp] theorem kTe2_e (h : Heap) (p : D) : kTe2 h (some p) = kTe3 h (truth p) := nd rfl
def kTe (x : RV) (h : Heap) : Out (Bool × Heap) := kTe2 h (view h (nrm x))
@[simp] theorem kTe_e (x : RV) (h : Heap) : kTe x h = kTe2 h (view h (nrm x)) := nd rfl
def kPart (x : RV) (h : Heap) : Out (Option Int × Heap) := onI (fun i => .ok (some i, h)) x
@[simp] theorem kPart_e (i : Int) (h : Heap) : kPart (.d (.int i)) h = .ok (some i, h) := nd rfl
def kRng1 (x : RV) (h : Heap) : Out (List D × Heap) := onI (fun i => if -(LINE : Int) ≤ i ∧ i ≤ LINE then .ok (rangeD 0 i, h) else .stuck) x
@[simp] theorem kRng1_e (i : Int) (h : Heap) : kRng1 (.d (.int i)) h = if -(LINE : Int) ≤ i ∧ i ≤ LINE then .ok (rangeD 0 i, h) else .stuck := nd rfl
def kRng2b (x : RV) (y : RV) (h : Heap) : Out (List D × Heap) := onI (fun i => onI (fun j => if i ≤ LINE ∧ j ≤ LINE ∧ 0 ≤ i ∧ 0 ≤ j then .ok (rangeD i j, h) else .stuck) y) x
@[simp] theorem kRng2b_e (i j : Int) (h : Heap) : kRng2b (.d (.int i)) (.d (.int j)) h = if i ≤ LINE ∧ j ≤ LINE ∧ 0 ≤ i ∧ 0 ≤ j then .ok (rangeD i j, h) else .stuck := nd rfl
def kRng2a (Φ : Calls) (b : C) (env : Env) (x : RV) (h : Heap) : Out (List D × Heap) := b2 (ev Φ b env h) (kRng2b x)
@[simp] theorem kRng2a_e (Φ : Calls) (b : C) (env : Env) (x : RV) (h : Heap) : kRng2a Φ b env x h = b2 (ev Φ b env h) (kRng2b x) := nd rfl
def kZip3 (h : Heap) (x y : RV) : Out (List D × Heap) := match x, y with
    | .d (.lst xs), .d (.lst ys) => .ok (zipD xs ys, h)
    | .d (.tup xs), .d (.tup ys) => .ok (zipD xs ys, h)
    | _, _ => .stuck
@[simp] theorem kZip3_l (h : Heap) (xs ys : List D) : kZip3 h (.d (.lst xs)) (.d (.lst ys)) = .ok (zipD xs ys, h) := nd rfl
@[simp] theorem kZip3_t (h : Heap) (xs ys : List D) : kZip3 h (.d (.tup xs)) (.d (.tup ys)) = .ok (zipD xs ys, h) := nd rfl
def kZip2 (x : RV) (y : RV) (h : Heap) : Out (List D × Heap) := kZip3 h (nrm x) (nrm y)
@[simp] theorem kZip2_e (x : RV) (y : RV) (h : Heap) : kZip2 x y h = kZip3 h (nrm x) (nrm y) := nd rfl
def kZip1 (Φ : Calls) (b : C) (env : Env) (x : RV) (h : Heap) : Out (List D × Heap) := b2 (ev Φ b env h) (kZip2 x)
@[simp] theorem kZip1_e (Φ : Calls) (b : C) (env : Env) (x : RV) (h : Heap) : kZip1 Φ b env x h = b2 (ev Φ b env h) (kZip2 x) := nd rfl
def kEnu2 (h : Heap) (x : RV) : Out (List D × Heap) := match x with
    | .d (.lst xs) => .ok (enuD 0 xs, h)
    | _ => .stuck
@[simp] theorem kEnu2_e (h : Heap) (xs : List D) : kEnu2 h (.d (.lst xs)) = .ok (enuD 0 xs, h) := nd rfl
def kEnu (x : RV) (h : Heap) : Out (List D × Heap) := kEnu2 h (nrm x)
@[simp] theorem kEnu_e (x : RV) (h : Heap) : kEnu x h = kEnu2 h (nrm x) := nd rfl
def kWv3 (h : Heap) (o : Option (List D)) : Out (List D × Heap) := op1 (fun xs => .ok (xs, h)) o
@[simp] theorem kWv3_e (h : Heap) (xs : List D) : kWv3 h (some xs) = .ok (xs, h) := nd rfl
def kWv2 (h : Heap) (x : RV) : Out (List D × Heap) := onD (fun p => kWv3 h (itemsV p)) x
@[simp] theorem kWv2_e (h : Heap) (p : D) : kWv2 h (.d p) = kWv3 h (itemsV p) := nd rfl
def kWv (x : RV) (h : Heap) : Out (List D × Heap) := kWv2 h (nrm x)
@[simp] theorem kWv_e (x : RV) (h : Heap) : kWv x h = kWv2 h (nrm x) := nd rfl
def kTk2 (n : Nat) (h : Heap) (o : Option Cell) : Out (RV × Heap) := op1 (oTake n h) o
@[simp] theorem kTk2_l (n : Nat) (h : Heap) (xs : List D) : kTk2 n h (some (.lst xs)) = .ok (.nw (.lst xs), h.set n .gone) := nd rfl
@[simp] theorem kTk2_d (n : Nat) (h : Heap) (t : Bool) (xs : List (Ky × D)) : kTk2 n h (some (.dct t xs)) = .ok (.nw (.dct t xs), h.set n .gone) := nd rfl
def kTk (x : RV) (h : Heap) : Out (RV × Heap) := onR (fun n => kTk2 n h (h[n]?)) x
@[simp] theorem kTk_e (n : Nat) (h : Heap) : kTk (.ref n) h = kTk2 n h (h[n]?) := nd rfl
/-! ### expressions -/
@[simp] theorem zev_con (d : D) (env : Env) (h : Heap) : ev Φ (.con d) env h = .ok (.d d, h) := oev_con Φ d env h
@[simp] theorem zev_take (i : Nat) (env : Env) (h : Heap) : ev Φ (.take i) env h = b2 (ev Φ (.var i) env h) kTk := oev_take Φ i env h
@[simp] theorem zev_bin (o : Bin) (a b : C) (env : Env) (h : Heap) : ev Φ (.bin o a b) env h = b2 (ev Φ a env h) (kBin1 Φ o b env) := oev_bin Φ o a b env h
@[simp] theorem zev_neg (a : C) (env : Env) (h : Heap) : ev Φ (.neg a) env h = b2 (ev Φ a env h) kNeg := oev_neg Φ a env h
@[simp] theorem zev_cmp (o : Cmp) (a b : C) (env : Env) (h : Heap) : ev Φ (.cmp o a b) env h = b2 (ev Φ a env h) (kCmp1 Φ o b env) := oev_cmp Φ o a b env h
@[simp] theorem zev_chn (o p : Cmp) (a b c : C) (env : Env) (h : Heap) : ev Φ (.chn o p a b c) env h = b2 (ev Φ a env h) (kChn1 Φ o p b c env) := oev_chn Φ o p a b c env h
@[simp] theorem zev_and (a b : C) (env : Env) (h : Heap) : ev Φ (.and_ a b) env h = b2 (ev Φ a env h) (kAnd Φ b env) := oev_and Φ a b env h
@[simp] theorem zev_or (a b : C) (env : Env) (h : Heap) : ev Φ (.or_ a b) env h = b2 (ev Φ a env h) (kOr Φ b env) := oev_or Φ a b env h
@[simp] theorem zev_not (a : C) (env : Env) (h : Heap) : ev Φ (.not_ a) env h = b2 (ev Φ a env h) kNot := oev_not Φ a env h
@[simp] theorem zev_ite (c a b : C) (env : Env) (h : Heap) : ev Φ (.ite c a b) env h = b2 (tst Φ c env h) (kIte Φ a b env) := oev_ite Φ c a b env h
@[simp] theorem zev_tup (as : C) (env : Env) (h : Heap) : ev Φ (.tup as) env h = b2 (evs Φ as env h) kTup := oev_tup Φ as env h
@[simp] theorem zev_lst (as : C) (env : Env) (h : Heap) : ev Φ (.lst as) env h = b2 (evs Φ as env h) kLst := oev_lst Φ as env h
@[simp] theorem zev_dic (t : Bool) (as : C) (env : Env) (h : Heap) : ev Φ (.dic t as) env h = b2 (evs Φ as env h) (kDic t) := oev_dic Φ t as env h
@[simp] theorem zev_idx (a i : C) (env : Env) (h : Heap) : ev Φ (.idx a i) env h = b2 (ev Φ a env h) (kIdx1 Φ i env) := oev_idx Φ a i env h
@[simp] theorem zev_sli (a lo hi : C) (env : Env) (h : Heap) : ev Φ (.sli a lo hi) env h = b2 (ev Φ a env h) (kSli1 Φ lo hi env) := oev_sli Φ a lo hi env h
@[simp] theorem zev_rev (a : C) (env : Env) (h : Heap) : ev Φ (.rev a) env h = b2 (ev Φ a env h) kRev := oev_rev Φ a env h
@[simp] theorem zev_call (f : Nat) (as : C) (env : Env) (h : Heap) : ev Φ (.call f as) env h = b2 (evs Φ as env h) (Φ f) := oev_call Φ f as env h
@[simp] theorem zev_bi (b : Bi) (as : C) (env : Env) (h : Heap) : ev Φ (.bi b as) env h = b2 (evs Φ as env h) (kBi b) := oev_bi Φ b as env h
@[simp] theorem zev_mt (m : Mt) (o as : C) (env : Env) (h : Heap) : ev Φ (.mt m o as) env h = b2 (ev Φ o env h) (kMt1 Φ m as env) := oev_mt Φ m o as env h
@[simp] theorem zev_isi (a : C) (t : Ty) (env : Env) (h : Heap) : ev Φ (.isi a t) env h = b2 (ev Φ a env h) (kIsi t) := oev_isi Φ a t env h
@[simp] theorem zev_comp (own : List Nat) (t : Tg) (it c e : C) (env : Env) (h : Heap) : ev Φ (.comp own t it c e) env h = b2 (walk Φ it env h) (kComp1 Φ own t c e env) := oev_comp Φ own t it c e env h
@[simp] theorem zev_comp2 (own : List Nat) (t : Tg) (it c : C) (own2 : List Nat) (t2 : Tg) (it2 c2 e : C) (env : Env) (h : Heap) : ev Φ (.comp2 own t it c own2 t2 it2 c2 e) env h = b2 (walk Φ it env h) (kComq1 Φ own t c own2 t2 it2 c2 e env) := oev_comp2 Φ own t it c own2 t2 it2 c2 e env h
@[simp] theorem zevs_nil  (env : Env) (h : Heap) : evs Φ .nil env h = .ok ([], h) := oevs_nil Φ  env h
@[simp] theorem zevs_cons (a r : C) (env : Env) (h : Heap) : evs Φ (.cons a r) env h = b2 (ev Φ a env h) (kArg1 Φ r env) := oevs_cons Φ a r env h
@[simp] theorem ztst_and (a b : C) (env : Env) (h : Heap) : tst Φ (.tand a b) env h = b2 (tst Φ a env h) (kTand Φ b env) := otst_and Φ a b env h
@[simp] theorem ztst_or (a b : C) (env : Env) (h : Heap) : tst Φ (.tor a b) env h = b2 (tst Φ a env h) (kTor Φ b env) := otst_or Φ a b env h
@[simp] theorem ztst_not (a : C) (env : Env) (h : Heap) : tst Φ (.tnot a) env h = b2 (tst Φ a env h) kTnot := otst_not Φ a env h
@[simp] theorem ztst_yes  (env : Env) (h : Heap) : tst Φ .tyes env h = .ok (true, h) := otst_yes Φ  env h
@[simp] theorem ztst_te (c : C) (env : Env) (h : Heap) : tst Φ (.te c) env h = b2 (ev Φ c env h) kTe := otst_te Φ c env h
@[simp] theorem zpart_nil  (env : Env) (h : Heap) : part Φ .nil env h = .ok (none, h) := opart_nil Φ  env h
@[simp] theorem zpart_pv (c : C) (env : Env) (h : Heap) : part Φ (.pv c) env h = b2 (ev Φ c env h) kPart := opart_pv Φ c env h
@[simp] theorem zwalk_rng1 (a : C) (env : Env) (h : Heap) : walk Φ (.rng1 a) env h = b2 (ev Φ a env h) kRng1 := owalk_rng1 Φ a env h
@[simp] theorem zwalk_rng2 (a b : C) (env : Env) (h : Heap) : walk Φ (.rng2 a b) env h = b2 (ev Φ a env h) (kRng2a Φ b env) := owalk_rng2 Φ a b env h
@[simp] theorem zwalk_zip2 (a b : C) (env : Env) (h : Heap) : walk Φ (.zip2 a b) env h = b2 (ev Φ a env h) (kZip1 Φ b env) := owalk_zip2 Φ a b env h
@[simp] theorem zwalk_enu (a : C) (env : Env) (h : Heap) : walk Φ (.enu a) env h = b2 (ev Φ a env h) kEnu := owalk_enu Φ a env h
@[simp] theorem zwalk_wv (c : C) (env : Env) (h : Heap) : walk Φ (.wv c) env h = b2 (ev Φ c env h) kWv := owalk_wv Φ c env h
/-! ### statements -/
def kNx (e : Env) (h : Heap) : Out SR := .ok (.nx, e, h)
@[simp] theorem kNx_e (e : Env) (h : Heap) : kNx e h = .ok (.nx, e, h) := nd rfl
def kSq (Φ : Calls) (base : Nat) (b : S) (f : Fl) (e : Env) (h : Heap) : Out SR := oSeq (exS Φ base b) f e h
@[simp] theorem kSq_nx (base : Nat) (b : S) (e : Env) (h : Heap) : kSq Φ base b .nx e h = exS Φ base b e h := nd rfl
@[simp] theorem kSq_rt (base : Nat) (b : S) (r : RV) (e : Env) (h : Heap) : kSq Φ base b (.rt r) e h = .ok (.rt r, e, h) := nd rfl
@[simp] theorem kSq_bk (base : Nat) (b : S) (e : Env) (h : Heap) : kSq Φ base b .bk e h = .ok (.bk, e, h) := nd rfl
@[simp] theorem kSq_ct (base : Nat) (b : S) (e : Env) (h : Heap) : kSq Φ base b .ct e h = .ok (.ct, e, h) := nd rfl
def kAsg (base : Nat) (m : Bool) (i : Nat) (env : Env) (x : RV) (h : Heap) : Out SR := b2 (asgV base m i x env h) kNx
@[simp] theorem kAsg_e (base : Nat) (m : Bool) (i : Nat) (env : Env) (x : RV) (h : Heap) : kAsg base m i env x h = b2 (asgV base m i x env h) kNx := nd rfl
def kAsT3 (h : Heap) (o : Option Env) : Out SR := op1 (fun e => .ok (.nx, e, h)) o
@[simp] theorem kAsT3_e (h : Heap) (e : Env) : kAsT3 h (some e) = .ok (.nx, e, h) := nd rfl
def kAsT2 (ts : Tg) (env : Env) (h : Heap) (x : RV) : Out SR := onD (fun v => kAsT3 h (setTg (.tp ts) v env)) x
@[simp] theorem kAsT2_e (ts : Tg) (env : Env) (h : Heap) (v : D) : kAsT2 ts env h (.d v) = kAsT3 h (setTg (.tp ts) v env) := nd rfl
def kAsT (ts : Tg) (env : Env) (x : RV) (h : Heap) : Out SR := kAsT2 ts env h (nrm x)
@[simp] theorem kAsT_e (ts : Tg) (env : Env) (x : RV) (h : Heap) : kAsT ts env x h = kAsT2 ts env h (nrm x) := nd rfl
def kPar (Φ : Calls) (ls : List L) (env : Env) (x : List RV) (h : Heap) : Out SR := b2 (doPar Φ ls x env h) kNx
@[simp] theorem kPar_e (Φ : Calls) (ls : List L) (env : Env) (x : List RV) (h : Heap) : kPar Φ ls env x h = b2 (doPar Φ ls x env h) kNx := nd rfl
def kSub2 (Φ : Calls) (o i : C) (env : Env) (h : Heap) (z : RV) : Out SR := onD (fun v => b1 (doSub Φ o i v env h) (kNx env)) z
@[simp] theorem kSub2_e (o i : C) (env : Env) (h : Heap) (v : D) : kSub2 Φ o i env h (.d v) = b1 (doSub Φ o i v env h) (kNx env) := nd rfl
def kSub (Φ : Calls) (o i : C) (env : Env) (z : RV) (h : Heap) : Out SR := kSub2 Φ o i env h (nrm z)
@[simp] theorem kSub_e (Φ : Calls) (o i : C) (env : Env) (z : RV) (h : Heap) : kSub Φ o i env z h = kSub2 Φ o i env h (nrm z) := nd rfl
def kAgD3 (i : Nat) (env : Env) (h : Heap) (v : D) : Out SR := .ok (.nx, env.set i (some (.d v)), h)
@[simp] theorem kAgD3_e (i : Nat) (env : Env) (h : Heap) (v : D) : kAgD3 i env h v = .ok (.nx, env.set i (some (.d v)), h) := nd rfl
def kAgD2 (i : Nat) (o : Bin) (env : Env) (x : D) (h : Heap) (u : Option D) : Out SR := op1 (fun y => b1 (augV o x y) (kAgD3 i env h)) u
@[simp] theorem kAgD2_e (i : Nat) (o : Bin) (env : Env) (x : D) (h : Heap) (y : D) : kAgD2 i o env x h (some y) = b1 (augV o x y) (kAgD3 i env h) := nd rfl
def kAgD (i : Nat) (o : Bin) (env : Env) (x : D) (z : RV) (h : Heap) : Out SR := kAgD2 i o env x h (view h (nrm z))
@[simp] theorem kAgD_e (i : Nat) (o : Bin) (env : Env) (x : D) (z : RV) (h : Heap) : kAgD i o env x z h = kAgD2 i o env x h (view h (nrm z)) := nd rfl
def kAgR2 (o : Bin) (n : Nat) (env : Env) (h : Heap) (z : RV) (c : Option Cell) : Out SR := oAugR o n env h z c
@[simp] theorem kAgR2_e (n : Nat) (env : Env) (h : Heap) (xs ys : List D) : kAgR2 .add n env h (.nw (.lst ys)) (some (.lst xs)) = if xs.length + ys.length ≤ LINE then .ok (.nx, env, h.set n (.lst (xs ++ ys))) else .stuck := nd rfl
def kAgR (o : Bin) (n : Nat) (env : Env) (z : RV) (h : Heap) : Out SR := kAgR2 o n env h z (h[n]?)
@[simp] theorem kAgR_e (o : Bin) (n : Nat) (env : Env) (z : RV) (h : Heap) : kAgR o n env z h = kAgR2 o n env h z (h[n]?) := nd rfl
def kAg (Φ : Calls) (base : Nat) (i : Nat) (o : Bin) (e : C) (env : Env) (x : RV) (h : Heap) : Out SR := oAug Φ base i o e env h x
@[simp] theorem kAg_d (base i : Nat) (o : Bin) (e : C) (env : Env) (x : D) (h : Heap) : kAg Φ base i o e env (.d x) h = b2 (ev Φ e env h) (kAgD i o env x) := nd rfl
@[simp] theorem kAg_r (base i : Nat) (o : Bin) (e : C) (env : Env) (n : Nat) (h : Heap) : kAg Φ base i o e env (.ref n) h = b2 (ev Φ e env h) (kAgR o n env) := nd rfl
def kExp (env : Env) (x : RV) (h : Heap) : Out SR := .ok (.nx, env, h)
@[simp] theorem kExp_e (env : Env) (x : RV) (h : Heap) : kExp env x h = .ok (.nx, env, h) := nd rfl
def kRetS (env : Env) (x : RV) (h : Heap) : Out SR := .ok (.rt x, env, h)
@[simp] theorem kRetS_e (env : Env) (x : RV) (h : Heap) : kRetS env x h = .ok (.rt x, env, h) := nd rfl
def kItS (Φ : Calls) (base : Nat) (a b : S) (env : Env) (k : Bool) (h : Heap) : Out SR := cond2 (exS Φ base a env h) (exS Φ base b env h) k
@[simp] theorem kItS_t (base : Nat) (a b : S) (env : Env) (h : Heap) : kItS Φ base a b env true h = exS Φ base a env h := nd rfl
@[simp] theorem kItS_f (base : Nat) (a b : S) (env : Env) (h : Heap) : kItS Φ base a b env false h = exS Φ base b env h := nd rfl
def kFor (Φ : Calls) (base : Nat) (t : Tg) (b : S) (env : Env) (x : List D) (h : Heap) : Out SR := forS Φ base t b x env h
@[simp] theorem kFor_e (Φ : Calls) (base : Nat) (t : Tg) (b : S) (env : Env) (x : List D) (h : Heap) : kFor Φ base t b env x h = forS Φ base t b x env h := nd rfl
@[simp] theorem zexS_skip (base : Nat)  (env : Env) (h : Heap) : exS Φ base .skip env h = .ok (.nx, env, h) := oexS_skip Φ base  env h
@[simp] theorem zexS_seq (base : Nat) (a b : S) (env : Env) (h : Heap) : exS Φ base (.seq a b) env h = b3 (exS Φ base a env h) (kSq Φ base b) := oexS_seq Φ base a b env h
@[simp] theorem zexS_asg (base : Nat) (m : Bool) (i : Nat) (e : C) (env : Env) (h : Heap) : exS Φ base (.asg m (.nm i) e) env h = b2 (ev Φ e env h) (kAsg base m i env) := oexS_asg Φ base m i e env h
@[simp] theorem zexS_asgT (base : Nat) (m : Bool) (ts : Tg) (e : C) (env : Env) (h : Heap) : exS Φ base (.asg m (.tp ts) e) env h = b2 (ev Φ e env h) (kAsT ts env) := oexS_asgT Φ base m ts e env h
@[simp] theorem zexS_par (base : Nat) (ls : List L) (as : C) (env : Env) (h : Heap) : exS Φ base (.par ls as) env h = b2 (evw Φ ls as env h) (kPar Φ ls env) := oexS_par Φ base ls as env h
@[simp] theorem zexS_sub (base : Nat) (o i e : C) (env : Env) (h : Heap) : exS Φ base (.sub o i e) env h = b2 (ev Φ e env h) (kSub Φ o i env) := oexS_sub Φ base o i e env h
@[simp] theorem zexS_aug (base : Nat) (i : Nat) (o : Bin) (e : C) (env : Env) (h : Heap) : exS Φ base (.aug i o e) env h = b2 (ev Φ (.var i) env h) (kAg Φ base i o e env) := oexS_aug Φ base i o e env h
@[simp] theorem zexS_exp (base : Nat) (e : C) (env : Env) (h : Heap) : exS Φ base (.exp e) env h = b2 (ev Φ e env h) (kExp env) := oexS_exp Φ base e env h
@[simp] theorem zexS_ret (base : Nat) (e : C) (env : Env) (h : Heap) : exS Φ base (.ret e) env h = b2 (ev Φ e env h) (kRetS env) := oexS_ret Φ base e env h
@[simp] theorem zexS_retn (base : Nat)  (env : Env) (h : Heap) : exS Φ base .retn env h = .ok (.rt (.d .non), env, h) := oexS_retn Φ base  env h
@[simp] theorem zexS_ite (base : Nat) (c : C) (a b : S) (env : Env) (h : Heap) : exS Φ base (.ite c a b) env h = b2 (tst Φ c env h) (kItS Φ base a b env) := oexS_ite Φ base c a b env h
@[simp] theorem zexS_whl (base : Nat) (c : C) (b : S) (env : Env) (h : Heap) : exS Φ base (.whl c b) env h = whlS Φ base c b TURNS env h := oexS_whl Φ base c b env h
@[simp] theorem zexS_for (base : Nat) (t : Tg) (it : C) (b : S) (env : Env) (h : Heap) : exS Φ base (.for_ t it b) env h = b2 (walk Φ it env h) (kFor Φ base t b env) := oexS_for Φ base t it b env h
@[simp] theorem zexS_brk (base : Nat)  (env : Env) (h : Heap) : exS Φ base .brk env h = .ok (.bk, env, h) := oexS_brk Φ base  env h
@[simp] theorem zexS_cnt (base : Nat)  (env : Env) (h : Heap) : exS Φ base .cnt env h = .ok (.ct, env, h) := oexS_cnt Φ base  env h
@[simp] theorem zexS_rse (base : Nat) (c : Nat) (env : Env) (h : Heap) : exS Φ base (.rse c) env h = .exc ⟨c, []⟩ h := oexS_rse Φ base c env h
def kNw2 (n : Nat) (y : List RV) (h : Heap) : Out (List RV × Heap) := .ok (.ref n :: y, h)
@[simp] theorem kNw2_e (n : Nat) (y : List RV) (h : Heap) : kNw2 n y h = .ok (.ref n :: y, h) := nd rfl
def kNw (Φ : Calls) (ls : List L) (r : C) (env : Env) (x : RV) (h : Heap) : Out (List RV × Heap) := oNew (evw Φ ls r env) h x
@[simp] theorem kNw_e (ls : List L) (r : C) (env : Env) (c : Cell) (h : Heap) : kNw Φ ls r env (.nw c) h = b2 (evw Φ ls r env (h ++ [c])) (kNw2 h.length) := nd rfl
def kDt (Φ : Calls) (ls : List L) (r : C) (env : Env) (x : RV) (h : Heap) : Out (List RV × Heap) := b2 (evw Φ ls r env h) (kArg2 x)
@[simp] theorem kDt_e (Φ : Calls) (ls : List L) (r : C) (env : Env) (x : RV) (h : Heap) : kDt Φ ls r env x h = b2 (evw Φ ls r env h) (kArg2 x) := nd rfl
@[simp] theorem zevw_nil (env : Env) (h : Heap) : evw Φ [] .nil env h = .ok ([], h) := oevw_nil Φ env h
@[simp] theorem zevw_new (i : Nat) (ls : List L) (a r : C) (env : Env) (h : Heap) : evw Φ (.nm true i :: ls) (.cons a r) env h = b2 (ev Φ a env h) (kNw Φ ls r env) := oevw_new Φ i ls a r env h
@[simp] theorem zevw_dat (i : Nat) (ls : List L) (a r : C) (env : Env) (h : Heap) : evw Φ (.nm false i :: ls) (.cons a r) env h = b2 (ev Φ a env h) (kDt Φ ls r env) := oevw_dat Φ i ls a r env h
@[simp] theorem zevw_sub (o i : C) (ls : List L) (a r : C) (env : Env) (h : Heap) : evw Φ (.sb o i :: ls) (.cons a r) env h = b2 (ev Φ a env h) (kDt Φ ls r env) := oevw_sub Φ o i ls a r env h
def kDs5 (n : Nat) (h : Heap) (c : Option Cell) : Out Heap := op1 (fun c => .ok (h.set n c)) c
@[simp] theorem kDs5_e (n : Nat) (h : Heap) (c : Cell) : kDs5 n h (some c) = .ok (h.set n c) := nd rfl
def kDs4 (tk : Bool) (v k : D) (n : Nat) (h : Heap) (c : Option Cell) : Out Heap := op1 (fun c => kDs5 n h (subV tk c k v)) c
@[simp] theorem kDs4_e (tk : Bool) (v k : D) (n : Nat) (h : Heap) (c : Cell) : kDs4 tk v k n h (some c) = kDs5 n h (subV tk c k v) := nd rfl
def kDs3 (tk : Bool) (v : D) (h : Heap) (x y : RV) : Out Heap := onR (fun n => onD (fun k => kDs4 tk v k n h (h[n]?)) y) x
@[simp] theorem kDs3_e (tk : Bool) (v : D) (h : Heap) (n : Nat) (k : D) : kDs3 tk v h (.ref n) (.d k) = kDs4 tk v k n h (h[n]?) := nd rfl
def kDs2 (tk : Bool) (v : D) (x : RV) (y : RV) (h : Heap) : Out Heap := kDs3 tk v h x (nrm y)
@[simp] theorem kDs2_e (tk : Bool) (v : D) (x : RV) (y : RV) (h : Heap) : kDs2 tk v x y h = kDs3 tk v h x (nrm y) := nd rfl
def kDs1 (Φ : Calls) (i : C) (v : D) (env : Env) (x : RV) (h : Heap) : Out Heap := b2 (ev Φ i env h) (kDs2 (isTupC i) v x)
@[simp] theorem kDs1_e (Φ : Calls) (i : C) (v : D) (env : Env) (x : RV) (h : Heap) : kDs1 Φ i v env x h = b2 (ev Φ i env h) (kDs2 (isTupC i) v x) := nd rfl
@[simp] theorem zdoSub (o i : C) (v : D) (env : Env) (h : Heap) : doSub Φ o i v env h = b2 (ev Φ o env h) (kDs1 Φ i v env) := odoSub Φ o i v env h
def kDp (Φ : Calls) (ls : List L) (rs : List RV) (env : Env) (h : Heap) : Out (Env × Heap) := doPar Φ ls rs env h
@[simp] theorem kDp_e (Φ : Calls) (ls : List L) (rs : List RV) (env : Env) (h : Heap) : kDp Φ ls rs env h = doPar Φ ls rs env h := nd rfl
@[simp] theorem zdoPar_sb (o i : C) (v : D) (ls : List L) (rs : List RV) (env : Env) (h : Heap) : doPar Φ (.sb o i :: ls) (.d v :: rs) env h = b1 (doSub Φ o i v env h) (kDp Φ ls rs env) := nd rfl
/-! ### loops -/
def kFT (Φ : Calls) (base : Nat) (b : S) (h : Heap) (o : Option Env) : Out SR := op1 (fun e1 => exS Φ base b e1 h) o
@[simp] theorem kFT_e (base : Nat) (b : S) (h : Heap) (e : Env) : kFT Φ base b h (some e) = exS Φ base b e h := nd rfl
def kLF (Φ : Calls) (base : Nat) (t : Tg) (b : S) (xs : List D) (f : Fl) (e : Env) (h : Heap) : Out SR := oLoop (forS Φ base t b xs) f e h
@[simp] theorem kLF_nx (base : Nat) (t : Tg) (b : S) (xs : List D) (e : Env) (h : Heap) : kLF Φ base t b xs .nx e h = forS Φ base t b xs e h := nd rfl
@[simp] theorem kLF_ct (base : Nat) (t : Tg) (b : S) (xs : List D) (e : Env) (h : Heap) : kLF Φ base t b xs .ct e h = forS Φ base t b xs e h := nd rfl
@[simp] theorem kLF_bk (base : Nat) (t : Tg) (b : S) (xs : List D) (e : Env) (h : Heap) : kLF Φ base t b xs .bk e h = .ok (.nx, e, h) := nd rfl
@[simp] theorem kLF_rt (base : Nat) (t : Tg) (b : S) (xs : List D) (r : RV) (e : Env) (h : Heap) : kLF Φ base t b xs (.rt r) e h = .ok (.rt r, e, h) := nd rfl
theorem forS_cons (base : Nat) (t : Tg) (b : S) (x : D) (xs : List D) (env : Env) (h : Heap) : forS Φ base t b (x :: xs) env h = b3 (kFT Φ base b h (setTg t x env)) (kLF Φ base t b xs) := oforS_cons Φ base t b x xs env h
def kLW (Φ : Calls) (base : Nat) (c : C) (b : S) (n : Nat) (f : Fl) (e : Env) (h : Heap) : Out SR := oLoop (whlS Φ base c b n) f e h
@[simp] theorem kLW_nx (base : Nat) (c : C) (b : S) (n : Nat) (e : Env) (h : Heap) : kLW Φ base c b n .nx e h = whlS Φ base c b n e h := nd rfl
@[simp] theorem kLW_ct (base : Nat) (c : C) (b : S) (n : Nat) (e : Env) (h : Heap) : kLW Φ base c b n .ct e h = whlS Φ base c b n e h := nd rfl
@[simp] theorem kLW_bk (base : Nat) (c : C) (b : S) (n : Nat) (e : Env) (h : Heap) : kLW Φ base c b n .bk e h = .ok (.nx, e, h) := nd rfl
@[simp] theorem kLW_rt (base : Nat) (c : C) (b : S) (n : Nat) (r : RV) (e : Env) (h : Heap) : kLW Φ base c b n (.rt r) e h = .ok (.rt r, e, h) := nd rfl
def kWh (Φ : Calls) (base : Nat) (c : C) (b : S) (n : Nat) (env : Env) (k : Bool) (h : Heap) : Out SR := cond2 (b3 (exS Φ base b env h) (kLW Φ base c b n)) (.ok (.nx, env, h)) k
@[simp] theorem kWh_t (base : Nat) (c : C) (b : S) (n : Nat) (env : Env) (h : Heap) : kWh Φ base c b n env true h = b3 (exS Φ base b env h) (kLW Φ base c b n) := nd rfl
@[simp] theorem kWh_f (base : Nat) (c : C) (b : S) (n : Nat) (env : Env) (h : Heap) : kWh Φ base c b n env false h = .ok (.nx, env, h) := nd rfl
theorem whlS_succ (base : Nat) (c : C) (b : S) (n : Nat) (env : Env) (h : Heap) : whlS Φ base c b (n + 1) env h = b2 (tst Φ c env h) (kWh Φ base c b n env) := owhlS_succ Φ base c b n env h
def kSt4 (h : Heap) (y : RV) : Out (List D × Heap) := onD (fun v => .ok ([v], h)) y
@[simp] theorem kSt4_e (h : Heap) (v : D) : kSt4 h (.d v) = .ok ([v], h) := nd rfl
def kSt3 (y : RV) (h : Heap) : Out (List D × Heap) := kSt4 h (nrm y)
@[simp] theorem kSt3_e (y : RV) (h : Heap) : kSt3 y h = kSt4 h (nrm y) := nd rfl
def kSt2 (Φ : Calls) (e : C) (env : Env) (k : Bool) (h : Heap) : Out (List D × Heap) := cond2 (b2 (ev Φ e env h) kSt3) (.ok ([], h)) k
@[simp] theorem kSt2_t (e : C) (env : Env) (h : Heap) : kSt2 Φ e env true h = b2 (ev Φ e env h) kSt3 := nd rfl
@[simp] theorem kSt2_f (e : C) (env : Env) (h : Heap) : kSt2 Φ e env false h = .ok ([], h) := nd rfl
def kSt1 (Φ : Calls) (c e : C) (h : Heap) (o : Option Env) : Out (List D × Heap) := op1 (fun env => b2 (tst Φ c env h) (kSt2 Φ e env)) o
@[simp] theorem kSt1_e (c e : C) (h : Heap) (env : Env) : kSt1 Φ c e h (some env) = b2 (tst Φ c env h) (kSt2 Φ e env) := nd rfl
theorem stepS_eq (own : List Nat) (t : Tg) (c e : C) (env : Env) (x : D) (h : Heap) : stepS Φ own t c e env x h = kSt1 Φ c e h (setTg t x (wipe env own)) := ostepS_eq Φ own t c e env x h
def kSu3 (Φ : Calls) (own2 : List Nat) (t2 : Tg) (c2 e : C) (env : Env) (zs : List D) (h : Heap) : Out (List D × Heap) := mapS Φ own2 t2 c2 e env zs h
@[simp] theorem kSu3_e (Φ : Calls) (own2 : List Nat) (t2 : Tg) (c2 e : C) (env : Env) (zs : List D) (h : Heap) : kSu3 Φ own2 t2 c2 e env zs h = mapS Φ own2 t2 c2 e env zs h := nd rfl
def kSu2 (Φ : Calls) (own2 : List Nat) (t2 : Tg) (it2 c2 e : C) (env : Env) (k : Bool) (h : Heap) : Out (List D × Heap) := cond2 (b2 (walk Φ it2 env h) (kSu3 Φ own2 t2 c2 e env)) (.ok ([], h)) k
@[simp] theorem kSu2_t (own2 : List Nat) (t2 : Tg) (it2 c2 e : C) (env : Env) (h : Heap) : kSu2 Φ own2 t2 it2 c2 e env true h = b2 (walk Φ it2 env h) (kSu3 Φ own2 t2 c2 e env) := nd rfl
@[simp] theorem kSu2_f (own2 : List Nat) (t2 : Tg) (it2 c2 e : C) (env : Env) (h : Heap) : kSu2 Φ own2 t2 it2 c2 e env false h = .ok ([], h) := nd rfl
def kSu1 (Φ : Calls) (c : C) (own2 : List Nat) (t2 : Tg) (it2 c2 e : C) (h : Heap) (o : Option Env) : Out (List D × Heap) := op1 (fun env => b2 (tst Φ c env h) (kSu2 Φ own2 t2 it2 c2 e env)) o
@[simp] theorem kSu1_e (c : C) (own2 : List Nat) (t2 : Tg) (it2 c2 e : C) (h : Heap) (env : Env) : kSu1 Φ c own2 t2 it2 c2 e h (some env) = b2 (tst Φ c env h) (kSu2 Φ own2 t2 it2 c2 e env) := nd rfl
theorem stepS2_eq (own : List Nat) (t : Tg) (c : C) (own2 : List Nat) (t2 : Tg) (it2 c2 e : C) (env : Env) (x : D) (h : Heap) : stepS2 Φ own t c own2 t2 it2 c2 e env x h = kSu1 Φ c own2 t2 it2 c2 e h (setTg t x (wipe env own)) := ostepS2_eq Φ own t c own2 t2 it2 c2 e env x h
def kMp2 (p : List D) (q : List D) (h : Heap) : Out (List D × Heap) := .ok (p ++ q, h)
@[simp] theorem kMp2_e (p : List D) (q : List D) (h : Heap) : kMp2 p q h = .ok (p ++ q, h) := nd rfl
def kMp1 (Φ : Calls) (own : List Nat) (t : Tg) (c e : C) (env : Env) (xs : List D) (p : List D) (h : Heap) : Out (List D × Heap) := b2 (mapS Φ own t c e env xs h) (kMp2 p)
@[simp] theorem kMp1_e (Φ : Calls) (own : List Nat) (t : Tg) (c e : C) (env : Env) (xs : List D) (p : List D) (h : Heap) : kMp1 Φ own t c e env xs p h = b2 (mapS Φ own t c e env xs h) (kMp2 p) := nd rfl
theorem mapS_cons (own : List Nat) (t : Tg) (c e : C) (env : Env) (x : D) (xs : List D) (h : Heap) : mapS Φ own t c e env (x :: xs) h = b2 (stepS Φ own t c e env x h) (kMp1 Φ own t c e env xs) := omapS_cons Φ own t c e env x xs h
def kMq1 (Φ : Calls) (own : List Nat) (t : Tg) (c : C) (own2 : List Nat) (t2 : Tg) (it2 c2 e : C) (env : Env) (xs : List D) (p : List D) (h : Heap) : Out (List D × Heap) := b2 (mapS2 Φ own t c own2 t2 it2 c2 e env xs h) (kMp2 p)
@[simp] theorem kMq1_e (Φ : Calls) (own : List Nat) (t : Tg) (c : C) (own2 : List Nat) (t2 : Tg) (it2 c2 e : C) (env : Env) (xs : List D) (p : List D) (h : Heap) : kMq1 Φ own t c own2 t2 it2 c2 e env xs p h = b2 (mapS2 Φ own t c own2 t2 it2 c2 e env xs h) (kMp2 p) := nd rfl
theorem mapS2_cons (own : List Nat) (t : Tg) (c : C) (own2 : List Nat) (t2 : Tg) (it2 c2 e : C) (env : Env) (x : D) (xs : List D) (h : Heap) : mapS2 Φ own t c own2 t2 it2 c2 e env (x :: xs) h = b2 (stepS2 Φ own t c own2 t2 it2 c2 e env x h) (kMq1 Φ own t c own2 t2 it2 c2 e env xs) := omapS2_cons Φ own t c own2 t2 it2 c2 e env x xs h
end
end Mini
set_option Elab.async false
set_option linter.all false
set_option autoImplicit false
set_option maxRecDepth 100000
/- Mini: helpers on constructors; printed by genX.py. Own work. -/
namespace Mini
@[simp] theorem y0   : eqD .non .non = true := by simp only [eqD]
@[simp] theorem y1  (y : Bool) : eqD .non (.bl y) = false := by simp only [eqD]
@[simp] theorem y2  (y : Int) : eqD .non (.int y) = false := by simp only [eqD]
@[simp] theorem y3  (y : List Nat) : eqD .non (.str y) = false := by simp only [eqD]
@[simp] theorem y4  (y : List D) : eqD .non (.tup y) = false := by simp only [eqD]
@[simp] theorem y5  (y : List D) : eqD .non (.lst y) = false := by simp only [eqD]
@[simp] theorem y6  (y_t : Bool) (y : List (Ky × D)) : eqD .non (.dct y_t y) = false := by simp only [eqD]
@[simp] theorem y7 (x : Bool)  : eqD (.bl x) .non = false := by simp only [eqD]
@[simp] theorem y8 (x : Bool) (y : Bool) : eqD (.bl x) (.bl y) = (x == y) := by simp only [eqD]
@[simp] theorem y9 (x : Bool) (y : Int) : eqD (.bl x) (.int y) = ((if x then 1 else 0) == y) := by simp only [eqD]
@[simp] theorem y10 (x : Bool) (y : List Nat) : eqD (.bl x) (.str y) = false := by simp only [eqD]
@[simp] theorem y11 (x : Bool) (y : List D) : eqD (.bl x) (.tup y) = false := by simp only [eqD]
@[simp] theorem y12 (x : Bool) (y : List D) : eqD (.bl x) (.lst y) = false := by simp only [eqD]
@[simp] theorem y13 (x : Bool) (y_t : Bool) (y : List (Ky × D)) : eqD (.bl x) (.dct y_t y) = false := by simp only [eqD]
@[simp] theorem y14 (x : Int)  : eqD (.int x) .non = false := by simp only [eqD]
@[simp] theorem y15 (x : Int) (y : Bool) : eqD (.int x) (.bl y) = (x == (if y then 1 else 0)) := by simp only [eqD]
@[simp] theorem y16 (x : Int) (y : Int) : eqD (.int x) (.int y) = decide (x = y) := by simp only [eqD]; by_cases q : x = y <;> simp [q]
@[simp] theorem y17 (x : Int) (y : List Nat) : eqD (.int x) (.str y) = false := by simp only [eqD]
@[simp] theorem y18 (x : Int) (y : List D) : eqD (.int x) (.tup y) = false := by simp only [eqD]
@[simp] theorem y19 (x : Int) (y : List D) : eqD (.int x) (.lst y) = false := by simp only [eqD]
@[simp] theorem y20 (x : Int) (y_t : Bool) (y : List (Ky × D)) : eqD (.int x) (.dct y_t y) = false := by simp only [eqD]
@[simp] theorem y21 (x : List Nat)  : eqD (.str x) .non = false := by simp only [eqD]
@[simp] theorem y22 (x : List Nat) (y : Bool) : eqD (.str x) (.bl y) = false := by simp only [eqD]
@[simp] theorem y23 (x : List Nat) (y : Int) : eqD (.str x) (.int y) = false := by simp only [eqD]
@[simp] theorem y24 (x : List Nat) (y : List Nat) : eqD (.str x) (.str y) = decide (x = y) := by simp only [eqD]; by_cases q : x = y <;> simp [q]
@[simp] theorem y25 (x : List Nat) (y : List D) : eqD (.str x) (.tup y) = false := by simp only [eqD]
@[simp] theorem y26 (x : List Nat) (y : List D) : eqD (.str x) (.lst y) = false := by simp only [eqD]
@[simp] theorem y27 (x : List Nat) (y_t : Bool) (y : List (Ky × D)) : eqD (.str x) (.dct y_t y) = false := by simp only [eqD]
@[simp] theorem y28 (x : List D)  : eqD (.tup x) .non = false := by simp only [eqD]
@[simp] theorem y29 (x : List D) (y : Bool) : eqD (.tup x) (.bl y) = false := by simp only [eqD]
@[simp] theorem y30 (x : List D) (y : Int) : eqD (.tup x) (.int y) = false := by simp only [eqD]
@[simp] theorem y31 (x : List D) (y : List Nat) : eqD (.tup x) (.str y) = false := by simp only [eqD]
@[simp] theorem y32 (x : List D) (y : List D) : eqD (.tup x) (.tup y) = eqDs x y := by simp only [eqD]
@[simp] theorem y33 (x : List D) (y : List D) : eqD (.tup x) (.lst y) = false := by simp only [eqD]
@[simp] theorem y34 (x : List D) (y_t : Bool) (y : List (Ky × D)) : eqD (.tup x) (.dct y_t y) = false := by simp only [eqD]
@[simp] theorem y35 (x : List D)  : eqD (.lst x) .non = false := by simp only [eqD]
@[simp] theorem y36 (x : List D) (y : Bool) : eqD (.lst x) (.bl y) = false := by simp only [eqD]
@[simp] theorem y37 (x : List D) (y : Int) : eqD (.lst x) (.int y) = false := by simp only [eqD]
@[simp] theorem y38 (x : List D) (y : List Nat) : eqD (.lst x) (.str y) = false := by simp only [eqD]
@[simp] theorem y39 (x : List D) (y : List D) : eqD (.lst x) (.tup y) = false := by simp only [eqD]
@[simp] theorem y40 (x : List D) (y : List D) : eqD (.lst x) (.lst y) = eqDs x y := by simp only [eqD]
@[simp] theorem y41 (x : List D) (y_t : Bool) (y : List (Ky × D)) : eqD (.lst x) (.dct y_t y) = false := by simp only [eqD]
@[simp] theorem y42 (x_t : Bool) (x : List (Ky × D))  : eqD (.dct x_t x) .non = false := by simp only [eqD]
@[simp] theorem y43 (x_t : Bool) (x : List (Ky × D)) (y : Bool) : eqD (.dct x_t x) (.bl y) = false := by simp only [eqD]
@[simp] theorem y44 (x_t : Bool) (x : List (Ky × D)) (y : Int) : eqD (.dct x_t x) (.int y) = false := by simp only [eqD]
@[simp] theorem y45 (x_t : Bool) (x : List (Ky × D)) (y : List Nat) : eqD (.dct x_t x) (.str y) = false := by simp only [eqD]
@[simp] theorem y46 (x_t : Bool) (x : List (Ky × D)) (y : List D) : eqD (.dct x_t x) (.tup y) = false := by simp only [eqD]
@[simp] theorem y47 (x_t : Bool) (x : List (Ky × D)) (y : List D) : eqD (.dct x_t x) (.lst y) = false := by simp only [eqD]
@[simp] theorem y48 (x_t : Bool) (x : List (Ky × D)) (y_t : Bool) (y : List (Ky × D)) : eqD (.dct x_t x) (.dct y_t y) = false := by simp only [eqD]
@[simp] theorem y49  : eqDs [] [] = true := by simp only [eqDs]
@[simp] theorem y50 (x y : D) (xs ys : List D) : eqDs (x :: xs) (y :: ys) = (eqD x y && eqDs xs ys) := by simp only [eqDs]
@[simp] theorem y51 (x : D) (xs : List D) : eqDs (x :: xs) [] = false := by simp only [eqDs]
@[simp] theorem y52 (x : D) (xs : List D) : eqDs [] (x :: xs) = false := by simp only [eqDs]
@[simp] theorem y53  : noDct .non = true := by simp only [noDct]
@[simp] theorem y54  : depth .non = 0 := by simp only [depth]
@[simp] theorem y55  : isiV .int .non = some false := nd rfl
@[simp] theorem y56  : isiV .bool .non = some false := nd rfl
@[simp] theorem y57  : isiV .str .non = some false := nd rfl
@[simp] theorem y58  : isiV .tuple .non = some false := nd rfl
@[simp] theorem y59  : isiV .list .non = some false := nd rfl
@[simp] theorem y60  : isiV .dict .non = some false := nd rfl
@[simp] theorem y61  : truth .non = some false := nd rfl
@[simp] theorem y62 (z : D)  : isD z .non = some (isNon z) := nd rfl
@[simp] theorem y63  : isNon .non = true := nd rfl
@[simp] theorem y64 (h : Heap)  : view h (.d .non) = some .non := nd rfl
@[simp] theorem y65  : keyOf .non = none := nd rfl
@[simp] theorem y66 (x : Bool) : noDct (.bl x) = true := by simp only [noDct]
@[simp] theorem y67 (x : Bool) : depth (.bl x) = 0 := by simp only [depth]
@[simp] theorem y68 (x : Bool) : isiV .int (.bl x) = some true := nd rfl
@[simp] theorem y69 (x : Bool) : isiV .bool (.bl x) = some true := nd rfl
@[simp] theorem y70 (x : Bool) : isiV .str (.bl x) = some false := nd rfl
@[simp] theorem y71 (x : Bool) : isiV .tuple (.bl x) = some false := nd rfl
@[simp] theorem y72 (x : Bool) : isiV .list (.bl x) = some false := nd rfl
@[simp] theorem y73 (x : Bool) : isiV .dict (.bl x) = some false := nd rfl
@[simp] theorem y74 (x : Bool) : truth (.bl x) = some x := nd rfl
@[simp] theorem y75 (x : Bool) : isNon (.bl x) = false := nd rfl
@[simp] theorem y76 (x : Bool) : keyOf (.bl x) = none := nd rfl
@[simp] theorem y77 (x : Int) : noDct (.int x) = true := by simp only [noDct]
@[simp] theorem y78 (x : Int) : depth (.int x) = 0 := by simp only [depth]
@[simp] theorem y79 (x : Int) : isiV .int (.int x) = some true := nd rfl
@[simp] theorem y80 (x : Int) : isiV .bool (.int x) = some false := nd rfl
@[simp] theorem y81 (x : Int) : isiV .str (.int x) = some false := nd rfl
@[simp] theorem y82 (x : Int) : isiV .tuple (.int x) = some false := nd rfl
@[simp] theorem y83 (x : Int) : isiV .list (.int x) = some false := nd rfl
@[simp] theorem y84 (x : Int) : isiV .dict (.int x) = some false := nd rfl
@[simp] theorem y85 (x : Int) : truth (.int x) = some (x != 0) := nd rfl
@[simp] theorem y86 (z : D) (x : Int) : isD z (.int x) = none := nd rfl
@[simp] theorem y87 (x : Int) : isNon (.int x) = false := nd rfl
@[simp] theorem y88 (x : Int) : keyOf (.int x) = some (.i x) := nd rfl
@[simp] theorem y89 (x : List Nat) : noDct (.str x) = true := by simp only [noDct]
@[simp] theorem y90 (x : List Nat) : depth (.str x) = 0 := by simp only [depth]
@[simp] theorem y91 (x : List Nat) : isiV .int (.str x) = some false := nd rfl
@[simp] theorem y92 (x : List Nat) : isiV .bool (.str x) = some false := nd rfl
@[simp] theorem y93 (x : List Nat) : isiV .str (.str x) = some true := nd rfl
@[simp] theorem y94 (x : List Nat) : isiV .tuple (.str x) = some false := nd rfl
@[simp] theorem y95 (x : List Nat) : isiV .list (.str x) = some false := nd rfl
@[simp] theorem y96 (x : List Nat) : isiV .dict (.str x) = some false := nd rfl
@[simp] theorem y97 (x : List Nat) : truth (.str x) = some !x.isEmpty := nd rfl
@[simp] theorem y98 (z : D) (x : List Nat) : isD z (.str x) = none := nd rfl
@[simp] theorem y99 (x : List Nat) : isNon (.str x) = false := nd rfl
@[simp] theorem y100 (x : List Nat) : keyOf (.str x) = some (.s x) := nd rfl
@[simp] theorem y101 (x : List D) : noDct (.tup x) = noDcts x := by simp only [noDct]
@[simp] theorem y102 (x : List D) : depth (.tup x) = depths x + 1 := by simp only [depth]
@[simp] theorem y103 (x : List D) : isiV .int (.tup x) = some false := nd rfl
@[simp] theorem y104 (x : List D) : isiV .bool (.tup x) = some false := nd rfl
@[simp] theorem y105 (x : List D) : isiV .str (.tup x) = some false := nd rfl
@[simp] theorem y106 (x : List D) : isiV .tuple (.tup x) = some true := nd rfl
@[simp] theorem y107 (x : List D) : isiV .list (.tup x) = some false := nd rfl
@[simp] theorem y108 (x : List D) : isiV .dict (.tup x) = some false := nd rfl
@[simp] theorem y109 (x : List D) : truth (.tup x) = some !x.isEmpty := nd rfl
@[simp] theorem y110 (z : D) (x : List D) : isD z (.tup x) = none := nd rfl
@[simp] theorem y111 (x : List D) : isNon (.tup x) = false := nd rfl
@[simp] theorem y112 (x : List D) : keyOf (.tup x) = (keysFlat x).map .t := nd rfl
@[simp] theorem y113 (x : List D) : noDct (.lst x) = noDcts x := by simp only [noDct]
@[simp] theorem y114 (x : List D) : depth (.lst x) = depths x + 1 := by simp only [depth]
@[simp] theorem y115 (x : List D) : isiV .int (.lst x) = some false := nd rfl
@[simp] theorem y116 (x : List D) : isiV .bool (.lst x) = some false := nd rfl
@[simp] theorem y117 (x : List D) : isiV .str (.lst x) = some false := nd rfl
@[simp] theorem y118 (x : List D) : isiV .tuple (.lst x) = some false := nd rfl
@[simp] theorem y119 (x : List D) : isiV .list (.lst x) = some true := nd rfl
@[simp] theorem y120 (x : List D) : isiV .dict (.lst x) = some false := nd rfl
@[simp] theorem y121 (x : List D) : truth (.lst x) = some !x.isEmpty := nd rfl
@[simp] theorem y122 (z : D) (x : List D) : isD z (.lst x) = none := nd rfl
@[simp] theorem y123 (x : List D) : isNon (.lst x) = false := nd rfl
@[simp] theorem y124 (x : List D) : keyOf (.lst x) = none := nd rfl
@[simp] theorem y125 (x_t : Bool) (x : List (Ky × D)) : noDct (.dct x_t x) = false := by simp only [noDct]
@[simp] theorem y126 (x_t : Bool) (x : List (Ky × D)) : depth (.dct x_t x) = 0 := by simp only [depth]
@[simp] theorem y127 (x_t : Bool) (x : List (Ky × D)) : truth (.dct x_t x) = none := nd rfl
@[simp] theorem y128 (z : D) (x_t : Bool) (x : List (Ky × D)) : isD z (.dct x_t x) = none := nd rfl
@[simp] theorem y129 (x_t : Bool) (x : List (Ky × D)) : isNon (.dct x_t x) = false := nd rfl
@[simp] theorem y130 (x_t : Bool) (x : List (Ky × D)) : keyOf (.dct x_t x) = none := nd rfl
@[simp] theorem y131  : noDcts [] = true := by simp only [noDcts]
@[simp] theorem y132 (x : D) (xs : List D) : noDcts (x :: xs) = (noDct x && noDcts xs) := by simp only [noDcts]
@[simp] theorem y133  : depths [] = 0 := by simp only [depths]
@[simp] theorem y134 (x : D) (xs : List D) : depths (x :: xs) = max (depth x) (depths xs) := by simp only [depths]
@[simp] theorem y135 (h : Heap) (x : D) : view h (.d x) = some x := nd rfl
@[simp] theorem y136 (h : Heap) (n : Nat) : view h (.ref n) = (h[n]?).bind Cell.D := nd rfl
@[simp] theorem y137 (h : Heap) (c : Cell) : view h (.nw c) = c.D := nd rfl
@[simp] theorem y138 (xs : List D) : Cell.D (.lst xs) = some (.lst xs) := nd rfl
@[simp] theorem y139 (t : Bool) (xs : List (Ky × D)) : Cell.D (.dct t xs) = some (.dct t xs) := nd rfl
@[simp] theorem y140 (x : D) : nrm (.d x) = .d x := nd rfl
@[simp] theorem y141 (n : Nat) : nrm (.ref n) = .ref n := nd rfl
@[simp] theorem y142 (xs : List D) : nrm (.nw (.lst xs)) = .d (.lst xs) := nd rfl
@[simp] theorem y143 (t : Bool) (xs : List (Ky × D)) : nrm (.nw (.dct t xs)) = .d (.dct t xs) := nd rfl
@[simp] theorem y144 (h : Heap) : views h [] = some [] := nd rfl
@[simp] theorem y145 (h : Heap) (x : D) (rs : List RV) : views h (.d x :: rs) = (views h rs).map (x :: ·) := by rw [views]; simp only [view]; cases views h rs <;> rfl
@[simp] theorem y146 (h : Heap) (n : Nat) (rs : List RV) : views h (.ref n :: rs) = ((h[n]?).bind Cell.D).bind fun a => (views h rs).map (a :: ·) := by rw [views]; simp only [view]; cases (h[n]?).bind Cell.D <;> cases views h rs <;> rfl
@[simp] theorem y147  : datasOf [] = some [] := nd rfl
@[simp] theorem y148 (x : D) (rs : List RV) : datasOf (.d x :: rs) = (datasOf rs).map (x :: ·) := by rw [datasOf]; simp only [dataOf]; cases datasOf rs <;> rfl
@[simp] theorem y149 (i j : Int) : binV .add (.int i) (.int j) = .ok (.d (.int (i + j))) := nd rfl
@[simp] theorem y150 (x y : List Nat) : binV .add (.str x) (.str y) = if x.length + y.length ≤ LINE then .ok (.d (.str (x ++ y))) else .stuck := nd rfl
@[simp] theorem y151 (x y : List D) : binV .add (.tup x) (.tup y) = if x.length + y.length ≤ LINE then .ok (.d (.tup (x ++ y))) else .stuck := nd rfl
@[simp] theorem y152 (x y : List D) : binV .add (.lst x) (.lst y) = if x.length + y.length ≤ LINE then .ok (.nw (.lst (x ++ y))) else .stuck := nd rfl
@[simp] theorem y153 (i j : Int) : binV .sub (.int i) (.int j) = .ok (.d (.int (i - j))) := nd rfl
@[simp] theorem y154 (i j : Int) : binV .mul (.int i) (.int j) = if small i || small j then .ok (.d (.int (i * j))) else .stuck := nd rfl
@[simp] theorem y155 (i j : Int) : binV .mod (.int i) (.int j) = if 0 < j then .ok (.d (.int (i % j))) else .stuck := nd rfl
@[simp] theorem y156 (i j : Int) : binV .fdiv (.int i) (.int j) = if 0 < j ∧ j < 1073741824 then .ok (.d (.int (i / j))) else .stuck := nd rfl
@[simp] theorem y157 (i j : Int) : binV .pow (.int i) (.int j) = if 0 ≤ j ∧ j ≤ 1000000 ∧ i.natAbs < 2 ^ 64 then .ok (.d (.int (i ^ j.toNat))) else .stuck := nd rfl
@[simp] theorem y158 (i j : Int) : binV .band (.int i) (.int j) = bitI Nat.land i j := nd rfl
@[simp] theorem y159 (i j : Int) : binV .bor (.int i) (.int j) = bitI Nat.lor i j := nd rfl
@[simp] theorem y160 (i j : Int) : binV .bxor (.int i) (.int j) = bitI Nat.xor i j := nd rfl
@[simp] theorem y161 (x y : D) : cmpV .eq x y = if noDct x && noDct y && decide (min (depth x) (depth y) ≤ 60) then some (eqD x y) else none := nd rfl
@[simp] theorem y162 (x y : D) : cmpV .ne x y = if noDct x && noDct y && decide (min (depth x) (depth y) ≤ 60) then some (!eqD x y) else none := nd rfl
@[simp] theorem y163 (i j : Int) : cmpV .lt (.int i) (.int j) = some (decide (i < j)) := nd rfl
@[simp] theorem y164 (i j : Int) : cmpV .le (.int i) (.int j) = some (decide (i ≤ j)) := nd rfl
@[simp] theorem y165 (i j : Int) : cmpV .gt (.int i) (.int j) = some (decide (j < i)) := nd rfl
@[simp] theorem y166 (i j : Int) : cmpV .ge (.int i) (.int j) = some (decide (j ≤ i)) := nd rfl
@[simp] theorem y167 (x y : List Nat) : cmpV .lt (.str x) (.str y) = some (ltStr x y) := nd rfl
@[simp] theorem y168 (x y : D) : cmpV .in_ x y = inD x y := nd rfl
@[simp] theorem y169 (x y : D) : cmpV .nin x y = (inD x y).map (!·) := nd rfl
@[simp] theorem y170 (x y : D) : cmpV .is_ x y = isD x y := nd rfl
@[simp] theorem y171 (x y : D) : cmpV .isn x y = (isD x y).map (!·) := nd rfl
@[simp] theorem y172 (x : D) (ys : List D) : inD x (.tup ys) = if noDct x && noDcts ys && decide (min (depths ys) (depth x) ≤ 60) then some (ys.any fun y => eqD y x) else none := nd rfl
@[simp] theorem y173 (x : D) (ys : List D) : inD x (.lst ys) = if noDct x && noDcts ys && decide (min (depths ys) (depth x) ≤ 60) then some (ys.any fun y => eqD y x) else none := nd rfl
@[simp] theorem y174 (c : Nat) (y : List Nat) : inD (.str [c]) (.str y) = some (y.contains c) := nd rfl
@[simp] theorem y175 (x : D) (t : Bool) (kvs : List (Ky × D)) : inD x (.dct t kvs) = (keyFor t x).map fun k => (dget kvs k).isSome := nd rfl
@[simp] theorem y176 (xs : List D) (i : Int) : idxV (.lst xs) (.int i) = atD xs i := nd rfl
@[simp] theorem y177 (xs : List D) (i : Int) : idxV (.tup xs) (.int i) = atD xs i := nd rfl
@[simp] theorem y178 (xs : List Nat) (i : Int) : idxV (.str xs) (.int i) = (atD xs i).map fun c => .str [c] := nd rfl
@[simp] theorem y179 (t : Bool) (kvs : List (Ky × D)) (x : D) : idxV (.dct t kvs) x = (keyFor t x).bind fun k => dget kvs k := nd rfl
@[simp] theorem y180 (xs : List D) (l u : Option Int) : sliV (.lst xs) l u = some (.nw (.lst (cut xs l u))) := nd rfl
@[simp] theorem y181 (xs : List D) (l u : Option Int) : sliV (.tup xs) l u = some (.d (.tup (cut xs l u))) := nd rfl
@[simp] theorem y182 (xs : List Nat) (l u : Option Int) : sliV (.str xs) l u = some (.d (.str (cut xs l u))) := nd rfl
@[simp] theorem y183 (xs : List D) : revV (.lst xs) = some (.nw (.lst xs.reverse)) := nd rfl
@[simp] theorem y184 (xs : List D) : revV (.tup xs) = some (.d (.tup xs.reverse)) := nd rfl
@[simp] theorem y185 (xs : List D) : itemsV (.lst xs) = some xs := nd rfl
@[simp] theorem y186 (xs : List D) : itemsV (.tup xs) = some xs := nd rfl
@[simp] theorem y187 (xs : List Nat) : itemsV (.str xs) = some (xs.map fun c => .str [c]) := nd rfl
@[simp] theorem y188 (xs : List D) : biV .len [.lst xs] = some (.d (.int xs.length)) := nd rfl
@[simp] theorem y189 (xs : List D) : biV .len [.tup xs] = some (.d (.int xs.length)) := nd rfl
@[simp] theorem y190 (xs : List D) : biV .tuple [.lst xs] = some (.d (.tup xs)) := nd rfl
@[simp] theorem y191 (xs : List D) : biV .tuple [.tup xs] = some (.d (.tup xs)) := nd rfl
@[simp] theorem y192 (xs : List D) : biV .list [.lst xs] = some (.nw (.lst xs)) := nd rfl
@[simp] theorem y193 (xs : List D) : biV .list [.tup xs] = some (.nw (.lst xs)) := nd rfl
@[simp] theorem y194 (xs : List D) : biV .sum [.lst xs] = (intsOf xs).map fun ns => .d (.int ns.sum) := nd rfl
@[simp] theorem y195 (xs : List D) : biV .all [.lst xs] = (blsOf xs).map fun bs => .d (.bl (bs.all id)) := nd rfl
@[simp] theorem y196 (xs : List D) : biV .any [.lst xs] = (blsOf xs).map fun bs => .d (.bl (bs.any id)) := nd rfl
@[simp] theorem y197 (xs : List D) : biV .sorted [.lst xs] = (sortD xs).map fun ys => .nw (.lst ys) := nd rfl
@[simp] theorem y198 (xs : List D) : biV .sset [.lst xs] = (strsOf xs).bind fun ns => if ns.length ≤ 4000 && decide ((dedup ns).length < 64) then some (.nw (.lst ((sortBy ltStr (dedup ns)).map .str))) else none := nd rfl
@[simp] theorem y199 (xs : List D) : biV .lset [.lst xs] = (strsOf xs).bind fun ns => if ns.length ≤ 4000 then some (.d (.int (dedup ns).length)) else none := nd rfl
@[simp] theorem y200 (xs : List D) : biV .dict [.lst xs] = (pairsOf xs).map fun ps => .nw (.dct false (dmerge [] ps)) := nd rfl
@[simp] theorem y201 (xs : List D) : biV .dict [.tup xs] = (pairsOf xs).map fun ps => .nw (.dct false (dmerge [] ps)) := nd rfl
@[simp] theorem y202 (xs : List Nat) : biV .len [.str xs] = some (.d (.int xs.length)) := nd rfl
@[simp] theorem y203 (i : Int) : biV .abs [.int i] = some (.d (.int (if i < 0 then -i else i))) := nd rfl
@[simp] theorem y204 (i : Int) : biV .int [.int i] = some (.d (.int i)) := nd rfl
@[simp] theorem ystr (i : Int) : biV .str [.int i] = if i.natAbs.log2 < 1920 && okS (strInt i) then some (.d (.str (strInt i))) else none := nd rfl
@[simp] theorem y206 (x : List Nat) : biV .str [.str x] = some (.d (.str x)) := nd rfl
@[simp] theorem y207 (i j : Int) : biV .max [.int i, .int j] = some (.d (.int (if j > i then j else i))) := nd rfl
@[simp] theorem y208 (i j : Int) : biV .min [.int i, .int j] = some (.d (.int (if j < i then j else i))) := nd rfl
@[simp] theorem y209 (kvs : List (Ky × D)) : biV .dict [.dct false kvs] = if kvs.length ≤ LINE then some (.nw (.dct false kvs)) else none := nd rfl
@[simp] theorem y210 (kvs : List (Ky × D)) : biV .sorted [.dct false kvs] = (strKs kvs).bind fun ns => if ns.length < 64 then some (.nw (.lst ((sortBy ltStr ns).map .str))) else none := nd rfl
@[simp] theorem y211 (t : Bool) (kvs : List (Ky × D)) (k : D) : mtV .get (.dct t kvs) [k] = (keyFor t k).map fun a => .d ((dget kvs a).getD .non) := nd rfl
@[simp] theorem y212 (t : Bool) (kvs : List (Ky × D)) (k x : D) : mtV .get (.dct t kvs) [k, x] = (keyFor t k).map fun a => .d ((dget kvs a).getD x) := nd rfl
@[simp] theorem y213 (xs : List D) (x : D) : mtW .append (.lst xs) [x] = if xs.length < LINE then some (.non, .lst (xs ++ [x])) else none := nd rfl
@[simp] theorem y214 (xs : List D) (x : D) : mtW .pop (.lst (xs ++ [x])) [] = some (x, .lst xs) := by simp [mtW]
@[simp] theorem y215 (kvs more : List (Ky × D)) : mtW .update (.dct false kvs) [.dct false more] = if kvs.length + more.length ≤ LINE then some (.non, .dct false (dmerge kvs more)) else none := nd rfl
@[simp] theorem y216 (xs : List D) : onKind .append (.lst xs) = true := nd rfl
@[simp] theorem y217 (xs : List D) : onKind .pop (.lst xs) = true := nd rfl
@[simp] theorem y218 (t : Bool) (xs : List (Ky × D)) : onKind .get (.dct t xs) = true := nd rfl
@[simp] theorem y219 (t : Bool) (xs : List (Ky × D)) : onKind .update (.dct t xs) = true := nd rfl
@[simp] theorem y220  : writes .append = true := nd rfl
@[simp] theorem y221  : writes .pop = true := nd rfl
@[simp] theorem y222  : writes .update = true := nd rfl
@[simp] theorem y223  : writes .get = false := nd rfl
@[simp] theorem y224  : writes .count = false := nd rfl
@[simp] theorem y225  : writes .index = false := nd rfl
@[simp] theorem y226 (t : Bool) (x : D) : keyFor t x = (keyOf x).bind fun k => if isT k = t then some k else none := nd rfl
@[simp] theorem y227 (i : Int) : isT (.i i) = false := nd rfl
@[simp] theorem y228 (x : List Nat) : isT (.s x) = false := nd rfl
@[simp] theorem y229 (x : List (Sum Int (List Nat))) : isT (.t x) = true := nd rfl
@[simp] theorem y230 (i : Nat) (x : D) (env : Env) : setTg (.nm i) x env = some (env.set i (some (.d x))) := nd rfl
@[simp] theorem y231 (ts : Tg) (xs : List D) (env : Env) : setTg (.tp ts) (.tup xs) env = setTgs ts xs env := nd rfl
@[simp] theorem y232 (env : Env) : setTgs .nil [] env = some env := nd rfl
@[simp] theorem y233 (t r : Tg) (x : D) (xs : List D) (env : Env) : setTgs (.cons t r) (x :: xs) env = (setTg t x env).bind fun e => setTgs r xs e := nd rfl
@[simp] theorem y234 (base i : Nat) (v : D) (env : Env) (h : Heap) : asgV base false i (.d v) env h = .ok (env.set i (some (.d v)), h) := nd rfl
@[simp] theorem y235 (base i : Nat) (xs : List D) (env : Env) (h : Heap) : asgV base false i (.nw (.lst xs)) env h = .ok (env.set i (some (.d (.lst xs))), h) := nd rfl
@[simp] theorem y236 (base i : Nat) (t : Bool) (xs : List (Ky × D)) (env : Env) (h : Heap) : asgV base false i (.nw (.dct t xs)) env h = .ok (env.set i (some (.d (.dct t xs))), h) := nd rfl
@[simp] theorem y237 (i j : Int) : augV .add (.int i) (.int j) = .ok (.int (i + j)) := nd rfl
@[simp] theorem y238 (i j : Int) : augV .sub (.int i) (.int j) = .ok (.int (i - j)) := nd rfl
@[simp] theorem y239 (x y : List Nat) : augV .add (.str x) (.str y) = if x.length + y.length ≤ LINE then .ok (.str (x ++ y)) else .stuck := nd rfl
@[simp] theorem y240 (m : Bool) (i : Nat) : isMut (.nm m i) = m := nd rfl
@[simp] theorem y241 (o i : C) : isMut (.sb o i) = false := nd rfl
@[simp] theorem y242 (xs : List D) (k : Int) (v : D) : subV false (.lst xs) (.int k) v = (place xs.length k).map fun j => .lst (xs.set j v) := nd rfl
@[simp] theorem y243 (xs : List D) (k : Int) (v : D) : subV true (.lst xs) (.int k) v = (place xs.length k).map fun j => .lst (xs.set j v) := nd rfl
@[simp] theorem ysub (t tk : Bool) (kvs : List (Ky × D)) (k v : D) : subV tk (.dct t kvs) k v = if t = tk then (keyFor t k).bind fun a => if kvs.length < LINE then some (.dct t (dput kvs a v)) else none else none := by cases k <;> rfl
@[simp] theorem y245 (as : C) : isTupC (.tup as) = true := nd rfl
@[simp] theorem y246 (i : Nat) : isTupC (.var i) = false := nd rfl
@[simp] theorem y247 (x : D) : isTupC (.con x) = false := nd rfl
@[simp] theorem y248 (a b : C) : isTupC (.idx a b) = false := nd rfl
@[simp] theorem y249 (f : Nat) (a : C) : isTupC (.call f a) = false := nd rfl
@[simp] theorem y250 (o : Bin) (a b : C) : isTupC (.bin o a b) = false := nd rfl
@[simp] theorem y251  : zipD [] [] = [] := nd rfl
@[simp] theorem y252 (x y : D) (xs ys : List D) : zipD (x :: xs) (y :: ys) = .tup [x, y] :: zipD xs ys := nd rfl
@[simp] theorem y253 (ys : List D) : zipD [] ys = [] := by cases ys <;> rfl
@[simp] theorem y254 (ys : List D) : zipD ys [] = [] := by cases ys <;> rfl
@[simp] theorem y255 (k : Nat) : enuD k [] = [] := nd rfl
@[simp] theorem y256 (k : Nat) (x : D) (xs : List D) : enuD k (x :: xs) = .tup [.int k, x] :: enuD (k + 1) xs := nd rfl
@[simp] theorem y257 (env : Env) : Mini.wipe env [] = env := nd rfl
@[simp] theorem y258 (env : Env) (v : Nat) (vs : List Nat) : Mini.wipe env (v :: vs) = (Mini.wipe env vs).set v none := nd rfl
@[simp] theorem y259 (k : Ky) : dget [] k = none := nd rfl
@[simp] theorem y260 (a : Ky) (v : D) (r : List (Ky × D)) (k : Ky) : dget ((a, v) :: r) k = if a = k then some v else dget r k := nd rfl
@[simp] theorem y261 (Φ : Calls) (env : Env) (h : Heap) : doPar Φ [] [] env h = .ok (env, h) := nd rfl
@[simp] theorem y262 (Φ : Calls) (i n : Nat) (ls : List L) (rs : List RV) (env : Env) (h : Heap) : doPar Φ (.nm true i :: ls) (.ref n :: rs) env h = doPar Φ ls rs (env.set i (some (.ref n))) h := nd rfl
@[simp] theorem y263 (Φ : Calls) (i : Nat) (v : D) (ls : List L) (rs : List RV) (env : Env) (h : Heap) : doPar Φ (.nm false i :: ls) (.d v :: rs) env h = doPar Φ ls rs (env.set i (some (.d v))) h := nd rfl
@[simp] theorem y264 (Φ : Calls)  (r : RV) (e : Env) (h : Heap) : ev Φ (.var 0) (some r :: e) h = .ok (r, h) := nd rfl
@[simp] theorem y265 (z y : Option RV) (e : Env) : List.set (z :: e) 0 y = y :: e := nd rfl
@[simp] theorem y266 (z : Option RV) (e : Env) : (z :: e)[0]? = some z := nd rfl
@[simp] theorem y267 (Φ : Calls) (a0 : Option RV) (r : RV) (e : Env) (h : Heap) : ev Φ (.var 1) (a0 :: some r :: e) h = .ok (r, h) := nd rfl
@[simp] theorem y268 (a0 z y : Option RV) (e : Env) : List.set (a0 :: z :: e) 1 y = a0 :: y :: e := nd rfl
@[simp] theorem y269 (a0 z : Option RV) (e : Env) : (a0 :: z :: e)[1]? = some z := nd rfl
@[simp] theorem y270 (Φ : Calls) (a0 a1 : Option RV) (r : RV) (e : Env) (h : Heap) : ev Φ (.var 2) (a0 :: a1 :: some r :: e) h = .ok (r, h) := nd rfl
@[simp] theorem y271 (a0 a1 z y : Option RV) (e : Env) : List.set (a0 :: a1 :: z :: e) 2 y = a0 :: a1 :: y :: e := nd rfl
@[simp] theorem y272 (a0 a1 z : Option RV) (e : Env) : (a0 :: a1 :: z :: e)[2]? = some z := nd rfl
@[simp] theorem y273 (Φ : Calls) (a0 a1 a2 : Option RV) (r : RV) (e : Env) (h : Heap) : ev Φ (.var 3) (a0 :: a1 :: a2 :: some r :: e) h = .ok (r, h) := nd rfl
@[simp] theorem y274 (a0 a1 a2 z y : Option RV) (e : Env) : List.set (a0 :: a1 :: a2 :: z :: e) 3 y = a0 :: a1 :: a2 :: y :: e := nd rfl
@[simp] theorem y275 (a0 a1 a2 z : Option RV) (e : Env) : (a0 :: a1 :: a2 :: z :: e)[3]? = some z := nd rfl
@[simp] theorem y276 (Φ : Calls) (a0 a1 a2 a3 : Option RV) (r : RV) (e : Env) (h : Heap) : ev Φ (.var 4) (a0 :: a1 :: a2 :: a3 :: some r :: e) h = .ok (r, h) := nd rfl
@[simp] theorem y277 (a0 a1 a2 a3 z y : Option RV) (e : Env) : List.set (a0 :: a1 :: a2 :: a3 :: z :: e) 4 y = a0 :: a1 :: a2 :: a3 :: y :: e := nd rfl
@[simp] theorem y278 (a0 a1 a2 a3 z : Option RV) (e : Env) : (a0 :: a1 :: a2 :: a3 :: z :: e)[4]? = some z := nd rfl
@[simp] theorem y279 (Φ : Calls) (a0 a1 a2 a3 a4 : Option RV) (r : RV) (e : Env) (h : Heap) : ev Φ (.var 5) (a0 :: a1 :: a2 :: a3 :: a4 :: some r :: e) h = .ok (r, h) := nd rfl
@[simp] theorem y280 (a0 a1 a2 a3 a4 z y : Option RV) (e : Env) : List.set (a0 :: a1 :: a2 :: a3 :: a4 :: z :: e) 5 y = a0 :: a1 :: a2 :: a3 :: a4 :: y :: e := nd rfl
@[simp] theorem y281 (a0 a1 a2 a3 a4 z : Option RV) (e : Env) : (a0 :: a1 :: a2 :: a3 :: a4 :: z :: e)[5]? = some z := nd rfl
@[simp] theorem y282 (Φ : Calls) (a0 a1 a2 a3 a4 a5 : Option RV) (r : RV) (e : Env) (h : Heap) : ev Φ (.var 6) (a0 :: a1 :: a2 :: a3 :: a4 :: a5 :: some r :: e) h = .ok (r, h) := nd rfl
@[simp] theorem y283 (a0 a1 a2 a3 a4 a5 z y : Option RV) (e : Env) : List.set (a0 :: a1 :: a2 :: a3 :: a4 :: a5 :: z :: e) 6 y = a0 :: a1 :: a2 :: a3 :: a4 :: a5 :: y :: e := nd rfl
@[simp] theorem y284 (a0 a1 a2 a3 a4 a5 z : Option RV) (e : Env) : (a0 :: a1 :: a2 :: a3 :: a4 :: a5 :: z :: e)[6]? = some z := nd rfl
@[simp] theorem y285 (Φ : Calls) (a0 a1 a2 a3 a4 a5 a6 : Option RV) (r : RV) (e : Env) (h : Heap) : ev Φ (.var 7) (a0 :: a1 :: a2 :: a3 :: a4 :: a5 :: a6 :: some r :: e) h = .ok (r, h) := nd rfl
@[simp] theorem y286 (a0 a1 a2 a3 a4 a5 a6 z y : Option RV) (e : Env) : List.set (a0 :: a1 :: a2 :: a3 :: a4 :: a5 :: a6 :: z :: e) 7 y = a0 :: a1 :: a2 :: a3 :: a4 :: a5 :: a6 :: y :: e := nd rfl
@[simp] theorem y287 (a0 a1 a2 a3 a4 a5 a6 z : Option RV) (e : Env) : (a0 :: a1 :: a2 :: a3 :: a4 :: a5 :: a6 :: z :: e)[7]? = some z := nd rfl
@[simp] theorem y288 (Φ : Calls) (a0 a1 a2 a3 a4 a5 a6 a7 : Option RV) (r : RV) (e : Env) (h : Heap) : ev Φ (.var 8) (a0 :: a1 :: a2 :: a3 :: a4 :: a5 :: a6 :: a7 :: some r :: e) h = .ok (r, h) := nd rfl
@[simp] theorem y289 (a0 a1 a2 a3 a4 a5 a6 a7 z y : Option RV) (e : Env) : List.set (a0 :: a1 :: a2 :: a3 :: a4 :: a5 :: a6 :: a7 :: z :: e) 8 y = a0 :: a1 :: a2 :: a3 :: a4 :: a5 :: a6 :: a7 :: y :: e := nd rfl
@[simp] theorem y290 (a0 a1 a2 a3 a4 a5 a6 a7 z : Option RV) (e : Env) : (a0 :: a1 :: a2 :: a3 :: a4 :: a5 :: a6 :: a7 :: z :: e)[8]? = some z := nd rfl
@[simp] theorem y291 (Φ : Calls) (a0 a1 a2 a3 a4 a5 a6 a7 a8 : Option RV) (r : RV) (e : Env) (h : Heap) : ev Φ (.var 9) (a0 :: a1 :: a2 :: a3 :: a4 :: a5 :: a6 :: a7 :: a8 :: some r :: e) h = .ok (r, h) := nd rfl
@[simp] theorem y292 (a0 a1 a2 a3 a4 a5 a6 a7 a8 z y : Option RV) (e : Env) : List.set (a0 :: a1 :: a2 :: a3 :: a4 :: a5 :: a6 :: a7 :: a8 :: z :: e) 9 y = a0 :: a1 :: a2 :: a3 :: a4 :: a5 :: a6 :: a7 :: a8 :: y :: e := nd rfl
@[simp] theorem y293 (a0 a1 a2 a3 a4 a5 a6 a7 a8 z : Option RV) (e : Env) : (a0 :: a1 :: a2 :: a3 :: a4 :: a5 :: a6 :: a7 :: a8 :: z :: e)[9]? = some z := nd rfl
@[simp] theorem y294 (Φ : Calls) (a0 a1 a2 a3 a4 a5 a6 a7 a8 a9 : Option RV) (r : RV) (e : Env) (h : Heap) : ev Φ (.var 10) (a0 :: a1 :: a2 :: a3 :: a4 :: a5 :: a6 :: a7 :: a8 :: a9 :: some r :: e) h = .ok (r, h) := nd rfl
@[simp] theorem y295 (a0 a1 a2 a3 a4 a5 a6 a7 a8 a9 z y : Option RV) (e : Env) : List.set (a0 :: a1 :: a2 :: a3 :: a4 :: a5 :: a6 :: a7 :: a8 :: a9 :: z :: e) 10 y = a0 :: a1 :: a2 :: a3 :: a4 :: a5 :: a6 :: a7 :: a8 :: a9 :: y :: e := nd rfl
@[simp] theorem y296 (a0 a1 a2 a3 a4 a5 a6 a7 a8 a9 z : Option RV) (e : Env) : (a0 :: a1 :: a2 :: a3 :: a4 :: a5 :: a6 :: a7 :: a8 :: a9 :: z :: e)[10]? = some z := nd rfl
@[simp] theorem y297 (Φ : Calls) (a0 a1 a2 a3 a4 a5 a6 a7 a8 a9 a10 : Option RV) (r : RV) (e : Env) (h : Heap) : ev Φ (.var 11) (a0 :: a1 :: a2 :: a3 :: a4 :: a5 :: a6 :: a7 :: a8 :: a9 :: a10 :: some r :: e) h = .ok (r, h) := nd rfl
@[simp] theorem y298 (a0 a1 a2 a3 a4 a5 a6 a7 a8 a9 a10 z y : Option RV) (e : Env) : List.set (a0 :: a1 :: a2 :: a3 :: a4 :: a5 :: a6 :: a7 :: a8 :: a9 :: a10 :: z :: e) 11 y = a0 :: a1 :: a2 :: a3 :: a4 :: a5 :: a6 :: a7 :: a8 :: a9 :: a10 :: y :: e := nd rfl
@[simp] theorem y299 (a0 a1 a2 a3 a4 a5 a6 a7 a8 a9 a10 z : Option RV) (e : Env) : (a0 :: a1 :: a2 :: a3 :: a4 :: a5 :: a6 :: a7 :: a8 :: a9 :: a10 :: z :: e)[11]? = some z := nd rfl
@[simp] theorem y300 (Φ : Calls) (a0 a1 a2 a3 a4 a5 a6 a7 a8 a9 a10 a11 : Option RV) (r : RV) (e : Env) (h : Heap) : ev Φ (.var 12) (a0 :: a1 :: a2 :: a3 :: a4 :: a5 :: a6 :: a7 :: a8 :: a9 :: a10 :: a11 :: some r :: e) h = .ok (r, h) := nd rfl
@[simp] theorem y301 (a0 a1 a2 a3 a4 a5 a6 a7 a8 a9 a10 a11 z y : Option RV) (e : Env) : List.set (a0 :: a1 :: a2 :: a3 :: a4 :: a5 :: a6 :: a7 :: a8 :: a9 :: a10 :: a11 :: z :: e) 12 y = a0 :: a1 :: a2 :: a3 :: a4 :: a5 :: a6 :: a7 :: a8 :: a9 :: a10 :: a11 :: y :: e := nd rfl
@[simp] theorem y302 (a0 a1 a2 a3 a4 a5 a6 a7 a8 a9 a10 a11 z : Option RV) (e : Env) : (a0 :: a1 :: a2 :: a3 :: a4 :: a5 :: a6 :: a7 :: a8 :: a9 :: a10 :: a11 :: z :: e)[12]? = some z := nd rfl
@[simp] theorem y303 (Φ : Calls) (a0 a1 a2 a3 a4 a5 a6 a7 a8 a9 a10 a11 a12 : Option RV) (r : RV) (e : Env) (h : Heap) : ev Φ (.var 13) (a0 :: a1 :: a2 :: a3 :: a4 :: a5 :: a6 :: a7 :: a8 :: a9 :: a10 :: a11 :: a12 :: some r :: e) h = .ok (r, h) := nd rfl
@[simp] theorem y304 (a0 a1 a2 a3 a4 a5 a6 a7 a8 a9 a10 a11 a12 z y : Option RV) (e : Env) : List.set (a0 :: a1 :: a2 :: a3 :: a4 :: a5 :: a6 :: a7 :: a8 :: a9 :: a10 :: a11 :: a12 :: z :: e) 13 y = a0 :: a1 :: a2 :: a3 :: a4 :: a5 :: a6 :: a7 :: a8 :: a9 :: a10 :: a11 :: a12 :: y :: e := nd rfl
@[simp] theorem y305 (a0 a1 a2 a3 a4 a5 a6 a7 a8 a9 a10 a11 a12 z : Option RV) (e : Env) : (a0 :: a1 :: a2 :: a3 :: a4 :: a5 :: a6 :: a7 :: a8 :: a9 :: a10 :: a11 :: a12 :: z :: e)[13]? = some z := nd rfl
@[simp] theorem y306 (Φ : Calls) (a0 a1 a2 a3 a4 a5 a6 a7 a8 a9 a10 a11 a12 a13 : Option RV) (r : RV) (e : Env) (h : Heap) : ev Φ (.var 14) (a0 :: a1 :: a2 :: a3 :: a4 :: a5 :: a6 :: a7 :: a8 :: a9 :: a10 :: a11 :: a12 :: a13 :: some r :: e) h = .ok (r, h) := nd rfl
@[simp] theorem y307 (a0 a1 a2 a3 a4 a5 a6 a7 a8 a9 a10 a11 a12 a13 z y : Option RV) (e : Env) : List.set (a0 :: a1 :: a2 :: a3 :: a4 :: a5 :: a6 :: a7 :: a8 :: a9 :: a10 :: a11 :: a12 :: a13 :: z :: e) 14 y = a0 :: a1 :: a2 :: a3 :: a4 :: a5 :: a6 :: a7 :: a8 :: a9 :: a10 :: a11 :: a12 :: a13 :: y :: e := nd rfl
@[simp] theorem y308 (a0 a1 a2 a3 a4 a5 a6 a7 a8 a9 a10 a11 a12 a13 z : Option RV) (e : Env) : (a0 :: a1 :: a2 :: a3 :: a4 :: a5 :: a6 :: a7 :: a8 :: a9 :: a10 :: a11 :: a12 :: a13 :: z :: e)[14]? = some z := nd rfl
@[simp] theorem y309 (Φ : Calls) (a0 a1 a2 a3 a4 a5 a6 a7 a8 a9 a10 a11 a12 a13 a14 : Option RV) (r : RV) (e : Env) (h : Heap) : ev Φ (.var 15) (a0 :: a1 :: a2 :: a3 :: a4 :: a5 :: a6 :: a7 :: a8 :: a9 :: a10 :: a11 :: a12 :: a13 :: a14 :: some r :: e) h = .ok (r, h) := nd rfl
@[simp] theorem y310 (a0 a1 a2 a3 a4 a5 a6 a7 a8 a9 a10 a11 a12 a13 a14 z y : Option RV) (e : Env) : List.set (a0 :: a1 :: a2 :: a3 :: a4 :: a5 :: a6 :: a7 :: a8 :: a9 :: a10 :: a11 :: a12 :: a13 :: a14 :: z :: e) 15 y = a0 :: a1 :: a2 :: a3 :: a4 :: a5 :: a6 :: a7 :: a8 :: a9 :: a10 :: a11 :: a12 :: a13 :: a14 :: y :: e := nd rfl
@[simp] theorem y311 (a0 a1 a2 a3 a4 a5 a6 a7 a8 a9 a10 a11 a12 a13 a14 z : Option RV) (e : Env) : (a0 :: a1 :: a2 :: a3 :: a4 :: a5 :: a6 :: a7 :: a8 :: a9 :: a10 :: a11 :: a12 :: a13 :: a14 :: z :: e)[15]? = some z := nd rfl
@[simp] theorem y312 (base : Nat) (c : Cell)  (e : Env) (h : Heap) : asgV base true 0 (.nw c) (none :: e) h = .ok (some (.ref h.length) :: e, h ++ [c]) := nd rfl
@[simp] theorem y313 (base : Nat) (c : Cell) (a0 : Option RV) (e : Env) (h : Heap) : asgV base true 1 (.nw c) (a0 :: none :: e) h = .ok (a0 :: some (.ref h.length) :: e, h ++ [c]) := nd rfl
@[simp] theorem y314 (base : Nat) (c : Cell) (a0 a1 : Option RV) (e : Env) (h : Heap) : asgV base true 2 (.nw c) (a0 :: a1 :: none :: e) h = .ok (a0 :: a1 :: some (.ref h.length) :: e, h ++ [c]) := nd rfl
@[simp] theorem y315 (base : Nat) (c : Cell) (a0 a1 a2 : Option RV) (e : Env) (h : Heap) : asgV base true 3 (.nw c) (a0 :: a1 :: a2 :: none :: e) h = .ok (a0 :: a1 :: a2 :: some (.ref h.length) :: e, h ++ [c]) := nd rfl
@[simp] theorem y316 (base : Nat) (c : Cell) (a0 a1 a2 a3 : Option RV) (e : Env) (h : Heap) : asgV base true 4 (.nw c) (a0 :: a1 :: a2 :: a3 :: none :: e) h = .ok (a0 :: a1 :: a2 :: a3 :: some (.ref h.length) :: e, h ++ [c]) := nd rfl
@[simp] theorem y317 (base : Nat) (c : Cell) (a0 a1 a2 a3 a4 : Option RV) (e : Env) (h : Heap) : asgV base true 5 (.nw c) (a0 :: a1 :: a2 :: a3 :: a4 :: none :: e) h = .ok (a0 :: a1 :: a2 :: a3 :: a4 :: some (.ref h.length) :: e, h ++ [c]) := nd rfl
@[simp] theorem y318 (base : Nat) (c : Cell) (a0 a1 a2 a3 a4 a5 : Option RV) (e : Env) (h : Heap) : asgV base true 6 (.nw c) (a0 :: a1 :: a2 :: a3 :: a4 :: a5 :: none :: e) h = .ok (a0 :: a1 :: a2 :: a3 :: a4 :: a5 :: some (.ref h.length) :: e, h ++ [c]) := nd rfl
@[simp] theorem y319 (base : Nat) (c : Cell) (a0 a1 a2 a3 a4 a5 a6 : Option RV) (e : Env) (h : Heap) : asgV base true 7 (.nw c) (a0 :: a1 :: a2 :: a3 :: a4 :: a5 :: a6 :: none :: e) h = .ok (a0 :: a1 :: a2 :: a3 :: a4 :: a5 :: a6 :: some (.ref h.length) :: e, h ++ [c]) := nd rfl
@[simp] theorem y320 (base : Nat) (c : Cell) (a0 a1 a2 a3 a4 a5 a6 a7 : Option RV) (e : Env) (h : Heap) : asgV base true 8 (.nw c) (a0 :: a1 :: a2 :: a3 :: a4 :: a5 :: a6 :: a7 :: none :: e) h = .ok (a0 :: a1 :: a2 :: a3 :: a4 :: a5 :: a6 :: a7 :: some (.ref h.length) :: e, h ++ [c]) := nd rfl
@[simp] theorem y321 (base : Nat) (c : Cell) (a0 a1 a2 a3 a4 a5 a6 a7 a8 : Option RV) (e : Env) (h : Heap) : asgV base true 9 (.nw c) (a0 :: a1 :: a2 :: a3 :: a4 :: a5 :: a6 :: a7 :: a8 :: none :: e) h = .ok (a0 :: a1 :: a2 :: a3 :: a4 :: a5 :: a6 :: a7 :: a8 :: some (.ref h.length) :: e, h ++ [c]) := nd rfl
@[simp] theorem y322 (base : Nat) (c : Cell) (a0 a1 a2 a3 a4 a5 a6 a7 a8 a9 : Option RV) (e : Env) (h : Heap) : asgV base true 10 (.nw c) (a0 :: a1 :: a2 :: a3 :: a4 :: a5 :: a6 :: a7 :: a8 :: a9 :: none :: e) h = .ok (a0 :: a1 :: a2 :: a3 :: a4 :: a5 :: a6 :: a7 :: a8 :: a9 :: some (.ref h.length) :: e, h ++ [c]) := nd rfl
@[simp] theorem y323 (base : Nat) (c : Cell) (a0 a1 a2 a3 a4 a5 a6 a7 a8 a9 a10 : Option RV) (e : Env) (h : Heap) : asgV base true 11 (.nw c) (a0 :: a1 :: a2 :: a3 :: a4 :: a5 :: a6 :: a7 :: a8 :: a9 :: a10 :: none :: e) h = .ok (a0 :: a1 :: a2 :: a3 :: a4 :: a5 :: a6 :: a7 :: a8 :: a9 :: a10 :: some (.ref h.length) :: e, h ++ [c]) := nd rfl
@[simp] theorem y324 (base : Nat) (c : Cell) (a0 a1 a2 a3 a4 a5 a6 a7 a8 a9 a10 a11 : Option RV) (e : Env) (h : Heap) : asgV base true 12 (.nw c) (a0 :: a1 :: a2 :: a3 :: a4 :: a5 :: a6 :: a7 :: a8 :: a9 :: a10 :: a11 :: none :: e) h = .ok (a0 :: a1 :: a2 :: a3 :: a4 :: a5 :: a6 :: a7 :: a8 :: a9 :: a10 :: a11 :: some (.ref h.length) :: e, h ++ [c]) := nd rfl
@[simp] theorem y325 (base : Nat) (c : Cell) (a0 a1 a2 a3 a4 a5 a6 a7 a8 a9 a10 a11 a12 : Option RV) (e : Env) (h : Heap) : asgV base true 13 (.nw c) (a0 :: a1 :: a2 :: a3 :: a4 :: a5 :: a6 :: a7 :: a8 :: a9 :: a10 :: a11 :: a12 :: none :: e) h = .ok (a0 :: a1 :: a2 :: a3 :: a4 :: a5 :: a6 :: a7 :: a8 :: a9 :: a10 :: a11 :: a12 :: some (.ref h.length) :: e, h ++ [c]) := nd rfl
@[simp] theorem y326 (base : Nat) (c : Cell) (a0 a1 a2 a3 a4 a5 a6 a7 a8 a9 a10 a11 a12 a13 : Option RV) (e : Env) (h : Heap) : asgV base true 14 (.nw c) (a0 :: a1 :: a2 :: a3 :: a4 :: a5 :: a6 :: a7 :: a8 :: a9 :: a10 :: a11 :: a12 :: a13 :: none :: e) h = .ok (a0 :: a1 :: a2 :: a3 :: a4 :: a5 :: a6 :: a7 :: a8 :: a9 :: a10 :: a11 :: a12 :: a13 :: some (.ref h.length) :: e, h ++ [c]) := nd rfl
@[simp] theorem y327 (base : Nat) (c : Cell) (a0 a1 a2 a3 a4 a5 a6 a7 a8 a9 a10 a11 a12 a13 a14 : Option RV) (e : Env) (h : Heap) : asgV base true 15 (.nw c) (a0 :: a1 :: a2 :: a3 :: a4 :: a5 :: a6 :: a7 :: a8 :: a9 :: a10 :: a11 :: a12 :: a13 :: a14 :: none :: e) h = .ok (a0 :: a1 :: a2 :: a3 :: a4 :: a5 :: a6 :: a7 :: a8 :: a9 :: a10 :: a11 :: a12 :: a13 :: a14 :: some (.ref h.length) :: e, h ++ [c]) := nd rfl
@[simp] theorem y328 (c0 : Cell) (h : Heap) : (c0 :: h)[0]? = some c0 := nd rfl
@[simp] theorem y329 (c0 c1 : Cell) (h : Heap) : (c0 :: c1 :: h)[1]? = some c1 := nd rfl
@[simp] theorem y330 (c0 c1 c2 : Cell) (h : Heap) : (c0 :: c1 :: c2 :: h)[2]? = some c2 := nd rfl
@[simp] theorem y331 (c0 c : Cell) (h : Heap) : List.set (c0 :: h) 0 c = c :: h := nd rfl
@[simp] theorem y332 (c0 c1 c : Cell) (h : Heap) : List.set (c0 :: c1 :: h) 1 c = c0 :: c :: h := nd rfl
@[simp] theorem y333 (c0 c1 c2 c : Cell) (h : Heap) : List.set (c0 :: c1 :: c2 :: h) 2 c = c0 :: c1 :: c :: h := nd rfl
@[simp] theorem y334 (a0 : RV) : startE 1 [a0] = [some a0] := nd rfl
@[simp] theorem y335 (a0 : RV) : startE 2 [a0] = [some a0, none] := nd rfl
@[simp] theorem y336 (a0 : RV) : startE 3 [a0] = [some a0, none, none] := nd rfl
@[simp] theorem y337 (a0 : RV) : startE 4 [a0] = [some a0, none, none, none] := nd rfl
@[simp] theorem y338 (a0 : RV) : startE 5 [a0] = [some a0, none, none, none, none] := nd rfl
@[simp] theorem y339 (a0 : RV) : startE 6 [a0] = [some a0, none, none, none, none, none] := nd rfl
@[simp] theorem y340 (a0 : RV) : startE 7 [a0] = [some a0, none, none, none, none, none, none] := nd rfl
@[simp] theorem y341 (a0 : RV) : startE 8 [a0] = [some a0, none, none, none, none, none, none, none] := nd rfl
@[simp] theorem y342 (a0 : RV) : startE 9 [a0] = [some a0, none, none, none, none, none, none, none, none] := nd rfl
@[simp] theorem y343 (a0 : RV) : startE 10 [a0] = [some a0, none, none, none, none, none, none, none, none, none] := nd rfl
@[simp] theorem y344 (a0 : RV) : startE 11 [a0] = [some a0, none, none, none, none, none, none, none, none, none, none] := nd rfl
@[simp] theorem y345 (a0 : RV) : startE 12 [a0] = [some a0, none, none, none, none, none, none, none, none, none, none, none] := nd rfl
@[simp] theorem y346 (a0 : RV) : startE 13 [a0] = [some a0, none, none, none, none, none, none, none, none, none, none, none, none] := nd rfl
@[simp] theorem y347 (a0 a1 : RV) : startE 2 [a0, a1] = [some a0, some a1] := nd rfl
@[simp] theorem y348 (a0 a1 : RV) : startE 3 [a0, a1] = [some a0, some a1, none] := nd rfl
@[simp] theorem y349 (a0 a1 : RV) : startE 4 [a0, a1] = [some a0, some a1, none, none] := nd rfl
@[simp] theorem y350 (a0 a1 : RV) : startE 5 [a0, a1] = [some a0, some a1, none, none, none] := nd rfl
@[simp] theorem y351 (a0 a1 : RV) : startE 6 [a0, a1] = [some a0, some a1, none, none, none, none] := nd rfl
@[simp] theorem y352 (a0 a1 : RV) : startE 7 [a0, a1] = [some a0, some a1, none, none, none, none, none] := nd rfl
@[simp] theorem y353 (a0 a1 : RV) : startE 8 [a0, a1] = [some a0, some a1, none, none, none, none, none, none] := nd rfl
@[simp] theorem y354 (a0 a1 : RV) : startE 9 [a0, a1] = [some a0, some a1, none, none, none, none, none, none, none] := nd rfl
@[simp] theorem y355 (a0 a1 : RV) : startE 10 [a0, a1] = [some a0, some a1, none, none, none, none, none, none, none, none] := nd rfl
@[simp] theorem y356 (a0 a1 : RV) : startE 11 [a0, a1] = [some a0, some a1, none, none, none, none, none, none, none, none, none] := nd rfl
@[simp] theorem y357 (a0 a1 : RV) : startE 12 [a0, a1] = [some a0, some a1, none, none, none, none, none, none, none, none, none, none] := nd rfl
@[simp] theorem y358 (a0 a1 : RV) : startE 13 [a0, a1] = [some a0, some a1, none, none, none, none, none, none, none, none, none, none, none] := nd rfl
@[simp] theorem y359 (a0 a1 : RV) : startE 14 [a0, a1] = [some a0, some a1, none, none, none, none, none, none, none, none, none, none, none, none] := nd rfl
@[simp] theorem y360 (a0 a1 a2 : RV) : startE 3 [a0, a1, a2] = [some a0, some a1, some a2] := nd rfl
@[simp] theorem y361 (a0 a1 a2 : RV) : startE 4 [a0, a1, a2] = [some a0, some a1, some a2, none] := nd rfl
@[simp] theorem y362 (a0 a1 a2 : RV) : startE 5 [a0, a1, a2] = [some a0, some a1, some a2, none, none] := nd rfl
@[simp] theorem y363 (a0 a1 a2 : RV) : startE 6 [a0, a1, a2] = [some a0, some a1, some a2, none, none, none] := nd rfl
@[simp] theorem y364 (a0 a1 a2 : RV) : startE 7 [a0, a1, a2] = [some a0, some a1, some a2, none, none, none, none] := nd rfl
@[simp] theorem y365 (a0 a1 a2 : RV) : startE 8 [a0, a1, a2] = [some a0, some a1, some a2, none, none, none, none, none] := nd rfl
@[simp] theorem y366 (a0 a1 a2 : RV) : startE 9 [a0, a1, a2] = [some a0, some a1, some a2, none, none, none, none, none, none] := nd rfl
@[simp] theorem y367 (a0 a1 a2 : RV) : startE 10 [a0, a1, a2] = [some a0, some a1, some a2, none, none, none, none, none, none, none] := nd rfl
@[simp] theorem y368 (a0 a1 a2 : RV) : startE 11 [a0, a1, a2] = [some a0, some a1, some a2, none, none, none, none, none, none, none, none] := nd rfl
@[simp] theorem y369 (a0 a1 a2 : RV) : startE 12 [a0, a1, a2] = [some a0, some a1, some a2, none, none, none, none, none, none, none, none, none] := nd rfl
@[simp] theorem y370 (a0 a1 a2 : RV) : startE 13 [a0, a1, a2] = [some a0, some a1, some a2, none, none, none, none, none, none, none, none, none, none] := nd rfl
@[simp] theorem y371 (a0 a1 a2 : RV) : startE 14 [a0, a1, a2] = [some a0, some a1, some a2, none, none, none, none, none, none, none, none, none, none, none] := nd rfl
@[simp] theorem y372 (a0 a1 a2 : RV) : startE 15 [a0, a1, a2] = [some a0, some a1, some a2, none, none, none, none, none, none, none, none, none, none, none, none] := nd rfl
@[simp] theorem y373 (a0 a1 a2 a3 : RV) : startE 4 [a0, a1, a2, a3] = [some a0, some a1, some a2, some a3] := nd rfl
@[simp] theorem y374 (a0 a1 a2 a3 : RV) : startE 5 [a0, a1, a2, a3] = [some a0, some a1, some a2, some a3, none] := nd rfl
@[simp] theorem y375 (a0 a1 a2 a3 : RV) : startE 6 [a0, a1, a2, a3] = [some a0, some a1, some a2, some a3, none, none] := nd rfl
@[simp] theorem y376 (a0 a1 a2 a3 : RV) : startE 7 [a0, a1, a2, a3] = [some a0, some a1, some a2, some a3, none, none, none] := nd rfl
@[simp] theorem y377 (a0 a1 a2 a3 : RV) : startE 8 [a0, a1, a2, a3] = [some a0, some a1, some a2, some a3, none, none, none, none] := nd rfl
@[simp] theorem y378 (a0 a1 a2 a3 : RV) : startE 9 [a0, a1, a2, a3] = [some a0, some a1, some a2, some a3, none, none, none, none, none] := nd rfl
@[simp] theorem y379 (a0 a1 a2 a3 : RV) : startE 10 [a0, a1, a2, a3] = [some a0, some a1, some a2, some a3, none, none, none, none, none, none] := nd rfl
@[simp] theorem y380 (a0 a1 a2 a3 : RV) : startE 11 [a0, a1, a2, a3] = [some a0, some a1, some a2, some a3, none, none, none, none, none, none, none] := nd rfl
@[simp] theorem y381 (a0 a1 a2 a3 : RV) : startE 12 [a0, a1, a2, a3] = [some a0, some a1, some a2, some a3, none, none, none, none, none, none, none, none] := nd rfl
@[simp] theorem y382 (a0 a1 a2 a3 : RV) : startE 13 [a0, a1, a2, a3] = [some a0, some a1, some a2, some a3, none, none, none, none, none, none, none, none, none] := nd rfl
@[simp] theorem y383 (a0 a1 a2 a3 a4 : RV) : startE 5 [a0, a1, a2, a3, a4] = [some a0, some a1, some a2, some a3, some a4] := nd rfl
@[simp] theorem y384 (a0 a1 a2 a3 a4 : RV) : startE 6 [a0, a1, a2, a3, a4] = [some a0, some a1, some a2, some a3, some a4, none] := nd rfl
@[simp] theorem y385 (a0 a1 a2 a3 a4 : RV) : startE 7 [a0, a1, a2, a3, a4] = [some a0, some a1, some a2, some a3, some a4, none, none] := nd rfl
@[simp] theorem y386 (a0 a1 a2 a3 a4 : RV) : startE 8 [a0, a1, a2, a3, a4] = [some a0, some a1, some a2, some a3, some a4, none, none, none] := nd rfl
@[simp] theorem y387 (a0 a1 a2 a3 a4 : RV) : startE 9 [a0, a1, a2, a3, a4] = [some a0, some a1, some a2, some a3, some a4, none, none, none, none] := nd rfl
@[simp] theorem y388 (a0 a1 a2 a3 a4 : RV) : startE 10 [a0, a1, a2, a3, a4] = [some a0, some a1, some a2, some a3, some a4, none, none, none, none, none] := nd rfl
@[simp] theorem y389 (a0 a1 a2 a3 a4 : RV) : startE 11 [a0, a1, a2, a3, a4] = [some a0, some a1, some a2, some a3, some a4, none, none, none, none, none, none] := nd rfl
@[simp] theorem y390 (a0 a1 a2 a3 a4 : RV) : startE 12 [a0, a1, a2, a3, a4] = [some a0, some a1, some a2, some a3, some a4, none, none, none, none, none, none, none] := nd rfl
@[simp] theorem y391 (a0 a1 a2 a3 a4 a5 : RV) : startE 6 [a0, a1, a2, a3, a4, a5] = [some a0, some a1, some a2, some a3, some a4, some a5] := nd rfl
@[simp] theorem y392 (a0 a1 a2 a3 a4 a5 : RV) : startE 7 [a0, a1, a2, a3, a4, a5] = [some a0, some a1, some a2, some a3, some a4, some a5, none] := nd rfl
@[simp] theorem y393 (a0 a1 a2 a3 a4 a5 : RV) : startE 8 [a0, a1, a2, a3, a4, a5] = [some a0, some a1, some a2, some a3, some a4, some a5, none, none] := nd rfl
@[simp] theorem y394 (a0 a1 a2 a3 a4 a5 : RV) : startE 9 [a0, a1, a2, a3, a4, a5] = [some a0, some a1, some a2, some a3, some a4, some a5, none, none, none] := nd rfl
@[simp] theorem y395 (a0 a1 a2 a3 a4 a5 : RV) : startE 10 [a0, a1, a2, a3, a4, a5] = [some a0, some a1, some a2, some a3, some a4, some a5, none, none, none, none] := nd rfl
@[simp] theorem y396 (a0 a1 a2 a3 a4 a5 : RV) : startE 11 [a0, a1, a2, a3, a4, a5] = [some a0, some a1, some a2, some a3, some a4, some a5, none, none, none, none, none] := nd rfl
@[simp] theorem y397 (a0 a1 a2 a3 a4 a5 : RV) : startE 12 [a0, a1, a2, a3, a4, a5] = [some a0, some a1, some a2, some a3, some a4, some a5, none, none, none, none, none, none] := nd rfl
@[simp] theorem y398 (a0 a1 a2 a3 a4 a5 : RV) : startE 13 [a0, a1, a2, a3, a4, a5] = [some a0, some a1, some a2, some a3, some a4, some a5, none, none, none, none, none, none, none] := nd rfl
end Mini
set_option autoImplicit false
set_option maxRecDepth 100000
namespace Mini
def s__ : List Nat := []
def s_a : List Nat := [97]
def s_abcdef : List Nat := [97, 98, 99, 100, 101, 102]
def s_add : List Nat := [97, 100, 100]
def s_and : List Nat := [97, 110, 100]
def s_b : List Nat := [98]
def s_bit : List Nat := [98, 105, 116]
def s_c : List Nat := [99]
def s_cell : List Nat := [99, 101, 108, 108]
def s_do : List Nat := [100, 111]
def s_doe : List Nat := [100, 111, 101]
def s_down : List Nat := [100, 111, 119, 110]
def s_else : List Nat := [101, 108, 115, 101]
def s_end : List Nat := [101, 110, 100]
def s_field : List Nat := [102, 105, 101, 108, 100]
def s_flag : List Nat := [102, 108, 97, 103]
def s_if : List Nat := [105, 102]
def s_less : List Nat := [108, 101, 115, 115]
def s_m : List Nat := [109]
def s_n : List Nat := [110]
def s_name : List Nat := [110, 97, 109, 101]
def s_not : List Nat := [110, 111, 116]
def s_num : List Nat := [110, 117, 109]
def s_off : List Nat := [111, 102, 102]
def s_or : List Nat := [111, 114]
def s_place : List Nat := [112, 108, 97, 99, 101]
def s_reg : List Nat := [114, 101, 103]
def s_set : List Nat := [115, 101, 116]
def s_signed : List Nat := [115, 105, 103, 110, 101, 100]
def s_sub : List Nat := [115, 117, 98]
def s_sum : List Nat := [115, 117, 109]
def s_total : List Nat := [116, 111, 116, 97, 108]
def s_up : List Nat := [117, 112]
def s_while : List Nat := [119, 104, 105, 108, 101]
def s_word : List Nat := [119, 111, 114, 100]
def s_x : List Nat := [120]
def s_xor : List Nat := [120, 111, 114]
def s_zero : List Nat := [122, 101, 114, 111]
def c_words_LOW : D := (.int 4)
def c_words_HIGH : D := (.int 8)
def c_words_DEEP : D := (.int 4)
def c_words_NODES : D := (.int 12)
def c_words_LETTERS : D := (.str s_abcdef)
def c_words_TWO : D := (.tup [(.str s_add), (.str s_sub), (.str s_and), (.str s_or), (.str s_xor)])
def c_words_ONE : D := (.tup [(.str s_not), (.str s_up), (.str s_down)])
def c_words_REGISTERS : D := (.int 4)
def c_tables_NAME : D := (.int 6)
def c_tables_SMALL : D := (.str [97, 98, 99, 100, 101, 102, 103, 104, 105, 106, 107, 108, 109, 110, 111, 112, 113, 114, 115, 116, 117, 118, 119, 120, 121, 122])
def c_sources_DEEP : D := (.int 4)
def c_sources_SIDE : D := (.int 3)
def c_sources_PARTS : D := (.int 7)
def c_sources_RESTS : D := (.int 200)
def c_sources_NAMES : D := (.int 6)
def c_sources_STEPS : D := (.int 2000)
def c_sources_KEYS : D := (.tup [(.str s_set), (.str s_if), (.str s_while), (.str s_do), (.str s_else), (.str s_end), (.str s_zero), (.str s_less), (.str s_off), (.str s_add), (.str s_sub), (.str s_and), (.str s_or), (.str s_xor), (.str s_not), (.str s_up), (.str s_down)])
def k_sources_WANTS : List (Ky × D) := [(.s s_zero, (.tup [(.str s_word)])), (.s s_less, (.tup [(.str s_word), (.str s_word)])), (.s s_off, (.tup [(.str s_bit)]))]
def c_sources_WANTS : D := .dct false k_sources_WANTS
def k_sources_SIZES : List (Ky × D) := [(.s s_set, (.int 3)), (.s s_if, (.int 4)), (.s s_while, (.int 3))]
def c_sources_SIZES : D := .dct false k_sources_SIZES
def i_words_is_whole : Nat := 0
def i_words_fits_whole : Nat := 1
def i_words_is_tuple_of : Nat := 2
def i_words_is_rising : Nat := 3
def i_words_power : Nat := 4
def i_words_need_width : Nat := 5
def i_words_fits_letter : Nat := 6
def i_words_leaf_kind : Nat := 7
def i_words_wants_of : Nat := 8
def i_words_kind_in : Nat := 9
def i_words_inner_in : Nat := 10
def i_words_fits_term : Nat := 11
def i_words_need_term : Nat := 12
def i_words_done_in : Nat := 13
def i_words_folded_in : Nat := 14
def i_words_folded : Nat := 15
def i_tables_fits_name : Nat := 16
def i_sources_is_name : Nat := 17
def i_sources_wants_in : Nat := 18
def i_sources_kind_in : Nat := 19
def i_sources_parts_in : Nat := 20
def i_sources_fits_side : Nat := 21
def i_sources_fits_statements : Nat := 22
def i_sources_all_in : Nat := 23
def i_sources_sides_in : Nat := 24
def i_sources_set_in : Nat := 25
def i_sources_read_in : Nat := 26
def i_sources_fits_some : Nat := 27
def i_sources_fits_worths : Nat := 28
def i_sources_need_run : Nat := 29
def i_sources_need_steps : Nat := 30
def i_sources_worth_in : Nat := 31
def i_sources_step_in : Nat := 32
def i_sources_told_in : Nat := 33
def i_sources_run_in : Nat := 34
def i_sources_is_side : Nat := 35
def i_sources_side_worth : Nat := 36
def i_sources_source_step : Nat := 37
def i_sources_source_run : Nat := 38
def i_sources_source_end : Nat := 39
def i_sources_source_ways : Nat := 40
def i_sources_steps_to_end : Nat := 41
def i_law_cup : Nat := 42
def i_law_roll : Nat := 43
def i_law_some : Nat := 44
def i_law_same : Nat := 45
def i_law_power : Nat := 46
def i_law_inner : Nat := 47
def i_law_leaf : Nat := 48
def i_law_worth : Nat := 49
def i_law_tip : Nat := 50
def i_law_small : Nat := 51
def i_law_deep : Nat := 52
def i_law_test : Nat := 53
def i_law_sets : Nat := 54
def i_law_ways : Nat := 55
def i_law_source : Nat := 56
def i_law_put : Nat := 57
def i_law_side_worth : Nat := 58
def i_law_told : Nat := 59
def i_law_done : Nat := 60
def i_law_worths : Nat := 61
def i_law_right : Nat := 62
def i_law : Nat := 63
/- words_is_whole: 0 value -/
def b_words_is_whole : S :=
  (.ret (.and_ (.isi (.var 0) .int) (.not_ (.isi (.var 0) .bool))))
def f_words_is_whole : Def := ⟨1, 1, b_words_is_whole⟩
/- words_fits_whole: 0 value, 1 low, 2 high -/
def b_words_fits_whole : S :=
  (.ret (.and_ (.call i_words_is_whole (.cons (.var 0) .nil)) (.chn .le .le (.var 1) (.var 0) (.var 2))))
def f_words_fits_whole : Def := ⟨3, 3, b_words_fits_whole⟩
/- words_is_tuple_of: 0 value, 1 least, 2 most -/
def b_words_is_tuple_of : S :=
  (.ret (.and_ (.isi (.var 0) .tuple) (.chn .le .le (.var 1) (.bi .len (.cons (.var 0) .nil)) (.var 2))))
def f_words_is_tuple_of : Def := ⟨3, 3, b_words_is_tuple_of⟩
/- words_is_rising: 0 values, 1 one, 2 other -/
def x0_words_is_rising : C :=
  (.cmp .lt (.var 1) (.var 2))
def b_words_is_rising : S :=
  (.ret (.bi .all (.cons (.comp [1, 2] (.tp (.cons (.nm 1) (.cons (.nm 2) .nil))) (.zip2 (.var 0) (.sli (.var 0) (.pv (.con (.int 1))) .nil)) .tyes x0_words_is_rising) .nil)))
def f_words_is_rising : Def := ⟨1, 3, b_words_is_rising⟩
/- words_power: 0 many, 1 found, 2 turn -/
def l0_words_power : S :=
  (.asg false (.nm 1) (.bin .mul (.con (.int 2)) (.var 1)))
def b_words_power : S :=
  (.seq (.asg false (.nm 1) (.con (.int 1)))
    (.seq (.for_ (.nm 2) (.rng1 (.var 0)) l0_words_power)
    (.ret (.var 1))))
def f_words_power : Def := ⟨1, 3, b_words_power⟩
/- words_need_width: 0 value -/
def b_words_need_width : S :=
  (.ite (.tnot (.te (.call i_words_fits_whole (.cons (.var 0) (.cons (.con c_words_LOW) (.cons (.con c_words_HIGH) .nil)))))) (.rse 0) .skip)
def f_words_need_width : Def := ⟨1, 1, b_words_need_width⟩
/- words_fits_letter: 0 value -/
def b_words_fits_letter : S :=
  (.ret (.and_ (.isi (.var 0) .str) (.and_ (.cmp .eq (.bi .len (.cons (.var 0) .nil)) (.con (.int 1))) (.cmp .in_ (.var 0) (.con c_words_LETTERS)))))
def f_words_fits_letter : Def := ⟨1, 1, b_words_fits_letter⟩
/- words_leaf_kind: 0 value -/
def b_words_leaf_kind : S :=
  (.seq (.ite (.te (.cmp .in_ (.var 0) (.tup (.cons (.tup (.cons (.con (.str s_place)) .nil)) (.cons (.tup (.cons (.con (.str s_flag)) .nil)) .nil))))) (.ret (.ite (.te (.cmp .eq (.idx (.var 0) (.con (.int 0))) (.con (.str s_flag)))) (.con (.str s_bit)) (.con (.str s_word)))) .skip)
    (.seq (.ite (.te (.cmp .ne (.bi .len (.cons (.var 0) .nil)) (.con (.int 2)))) (.ret (.con (.str s__))) .skip)
    (.seq (.ite (.te (.cmp .eq (.idx (.var 0) (.con (.int 0))) (.con (.str s_num)))) (.ret (.ite (.te (.call i_words_fits_whole (.cons (.idx (.var 0) (.con (.int 1))) (.cons (.con (.int 0)) (.cons (.bin .sub (.call i_words_power (.cons (.con c_words_HIGH) .nil)) (.con (.int 1))) .nil))))) (.con (.str s_word)) (.con (.str s__)))) .skip)
    (.seq (.ite (.te (.cmp .in_ (.idx (.var 0) (.con (.int 0))) (.tup (.cons (.con (.str s_field)) (.cons (.con (.str s_signed)) .nil))))) (.ret (.ite (.te (.call i_words_fits_letter (.cons (.idx (.var 0) (.con (.int 1))) .nil))) (.con (.str s_word)) (.con (.str s__)))) .skip)
    (.seq (.ite (.te (.cmp .eq (.idx (.var 0) (.con (.int 0))) (.con (.str s_reg)))) (.ret (.ite (.tor (.te (.call i_words_fits_letter (.cons (.idx (.var 0) (.con (.int 1))) .nil))) (.te (.call i_words_fits_whole (.cons (.idx (.var 0) (.con (.int 1))) (.cons (.con (.int 0)) (.cons (.bin .sub (.con c_words_REGISTERS) (.con (.int 1))) .nil)))))) (.con (.str s_word)) (.con (.str s__)))) .skip)
    (.ret (.con (.str s__))))))))
def f_words_leaf_kind : Def := ⟨1, 1, b_words_leaf_kind⟩
/- words_wants_of: 0 value, 1 table -/
def b_words_wants_of : S :=
  (.seq (.asg true (.nm 1) (.dic true (.cons (.tup (.cons (.con (.str s_off)) (.cons (.con (.int 2)) .nil))) (.cons (.tup (.cons (.con (.str s_bit)) (.cons (.con (.str s_bit)) .nil))) (.cons (.tup (.cons (.con (.str s_zero)) (.cons (.con (.int 2)) .nil))) (.cons (.tup (.cons (.con (.str s_bit)) (.cons (.con (.str s_word)) .nil))) (.cons (.tup (.cons (.con (.str s_less)) (.cons (.con (.int 3)) .nil))) (.cons (.tup (.cons (.con (.str s_bit)) (.cons (.con (.str s_word)) .nil))) .nil))))))))
    (.seq (.sub (.var 1) (.tup (.cons (.con (.str s_cell)) (.cons (.con (.int 2)) .nil))) (.tup (.cons (.con (.str s_word)) (.cons (.con (.str s_word)) .nil))))
    (.seq (.ite (.te (.cmp .in_ (.idx (.var 0) (.con (.int 0))) (.con c_words_TWO))) (.ret (.ite (.te (.cmp .eq (.bi .len (.cons (.var 0) .nil)) (.con (.int 3)))) (.tup (.cons (.con (.str s_word)) (.cons (.con (.str s_word)) .nil))) (.con .non))) .skip)
    (.seq (.ite (.te (.cmp .in_ (.idx (.var 0) (.con (.int 0))) (.con c_words_ONE))) (.ret (.ite (.te (.cmp .eq (.bi .len (.cons (.var 0) .nil)) (.con (.int 2)))) (.tup (.cons (.con (.str s_word)) (.cons (.con (.str s_word)) .nil))) (.con .non))) .skip)
    (.ret (.mt .get (.var 1) (.cons (.tup (.cons (.idx (.var 0) (.con (.int 0))) (.cons (.bi .len (.cons (.var 0) .nil)) .nil))) .nil)))))))
def f_words_wants_of : Def := ⟨1, 2, b_words_wants_of⟩
/- words_kind_in: 0 value, 1 deep, 2 wants, 3 own -/
def x0_words_kind_in : C :=
  (.cmp .eq (.call i_words_kind_in (.cons (.var 3) (.cons (.bin .sub (.var 1) (.con (.int 1))) .nil))) (.idx (.var 2) (.con (.int 1))))
def b_words_kind_in : S :=
  (.seq (.ite (.tor (.te (.cmp .eq (.var 1) (.con (.int 0)))) (.tor (.tnot (.te (.call i_words_is_tuple_of (.cons (.var 0) (.cons (.con (.int 1)) (.cons (.con (.int 3)) .nil)))))) (.tnot (.te (.isi (.idx (.var 0) (.con (.int 0))) .str))))) (.ret (.con (.str s__))) .skip)
    (.seq (.ite (.te (.cmp .ne (.call i_words_leaf_kind (.cons (.var 0) .nil)) (.con (.str s__)))) (.ret (.call i_words_leaf_kind (.cons (.var 0) .nil))) .skip)
    (.seq (.asg false (.nm 2) (.call i_words_wants_of (.cons (.var 0) .nil)))
    (.seq (.ite (.tor (.te (.cmp .is_ (.var 2) (.con .non))) (.tnot (.te (.bi .all (.cons (.comp [3] (.nm 3) (.wv (.sli (.var 0) (.pv (.con (.int 1))) .nil)) .tyes x0_words_kind_in) .nil))))) (.ret (.con (.str s__))) .skip)
    (.ret (.idx (.var 2) (.con (.int 0))))))))
def f_words_kind_in : Def := ⟨2, 4, b_words_kind_in⟩
/- words_inner_in: 0 term, 1 found, 2 line, 3 here, 4 own -/
def t0_words_inner_in : C :=
  (.te (.cmp .ne (.var 2) (.lst .nil)))
def k0_words_inner_in : C :=
  (.te (.isi (.var 4) .tuple))
def x0_words_inner_in : C :=
  (.var 4)
def l0_words_inner_in : S :=
  (.seq (.asg false (.nm 3) (.mt .pop (.var 2) .nil))
    (.seq (.exp (.mt .append (.var 1) (.cons (.var 3) .nil)))
    (.aug 2 .add (.rev (.comp [4] (.nm 4) (.wv (.sli (.var 3) (.pv (.con (.int 1))) .nil)) k0_words_inner_in x0_words_inner_in)))))
def b_words_inner_in : S :=
  (.seq (.par [.nm true 1, .nm true 2] (.cons (.lst .nil) (.cons (.lst (.cons (.var 0) .nil)) .nil)))
    (.seq (.whl t0_words_inner_in l0_words_inner_in)
    (.ret (.take 1))))
def f_words_inner_in : Def := ⟨1, 5, b_words_inner_in⟩
/- words_fits_term: 0 value -/
def b_words_fits_term : S :=
  (.ret (.and_ (.cmp .ne (.call i_words_kind_in (.cons (.var 0) (.cons (.con c_words_DEEP) .nil))) (.con (.str s__))) (.cmp .le (.bi .len (.cons (.call i_words_inner_in (.cons (.var 0) .nil)) .nil)) (.con c_words_NODES))))
def f_words_fits_term : Def := ⟨1, 1, b_words_fits_term⟩
/- words_need_term: 0 value -/
def b_words_need_term : S :=
  (.ite (.tnot (.te (.call i_words_fits_term (.cons (.var 0) .nil)))) (.rse 0) .skip)
def f_words_need_term : Def := ⟨1, 1, b_words_need_term⟩
/- words_done_in: 0 width, 1 word, 2 one, 3 other, 4 size -/
def b_words_done_in : S :=
  (.seq (.asg false (.nm 4) (.call i_words_power (.cons (.var 0) .nil)))
    (.seq (.ite (.te (.cmp .eq (.var 1) (.con (.str s_add)))) (.ret (.bin .mod (.bin .add (.var 2) (.var 3)) (.var 4))) .skip)
    (.seq (.ite (.te (.cmp .eq (.var 1) (.con (.str s_sub)))) (.ret (.bin .mod (.bin .sub (.var 2) (.var 3)) (.var 4))) .skip)
    (.seq (.ite (.te (.cmp .eq (.var 1) (.con (.str s_and)))) (.ret (.bin .band (.var 2) (.var 3))) .skip)
    (.seq (.ite (.te (.cmp .eq (.var 1) (.con (.str s_or)))) (.ret (.bin .bor (.var 2) (.var 3))) .skip)
    (.seq (.ite (.te (.cmp .eq (.var 1) (.con (.str s_xor)))) (.ret (.bin .bxor (.var 2) (.var 3))) .skip)
    (.seq (.ite (.te (.cmp .eq (.var 1) (.con (.str s_not)))) (.ret (.bin .sub (.bin .sub (.var 4) (.con (.int 1))) (.var 2))) .skip)
    (.seq (.ite (.te (.cmp .eq (.var 1) (.con (.str s_up)))) (.ret (.bin .mod (.bin .mul (.con (.int 2)) (.var 2)) (.var 4))) .skip)
    (.seq (.ite (.te (.cmp .eq (.var 1) (.con (.str s_down)))) (.ret (.bin .fdiv (.var 2) (.con (.int 2)))) .skip)
    (.seq (.ite (.te (.cmp .eq (.var 1) (.con (.str s_zero)))) (.ret (.ite (.te (.cmp .eq (.var 2) (.con (.int 0)))) (.con (.int 1)) (.con (.int 0)))) .skip)
    (.seq (.ite (.te (.cmp .eq (.var 1) (.con (.str s_less)))) (.ret (.ite (.te (.cmp .lt (.var 2) (.var 3))) (.con (.int 1)) (.con (.int 0)))) .skip)
    (.ret (.bin .sub (.con (.int 1)) (.var 2))))))))))))))
def f_words_done_in : Def := ⟨4, 5, b_words_done_in⟩
/- words_folded_in: 0 width, 1 term, 2 parts, 3 own -/
def x0_words_folded_in : C :=
  (.call i_words_folded_in (.cons (.var 0) (.cons (.var 3) .nil)))
def x1_words_folded_in : C :=
  (.cmp .eq (.idx (.var 3) (.con (.int 0))) (.con (.str s_num)))
def b_words_folded_in : S :=
  (.seq (.ite (.te (.cmp .ne (.call i_words_leaf_kind (.cons (.var 1) .nil)) (.con (.str s__)))) (.ret (.ite (.te (.cmp .eq (.idx (.var 1) (.con (.int 0))) (.con (.str s_num)))) (.tup (.cons (.con (.str s_num)) (.cons (.bin .mod (.idx (.var 1) (.con (.int 1))) (.call i_words_power (.cons (.var 0) .nil))) .nil))) (.var 1))) .skip)
    (.seq (.asg false (.nm 2) (.comp [3] (.nm 3) (.wv (.sli (.var 1) (.pv (.con (.int 1))) .nil)) .tyes x0_words_folded_in))
    (.seq (.ite (.tand (.te (.cmp .in_ (.idx (.var 1) (.con (.int 0))) (.bin .add (.con c_words_TWO) (.con c_words_ONE)))) (.te (.bi .all (.cons (.comp [3] (.nm 3) (.wv (.var 2)) .tyes x1_words_folded_in) .nil)))) (.ret (.tup (.cons (.con (.str s_num)) (.cons (.call i_words_done_in (.cons (.var 0) (.cons (.idx (.var 1) (.con (.int 0))) (.cons (.idx (.idx (.var 2) (.con (.int 0))) (.con (.int 1))) (.cons (.ite (.te (.cmp .gt (.bi .len (.cons (.var 2) .nil)) (.con (.int 1)))) (.idx (.idx (.var 2) (.con (.int 1))) (.con (.int 1))) (.con (.int 0))) .nil))))) .nil)))) .skip)
    (.ret (.bin .add (.tup (.cons (.idx (.var 1) (.con (.int 0))) .nil)) (.bi .tuple (.cons (.var 2) .nil)))))))
def f_words_folded_in : Def := ⟨2, 4, b_words_folded_in⟩
/- words_folded: 0 width, 1 term -/
def b_words_folded : S :=
  (.seq (.exp (.call i_words_need_width (.cons (.var 0) .nil)))
    (.seq (.exp (.call i_words_need_term (.cons (.var 1) .nil)))
    (.ret (.call i_words_folded_in (.cons (.var 0) (.cons (.var 1) .nil))))))
def f_words_folded : Def := ⟨2, 2, b_words_folded⟩
/- tables_fits_name: 0 value, 1 sign -/
def x0_tables_fits_name : C :=
  (.cmp .in_ (.var 1) (.con c_tables_SMALL))
def b_tables_fits_name : S :=
  (.ret (.and_ (.isi (.var 0) .str) (.and_ (.chn .le .le (.con (.int 1)) (.bi .len (.cons (.var 0) .nil)) (.con c_tables_NAME)) (.bi .all (.cons (.comp [1] (.nm 1) (.wv (.var 0)) .tyes x0_tables_fits_name) .nil)))))
def f_tables_fits_name : Def := ⟨1, 2, b_tables_fits_name⟩
/- sources_is_name: 0 value -/
def b_sources_is_name : S :=
  (.ret (.and_ (.call i_tables_fits_name (.cons (.var 0) .nil)) (.cmp .nin (.var 0) (.con c_sources_KEYS))))
def f_sources_is_name : Def := ⟨1, 1, b_sources_is_name⟩
/- sources_wants_in: 0 word -/
def b_sources_wants_in : S :=
  (.seq (.ite (.tnot (.te (.isi (.var 0) .str))) (.ret (.con .non)) .skip)
    (.ret (.ite (.te (.cmp .in_ (.var 0) (.con c_words_TWO))) (.tup (.cons (.con (.str s_word)) (.cons (.con (.str s_word)) .nil))) (.ite (.te (.cmp .in_ (.var 0) (.con c_words_ONE))) (.tup (.cons (.con (.str s_word)) .nil)) (.mt .get (.con c_sources_WANTS) (.cons (.var 0) .nil))))))
def f_sources_wants_in : Def := ⟨1, 1, b_sources_wants_in⟩
/- sources_kind_in: 0 value, 1 deep, 2 wants, 3 own -/
def x0_sources_kind_in : C :=
  (.call i_sources_kind_in (.cons (.var 3) (.cons (.bin .sub (.var 1) (.con (.int 1))) .nil)))
def b_sources_kind_in : S :=
  (.seq (.ite (.tor (.te (.cmp .eq (.var 1) (.con (.int 0)))) (.tnot (.te (.call i_words_is_tuple_of (.cons (.var 0) (.cons (.con (.int 2)) (.cons (.con (.int 3)) .nil))))))) (.ret (.con (.str s__))) .skip)
    (.seq (.ite (.tand (.te (.cmp .eq (.bi .len (.cons (.var 0) .nil)) (.con (.int 2)))) (.te (.cmp .eq (.idx (.var 0) (.con (.int 0))) (.con (.str s_num))))) (.ret (.ite (.te (.call i_words_fits_whole (.cons (.idx (.var 0) (.con (.int 1))) (.cons (.con (.int 0)) (.cons (.con (.int 255)) .nil))))) (.con (.str s_word)) (.con (.str s__)))) .skip)
    (.seq (.ite (.tand (.te (.cmp .eq (.bi .len (.cons (.var 0) .nil)) (.con (.int 2)))) (.te (.cmp .eq (.idx (.var 0) (.con (.int 0))) (.con (.str s_name))))) (.ret (.ite (.te (.call i_sources_is_name (.cons (.idx (.var 0) (.con (.int 1))) .nil))) (.con (.str s_word)) (.con (.str s__)))) .skip)
    (.seq (.asg false (.nm 2) (.call i_sources_wants_in (.cons (.idx (.var 0) (.con (.int 0))) .nil)))
    (.seq (.ite (.tor (.te (.cmp .is_ (.var 2) (.con .non))) (.te (.cmp .ne (.comp [3] (.nm 3) (.wv (.sli (.var 0) (.pv (.con (.int 1))) .nil)) .tyes x0_sources_kind_in) (.bi .list (.cons (.var 2) .nil))))) (.ret (.con (.str s__))) .skip)
    (.ret (.ite (.te (.cmp .in_ (.idx (.var 0) (.con (.int 0))) (.con c_sources_WANTS))) (.con (.str s_bit)) (.con (.str s_word)))))))))
def f_sources_kind_in : Def := ⟨2, 4, b_sources_kind_in⟩
/- sources_parts_in: 0 side, 1 found, 2 line, 3 here, 4 own -/
def t0_sources_parts_in : C :=
  (.te (.cmp .ne (.var 2) (.lst .nil)))
def k0_sources_parts_in : C :=
  (.te (.isi (.var 4) .tuple))
def x0_sources_parts_in : C :=
  (.var 4)
def l0_sources_parts_in : S :=
  (.seq (.asg false (.nm 3) (.mt .pop (.var 2) .nil))
    (.seq (.exp (.mt .append (.var 1) (.cons (.var 3) .nil)))
    (.aug 2 .add (.comp [4] (.nm 4) (.wv (.sli (.var 3) (.pv (.con (.int 1))) .nil)) k0_sources_parts_in x0_sources_parts_in))))
def b_sources_parts_in : S :=
  (.seq (.par [.nm true 1, .nm true 2] (.cons (.lst .nil) (.cons (.lst (.cons (.var 0) .nil)) .nil)))
    (.seq (.whl t0_sources_parts_in l0_sources_parts_in)
    (.ret (.take 1))))
def f_sources_parts_in : Def := ⟨1, 5, b_sources_parts_in⟩
/- sources_fits_side: 0 value, 1 kind -/
def b_sources_fits_side : S :=
  (.ret (.and_ (.cmp .eq (.call i_sources_kind_in (.cons (.var 0) (.cons (.con c_sources_SIDE) .nil))) (.var 1)) (.cmp .le (.bi .len (.cons (.call i_sources_parts_in (.cons (.var 0) .nil)) .nil)) (.con c_sources_PARTS))))
def f_sources_fits_side : Def := ⟨2, 2, b_sources_fits_side⟩
/- sources_fits_statements: 0 value, 1 deep, 2 one, 3 own -/
def x0_sources_fits_statements : C :=
  (.call i_sources_fits_statements (.cons (.var 3) (.cons (.bin .sub (.var 1) (.con (.int 1))) .nil)))
def l0_sources_fits_statements : S :=
  (.seq (.ite (.tor (.tnot (.te (.call i_words_is_tuple_of (.cons (.var 2) (.cons (.con (.int 3)) (.cons (.con (.int 4)) .nil)))))) (.tor (.tnot (.te (.isi (.idx (.var 2) (.con (.int 0))) .str))) (.te (.cmp .ne (.mt .get (.con c_sources_SIZES) (.cons (.idx (.var 2) (.con (.int 0))) .nil)) (.bi .len (.cons (.var 2) .nil)))))) (.ret (.con (.bl false))) .skip)
    (.seq (.ite (.tand (.te (.cmp .eq (.idx (.var 2) (.con (.int 0))) (.con (.str s_set)))) (.tnot (.tand (.te (.call i_sources_is_name (.cons (.idx (.var 2) (.con (.int 1))) .nil))) (.te (.call i_sources_fits_side (.cons (.idx (.var 2) (.con (.int 2))) (.cons (.con (.str s_word)) .nil))))))) (.ret (.con (.bl false))) .skip)
    (.seq (.ite (.tand (.te (.cmp .ne (.idx (.var 2) (.con (.int 0))) (.con (.str s_set)))) (.tnot (.te (.call i_sources_fits_side (.cons (.idx (.var 2) (.con (.int 1))) (.cons (.con (.str s_bit)) .nil)))))) (.ret (.con (.bl false))) .skip)
    (.ite (.tand (.te (.cmp .ne (.idx (.var 2) (.con (.int 0))) (.con (.str s_set)))) (.tnot (.te (.bi .all (.cons (.comp [3] (.nm 3) (.wv (.sli (.var 2) (.pv (.con (.int 2))) .nil)) .tyes x0_sources_fits_statements) .nil))))) (.ret (.con (.bl false))) .skip))))
def b_sources_fits_statements : S :=
  (.seq (.ite (.tor (.te (.cmp .eq (.var 1) (.con (.int 0)))) (.tnot (.te (.isi (.var 0) .tuple)))) (.ret (.con (.bl false))) .skip)
    (.seq (.for_ (.nm 2) (.wv (.var 0)) l0_sources_fits_statements)
    (.ret (.con (.bl true)))))
def f_sources_fits_statements : Def := ⟨2, 4, b_sources_fits_statements⟩
/- sources_all_in: 0 source, 1 found, 2 line, 3 here, 4 own, 5 one -/
def t0_sources_all_in : C :=
  (.te (.cmp .ne (.var 2) (.lst .nil)))
def v0_sources_all_in : C :=
  (.wv (.rev (.var 4)))
def x0_sources_all_in : C :=
  (.var 5)
def l0_sources_all_in : S :=
  (.seq (.asg false (.nm 3) (.mt .pop (.var 2) .nil))
    (.seq (.exp (.mt .append (.var 1) (.cons (.var 3) .nil)))
    (.aug 2 .add (.ite (.te (.cmp .ne (.idx (.var 3) (.con (.int 0))) (.con (.str s_set)))) (.comp2 [4, 5] (.nm 4) (.wv (.rev (.sli (.var 3) (.pv (.con (.int 2))) .nil))) .tyes [5] (.nm 5) v0_sources_all_in .tyes x0_sources_all_in) (.lst .nil)))))
def b_sources_all_in : S :=
  (.seq (.par [.nm true 1, .nm true 2] (.cons (.lst .nil) (.cons (.rev (.bi .list (.cons (.var 0) .nil))) .nil)))
    (.seq (.whl t0_sources_all_in l0_sources_all_in)
    (.ret (.take 1))))
def f_sources_all_in : Def := ⟨1, 6, b_sources_all_in⟩
/- sources_sides_in: 0 source, 1 one -/
def x0_sources_sides_in : C :=
  (.ite (.te (.cmp .eq (.idx (.var 1) (.con (.int 0))) (.con (.str s_set)))) (.idx (.var 1) (.con (.int 2))) (.idx (.var 1) (.con (.int 1))))
def b_sources_sides_in : S :=
  (.ret (.comp [1] (.nm 1) (.wv (.call i_sources_all_in (.cons (.var 0) .nil))) .tyes x0_sources_sides_in))
def f_sources_sides_in : Def := ⟨1, 2, b_sources_sides_in⟩
/- sources_set_in: 0 source, 1 one -/
def k0_sources_set_in : C :=
  (.te (.cmp .eq (.idx (.var 1) (.con (.int 0))) (.con (.str s_set))))
def x0_sources_set_in : C :=
  (.idx (.var 1) (.con (.int 1)))
def b_sources_set_in : S :=
  (.ret (.bi .sset (.cons (.comp [1] (.nm 1) (.wv (.call i_sources_all_in (.cons (.var 0) .nil))) k0_sources_set_in x0_sources_set_in) .nil)))
def f_sources_set_in : Def := ⟨1, 2, b_sources_set_in⟩
/- sources_read_in: 0 source, 1 side, 2 own -/
def v0_sources_read_in : C :=
  (.wv (.call i_sources_parts_in (.cons (.var 1) .nil)))
def k0_sources_read_in : C :=
  (.te (.cmp .eq (.idx (.var 2) (.con (.int 0))) (.con (.str s_name))))
def x0_sources_read_in : C :=
  (.idx (.var 2) (.con (.int 1)))
def b_sources_read_in : S :=
  (.ret (.bi .sset (.cons (.comp2 [1, 2] (.nm 1) (.wv (.call i_sources_sides_in (.cons (.var 0) .nil))) .tyes [2] (.nm 2) v0_sources_read_in k0_sources_read_in x0_sources_read_in) .nil)))
def f_sources_read_in : Def := ⟨1, 3, b_sources_read_in⟩
/- sources_fits_some: 0 value, 1 many -/
def b_sources_fits_some : S :=
  (.seq (.ite (.tnot (.te (.call i_sources_fits_statements (.cons (.var 0) (.cons (.con c_sources_DEEP) .nil))))) (.ret (.con (.bl false))) .skip)
    (.ret (.and_ (.cmp .le (.bi .len (.cons (.call i_sources_all_in (.cons (.var 0) .nil)) .nil)) (.var 1)) (.cmp .le (.bi .lset (.cons (.bin .add (.call i_sources_set_in (.cons (.var 0) .nil)) (.call i_sources_read_in (.cons (.var 0) .nil))) .nil)) (.con c_sources_NAMES)))))
def f_sources_fits_some : Def := ⟨2, 2, b_sources_fits_some⟩
/- sources_fits_worths: 0 width, 1 value, 2 one, 3 name, 4 worth -/
def x0_sources_fits_worths : C :=
  (.call i_words_is_tuple_of (.cons (.var 2) (.cons (.con (.int 2)) (.cons (.con (.int 2)) .nil))))
def x1_sources_fits_worths : C :=
  (.and_ (.call i_sources_is_name (.cons (.var 3) .nil)) (.call i_words_fits_whole (.cons (.var 4) (.cons (.con (.int 0)) (.cons (.bin .sub (.call i_words_power (.cons (.var 0) .nil)) (.con (.int 1))) .nil)))))
def x2_sources_fits_worths : C :=
  (.var 3)
def b_sources_fits_worths : S :=
  (.seq (.ite (.tor (.tnot (.te (.call i_words_is_tuple_of (.cons (.var 1) (.cons (.con (.int 0)) (.cons (.bin .mul (.con (.int 2)) (.con c_sources_NAMES)) .nil)))))) (.tnot (.te (.bi .all (.cons (.comp [2] (.nm 2) (.wv (.var 1)) .tyes x0_sources_fits_worths) .nil))))) (.ret (.con (.bl false))) .skip)
    (.seq (.ite (.tnot (.te (.bi .all (.cons (.comp [3, 4] (.tp (.cons (.nm 3) (.cons (.nm 4) .nil))) (.wv (.var 1)) .tyes x1_sources_fits_worths) .nil)))) (.ret (.con (.bl false))) .skip)
    (.ret (.call i_words_is_rising (.cons (.comp [3, 4] (.tp (.cons (.nm 3) (.cons (.nm 4) .nil))) (.wv (.var 1)) .tyes x2_sources_fits_worths) .nil)))))
def f_sources_fits_worths : Def := ⟨2, 5, b_sources_fits_worths⟩
/- sources_need_run: 0 width, 1 worths, 2 rest -/
def b_sources_need_run : S :=
  (.seq (.exp (.call i_words_need_width (.cons (.var 0) .nil)))
    (.seq (.ite (.tnot (.te (.call i_sources_fits_worths (.cons (.var 0) (.cons (.var 1) .nil))))) (.rse 0) .skip)
    (.ite (.tnot (.te (.call i_sources_fits_some (.cons (.var 2) (.cons (.con c_sources_RESTS) .nil))))) (.rse 0) .skip)))
def f_sources_need_run : Def := ⟨3, 3, b_sources_need_run⟩
/- sources_need_steps: 0 value -/
def b_sources_need_steps : S :=
  (.ite (.tnot (.te (.call i_words_fits_whole (.cons (.var 0) (.cons (.con (.int 0)) (.cons (.con c_sources_STEPS) .nil)))))) (.rse 0) .skip)
def f_sources_need_steps : Def := ⟨1, 1, b_sources_need_steps⟩
/- sources_worth_in: 0 width, 1 side, 2 table, 3 worths, 4 own -/
def x0_sources_worth_in : C :=
  (.call i_sources_worth_in (.cons (.var 0) (.cons (.var 4) (.cons (.var 2) .nil))))
def b_sources_worth_in : S :=
  (.seq (.ite (.te (.cmp .eq (.idx (.var 1) (.con (.int 0))) (.con (.str s_num)))) (.ret (.bin .mod (.idx (.var 1) (.con (.int 1))) (.call i_words_power (.cons (.var 0) .nil)))) .skip)
    (.seq (.ite (.te (.cmp .eq (.idx (.var 1) (.con (.int 0))) (.con (.str s_name)))) (.ret (.mt .get (.var 2) (.cons (.idx (.var 1) (.con (.int 1))) (.cons (.con (.int 0)) .nil)))) .skip)
    (.seq (.asg false (.nm 3) (.comp [4] (.nm 4) (.wv (.sli (.var 1) (.pv (.con (.int 1))) .nil)) .tyes x0_sources_worth_in))
    (.ret (.call i_words_done_in (.cons (.var 0) (.cons (.idx (.var 1) (.con (.int 0))) (.cons (.idx (.var 3) (.con (.int 0))) (.cons (.ite (.te (.cmp .gt (.bi .len (.cons (.var 3) .nil)) (.con (.int 1)))) (.idx (.var 3) (.con (.int 1))) (.con (.int 0))) .nil)))))))))
def f_sources_worth_in : Def := ⟨3, 5, b_sources_worth_in⟩
/- sources_step_in: 0 width, 1 table, 2 rest, 3 here, 4 later, 5 good -/
def b_sources_step_in : S :=
  (.seq (.asg false (.nm 3) (.idx (.var 2) (.con (.int 0))))
    (.seq (.ite (.te (.cmp .eq (.idx (.var 3) (.con (.int 0))) (.con (.str s_set)))) (.seq (.asg true (.nm 4) (.bi .dict (.cons (.var 1) .nil)))
    (.seq (.sub (.var 4) (.idx (.var 3) (.con (.int 1))) (.call i_sources_worth_in (.cons (.var 0) (.cons (.idx (.var 3) (.con (.int 2))) (.cons (.var 1) .nil)))))
    (.ret (.tup (.cons (.take 4) (.cons (.sli (.var 2) (.pv (.con (.int 1))) .nil) .nil)))))) .skip)
    (.seq (.asg false (.nm 5) (.cmp .eq (.call i_sources_worth_in (.cons (.var 0) (.cons (.idx (.var 3) (.con (.int 1))) (.cons (.var 1) .nil)))) (.con (.int 1))))
    (.seq (.ite (.te (.cmp .eq (.idx (.var 3) (.con (.int 0))) (.con (.str s_if)))) (.ret (.tup (.cons (.var 1) (.cons (.bin .add (.ite (.te (.var 5)) (.idx (.var 3) (.con (.int 2))) (.idx (.var 3) (.con (.int 3)))) (.sli (.var 2) (.pv (.con (.int 1))) .nil)) .nil)))) .skip)
    (.ret (.tup (.cons (.var 1) (.cons (.ite (.te (.var 5)) (.bin .add (.idx (.var 3) (.con (.int 2))) (.var 2)) (.sli (.var 2) (.pv (.con (.int 1))) .nil)) .nil))))))))
def f_sources_step_in : Def := ⟨3, 6, b_sources_step_in⟩
/- sources_told_in: 0 table, 1 name -/
def k0_sources_told_in : C :=
  (.te (.cmp .ne (.idx (.var 0) (.var 1)) (.con (.int 0))))
def x0_sources_told_in : C :=
  (.tup (.cons (.var 1) (.cons (.idx (.var 0) (.var 1)) .nil)))
def b_sources_told_in : S :=
  (.ret (.bi .tuple (.cons (.comp [1] (.nm 1) (.wv (.bi .sorted (.cons (.var 0) .nil))) k0_sources_told_in x0_sources_told_in) .nil)))
def f_sources_told_in : Def := ⟨1, 2, b_sources_told_in⟩
/- sources_run_in: 0 width, 1 worths, 2 rest, 3 many, 4 table, 5 done -/
def t0_sources_run_in : C :=
  (.tand (.te (.cmp .lt (.var 5) (.var 3))) (.te (.cmp .ne (.var 2) (.tup .nil))))
def l0_sources_run_in : S :=
  (.seq (.asg false (.tp (.cons (.nm 4) (.cons (.nm 2) .nil))) (.call i_sources_step_in (.cons (.var 0) (.cons (.var 4) (.cons (.var 2) .nil)))))
    (.aug 5 .add (.con (.int 1))))
def b_sources_run_in : S :=
  (.seq (.par [.nm false 4, .nm false 5] (.cons (.bi .dict (.cons (.var 1) .nil)) (.cons (.con (.int 0)) .nil)))
    (.seq (.whl t0_sources_run_in l0_sources_run_in)
    (.ret (.tup (.cons (.call i_sources_told_in (.cons (.var 4) .nil)) (.cons (.var 2) (.cons (.var 5) .nil)))))))
def f_sources_run_in : Def := ⟨4, 6, b_sources_run_in⟩
/- sources_is_side: 0 value -/
def b_sources_is_side : S :=
  (.ret (.or_ (.call i_sources_fits_side (.cons (.var 0) (.cons (.con (.str s_word)) .nil))) (.call i_sources_fits_side (.cons (.var 0) (.cons (.con (.str s_bit)) .nil)))))
def f_sources_is_side : Def := ⟨1, 1, b_sources_is_side⟩
/- sources_side_worth: 0 width, 1 side, 2 worths -/
def b_sources_side_worth : S :=
  (.seq (.exp (.call i_words_need_width (.cons (.var 0) .nil)))
    (.seq (.ite (.tnot (.te (.call i_sources_is_side (.cons (.var 1) .nil)))) (.rse 0) .skip)
    (.seq (.ite (.tnot (.te (.call i_sources_fits_worths (.cons (.var 0) (.cons (.var 2) .nil))))) (.rse 0) .skip)
    (.ret (.call i_sources_worth_in (.cons (.var 0) (.cons (.var 1) (.cons (.bi .dict (.cons (.var 2) .nil)) .nil))))))))
def f_sources_side_worth : Def := ⟨3, 3, b_sources_side_worth⟩
/- sources_source_step: 0 width, 1 worths, 2 rest -/
def b_sources_source_step : S :=
  (.seq (.exp (.call i_sources_need_run (.cons (.var 0) (.cons (.var 1) (.cons (.var 2) .nil)))))
    (.ret (.sli (.call i_sources_run_in (.cons (.var 0) (.cons (.var 1) (.cons (.var 2) (.cons (.con (.int 1)) .nil))))) .nil (.pv (.con (.int 2))))))
def f_sources_source_step : Def := ⟨3, 3, b_sources_source_step⟩
/- sources_source_run: 0 width, 1 worths, 2 rest, 3 many -/
def b_sources_source_run : S :=
  (.seq (.exp (.call i_sources_need_run (.cons (.var 0) (.cons (.var 1) (.cons (.var 2) .nil)))))
    (.seq (.exp (.call i_sources_need_steps (.cons (.var 3) .nil)))
    (.ret (.call i_sources_run_in (.cons (.var 0) (.cons (.var 1) (.cons (.var 2) (.cons (.var 3) .nil))))))))
def f_sources_source_run : Def := ⟨4, 4, b_sources_source_run⟩
/- sources_source_end: 0 width, 1 worths, 2 source, 3 many, 4 found -/
def b_sources_source_end : S :=
  (.seq (.exp (.call i_sources_need_run (.cons (.var 0) (.cons (.var 1) (.cons (.var 2) .nil)))))
    (.seq (.exp (.call i_sources_need_steps (.cons (.var 3) .nil)))
    (.seq (.asg false (.nm 4) (.call i_sources_run_in (.cons (.var 0) (.cons (.var 1) (.cons (.var 2) (.cons (.var 3) .nil))))))
    (.ret (.ite (.te (.cmp .eq (.idx (.var 4) (.con (.int 1))) (.tup .nil))) (.idx (.var 4) (.con (.int 0))) (.con .non))))))
def f_sources_source_end : Def := ⟨4, 5, b_sources_source_end⟩
/- sources_source_ways: 0 width, 1 worths, 2 source, 3 many, 4 table, 5 found, 6 turn -/
def l0_sources_source_ways : S :=
  (.ite (.te (.cmp .ne (.var 2) (.tup .nil))) (.seq (.ite (.te (.cmp .ne (.idx (.idx (.var 2) (.con (.int 0))) (.con (.int 0))) (.con (.str s_set)))) (.aug 5 .add (.bi .str (.cons (.call i_sources_worth_in (.cons (.var 0) (.cons (.idx (.idx (.var 2) (.con (.int 0))) (.con (.int 1))) (.cons (.var 4) .nil)))) .nil))) .skip)
    (.asg false (.tp (.cons (.nm 4) (.cons (.nm 2) .nil))) (.call i_sources_step_in (.cons (.var 0) (.cons (.var 4) (.cons (.var 2) .nil)))))) .skip)
def b_sources_source_ways : S :=
  (.seq (.exp (.call i_sources_need_run (.cons (.var 0) (.cons (.var 1) (.cons (.var 2) .nil)))))
    (.seq (.exp (.call i_sources_need_steps (.cons (.var 3) .nil)))
    (.seq (.par [.nm false 4, .nm false 5] (.cons (.bi .dict (.cons (.var 1) .nil)) (.cons (.con (.str s__)) .nil)))
    (.seq (.for_ (.nm 6) (.rng1 (.var 3)) l0_sources_source_ways)
    (.ret (.var 5))))))
def f_sources_source_ways : Def := ⟨4, 7, b_sources_source_ways⟩
/- sources_steps_to_end: 0 width, 1 worths, 2 source, 3 many, 4 found -/
def b_sources_steps_to_end : S :=
  (.seq (.exp (.call i_sources_need_run (.cons (.var 0) (.cons (.var 1) (.cons (.var 2) .nil)))))
    (.seq (.exp (.call i_sources_need_steps (.cons (.var 3) .nil)))
    (.seq (.asg false (.nm 4) (.call i_sources_run_in (.cons (.var 0) (.cons (.var 1) (.cons (.var 2) (.cons (.var 3) .nil))))))
    (.ret (.ite (.te (.cmp .eq (.idx (.var 4) (.con (.int 1))) (.tup .nil))) (.idx (.var 4) (.con (.int 2))) (.con .non))))))
def f_sources_steps_to_end : Def := ⟨4, 5, b_sources_steps_to_end⟩
/- law_cup: 0 script, 1 cell -/
def b_law_cup : S :=
  (.seq (.asg false (.nm 1) (.bi .abs (.cons (.idx (.bin .add (.bi .list (.cons (.var 0) .nil)) (.lst (.cons (.con (.int 0)) .nil))) (.con (.int 0))) .nil)))
    (.ret (.lst (.cons (.ite (.te (.cmp .ge (.var 1) (.bin .pow (.con (.int 10)) (.con (.int 18))))) (.bin .fdiv (.var 1) (.con (.int 79))) (.con (.int 0))) (.cons (.bin .add (.bin .mod (.bi .int (.cons (.bin .add (.bin .mul (.var 1) (.con (.int 313))) (.con (.int 3911))) .nil)) (.con (.int 2077502087))) (.con (.int 193))) .nil)))))
def f_law_cup : Def := ⟨1, 2, b_law_cup⟩
/- law_roll: 0 cup, 1 many, 2 found, 3 deep -/
def b_law_roll : S :=
  (.seq (.ite (.te (.cmp .gt (.idx (.var 0) (.con (.int 0))) (.con (.int 0)))) (.seq (.asg false (.nm 2) (.bin .mod (.bi .int (.cons (.idx (.var 0) (.con (.int 0))) .nil)) (.var 1)))
    (.seq (.sub (.var 0) (.con (.int 0)) (.bin .fdiv (.idx (.var 0) (.con (.int 0))) (.var 1)))
    (.ret (.var 2)))) .skip)
    (.seq (.sub (.var 0) (.con (.int 1)) (.bin .mod (.bi .int (.cons (.bin .add (.bin .mul (.idx (.var 0) (.con (.int 1))) (.con (.int 30703))) (.con (.int 7753))) .nil)) (.con (.int 2147482951))))
    (.seq (.asg false (.nm 3) (.bin .mod (.bi .int (.cons (.bin .mul (.idx (.var 0) (.con (.int 1))) (.bin .add (.idx (.var 0) (.con (.int 1))) (.con (.int 223)))) .nil)) (.con (.int 2147483059))))
    (.ret (.bin .mod (.bi .int (.cons (.bin .fdiv (.var 3) (.con (.int 821))) .nil)) (.var 1))))))
def f_law_roll : Def := ⟨2, 4, b_law_roll⟩
/- law_some: 0 cup, 1 things -/
def b_law_some : S :=
  (.ret (.idx (.var 1) (.call i_law_roll (.cons (.var 0) (.cons (.bi .len (.cons (.var 1) .nil)) .nil)))))
def f_law_some : Def := ⟨2, 2, b_law_some⟩
/- law_same: 0 told, 1 due, 2 at -/
def x0_law_same : C :=
  (.call i_law_same (.cons (.idx (.var 0) (.var 2)) (.cons (.idx (.var 1) (.var 2)) .nil)))
def b_law_same : S :=
  (.seq (.ite (.te (.isi (.var 1) .tuple)) (.seq (.ite (.tor (.tnot (.te (.isi (.var 0) .tuple))) (.te (.cmp .ne (.bi .len (.cons (.var 0) .nil)) (.bi .len (.cons (.var 1) .nil))))) (.ret (.con (.bl false))) .skip)
    (.ret (.bi .all (.cons (.comp [2] (.nm 2) (.rng1 (.bi .len (.cons (.var 1) .nil))) .tyes x0_law_same) .nil)))) .skip)
    (.seq (.ite (.te (.cmp .is_ (.var 1) (.con .non))) (.ret (.cmp .is_ (.var 0) (.con .non))) .skip)
    (.seq (.ite (.te (.isi (.var 1) .bool)) (.ret (.ite (.te (.var 1)) (.cmp .is_ (.var 0) (.con (.bl true))) (.cmp .is_ (.var 0) (.con (.bl false))))) .skip)
    (.seq (.ite (.te (.isi (.var 1) .int)) (.ret (.and_ (.isi (.var 0) .int) (.and_ (.not_ (.isi (.var 0) .bool)) (.cmp .eq (.bi .int (.cons (.var 0) .nil)) (.var 1))))) .skip)
    (.ret (.and_ (.isi (.var 0) .str) (.cmp .eq (.bi .str (.cons (.var 0) .nil)) (.var 1))))))))
def f_law_same : Def := ⟨2, 3, b_law_same⟩
/- law_power: 0 many, 1 found, 2 turn -/
def l0_law_power : S :=
  (.asg false (.nm 1) (.bin .mul (.con (.int 2)) (.var 1)))
def b_law_power : S :=
  (.seq (.asg false (.nm 1) (.con (.int 1)))
    (.seq (.for_ (.nm 2) (.rng1 (.var 0)) l0_law_power)
    (.ret (.var 1))))
def f_law_power : Def := ⟨1, 3, b_law_power⟩
/- law_inner: 0 term, 1 found, 2 line, 3 here, 4 own -/
def t0_law_inner : C :=
  (.te (.cmp .ne (.var 2) (.lst .nil)))
def k0_law_inner : C :=
  (.te (.isi (.var 4) .tuple))
def x0_law_inner : C :=
  (.var 4)
def l0_law_inner : S :=
  (.seq (.asg false (.nm 3) (.idx (.var 2) (.neg (.con (.int 1)))))
    (.seq (.asg false (.nm 2) (.bin .add (.sli (.var 2) .nil (.pv (.neg (.con (.int 1))))) (.rev (.comp [4] (.nm 4) (.wv (.sli (.var 3) (.pv (.con (.int 1))) .nil)) k0_law_inner x0_law_inner))))
    (.exp (.mt .append (.var 1) (.cons (.var 3) .nil)))))
def b_law_inner : S :=
  (.seq (.par [.nm true 1, .nm false 2] (.cons (.lst .nil) (.cons (.lst (.cons (.var 0) .nil)) .nil)))
    (.seq (.whl t0_law_inner l0_law_inner)
    (.ret (.take 1))))
def f_law_inner : Def := ⟨1, 5, b_law_inner⟩
/- law_leaf: 0 width, 1 term, 2 scene, 3 registers, 4 cells, 5 flag, 6 place, 7 fields, 8 numbers, 9 letter, 10 bits, 11 number, 12 sizes, 13 half -/
def x0_law_leaf : C :=
  (.tup (.cons (.var 9) (.cons (.var 11) .nil)))
def x1_law_leaf : C :=
  (.tup (.cons (.var 9) (.cons (.var 10) .nil)))
def b_law_leaf : S :=
  (.seq (.asg false (.tp (.cons (.nm 3) (.cons (.nm 4) (.cons (.nm 5) (.cons (.nm 6) (.cons (.nm 7) .nil)))))) (.var 2))
    (.seq (.ite (.te (.cmp .in_ (.idx (.var 1) (.con (.int 0))) (.tup (.cons (.con (.str s_num)) (.cons (.con (.str s_place)) (.cons (.con (.str s_flag)) .nil)))))) (.ret (.idx (.dic false (.cons (.con (.str s_num)) (.cons (.bin .mod (.idx (.bin .add (.var 1) (.tup (.cons (.con (.int 0)) .nil))) (.con (.int 1))) (.call i_law_power (.cons (.var 0) .nil))) (.cons (.con (.str s_place)) (.cons (.var 6) (.cons (.con (.str s_flag)) (.cons (.var 5) .nil))))))) (.idx (.var 1) (.con (.int 0))))) .skip)
    (.seq (.asg false (.nm 8) (.bi .dict (.cons (.comp [9, 10, 11] (.tp (.cons (.nm 9) (.cons (.nm 10) (.cons (.nm 11) .nil)))) (.wv (.var 7)) .tyes x0_law_leaf) .nil)))
    (.seq (.asg false (.nm 12) (.bi .dict (.cons (.comp [9, 10, 11] (.tp (.cons (.nm 9) (.cons (.nm 10) (.cons (.nm 11) .nil)))) (.wv (.var 7)) .tyes x1_law_leaf) .nil)))
    (.seq (.ite (.te (.cmp .eq (.idx (.var 1) (.con (.int 0))) (.con (.str s_reg)))) (.ret (.idx (.var 3) (.mt .get (.var 8) (.cons (.idx (.var 1) (.con (.int 1))) (.cons (.idx (.var 1) (.con (.int 1))) .nil))))) .skip)
    (.seq (.ite (.te (.cmp .eq (.idx (.var 1) (.con (.int 0))) (.con (.str s_field)))) (.ret (.idx (.var 8) (.idx (.var 1) (.con (.int 1))))) .skip)
    (.seq (.ite (.te (.cmp .eq (.idx (.var 1) (.con (.int 0))) (.con (.str s_signed)))) (.seq (.asg false (.nm 13) (.call i_law_power (.cons (.bin .sub (.idx (.var 12) (.idx (.var 1) (.con (.int 1)))) (.con (.int 1))) .nil)))
    (.ret (.bin .mod (.bin .sub (.idx (.var 8) (.idx (.var 1) (.con (.int 1)))) (.ite (.te (.cmp .ge (.idx (.var 8) (.idx (.var 1) (.con (.int 1)))) (.var 13))) (.bin .mul (.con (.int 2)) (.var 13)) (.con (.int 0)))) (.call i_law_power (.cons (.var 0) .nil))))) .skip)
    (.ret (.con .non)))))))))
def f_law_leaf : Def := ⟨3, 14, b_law_leaf⟩
/- law_worth: 0 width, 1 term, 2 scene, 3 size, 4 pile, 5 own, 6 worth, 7 one, 8 two, 9 table -/
def l0_law_worth : S :=
  (.seq (.asg false (.nm 6) (.call i_law_leaf (.cons (.var 0) (.cons (.var 5) (.cons (.var 2) .nil)))))
    (.seq (.ite (.te (.cmp .is_ (.var 6) (.con .non))) (.seq (.asg false (.nm 7) (.idx (.var 4) (.neg (.con (.int 1)))))
    (.seq (.asg false (.nm 8) (.ite (.te (.cmp .eq (.bi .len (.cons (.var 5) .nil)) (.con (.int 3)))) (.idx (.var 4) (.neg (.con (.int 2)))) (.con (.int 0))))
    (.seq (.asg true (.nm 4) (.ite (.te (.cmp .eq (.bi .len (.cons (.var 5) .nil)) (.con (.int 3)))) (.sli (.var 4) .nil (.pv (.neg (.con (.int 2))))) (.sli (.var 4) .nil (.pv (.neg (.con (.int 1)))))))
    (.seq (.asg true (.nm 9) (.dic false (.cons (.con (.str s_add)) (.cons (.bin .add (.var 7) (.var 8)) (.cons (.con (.str s_sub)) (.cons (.bin .sub (.var 7) (.var 8)) (.cons (.con (.str s_not)) (.cons (.bin .sub (.neg (.con (.int 1))) (.var 7)) (.cons (.con (.str s_up)) (.cons (.bin .add (.var 7) (.var 7)) (.cons (.con (.str s_down)) (.cons (.bin .fdiv (.var 7) (.con (.int 2))) .nil))))))))))))
    (.seq (.exp (.mt .update (.var 9) (.cons (.dic false (.cons (.con (.str s_zero)) (.cons (.ite (.te (.cmp .eq (.var 7) (.con (.int 0)))) (.con (.int 1)) (.con (.int 0))) (.cons (.con (.str s_less)) (.cons (.ite (.te (.cmp .lt (.var 7) (.var 8))) (.con (.int 1)) (.con (.int 0))) (.cons (.con (.str s_off)) (.cons (.bin .sub (.con (.int 1)) (.var 7)) .nil))))))) .nil)))
    (.seq (.asg false (.nm 6) (.bin .mod (.mt .get (.var 9) (.cons (.idx (.var 5) (.con (.int 0))) (.cons (.con (.int 0)) .nil))) (.var 3)))
    (.seq (.ite (.te (.cmp .eq (.idx (.var 5) (.con (.int 0))) (.con (.str s_cell)))) (.asg false (.nm 6) (.idx (.idx (.var 2) (.con (.int 1))) (.var 7))) .skip)
    (.ite (.te (.cmp .in_ (.idx (.var 5) (.con (.int 0))) (.tup (.cons (.con (.str s_and)) (.cons (.con (.str s_or)) (.cons (.con (.str s_xor)) .nil)))))) (.asg false (.nm 6) (.ite (.te (.cmp .eq (.idx (.var 5) (.con (.int 0))) (.con (.str s_and)))) (.bin .band (.var 7) (.var 8)) (.ite (.te (.cmp .eq (.idx (.var 5) (.con (.int 0))) (.con (.str s_or)))) (.bin .bor (.var 7) (.var 8)) (.bin .bxor (.var 7) (.var 8))))) .skip)))))))) .skip)
    (.exp (.mt .append (.var 4) (.cons (.var 6) .nil)))))
def b_law_worth : S :=
  (.seq (.par [.nm false 3, .nm true 4] (.cons (.call i_law_power (.cons (.var 0) .nil)) (.cons (.lst .nil) .nil)))
    (.seq (.for_ (.nm 5) (.wv (.rev (.call i_law_inner (.cons (.var 1) .nil)))) l0_law_worth)
    (.ret (.idx (.var 4) (.con (.int 0))))))
def f_law_worth : Def := ⟨3, 10, b_law_worth⟩
/- law_tip: 0 cup, 1 names -/
def b_law_tip : S :=
  (.ret (.call i_law_some (.cons (.var 0) (.cons (.lst (.cons (.tup (.cons (.con (.str s_num)) (.cons (.call i_law_roll (.cons (.var 0) (.cons (.con (.int 256)) .nil))) .nil))) (.cons (.tup (.cons (.con (.str s_num)) (.cons (.call i_law_roll (.cons (.var 0) (.cons (.con (.int 4)) .nil))) .nil))) (.cons (.tup (.cons (.con (.str s_name)) (.cons (.call i_law_some (.cons (.var 0) (.cons (.var 1) .nil))) .nil))) (.cons (.tup (.cons (.con (.str s_name)) (.cons (.idx (.var 1) (.con (.int 0))) .nil))) .nil))))) .nil))))
def f_law_tip : Def := ⟨2, 2, b_law_tip⟩
/- law_small: 0 cup, 1 names, 2 tip, 3 more, 4 two, 5 one -/
def b_law_small : S :=
  (.seq (.par [.nm false 2, .nm false 3] (.cons (.call i_law_tip (.cons (.var 0) (.cons (.var 1) .nil))) (.cons (.call i_law_tip (.cons (.var 0) (.cons (.var 1) .nil))) .nil)))
    (.seq (.par [.nm false 4, .nm false 5] (.cons (.call i_law_some (.cons (.var 0) (.cons (.lst (.cons (.con (.str s_add)) (.cons (.con (.str s_sub)) (.cons (.con (.str s_and)) (.cons (.con (.str s_or)) (.cons (.con (.str s_xor)) .nil)))))) .nil))) (.cons (.call i_law_some (.cons (.var 0) (.cons (.lst (.cons (.con (.str s_not)) (.cons (.con (.str s_up)) (.cons (.con (.str s_down)) .nil)))) .nil))) .nil)))
    (.ret (.call i_law_some (.cons (.var 0) (.cons (.lst (.cons (.var 2) (.cons (.var 3) (.cons (.tup (.cons (.var 4) (.cons (.var 2) (.cons (.var 3) .nil)))) (.cons (.tup (.cons (.var 4) (.cons (.var 2) (.cons (.var 3) .nil)))) (.cons (.tup (.cons (.var 5) (.cons (.var 2) .nil))) .nil)))))) .nil))))))
def f_law_small : Def := ⟨2, 6, b_law_small⟩
/- law_deep: 0 cup, 1 names, 2 left, 3 right -/
def b_law_deep : S :=
  (.seq (.par [.nm false 2, .nm false 3] (.cons (.call i_law_small (.cons (.var 0) (.cons (.var 1) .nil))) (.cons (.call i_law_small (.cons (.var 0) (.cons (.var 1) .nil))) .nil)))
    (.ret (.call i_law_some (.cons (.var 0) (.cons (.lst (.cons (.var 2) (.cons (.tup (.cons (.call i_law_some (.cons (.var 0) (.cons (.lst (.cons (.con (.str s_add)) (.cons (.con (.str s_sub)) (.cons (.con (.str s_and)) (.cons (.con (.str s_or)) (.cons (.con (.str s_xor)) .nil)))))) .nil))) (.cons (.var 2) (.cons (.var 3) .nil)))) (.cons (.tup (.cons (.con (.str s_up)) (.cons (.var 3) .nil))) .nil)))) .nil)))))
def f_law_deep : Def := ⟨2, 4, b_law_deep⟩
/- law_test: 0 cup, 1 names, 2 left, 3 right, 4 tip -/
def b_law_test : S :=
  (.seq (.par [.nm false 2, .nm false 3] (.cons (.call i_law_small (.cons (.var 0) (.cons (.var 1) .nil))) (.cons (.call i_law_small (.cons (.var 0) (.cons (.var 1) .nil))) .nil)))
    (.seq (.asg false (.nm 4) (.call i_law_tip (.cons (.var 0) (.cons (.var 1) .nil))))
    (.ret (.call i_law_some (.cons (.var 0) (.cons (.lst (.cons (.tup (.cons (.con (.str s_zero)) (.cons (.var 2) .nil))) (.cons (.tup (.cons (.con (.str s_less)) (.cons (.var 2) (.cons (.var 3) .nil)))) (.cons (.tup (.cons (.con (.str s_off)) (.cons (.tup (.cons (.con (.str s_zero)) (.cons (.var 4) .nil))) .nil))) (.cons (.tup (.cons (.con (.str s_off)) (.cons (.tup (.cons (.con (.str s_less)) (.cons (.var 4) (.cons (.tup (.cons (.con (.str s_name)) (.cons (.idx (.var 1) (.con (.int 0))) .nil))) .nil)))) .nil))) .nil))))) .nil))))))
def f_law_test : Def := ⟨2, 5, b_law_test⟩
/- law_sets: 0 cup, 1 names, 2 many, 3 turn -/
def x0_law_sets : C :=
  (.tup (.cons (.con (.str s_set)) (.cons (.call i_law_some (.cons (.var 0) (.cons (.var 1) .nil))) (.cons (.call i_law_deep (.cons (.var 0) (.cons (.var 1) .nil))) .nil))))
def b_law_sets : S :=
  (.ret (.bi .tuple (.cons (.comp [3] (.nm 3) (.rng1 (.var 2)) .tyes x0_law_sets) .nil)))
def f_law_sets : Def := ⟨3, 4, b_law_sets⟩
/- law_ways: 0 cup, 1 names, 2 inner, 3 name, 4 way -/
def b_law_ways : S :=
  (.seq (.par [.nm false 3, .nm false 4] (.cons (.call i_law_some (.cons (.var 0) (.cons (.var 1) .nil))) (.cons (.call i_law_roll (.cons (.var 0) (.cons (.con (.int 3)) .nil))) .nil)))
    (.seq (.ite (.te (.cmp .eq (.var 4) (.con (.int 0)))) (.ret (.tup (.cons (.con (.str s_if)) (.cons (.call i_law_test (.cons (.var 0) (.cons (.var 1) .nil))) (.cons (.var 2) (.cons (.call i_law_sets (.cons (.var 0) (.cons (.var 1) (.cons (.call i_law_roll (.cons (.var 0) (.cons (.con (.int 2)) .nil))) .nil)))) .nil)))))) .skip)
    (.seq (.ite (.te (.cmp .eq (.var 4) (.con (.int 1)))) (.ret (.tup (.cons (.con (.str s_while)) (.cons (.call i_law_test (.cons (.var 0) (.cons (.var 1) .nil))) (.cons (.var 2) .nil))))) .skip)
    (.ret (.tup (.cons (.con (.str s_while)) (.cons (.tup (.cons (.con (.str s_off)) (.cons (.tup (.cons (.con (.str s_zero)) (.cons (.tup (.cons (.con (.str s_name)) (.cons (.var 3) .nil))) .nil))) .nil))) (.cons (.bin .add (.var 2) (.tup (.cons (.tup (.cons (.con (.str s_set)) (.cons (.var 3) (.cons (.tup (.cons (.con (.str s_sub)) (.cons (.tup (.cons (.con (.str s_name)) (.cons (.var 3) .nil))) (.cons (.tup (.cons (.con (.str s_num)) (.cons (.con (.int 1)) .nil))) .nil)))) .nil)))) .nil))) .nil))))))))
def f_law_ways : Def := ⟨3, 5, b_law_ways⟩
/- law_source: 0 cup, 1 most, 2 names, 3 found, 4 turn -/
def l0_law_source : S :=
  (.seq (.asg false (.nm 3) (.call i_law_some (.cons (.var 0) (.cons (.lst (.cons (.bin .add (.var 3) (.tup (.cons (.call i_law_ways (.cons (.var 0) (.cons (.var 2) (.cons (.call i_law_sets (.cons (.var 0) (.cons (.var 2) (.cons (.call i_law_roll (.cons (.var 0) (.cons (.con (.int 3)) .nil))) .nil)))) .nil)))) .nil))) (.cons (.tup (.cons (.call i_law_ways (.cons (.var 0) (.cons (.var 2) (.cons (.var 3) .nil)))) .nil)) .nil))) .nil))))
    (.asg false (.nm 3) (.bin .add (.var 3) (.call i_law_sets (.cons (.var 0) (.cons (.var 2) (.cons (.call i_law_roll (.cons (.var 0) (.cons (.con (.int 2)) .nil))) .nil)))))))
def b_law_source : S :=
  (.seq (.asg false (.nm 2) (.call i_law_some (.cons (.var 0) (.cons (.lst (.cons (.lst (.cons (.con (.str s_a)) .nil)) (.cons (.lst (.cons (.con (.str s_a)) (.cons (.con (.str s_b)) .nil))) (.cons (.lst (.cons (.con (.str s_a)) (.cons (.con (.str s_b)) (.cons (.con (.str s_c)) .nil)))) (.cons (.lst (.cons (.con (.str s_x)) (.cons (.con (.str s_doe)) (.cons (.con (.str s_total)) (.cons (.con (.str s_n)) .nil))))) .nil))))) .nil))))
    (.seq (.asg false (.nm 3) (.call i_law_sets (.cons (.var 0) (.cons (.var 2) (.cons (.call i_law_roll (.cons (.var 0) (.cons (.con (.int 3)) .nil))) .nil)))))
    (.seq (.for_ (.nm 4) (.rng1 (.call i_law_roll (.cons (.var 0) (.cons (.var 1) .nil)))) l0_law_source)
    (.ret (.var 3)))))
def f_law_source : Def := ⟨2, 5, b_law_source⟩
/- law_put: 0 side, 1 table, 2 pile, 3 own, 4 many -/
def l0_law_put : S :=
  (.ite (.te (.cmp .in_ (.idx (.var 3) (.con (.int 0))) (.tup (.cons (.con (.str s_num)) (.cons (.con (.str s_name)) .nil))))) (.exp (.mt .append (.var 2) (.cons (.ite (.te (.cmp .eq (.idx (.var 3) (.con (.int 0))) (.con (.str s_num)))) (.var 3) (.tup (.cons (.con (.str s_num)) (.cons (.mt .get (.var 1) (.cons (.idx (.var 3) (.con (.int 1))) (.cons (.con (.int 0)) .nil))) .nil)))) .nil))) (.seq (.asg false (.nm 4) (.bin .sub (.bi .len (.cons (.var 3) .nil)) (.con (.int 1))))
    (.asg true (.nm 2) (.bin .add (.sli (.var 2) .nil (.pv (.neg (.var 4)))) (.lst (.cons (.bin .add (.tup (.cons (.idx (.var 3) (.con (.int 0))) .nil)) (.bi .tuple (.cons (.rev (.sli (.var 2) (.pv (.neg (.var 4))) .nil)) .nil))) .nil))))))
def b_law_put : S :=
  (.seq (.asg true (.nm 2) (.lst .nil))
    (.seq (.for_ (.nm 3) (.wv (.rev (.call i_law_inner (.cons (.var 0) .nil)))) l0_law_put)
    (.ret (.idx (.var 2) (.con (.int 0))))))
def f_law_put : Def := ⟨2, 5, b_law_put⟩
/- law_side_worth: 0 width, 1 side, 2 table -/
def b_law_side_worth : S :=
  (.ret (.call i_law_worth (.cons (.var 0) (.cons (.call i_law_put (.cons (.var 1) (.cons (.var 2) .nil))) (.cons (.tup (.cons (.tup .nil) (.cons (.tup .nil) (.cons (.con (.int 0)) (.cons (.con (.int 0)) (.cons (.tup .nil) .nil)))))) .nil)))))
def f_law_side_worth : Def := ⟨3, 3, b_law_side_worth⟩
/- law_told: 0 table, 1 name -/
def k0_law_told : C :=
  (.te (.cmp .ne (.idx (.var 0) (.var 1)) (.con (.int 0))))
def x0_law_told : C :=
  (.tup (.cons (.var 1) (.cons (.idx (.var 0) (.var 1)) .nil)))
def b_law_told : S :=
  (.ret (.bi .tuple (.cons (.comp [1] (.nm 1) (.wv (.bi .sorted (.cons (.var 0) .nil))) k0_law_told x0_law_told) .nil)))
def f_law_told : Def := ⟨1, 2, b_law_told⟩
/- law_done: 0 width, 1 worths, 2 source, 3 many, 4 table, 5 pile, 6 done, 7 bits, 8 here, 9 bit -/
def t0_law_done : C :=
  (.tand (.te (.cmp .ne (.var 5) (.lst .nil))) (.te (.cmp .lt (.var 6) (.var 3))))
def l0_law_done : S :=
  (.seq (.par [.nm false 8, .nm false 6] (.cons (.idx (.var 5) (.neg (.con (.int 1)))) (.cons (.bin .add (.var 6) (.con (.int 1))) .nil)))
    (.seq (.ite (.te (.cmp .eq (.idx (.var 8) (.con (.int 0))) (.con (.str s_set)))) (.seq (.par [.sb (.var 4) (.idx (.var 8) (.con (.int 1))), .nm false 5] (.cons (.call i_law_side_worth (.cons (.var 0) (.cons (.idx (.var 8) (.con (.int 2))) (.cons (.var 4) .nil)))) (.cons (.sli (.var 5) .nil (.pv (.neg (.con (.int 1))))) .nil)))
    .cnt) .skip)
    (.seq (.asg false (.nm 9) (.call i_law_side_worth (.cons (.var 0) (.cons (.idx (.var 8) (.con (.int 1))) (.cons (.var 4) .nil)))))
    (.seq (.asg false (.nm 7) (.bin .add (.var 7) (.bi .str (.cons (.var 9) .nil))))
    (.ite (.te (.cmp .eq (.idx (.var 8) (.con (.int 0))) (.con (.str s_while)))) (.asg false (.nm 5) (.ite (.te (.cmp .eq (.var 9) (.con (.int 1)))) (.bin .add (.var 5) (.rev (.bi .list (.cons (.idx (.var 8) (.con (.int 2))) .nil)))) (.sli (.var 5) .nil (.pv (.neg (.con (.int 1))))))) (.asg false (.nm 5) (.bin .add (.sli (.var 5) .nil (.pv (.neg (.con (.int 1))))) (.rev (.bi .list (.cons (.idx (.var 8) (.ite (.te (.cmp .eq (.var 9) (.con (.int 1)))) (.con (.int 2)) (.con (.int 3)))) .nil))))))))))
def b_law_done : S :=
  (.seq (.par [.nm true 4, .nm false 5, .nm false 6, .nm false 7] (.cons (.bi .dict (.cons (.var 1) .nil)) (.cons (.rev (.bi .list (.cons (.var 2) .nil))) (.cons (.con (.int 0)) (.cons (.con (.str s__)) .nil)))))
    (.seq (.whl t0_law_done l0_law_done)
    (.ret (.tup (.cons (.call i_law_told (.cons (.var 4) .nil)) (.cons (.bi .tuple (.cons (.rev (.var 5)) .nil)) (.cons (.var 6) (.cons (.var 7) .nil))))))))
def f_law_done : Def := ⟨4, 10, b_law_done⟩
/- law_worths: 0 cup, 1 width, 2 name -/
def k0_law_worths : C :=
  (.te (.cmp .eq (.call i_law_roll (.cons (.var 0) (.cons (.con (.int 2)) .nil))) (.con (.int 0))))
def x0_law_worths : C :=
  (.tup (.cons (.var 2) (.cons (.call i_law_roll (.cons (.var 0) (.cons (.call i_law_power (.cons (.var 1) .nil)) .nil))) .nil)))
def b_law_worths : S :=
  (.ret (.bi .tuple (.cons (.comp [2] (.nm 2) (.wv (.lst (.cons (.con (.str s_a)) (.cons (.con (.str s_b)) (.cons (.con (.str s_total)) (.cons (.con (.str s_x)) .nil)))))) k0_law_worths x0_law_worths) .nil)))
def f_law_worths : Def := ⟨2, 3, b_law_worths⟩
/- law_right: 0 cup, 1 width, 2 source, 3 worths, 4 many, 5 due, 6 told, 7 ended, 8 part, 9 first, 10 more, 11 side, 12 table -/
def b_law_right : S :=
  (.seq (.par [.nm false 1, .nm false 2] (.cons (.bin .add (.con (.int 4)) (.call i_law_roll (.cons (.var 0) (.cons (.con (.int 5)) .nil)))) (.cons (.call i_law_source (.cons (.var 0) (.cons (.con (.int 4)) .nil))) .nil)))
    (.seq (.par [.nm false 3, .nm false 4] (.cons (.call i_law_worths (.cons (.var 0) (.cons (.var 1) .nil))) (.cons (.call i_law_roll (.cons (.var 0) (.cons (.con (.int 60)) .nil))) .nil)))
    (.seq (.asg false (.nm 5) (.call i_law_done (.cons (.var 1) (.cons (.var 3) (.cons (.var 2) (.cons (.var 4) .nil))))))
    (.seq (.asg false (.nm 6) (.tup (.cons (.call i_sources_source_run (.cons (.var 1) (.cons (.var 3) (.cons (.var 2) (.cons (.var 4) .nil))))) (.cons (.call i_sources_source_ways (.cons (.var 1) (.cons (.var 3) (.cons (.var 2) (.cons (.var 4) .nil))))) .nil))))
    (.seq (.ite (.tnot (.te (.call i_law_same (.cons (.var 6) (.cons (.tup (.cons (.sli (.var 5) .nil (.pv (.con (.int 3)))) (.cons (.idx (.var 5) (.con (.int 3))) .nil))) .nil))))) (.ret (.con (.bl false))) .skip)
    (.seq (.asg false (.nm 7) (.cmp .eq (.idx (.var 5) (.con (.int 1))) (.tup .nil)))
    (.seq (.asg false (.nm 6) (.tup (.cons (.call i_sources_source_end (.cons (.var 1) (.cons (.var 3) (.cons (.var 2) (.cons (.var 4) .nil))))) (.cons (.call i_sources_steps_to_end (.cons (.var 1) (.cons (.var 3) (.cons (.var 2) (.cons (.var 4) .nil))))) .nil))))
    (.seq (.ite (.tnot (.te (.call i_law_same (.cons (.var 6) (.cons (.tup (.cons (.ite (.te (.var 7)) (.idx (.var 5) (.con (.int 0))) (.con .non)) (.cons (.ite (.te (.var 7)) (.idx (.var 5) (.con (.int 2))) (.con .non)) .nil))) .nil))))) (.ret (.con (.bl false))) .skip)
    (.seq (.asg false (.nm 8) (.call i_law_roll (.cons (.var 0) (.cons (.bin .add (.var 4) (.con (.int 1))) .nil))))
    (.seq (.asg false (.nm 9) (.call i_sources_source_run (.cons (.var 1) (.cons (.var 3) (.cons (.var 2) (.cons (.var 8) .nil))))))
    (.seq (.asg false (.nm 10) (.call i_sources_source_run (.cons (.var 1) (.cons (.idx (.var 9) (.con (.int 0))) (.cons (.idx (.var 9) (.con (.int 1))) (.cons (.bin .sub (.var 4) (.var 8)) .nil))))))
    (.seq (.ite (.tnot (.te (.call i_law_same (.cons (.tup (.cons (.sli (.var 10) .nil (.pv (.con (.int 2)))) (.cons (.bin .add (.idx (.var 9) (.con (.int 2))) (.idx (.var 10) (.con (.int 2)))) .nil))) (.cons (.tup (.cons (.sli (.var 5) .nil (.pv (.con (.int 2)))) (.cons (.idx (.var 5) (.con (.int 2))) .nil))) .nil))))) (.ret (.con (.bl false))) .skip)
    (.seq (.ite (.tnot (.te (.call i_law_same (.cons (.call i_sources_source_step (.cons (.var 1) (.cons (.var 3) (.cons (.var 2) .nil)))) (.cons (.sli (.call i_law_done (.cons (.var 1) (.cons (.var 3) (.cons (.var 2) (.cons (.con (.int 1)) .nil))))) .nil (.pv (.con (.int 2)))) .nil))))) (.ret (.con (.bl false))) .skip)
    (.seq (.par [.nm false 11, .nm false 12] (.cons (.call i_law_some (.cons (.var 0) (.cons (.lst (.cons (.call i_law_deep (.cons (.var 0) (.cons (.lst (.cons (.con (.str s_a)) (.cons (.con (.str s_b)) .nil))) .nil))) (.cons (.call i_law_test (.cons (.var 0) (.cons (.lst (.cons (.con (.str s_x)) (.cons (.con (.str s_total)) .nil))) .nil))) .nil))) .nil))) (.cons (.bi .dict (.cons (.var 3) .nil)) .nil)))
    (.seq (.ite (.tnot (.te (.call i_law_same (.cons (.call i_sources_side_worth (.cons (.var 1) (.cons (.var 11) (.cons (.var 3) .nil)))) (.cons (.call i_law_side_worth (.cons (.var 1) (.cons (.var 11) (.cons (.var 12) .nil)))) .nil))))) (.ret (.con (.bl false))) .skip)
    (.seq (.asg false (.nm 11) (.call i_law_deep (.cons (.var 0) (.cons (.lst (.cons (.con (.str s_a)) (.cons (.con (.str s_total)) .nil))) .nil))))
    (.seq (.asg false (.nm 6) (.tup (.cons (.call i_words_folded (.cons (.var 1) (.cons (.call i_law_put (.cons (.var 11) (.cons (.var 12) .nil))) .nil))) (.cons (.call i_sources_side_worth (.cons (.var 1) (.cons (.var 11) (.cons (.var 3) .nil)))) .nil))))
    (.seq (.asg false (.nm 5) (.call i_law_side_worth (.cons (.var 1) (.cons (.var 11) (.cons (.var 12) .nil)))))
    (.ret (.call i_law_same (.cons (.var 6) (.cons (.tup (.cons (.tup (.cons (.con (.str s_num)) (.cons (.var 5) .nil))) (.cons (.var 5) .nil))) .nil))))))))))))))))))))))
def f_law_right : Def := ⟨1, 13, b_law_right⟩
/- law: 0 script, 1 cup, 2 turn, 3 width, 4 one, 5 other, 6 rows, 7 source, 8 told, 9 due -/
def l0_law : S :=
  (.ite (.tnot (.te (.call i_law_right (.cons (.var 1) .nil)))) (.ret (.con (.bl false))) .skip)
def b_law : S :=
  (.seq (.asg true (.nm 1) (.call i_law_cup (.cons (.var 0) .nil)))
    (.seq (.for_ (.nm 2) (.rng1 (.con (.int 5))) l0_law)
    (.seq (.asg false (.nm 3) (.bin .add (.con (.int 4)) (.call i_law_roll (.cons (.var 1) (.cons (.con (.int 5)) .nil)))))
    (.seq (.par [.nm false 4, .nm false 5] (.cons (.call i_law_roll (.cons (.var 1) (.cons (.call i_law_power (.cons (.var 3) .nil)) .nil))) (.cons (.call i_law_roll (.cons (.var 1) (.cons (.call i_law_power (.cons (.var 3) .nil)) .nil))) .nil)))
    (.seq (.asg false (.nm 6) (.tup (.cons (.tup (.cons (.con (.str s_set)) (.cons (.con (.str s_n)) (.cons (.tup (.cons (.con (.str s_sub)) (.cons (.tup (.cons (.con (.str s_name)) (.cons (.con (.str s_n)) .nil))) (.cons (.tup (.cons (.con (.str s_num)) (.cons (.con (.int 1)) .nil))) .nil)))) .nil)))) (.cons (.tup (.cons (.con (.str s_set)) (.cons (.con (.str s_sum)) (.cons (.tup (.cons (.con (.str s_add)) (.cons (.tup (.cons (.con (.str s_name)) (.cons (.con (.str s_sum)) .nil))) (.cons (.tup (.cons (.con (.str s_name)) (.cons (.con (.str s_m)) .nil))) .nil)))) .nil)))) .nil))))
    (.seq (.asg false (.nm 7) (.tup (.cons (.tup (.cons (.con (.str s_while)) (.cons (.tup (.cons (.con (.str s_off)) (.cons (.tup (.cons (.con (.str s_zero)) (.cons (.tup (.cons (.con (.str s_name)) (.cons (.con (.str s_n)) .nil))) .nil))) .nil))) (.cons (.var 6) .nil)))) .nil)))
    (.seq (.asg false (.nm 8) (.call i_sources_source_run (.cons (.var 3) (.cons (.tup (.cons (.tup (.cons (.con (.str s_m)) (.cons (.var 5) .nil))) (.cons (.tup (.cons (.con (.str s_n)) (.cons (.var 4) .nil))) .nil))) (.cons (.var 7) (.cons (.con (.int 2000)) .nil))))))
    (.seq (.asg false (.nm 9) (.call i_law_told (.cons (.dic false (.cons (.con (.str s_m)) (.cons (.var 5) (.cons (.con (.str s_sum)) (.cons (.bin .mod (.bin .mul (.var 4) (.var 5)) (.call i_law_power (.cons (.var 3) .nil))) .nil))))) .nil)))
    (.ret (.call i_law_same (.cons (.var 8) (.cons (.tup (.cons (.var 9) (.cons (.tup .nil) (.cons (.bin .add (.bin .mul (.con (.int 3)) (.var 4)) (.con (.int 1))) .nil)))) .nil))))))))))))
def f_law : Def := ⟨1, 10, b_law⟩
def e_words_is_whole : Nat × PySem.Str × Def × List PySem.Str := (0, (PySem.Str.ofString "is_whole"), f_words_is_whole, [(PySem.Str.ofString "value")])
def e_words_fits_whole : Nat × PySem.Str × Def × List PySem.Str := (1, (PySem.Str.ofString "fits_whole"), f_words_fits_whole, [(PySem.Str.ofString "value"), (PySem.Str.ofString "low"), (PySem.Str.ofString "high")])
def e_words_is_tuple_of : Nat × PySem.Str × Def × List PySem.Str := (2, (PySem.Str.ofString "is_tuple_of"), f_words_is_tuple_of, [(PySem.Str.ofString "value"), (PySem.Str.ofString "least"), (PySem.Str.ofString "most")])
def e_words_is_rising : Nat × PySem.Str × Def × List PySem.Str := (3, (PySem.Str.ofString "is_rising"), f_words_is_rising, [(PySem.Str.ofString "values"), (PySem.Str.ofString "one"), (PySem.Str.ofString "other")])
def e_words_power : Nat × PySem.Str × Def × List PySem.Str := (4, (PySem.Str.ofString "power"), f_words_power, [(PySem.Str.ofString "many"), (PySem.Str.ofString "found"), (PySem.Str.ofString "turn")])
def e_words_need_width : Nat × PySem.Str × Def × List PySem.Str := (5, (PySem.Str.ofString "need_width"), f_words_need_width, [(PySem.Str.ofString "value")])
def e_words_fits_letter : Nat × PySem.Str × Def × List PySem.Str := (6, (PySem.Str.ofString "fits_letter"), f_words_fits_letter, [(PySem.Str.ofString "value")])
def e_words_leaf_kind : Nat × PySem.Str × Def × List PySem.Str := (7, (PySem.Str.ofString "leaf_kind"), f_words_leaf_kind, [(PySem.Str.ofString "value")])
def e_words_wants_of : Nat × PySem.Str × Def × List PySem.Str := (8, (PySem.Str.ofString "wants_of"), f_words_wants_of, [(PySem.Str.ofString "value"), (PySem.Str.ofString "table")])
def e_words_kind_in : Nat × PySem.Str × Def × List PySem.Str := (9, (PySem.Str.ofString "kind_in_words"), f_words_kind_in, [(PySem.Str.ofString "value"), (PySem.Str.ofString "deep"), (PySem.Str.ofString "wants"), (PySem.Str.ofString "own")])
def e_words_inner_in : Nat × PySem.Str × Def × List PySem.Str := (10, (PySem.Str.ofString "inner_in"), f_words_inner_in, [(PySem.Str.ofString "term"), (PySem.Str.ofString "found"), (PySem.Str.ofString "line"), (PySem.Str.ofString "here"), (PySem.Str.ofString "own")])
def e_words_fits_term : Nat × PySem.Str × Def × List PySem.Str := (11, (PySem.Str.ofString "fits_term"), f_words_fits_term, [(PySem.Str.ofString "value")])
def e_words_need_term : Nat × PySem.Str × Def × List PySem.Str := (12, (PySem.Str.ofString "need_term"), f_words_need_term, [(PySem.Str.ofString "value")])
def e_words_done_in : Nat × PySem.Str × Def × List PySem.Str := (13, (PySem.Str.ofString "done_in"), f_words_done_in, [(PySem.Str.ofString "width"), (PySem.Str.ofString "word"), (PySem.Str.ofString "one"), (PySem.Str.ofString "other"), (PySem.Str.ofString "size")])
def e_words_folded_in : Nat × PySem.Str × Def × List PySem.Str := (14, (PySem.Str.ofString "folded_in"), f_words_folded_in, [(PySem.Str.ofString "width"), (PySem.Str.ofString "term"), (PySem.Str.ofString "parts"), (PySem.Str.ofString "own")])
def e_words_folded : Nat × PySem.Str × Def × List PySem.Str := (15, (PySem.Str.ofString "folded"), f_words_folded, [(PySem.Str.ofString "width"), (PySem.Str.ofString "term")])
def e_tables_fits_name : Nat × PySem.Str × Def × List PySem.Str := (16, (PySem.Str.ofString "fits_name"), f_tables_fits_name, [(PySem.Str.ofString "value"), (PySem.Str.ofString "sign")])
def e_sources_is_name : Nat × PySem.Str × Def × List PySem.Str := (17, (PySem.Str.ofString "is_name"), f_sources_is_name, [(PySem.Str.ofString "value")])
def e_sources_wants_in : Nat × PySem.Str × Def × List PySem.Str := (18, (PySem.Str.ofString "wants_in"), f_sources_wants_in, [(PySem.Str.ofString "word")])
def e_sources_kind_in : Nat × PySem.Str × Def × List PySem.Str := (19, (PySem.Str.ofString "kind_in_sources"), f_sources_kind_in, [(PySem.Str.ofString "value"), (PySem.Str.ofString "deep"), (PySem.Str.ofString "wants"), (PySem.Str.ofString "own")])
def e_sources_parts_in : Nat × PySem.Str × Def × List PySem.Str := (20, (PySem.Str.ofString "parts_in"), f_sources_parts_in, [(PySem.Str.ofString "side"), (PySem.Str.ofString "found"), (PySem.Str.ofString "line"), (PySem.Str.ofString "here"), (PySem.Str.ofString "own")])
def e_sources_fits_side : Nat × PySem.Str × Def × List PySem.Str := (21, (PySem.Str.ofString "fits_side"), f_sources_fits_side, [(PySem.Str.ofString "value"), (PySem.Str.ofString "kind")])
def e_sources_fits_statements : Nat × PySem.Str × Def × List PySem.Str := (22, (PySem.Str.ofString "fits_statements"), f_sources_fits_statements, [(PySem.Str.ofString "value"), (PySem.Str.ofString "deep"), (PySem.Str.ofString "one"), (PySem.Str.ofString "own")])
def e_sources_all_in : Nat × PySem.Str × Def × List PySem.Str := (23, (PySem.Str.ofString "all_in"), f_sources_all_in, [(PySem.Str.ofString "source"), (PySem.Str.ofString "found"), (PySem.Str.ofString "line"), (PySem.Str.ofString "here"), (PySem.Str.ofString "own"), (PySem.Str.ofString "one")])
def e_sources_sides_in : Nat × PySem.Str × Def × List PySem.Str := (24, (PySem.Str.ofString "sides_in"), f_sources_sides_in, [(PySem.Str.ofString "source"), (PySem.Str.ofString "one")])
def e_sources_set_in : Nat × PySem.Str × Def × List PySem.Str := (25, (PySem.Str.ofString "set_in"), f_sources_set_in, [(PySem.Str.ofString "source"), (PySem.Str.ofString "one")])
def e_sources_read_in : Nat × PySem.Str × Def × List PySem.Str := (26, (PySem.Str.ofString "read_in"), f_sources_read_in, [(PySem.Str.ofString "source"), (PySem.Str.ofString "side"), (PySem.Str.ofString "own")])
def e_sources_fits_some : Nat × PySem.Str × Def × List PySem.Str := (27, (PySem.Str.ofString "fits_some"), f_sources_fits_some, [(PySem.Str.ofString "value"), (PySem.Str.ofString "many")])
def e_sources_fits_worths : Nat × PySem.Str × Def × List PySem.Str := (28, (PySem.Str.ofString "fits_worths"), f_sources_fits_worths, [(PySem.Str.ofString "width"), (PySem.Str.ofString "value"), (PySem.Str.ofString "one"), (PySem.Str.ofString "name"), (PySem.Str.ofString "worth")])
def e_sources_need_run : Nat × PySem.Str × Def × List PySem.Str := (29, (PySem.Str.ofString "need_run"), f_sources_need_run, [(PySem.Str.ofString "width"), (PySem.Str.ofString "worths"), (PySem.Str.ofString "rest")])
def e_sources_need_steps : Nat × PySem.Str × Def × List PySem.Str := (30, (PySem.Str.ofString "need_steps"), f_sources_need_steps, [(PySem.Str.ofString "value")])
def e_sources_worth_in : Nat × PySem.Str × Def × List PySem.Str := (31, (PySem.Str.ofString "worth_in"), f_sources_worth_in, [(PySem.Str.ofString "width"), (PySem.Str.ofString "side"), (PySem.Str.ofString "table"), (PySem.Str.ofString "worths"), (PySem.Str.ofString "own")])
def e_sources_step_in : Nat × PySem.Str × Def × List PySem.Str := (32, (PySem.Str.ofString "step_in"), f_sources_step_in, [(PySem.Str.ofString "width"), (PySem.Str.ofString "table"), (PySem.Str.ofString "rest"), (PySem.Str.ofString "here"), (PySem.Str.ofString "later"), (PySem.Str.ofString "good")])
def e_sources_told_in : Nat × PySem.Str × Def × List PySem.Str := (33, (PySem.Str.ofString "told_in"), f_sources_told_in, [(PySem.Str.ofString "table"), (PySem.Str.ofString "name")])
def e_sources_run_in : Nat × PySem.Str × Def × List PySem.Str := (34, (PySem.Str.ofString "run_in"), f_sources_run_in, [(PySem.Str.ofString "width"), (PySem.Str.ofString "worths"), (PySem.Str.ofString "rest"), (PySem.Str.ofString "many"), (PySem.Str.ofString "table"), (PySem.Str.ofString "done")])
def e_sources_is_side : Nat × PySem.Str × Def × List PySem.Str := (35, (PySem.Str.ofString "is_side"), f_sources_is_side, [(PySem.Str.ofString "value")])
def e_sources_side_worth : Nat × PySem.Str × Def × List PySem.Str := (36, (PySem.Str.ofString "side_worth"), f_sources_side_worth, [(PySem.Str.ofString "width"), (PySem.Str.ofString "side"), (PySem.Str.ofString "worths")])
def e_sources_source_step : Nat × PySem.Str × Def × List PySem.Str := (37, (PySem.Str.ofString "source_step"), f_sources_source_step, [(PySem.Str.ofString "width"), (PySem.Str.ofString "worths"), (PySem.Str.ofString "rest")])
def e_sources_source_run : Nat × PySem.Str × Def × List PySem.Str := (38, (PySem.Str.ofString "source_run"), f_sources_source_run, [(PySem.Str.ofString "width"), (PySem.Str.ofString "worths"), (PySem.Str.ofString "rest"), (PySem.Str.ofString "many")])
def e_sources_source_end : Nat × PySem.Str × Def × List PySem.Str := (39, (PySem.Str.ofString "source_end"), f_sources_source_end, [(PySem.Str.ofString "width"), (PySem.Str.ofString "worths"), (PySem.Str.ofString "source"), (PySem.Str.ofString "many"), (PySem.Str.ofString "found")])
def e_sources_source_ways : Nat × PySem.Str × Def × List PySem.Str := (40, (PySem.Str.ofString "source_ways"), f_sources_source_ways, [(PySem.Str.ofString "width"), (PySem.Str.ofString "worths"), (PySem.Str.ofString "source"), (PySem.Str.ofString "many"), (PySem.Str.ofString "table"), (PySem.Str.ofString "found"), (PySem.Str.ofString "turn")])
def e_sources_steps_to_end : Nat × PySem.Str × Def × List PySem.Str := (41, (PySem.Str.ofString "steps_to_end"), f_sources_steps_to_end, [(PySem.Str.ofString "width"), (PySem.Str.ofString "worths"), (PySem.Str.ofString "source"), (PySem.Str.ofString "many"), (PySem.Str.ofString "found")])
def e_law_cup : Nat × PySem.Str × Def × List PySem.Str := (42, (PySem.Str.ofString "_law_cup"), f_law_cup, [(PySem.Str.ofString "script"), (PySem.Str.ofString "cell")])
def e_law_roll : Nat × PySem.Str × Def × List PySem.Str := (43, (PySem.Str.ofString "_law_roll"), f_law_roll, [(PySem.Str.ofString "cup"), (PySem.Str.ofString "many"), (PySem.Str.ofString "found"), (PySem.Str.ofString "deep")])
def e_law_some : Nat × PySem.Str × Def × List PySem.Str := (44, (PySem.Str.ofString "_law_some"), f_law_some, [(PySem.Str.ofString "cup"), (PySem.Str.ofString "things")])
def e_law_same : Nat × PySem.Str × Def × List PySem.Str := (45, (PySem.Str.ofString "_law_same"), f_law_same, [(PySem.Str.ofString "told"), (PySem.Str.ofString "due"), (PySem.Str.ofString "at")])
def e_law_power : Nat × PySem.Str × Def × List PySem.Str := (46, (PySem.Str.ofString "_law_power"), f_law_power, [(PySem.Str.ofString "many"), (PySem.Str.ofString "found"), (PySem.Str.ofString "turn")])
def e_law_inner : Nat × PySem.Str × Def × List PySem.Str := (47, (PySem.Str.ofString "_law_inner"), f_law_inner, [(PySem.Str.ofString "term"), (PySem.Str.ofString "found"), (PySem.Str.ofString "line"), (PySem.Str.ofString "here"), (PySem.Str.ofString "own")])
def e_law_leaf : Nat × PySem.Str × Def × List PySem.Str := (48, (PySem.Str.ofString "_law_leaf"), f_law_leaf, [(PySem.Str.ofString "width"), (PySem.Str.ofString "term"), (PySem.Str.ofString "scene"), (PySem.Str.ofString "registers"), (PySem.Str.ofString "cells"), (PySem.Str.ofString "flag"), (PySem.Str.ofString "place"), (PySem.Str.ofString "fields"), (PySem.Str.ofString "numbers"), (PySem.Str.ofString "letter"), (PySem.Str.ofString "bits"), (PySem.Str.ofString "number"), (PySem.Str.ofString "sizes"), (PySem.Str.ofString "half")])
def e_law_worth : Nat × PySem.Str × Def × List PySem.Str := (49, (PySem.Str.ofString "_law_worth"), f_law_worth, [(PySem.Str.ofString "width"), (PySem.Str.ofString "term"), (PySem.Str.ofString "scene"), (PySem.Str.ofString "size"), (PySem.Str.ofString "pile"), (PySem.Str.ofString "own"), (PySem.Str.ofString "worth"), (PySem.Str.ofString "one"), (PySem.Str.ofString "two"), (PySem.Str.ofString "table")])
def e_law_tip : Nat × PySem.Str × Def × List PySem.Str := (50, (PySem.Str.ofString "_law_tip"), f_law_tip, [(PySem.Str.ofString "cup"), (PySem.Str.ofString "names")])
def e_law_small : Nat × PySem.Str × Def × List PySem.Str := (51, (PySem.Str.ofString "_law_small"), f_law_small, [(PySem.Str.ofString "cup"), (PySem.Str.ofString "names"), (PySem.Str.ofString "tip"), (PySem.Str.ofString "more"), (PySem.Str.ofString "two"), (PySem.Str.ofString "one")])
def e_law_deep : Nat × PySem.Str × Def × List PySem.Str := (52, (PySem.Str.ofString "_law_deep"), f_law_deep, [(PySem.Str.ofString "cup"), (PySem.Str.ofString "names"), (PySem.Str.ofString "left"), (PySem.Str.ofString "right")])
def e_law_test : Nat × PySem.Str × Def × List PySem.Str := (53, (PySem.Str.ofString "_law_test"), f_law_test, [(PySem.Str.ofString "cup"), (PySem.Str.ofString "names"), (PySem.Str.ofString "left"), (PySem.Str.ofString "right"), (PySem.Str.ofString "tip")])
def e_law_sets : Nat × PySem.Str × Def × List PySem.Str := (54, (PySem.Str.ofString "_law_sets"), f_law_sets, [(PySem.Str.ofString "cup"), (PySem.Str.ofString "names"), (PySem.Str.ofString "many"), (PySem.Str.ofString "turn")])
def e_law_ways : Nat × PySem.Str × Def × List PySem.Str := (55, (PySem.Str.ofString "_law_ways"), f_law_ways, [(PySem.Str.ofString "cup"), (PySem.Str.ofString "names"), (PySem.Str.ofString "inner"), (PySem.Str.ofString "name"), (PySem.Str.ofString "way")])
def e_law_source : Nat × PySem.Str × Def × List PySem.Str := (56, (PySem.Str.ofString "_law_source"), f_law_source, [(PySem.Str.ofString "cup"), (PySem.Str.ofString "most"), (PySem.Str.ofString "names"), (PySem.Str.ofString "found"), (PySem.Str.ofString "turn")])
def e_law_put : Nat × PySem.Str × Def × List PySem.Str := (57, (PySem.Str.ofString "_law_put"), f_law_put, [(PySem.Str.ofString "side"), (PySem.Str.ofString "table"), (PySem.Str.ofString "pile"), (PySem.Str.ofString "own"), (PySem.Str.ofString "many")])
def e_law_side_worth : Nat × PySem.Str × Def × List PySem.Str := (58, (PySem.Str.ofString "_law_side_worth"), f_law_side_worth, [(PySem.Str.ofString "width"), (PySem.Str.ofString "side"), (PySem.Str.ofString "table")])
def e_law_told : Nat × PySem.Str × Def × List PySem.Str := (59, (PySem.Str.ofString "_law_told"), f_law_told, [(PySem.Str.ofString "table"), (PySem.Str.ofString "name")])
def e_law_done : Nat × PySem.Str × Def × List PySem.Str := (60, (PySem.Str.ofString "_law_done"), f_law_done, [(PySem.Str.ofString "width"), (PySem.Str.ofString "worths"), (PySem.Str.ofString "source"), (PySem.Str.ofString "many"), (PySem.Str.ofString "table"), (PySem.Str.ofString "pile"), (PySem.Str.ofString "done"), (PySem.Str.ofString "bits"), (PySem.Str.ofString "here"), (PySem.Str.ofString "bit")])
def e_law_worths : Nat × PySem.Str × Def × List PySem.Str := (61, (PySem.Str.ofString "_law_worths"), f_law_worths, [(PySem.Str.ofString "cup"), (PySem.Str.ofString "width"), (PySem.Str.ofString "name")])
def e_law_right : Nat × PySem.Str × Def × List PySem.Str := (62, (PySem.Str.ofString "_law_right"), f_law_right, [(PySem.Str.ofString "cup"), (PySem.Str.ofString "width"), (PySem.Str.ofString "source"), (PySem.Str.ofString "worths"), (PySem.Str.ofString "many"), (PySem.Str.ofString "due"), (PySem.Str.ofString "told"), (PySem.Str.ofString "ended"), (PySem.Str.ofString "part"), (PySem.Str.ofString "first"), (PySem.Str.ofString "more"), (PySem.Str.ofString "side"), (PySem.Str.ofString "table")])
def e_law : Nat × PySem.Str × Def × List PySem.Str := (63, (PySem.Str.ofString "law"), f_law, [(PySem.Str.ofString "script"), (PySem.Str.ofString "cup"), (PySem.Str.ofString "turn"), (PySem.Str.ofString "width"), (PySem.Str.ofString "one"), (PySem.Str.ofString "other"), (PySem.Str.ofString "rows"), (PySem.Str.ofString "source"), (PySem.Str.ofString "told"), (PySem.Str.ofString "due")])
def tab : Tbl where
  fs := [e_words_is_whole, e_words_fits_whole, e_words_is_tuple_of, e_words_is_rising, e_words_power, e_words_need_width, e_words_fits_letter, e_words_leaf_kind, e_words_wants_of, e_words_kind_in, e_words_inner_in, e_words_fits_term, e_words_need_term, e_words_done_in, e_words_folded_in, e_words_folded, e_tables_fits_name, e_sources_is_name, e_sources_wants_in, e_sources_kind_in, e_sources_parts_in, e_sources_fits_side, e_sources_fits_statements, e_sources_all_in, e_sources_sides_in, e_sources_set_in, e_sources_read_in, e_sources_fits_some, e_sources_fits_worths, e_sources_need_run, e_sources_need_steps, e_sources_worth_in, e_sources_step_in, e_sources_told_in, e_sources_run_in, e_sources_is_side, e_sources_side_worth, e_sources_source_step, e_sources_source_run, e_sources_source_end, e_sources_source_ways, e_sources_steps_to_end, e_law_cup, e_law_roll, e_law_some, e_law_same, e_law_power, e_law_inner, e_law_leaf, e_law_worth, e_law_tip, e_law_small, e_law_deep, e_law_test, e_law_sets, e_law_ways, e_law_source, e_law_put, e_law_side_worth, e_law_told, e_law_done, e_law_worths, e_law_right, e_law]
  cs := [((PySem.Str.ofString "LOW"), c_words_LOW), ((PySem.Str.ofString "HIGH"), c_words_HIGH), ((PySem.Str.ofString "DEEP_words"), c_words_DEEP), ((PySem.Str.ofString "NODES"), c_words_NODES), ((PySem.Str.ofString "LETTERS"), c_words_LETTERS), ((PySem.Str.ofString "TWO"), c_words_TWO), ((PySem.Str.ofString "ONE"), c_words_ONE), ((PySem.Str.ofString "REGISTERS"), c_words_REGISTERS), ((PySem.Str.ofString "NAME"), c_tables_NAME), ((PySem.Str.ofString "SMALL"), c_tables_SMALL), ((PySem.Str.ofString "DEEP_sources"), c_sources_DEEP), ((PySem.Str.ofString "SIDE"), c_sources_SIDE), ((PySem.Str.ofString "PARTS"), c_sources_PARTS), ((PySem.Str.ofString "RESTS"), c_sources_RESTS), ((PySem.Str.ofString "NAMES"), c_sources_NAMES), ((PySem.Str.ofString "STEPS"), c_sources_STEPS), ((PySem.Str.ofString "KEYS"), c_sources_KEYS)]
  ds := [((PySem.Str.ofString "WANTS"), k_sources_WANTS), ((PySem.Str.ofString "SIZES"), k_sources_SIZES)]
theorem d_words_is_whole : tab.defs i_words_is_whole = some f_words_is_whole := rfl
theorem d_words_fits_whole : tab.defs i_words_fits_whole = some f_words_fits_whole := rfl
theorem d_words_is_tuple_of : tab.defs i_words_is_tuple_of = some f_words_is_tuple_of := rfl
theorem d_words_is_rising : tab.defs i_words_is_rising = some f_words_is_rising := rfl
theorem d_words_power : tab.defs i_words_power = some f_words_power := rfl
theorem d_words_need_width : tab.defs i_words_need_width = some f_words_need_width := rfl
theorem d_words_fits_letter : tab.defs i_words_fits_letter = some f_words_fits_letter := rfl
theorem d_words_leaf_kind : tab.defs i_words_leaf_kind = some f_words_leaf_kind := rfl
theorem d_words_wants_of : tab.defs i_words_wants_of = some f_words_wants_of := rfl
theorem d_words_kind_in : tab.defs i_words_kind_in = some f_words_kind_in := rfl
theorem d_words_inner_in : tab.defs i_words_inner_in = some f_words_inner_in := rfl
theorem d_words_fits_term : tab.defs i_words_fits_term = some f_words_fits_term := rfl
theorem d_words_need_term : tab.defs i_words_need_term = some f_words_need_term := rfl
theorem d_words_done_in : tab.defs i_words_done_in = some f_words_done_in := rfl
theorem d_words_folded_in : tab.defs i_words_folded_in = some f_words_folded_in := rfl
theorem d_words_folded : tab.defs i_words_folded = some f_words_folded := rfl
theorem d_tables_fits_name : tab.defs i_tables_fits_name = some f_tables_fits_name := rfl
theorem d_sources_is_name : tab.defs i_sources_is_name = some f_sources_is_name := rfl
theorem d_sources_wants_in : tab.defs i_sources_wants_in = some f_sources_wants_in := rfl
theorem d_sources_kind_in : tab.defs i_sources_kind_in = some f_sources_kind_in := rfl
theorem d_sources_parts_in : tab.defs i_sources_parts_in = some f_sources_parts_in := rfl
theorem d_sources_fits_side : tab.defs i_sources_fits_side = some f_sources_fits_side := rfl
theorem d_sources_fits_statements : tab.defs i_sources_fits_statements = some f_sources_fits_statements := rfl
theorem d_sources_all_in : tab.defs i_sources_all_in = some f_sources_all_in := rfl
theorem d_sources_sides_in : tab.defs i_sources_sides_in = some f_sources_sides_in := rfl
theorem d_sources_set_in : tab.defs i_sources_set_in = some f_sources_set_in := rfl
theorem d_sources_read_in : tab.defs i_sources_read_in = some f_sources_read_in := rfl
theorem d_sources_fits_some : tab.defs i_sources_fits_some = some f_sources_fits_some := rfl
theorem d_sources_fits_worths : tab.defs i_sources_fits_worths = some f_sources_fits_worths := rfl
theorem d_sources_need_run : tab.defs i_sources_need_run = some f_sources_need_run := rfl
theorem d_sources_need_steps : tab.defs i_sources_need_steps = some f_sources_need_steps := rfl
theorem d_sources_worth_in : tab.defs i_sources_worth_in = some f_sources_worth_in := rfl
theorem d_sources_step_in : tab.defs i_sources_step_in = some f_sources_step_in := rfl
theorem d_sources_told_in : tab.defs i_sources_told_in = some f_sources_told_in := rfl
theorem d_sources_run_in : tab.defs i_sources_run_in = some f_sources_run_in := rfl
theorem d_sources_is_side : tab.defs i_sources_is_side = some f_sources_is_side := rfl
theorem d_sources_side_worth : tab.defs i_sources_side_worth = some f_sources_side_worth := rfl
theorem d_sources_source_step : tab.defs i_sources_source_step = some f_sources_source_step := rfl
theorem d_sources_source_run : tab.defs i_sources_source_run = some f_sources_source_run := rfl
theorem d_sources_source_end : tab.defs i_sources_source_end = some f_sources_source_end := rfl
theorem d_sources_source_ways : tab.defs i_sources_source_ways = some f_sources_source_ways := rfl
theorem d_sources_steps_to_end : tab.defs i_sources_steps_to_end = some f_sources_steps_to_end := rfl
theorem d_law_cup : tab.defs i_law_cup = some f_law_cup := rfl
theorem d_law_roll : tab.defs i_law_roll = some f_law_roll := rfl
theorem d_law_some : tab.defs i_law_some = some f_law_some := rfl
theorem d_law_same : tab.defs i_law_same = some f_law_same := rfl
theorem d_law_power : tab.defs i_law_power = some f_law_power := rfl
theorem d_law_inner : tab.defs i_law_inner = some f_law_inner := rfl
theorem d_law_leaf : tab.defs i_law_leaf = some f_law_leaf := rfl
theorem d_law_worth : tab.defs i_law_worth = some f_law_worth := rfl
theorem d_law_tip : tab.defs i_law_tip = some f_law_tip := rfl
theorem d_law_small : tab.defs i_law_small = some f_law_small := rfl
theorem d_law_deep : tab.defs i_law_deep = some f_law_deep := rfl
theorem d_law_test : tab.defs i_law_test = some f_law_test := rfl
theorem d_law_sets : tab.defs i_law_sets = some f_law_sets := rfl
theorem d_law_ways : tab.defs i_law_ways = some f_law_ways := rfl
theorem d_law_source : tab.defs i_law_source = some f_law_source := rfl
theorem d_law_put : tab.defs i_law_put = some f_law_put := rfl
theorem d_law_side_worth : tab.defs i_law_side_worth = some f_law_side_worth := rfl
theorem d_law_told : tab.defs i_law_told = some f_law_told := rfl
theorem d_law_done : tab.defs i_law_done = some f_law_done := rfl
theorem d_law_worths : tab.defs i_law_worths = some f_law_worths := rfl
theorem d_law_right : tab.defs i_law_right = some f_law_right := rfl
theorem d_law : tab.defs i_law = some f_law := rfl
end Mini
set_option autoImplicit false
set_option maxRecDepth 100000
namespace Mini
theorem q_add : ¬ s_add = s_sub ∧ ¬ s_add = s_and ∧ ¬ s_add = s_or ∧ ¬ s_add = s_xor ∧ ¬ s_add = s_not ∧ ¬ s_add = s_up ∧ ¬ s_add = s_down ∧ ¬ s_add = s_zero ∧ ¬ s_add = s_less ∧ ¬ s_add = s_off ∧ ¬ s_add = s_num ∧ ¬ s_add = s_name ∧ ¬ s_add = s_set ∧ ¬ s_add = s_if ∧ ¬ s_add = s_while ∧ ¬ s_add = s_place ∧ ¬ s_add = s_flag ∧ ¬ s_add = s_field ∧ ¬ s_add = s_signed ∧ ¬ s_add = s_reg ∧ ¬ s_add = s_cell ∧ ¬ s_add = s_word ∧ ¬ s_add = s_bit ∧ ¬ s_add = s__ ∧ ¬ s_add = s_do ∧ ¬ s_add = s_else ∧ ¬ s_add = s_end := by decide +kernel
theorem q_sub : ¬ s_sub = s_add ∧ ¬ s_sub = s_and ∧ ¬ s_sub = s_or ∧ ¬ s_sub = s_xor ∧ ¬ s_sub = s_not ∧ ¬ s_sub = s_up ∧ ¬ s_sub = s_down ∧ ¬ s_sub = s_zero ∧ ¬ s_sub = s_less ∧ ¬ s_sub = s_off ∧ ¬ s_sub = s_num ∧ ¬ s_sub = s_name ∧ ¬ s_sub = s_set ∧ ¬ s_sub = s_if ∧ ¬ s_sub = s_while ∧ ¬ s_sub = s_place ∧ ¬ s_sub = s_flag ∧ ¬ s_sub = s_field ∧ ¬ s_sub = s_signed ∧ ¬ s_sub = s_reg ∧ ¬ s_sub = s_cell ∧ ¬ s_sub = s_word ∧ ¬ s_sub = s_bit ∧ ¬ s_sub = s__ ∧ ¬ s_sub = s_do ∧ ¬ s_sub = s_else ∧ ¬ s_sub = s_end := by decide +kernel
theorem q_and : ¬ s_and = s_add ∧ ¬ s_and = s_sub ∧ ¬ s_and = s_or ∧ ¬ s_and = s_xor ∧ ¬ s_and = s_not ∧ ¬ s_and = s_up ∧ ¬ s_and = s_down ∧ ¬ s_and = s_zero ∧ ¬ s_and = s_less ∧ ¬ s_and = s_off ∧ ¬ s_and = s_num ∧ ¬ s_and = s_name ∧ ¬ s_and = s_set ∧ ¬ s_and = s_if ∧ ¬ s_and = s_while ∧ ¬ s_and = s_place ∧ ¬ s_and = s_flag ∧ ¬ s_and = s_field ∧ ¬ s_and = s_signed ∧ ¬ s_and = s_reg ∧ ¬ s_and = s_cell ∧ ¬ s_and = s_word ∧ ¬ s_and = s_bit ∧ ¬ s_and = s__ ∧ ¬ s_and = s_do ∧ ¬ s_and = s_else ∧ ¬ s_and = s_end := by decide +kernel
theorem q_or : ¬ s_or = s_add ∧ ¬ s_or = s_sub ∧ ¬ s_or = s_and ∧ ¬ s_or = s_xor ∧ ¬ s_or = s_not ∧ ¬ s_or = s_up ∧ ¬ s_or = s_down ∧ ¬ s_or = s_zero ∧ ¬ s_or = s_less ∧ ¬ s_or = s_off ∧ ¬ s_or = s_num ∧ ¬ s_or = s_name ∧ ¬ s_or = s_set ∧ ¬ s_or = s_if ∧ ¬ s_or = s_while ∧ ¬ s_or = s_place ∧ ¬ s_or = s_flag ∧ ¬ s_or = s_field ∧ ¬ s_or = s_signed ∧ ¬ s_or = s_reg ∧ ¬ s_or = s_cell ∧ ¬ s_or = s_word ∧ ¬ s_or = s_bit ∧ ¬ s_or = s__ ∧ ¬ s_or = s_do ∧ ¬ s_or = s_else ∧ ¬ s_or = s_end := by decide +kernel
theorem q_xor : ¬ s_xor = s_add ∧ ¬ s_xor = s_sub ∧ ¬ s_xor = s_and ∧ ¬ s_xor = s_or ∧ ¬ s_xor = s_not ∧ ¬ s_xor = s_up ∧ ¬ s_xor = s_down ∧ ¬ s_xor = s_zero ∧ ¬ s_xor = s_less ∧ ¬ s_xor = s_off ∧ ¬ s_xor = s_num ∧ ¬ s_xor = s_name ∧ ¬ s_xor = s_set ∧ ¬ s_xor = s_if ∧ ¬ s_xor = s_while ∧ ¬ s_xor = s_place ∧ ¬ s_xor = s_flag ∧ ¬ s_xor = s_field ∧ ¬ s_xor = s_signed ∧ ¬ s_xor = s_reg ∧ ¬ s_xor = s_cell ∧ ¬ s_xor = s_word ∧ ¬ s_xor = s_bit ∧ ¬ s_xor = s__ ∧ ¬ s_xor = s_do ∧ ¬ s_xor = s_else ∧ ¬ s_xor = s_end := by decide +kernel
theorem q_not : ¬ s_not = s_add ∧ ¬ s_not = s_sub ∧ ¬ s_not = s_and ∧ ¬ s_not = s_or ∧ ¬ s_not = s_xor ∧ ¬ s_not = s_up ∧ ¬ s_not = s_down ∧ ¬ s_not = s_zero ∧ ¬ s_not = s_less ∧ ¬ s_not = s_off ∧ ¬ s_not = s_num ∧ ¬ s_not = s_name ∧ ¬ s_not = s_set ∧ ¬ s_not = s_if ∧ ¬ s_not = s_while ∧ ¬ s_not = s_place ∧ ¬ s_not = s_flag ∧ ¬ s_not = s_field ∧ ¬ s_not = s_signed ∧ ¬ s_not = s_reg ∧ ¬ s_not = s_cell ∧ ¬ s_not = s_word ∧ ¬ s_not = s_bit ∧ ¬ s_not = s__ ∧ ¬ s_not = s_do ∧ ¬ s_not = s_else ∧ ¬ s_not = s_end := by decide +kernel
theorem q_up : ¬ s_up = s_add ∧ ¬ s_up = s_sub ∧ ¬ s_up = s_and ∧ ¬ s_up = s_or ∧ ¬ s_up = s_xor ∧ ¬ s_up = s_not ∧ ¬ s_up = s_down ∧ ¬ s_up = s_zero ∧ ¬ s_up = s_less ∧ ¬ s_up = s_off ∧ ¬ s_up = s_num ∧ ¬ s_up = s_name ∧ ¬ s_up = s_set ∧ ¬ s_up = s_if ∧ ¬ s_up = s_while ∧ ¬ s_up = s_place ∧ ¬ s_up = s_flag ∧ ¬ s_up = s_field ∧ ¬ s_up = s_signed ∧ ¬ s_up = s_reg ∧ ¬ s_up = s_cell ∧ ¬ s_up = s_word ∧ ¬ s_up = s_bit ∧ ¬ s_up = s__ ∧ ¬ s_up = s_do ∧ ¬ s_up = s_else ∧ ¬ s_up = s_end := by decide +kernel
theorem q_down : ¬ s_down = s_add ∧ ¬ s_down = s_sub ∧ ¬ s_down = s_and ∧ ¬ s_down = s_or ∧ ¬ s_down = s_xor ∧ ¬ s_down = s_not ∧ ¬ s_down = s_up ∧ ¬ s_down = s_zero ∧ ¬ s_down = s_less ∧ ¬ s_down = s_off ∧ ¬ s_down = s_num ∧ ¬ s_down = s_name ∧ ¬ s_down = s_set ∧ ¬ s_down = s_if ∧ ¬ s_down = s_while ∧ ¬ s_down = s_place ∧ ¬ s_down = s_flag ∧ ¬ s_down = s_field ∧ ¬ s_down = s_signed ∧ ¬ s_down = s_reg ∧ ¬ s_down = s_cell ∧ ¬ s_down = s_word ∧ ¬ s_down = s_bit ∧ ¬ s_down = s__ ∧ ¬ s_down = s_do ∧ ¬ s_down = s_else ∧ ¬ s_down = s_end := by decide +kernel
theorem q_zero : ¬ s_zero = s_add ∧ ¬ s_zero = s_sub ∧ ¬ s_zero = s_and ∧ ¬ s_zero = s_or ∧ ¬ s_zero = s_xor ∧ ¬ s_zero = s_not ∧ ¬ s_zero = s_up ∧ ¬ s_zero = s_down ∧ ¬ s_zero = s_less ∧ ¬ s_zero = s_off ∧ ¬ s_zero = s_num ∧ ¬ s_zero = s_name ∧ ¬ s_zero = s_set ∧ ¬ s_zero = s_if ∧ ¬ s_zero = s_while ∧ ¬ s_zero = s_place ∧ ¬ s_zero = s_flag ∧ ¬ s_zero = s_field ∧ ¬ s_zero = s_signed ∧ ¬ s_zero = s_reg ∧ ¬ s_zero = s_cell ∧ ¬ s_zero = s_word ∧ ¬ s_zero = s_bit ∧ ¬ s_zero = s__ ∧ ¬ s_zero = s_do ∧ ¬ s_zero = s_else ∧ ¬ s_zero = s_end := by decide +kernel
theorem q_less : ¬ s_less = s_add ∧ ¬ s_less = s_sub ∧ ¬ s_less = s_and ∧ ¬ s_less = s_or ∧ ¬ s_less = s_xor ∧ ¬ s_less = s_not ∧ ¬ s_less = s_up ∧ ¬ s_less = s_down ∧ ¬ s_less = s_zero ∧ ¬ s_less = s_off ∧ ¬ s_less = s_num ∧ ¬ s_less = s_name ∧ ¬ s_less = s_set ∧ ¬ s_less = s_if ∧ ¬ s_less = s_while ∧ ¬ s_less = s_place ∧ ¬ s_less = s_flag ∧ ¬ s_less = s_field ∧ ¬ s_less = s_signed ∧ ¬ s_less = s_reg ∧ ¬ s_less = s_cell ∧ ¬ s_less = s_word ∧ ¬ s_less = s_bit ∧ ¬ s_less = s__ ∧ ¬ s_less = s_do ∧ ¬ s_less = s_else ∧ ¬ s_less = s_end := by decide +kernel
theorem q_off : ¬ s_off = s_add ∧ ¬ s_off = s_sub ∧ ¬ s_off = s_and ∧ ¬ s_off = s_or ∧ ¬ s_off = s_xor ∧ ¬ s_off = s_not ∧ ¬ s_off = s_up ∧ ¬ s_off = s_down ∧ ¬ s_off = s_zero ∧ ¬ s_off = s_less ∧ ¬ s_off = s_num ∧ ¬ s_off = s_name ∧ ¬ s_off = s_set ∧ ¬ s_off = s_if ∧ ¬ s_off = s_while ∧ ¬ s_off = s_place ∧ ¬ s_off = s_flag ∧ ¬ s_off = s_field ∧ ¬ s_off = s_signed ∧ ¬ s_off = s_reg ∧ ¬ s_off = s_cell ∧ ¬ s_off = s_word ∧ ¬ s_off = s_bit ∧ ¬ s_off = s__ ∧ ¬ s_off = s_do ∧ ¬ s_off = s_else ∧ ¬ s_off = s_end := by decide +kernel
theorem q_num : ¬ s_num = s_add ∧ ¬ s_num = s_sub ∧ ¬ s_num = s_and ∧ ¬ s_num = s_or ∧ ¬ s_num = s_xor ∧ ¬ s_num = s_not ∧ ¬ s_num = s_up ∧ ¬ s_num = s_down ∧ ¬ s_num = s_zero ∧ ¬ s_num = s_less ∧ ¬ s_num = s_off ∧ ¬ s_num = s_name ∧ ¬ s_num = s_set ∧ ¬ s_num = s_if ∧ ¬ s_num = s_while ∧ ¬ s_num = s_place ∧ ¬ s_num = s_flag ∧ ¬ s_num = s_field ∧ ¬ s_num = s_signed ∧ ¬ s_num = s_reg ∧ ¬ s_num = s_cell ∧ ¬ s_num = s_word ∧ ¬ s_num = s_bit ∧ ¬ s_num = s__ ∧ ¬ s_num = s_do ∧ ¬ s_num = s_else ∧ ¬ s_num = s_end := by decide +kernel
theorem q_name : ¬ s_name = s_add ∧ ¬ s_name = s_sub ∧ ¬ s_name = s_and ∧ ¬ s_name = s_or ∧ ¬ s_name = s_xor ∧ ¬ s_name = s_not ∧ ¬ s_name = s_up ∧ ¬ s_name = s_down ∧ ¬ s_name = s_zero ∧ ¬ s_name = s_less ∧ ¬ s_name = s_off ∧ ¬ s_name = s_num ∧ ¬ s_name = s_set ∧ ¬ s_name = s_if ∧ ¬ s_name = s_while ∧ ¬ s_name = s_place ∧ ¬ s_name = s_flag ∧ ¬ s_name = s_field ∧ ¬ s_name = s_signed ∧ ¬ s_name = s_reg ∧ ¬ s_name = s_cell ∧ ¬ s_name = s_word ∧ ¬ s_name = s_bit ∧ ¬ s_name = s__ ∧ ¬ s_name = s_do ∧ ¬ s_name = s_else ∧ ¬ s_name = s_end := by decide +kernel
theorem q_set : ¬ s_set = s_add ∧ ¬ s_set = s_sub ∧ ¬ s_set = s_and ∧ ¬ s_set = s_or ∧ ¬ s_set = s_xor ∧ ¬ s_set = s_not ∧ ¬ s_set = s_up ∧ ¬ s_set = s_down ∧ ¬ s_set = s_zero ∧ ¬ s_set = s_less ∧ ¬ s_set = s_off ∧ ¬ s_set = s_num ∧ ¬ s_set = s_name ∧ ¬ s_set = s_if ∧ ¬ s_set = s_while ∧ ¬ s_set = s_place ∧ ¬ s_set = s_flag ∧ ¬ s_set = s_field ∧ ¬ s_set = s_signed ∧ ¬ s_set = s_reg ∧ ¬ s_set = s_cell ∧ ¬ s_set = s_word ∧ ¬ s_set = s_bit ∧ ¬ s_set = s__ ∧ ¬ s_set = s_do ∧ ¬ s_set = s_else ∧ ¬ s_set = s_end := by decide +kernel
theorem q_if : ¬ s_if = s_add ∧ ¬ s_if = s_sub ∧ ¬ s_if = s_and ∧ ¬ s_if = s_or ∧ ¬ s_if = s_xor ∧ ¬ s_if = s_not ∧ ¬ s_if = s_up ∧ ¬ s_if = s_down ∧ ¬ s_if = s_zero ∧ ¬ s_if = s_less ∧ ¬ s_if = s_off ∧ ¬ s_if = s_num ∧ ¬ s_if = s_name ∧ ¬ s_if = s_set ∧ ¬ s_if = s_while ∧ ¬ s_if = s_place ∧ ¬ s_if = s_flag ∧ ¬ s_if = s_field ∧ ¬ s_if = s_signed ∧ ¬ s_if = s_reg ∧ ¬ s_if = s_cell ∧ ¬ s_if = s_word ∧ ¬ s_if = s_bit ∧ ¬ s_if = s__ ∧ ¬ s_if = s_do ∧ ¬ s_if = s_else ∧ ¬ s_if = s_end := by decide +kernel
theorem q_while : ¬ s_while = s_add ∧ ¬ s_while = s_sub ∧ ¬ s_while = s_and ∧ ¬ s_while = s_or ∧ ¬ s_while = s_xor ∧ ¬ s_while = s_not ∧ ¬ s_while = s_up ∧ ¬ s_while = s_down ∧ ¬ s_while = s_zero ∧ ¬ s_while = s_less ∧ ¬ s_while = s_off ∧ ¬ s_while = s_num ∧ ¬ s_while = s_name ∧ ¬ s_while = s_set ∧ ¬ s_while = s_if ∧ ¬ s_while = s_place ∧ ¬ s_while = s_flag ∧ ¬ s_while = s_field ∧ ¬ s_while = s_signed ∧ ¬ s_while = s_reg ∧ ¬ s_while = s_cell ∧ ¬ s_while = s_word ∧ ¬ s_while = s_bit ∧ ¬ s_while = s__ ∧ ¬ s_while = s_do ∧ ¬ s_while = s_else ∧ ¬ s_while = s_end := by decide +kernel
theorem q_place : ¬ s_place = s_add ∧ ¬ s_place = s_sub ∧ ¬ s_place = s_and ∧ ¬ s_place = s_or ∧ ¬ s_place = s_xor ∧ ¬ s_place = s_not ∧ ¬ s_place = s_up ∧ ¬ s_place = s_down ∧ ¬ s_place = s_zero ∧ ¬ s_place = s_less ∧ ¬ s_place = s_off ∧ ¬ s_place = s_num ∧ ¬ s_place = s_name ∧ ¬ s_place = s_set ∧ ¬ s_place = s_if ∧ ¬ s_place = s_while ∧ ¬ s_place = s_flag ∧ ¬ s_place = s_field ∧ ¬ s_place = s_signed ∧ ¬ s_place = s_reg ∧ ¬ s_place = s_cell ∧ ¬ s_place = s_word ∧ ¬ s_place = s_bit ∧ ¬ s_place = s__ ∧ ¬ s_place = s_do ∧ ¬ s_place = s_else ∧ ¬ s_place = s_end := by decide +kernel
theorem q_flag : ¬ s_flag = s_add ∧ ¬ s_flag = s_sub ∧ ¬ s_flag = s_and ∧ ¬ s_flag = s_or ∧ ¬ s_flag = s_xor ∧ ¬ s_flag = s_not ∧ ¬ s_flag = s_up ∧ ¬ s_flag = s_down ∧ ¬ s_flag = s_zero ∧ ¬ s_flag = s_less ∧ ¬ s_flag = s_off ∧ ¬ s_flag = s_num ∧ ¬ s_flag = s_name ∧ ¬ s_flag = s_set ∧ ¬ s_flag = s_if ∧ ¬ s_flag = s_while ∧ ¬ s_flag = s_place ∧ ¬ s_flag = s_field ∧ ¬ s_flag = s_signed ∧ ¬ s_flag = s_reg ∧ ¬ s_flag = s_cell ∧ ¬ s_flag = s_word ∧ ¬ s_flag = s_bit ∧ ¬ s_flag = s__ ∧ ¬ s_flag = s_do ∧ ¬ s_flag = s_else ∧ ¬ s_flag = s_end := by decide +kernel
theorem q_field : ¬ s_field = s_add ∧ ¬ s_field = s_sub ∧ ¬ s_field = s_and ∧ ¬ s_field = s_or ∧ ¬ s_field = s_xor ∧ ¬ s_field = s_not ∧ ¬ s_field = s_up ∧ ¬ s_field = s_down ∧ ¬ s_field = s_zero ∧ ¬ s_field = s_less ∧ ¬ s_field = s_off ∧ ¬ s_field = s_num ∧ ¬ s_field = s_name ∧ ¬ s_field = s_set ∧ ¬ s_field = s_if ∧ ¬ s_field = s_while ∧ ¬ s_field = s_place ∧ ¬ s_field = s_flag ∧ ¬ s_field = s_signed ∧ ¬ s_field = s_reg ∧ ¬ s_field = s_cell ∧ ¬ s_field = s_word ∧ ¬ s_field = s_bit ∧ ¬ s_field = s__ ∧ ¬ s_field = s_do ∧ ¬ s_field = s_else ∧ ¬ s_field = s_end := by decide +kernel
theorem q_signed : ¬ s_signed = s_add ∧ ¬ s_signed = s_sub ∧ ¬ s_signed = s_and ∧ ¬ s_signed = s_or ∧ ¬ s_signed = s_xor ∧ ¬ s_signed = s_not ∧ ¬ s_signed = s_up ∧ ¬ s_signed = s_down ∧ ¬ s_signed = s_zero ∧ ¬ s_signed = s_less ∧ ¬ s_signed = s_off ∧ ¬ s_signed = s_num ∧ ¬ s_signed = s_name ∧ ¬ s_signed = s_set ∧ ¬ s_signed = s_if ∧ ¬ s_signed = s_while ∧ ¬ s_signed = s_place ∧ ¬ s_signed = s_flag ∧ ¬ s_signed = s_field ∧ ¬ s_signed = s_reg ∧ ¬ s_signed = s_cell ∧ ¬ s_signed = s_word ∧ ¬ s_signed = s_bit ∧ ¬ s_signed = s__ ∧ ¬ s_signed = s_do ∧ ¬ s_signed = s_else ∧ ¬ s_signed = s_end := by decide +kernel
theorem q_reg : ¬ s_reg = s_add ∧ ¬ s_reg = s_sub ∧ ¬ s_reg = s_and ∧ ¬ s_reg = s_or ∧ ¬ s_reg = s_xor ∧ ¬ s_reg = s_not ∧ ¬ s_reg = s_up ∧ ¬ s_reg = s_down ∧ ¬ s_reg = s_zero ∧ ¬ s_reg = s_less ∧ ¬ s_reg = s_off ∧ ¬ s_reg = s_num ∧ ¬ s_reg = s_name ∧ ¬ s_reg = s_set ∧ ¬ s_reg = s_if ∧ ¬ s_reg = s_while ∧ ¬ s_reg = s_place ∧ ¬ s_reg = s_flag ∧ ¬ s_reg = s_field ∧ ¬ s_reg = s_signed ∧ ¬ s_reg = s_cell ∧ ¬ s_reg = s_word ∧ ¬ s_reg = s_bit ∧ ¬ s_reg = s__ ∧ ¬ s_reg = s_do ∧ ¬ s_reg = s_else ∧ ¬ s_reg = s_end := by decide +kernel
theorem q_cell : ¬ s_cell = s_add ∧ ¬ s_cell = s_sub ∧ ¬ s_cell = s_and ∧ ¬ s_cell = s_or ∧ ¬ s_cell = s_xor ∧ ¬ s_cell = s_not ∧ ¬ s_cell = s_up ∧ ¬ s_cell = s_down ∧ ¬ s_cell = s_zero ∧ ¬ s_cell = s_less ∧ ¬ s_cell = s_off ∧ ¬ s_cell = s_num ∧ ¬ s_cell = s_name ∧ ¬ s_cell = s_set ∧ ¬ s_cell = s_if ∧ ¬ s_cell = s_while ∧ ¬ s_cell = s_place ∧ ¬ s_cell = s_flag ∧ ¬ s_cell = s_field ∧ ¬ s_cell = s_signed ∧ ¬ s_cell = s_reg ∧ ¬ s_cell = s_word ∧ ¬ s_cell = s_bit ∧ ¬ s_cell = s__ ∧ ¬ s_cell = s_do ∧ ¬ s_cell = s_else ∧ ¬ s_cell = s_end := by decide +kernel
theorem q_word : ¬ s_word = s_add ∧ ¬ s_word = s_sub ∧ ¬ s_word = s_and ∧ ¬ s_word = s_or ∧ ¬ s_word = s_xor ∧ ¬ s_word = s_not ∧ ¬ s_word = s_up ∧ ¬ s_word = s_down ∧ ¬ s_word = s_zero ∧ ¬ s_word = s_less ∧ ¬ s_word = s_off ∧ ¬ s_word = s_num ∧ ¬ s_word = s_name ∧ ¬ s_word = s_set ∧ ¬ s_word = s_if ∧ ¬ s_word = s_while ∧ ¬ s_word = s_place ∧ ¬ s_word = s_flag ∧ ¬ s_word = s_field ∧ ¬ s_word = s_signed ∧ ¬ s_word = s_reg ∧ ¬ s_word = s_cell ∧ ¬ s_word = s_bit ∧ ¬ s_word = s__ ∧ ¬ s_word = s_do ∧ ¬ s_word = s_else ∧ ¬ s_word = s_end := by decide +kernel
theorem q_bit : ¬ s_bit = s_add ∧ ¬ s_bit = s_sub ∧ ¬ s_bit = s_and ∧ ¬ s_bit = s_or ∧ ¬ s_bit = s_xor ∧ ¬ s_bit = s_not ∧ ¬ s_bit = s_up ∧ ¬ s_bit = s_down ∧ ¬ s_bit = s_zero ∧ ¬ s_bit = s_less ∧ ¬ s_bit = s_off ∧ ¬ s_bit = s_num ∧ ¬ s_bit = s_name ∧ ¬ s_bit = s_set ∧ ¬ s_bit = s_if ∧ ¬ s_bit = s_while ∧ ¬ s_bit = s_place ∧ ¬ s_bit = s_flag ∧ ¬ s_bit = s_field ∧ ¬ s_bit = s_signed ∧ ¬ s_bit = s_reg ∧ ¬ s_bit = s_cell ∧ ¬ s_bit = s_word ∧ ¬ s_bit = s__ ∧ ¬ s_bit = s_do ∧ ¬ s_bit = s_else ∧ ¬ s_bit = s_end := by decide +kernel
theorem q__ : ¬ s__ = s_add ∧ ¬ s__ = s_sub ∧ ¬ s__ = s_and ∧ ¬ s__ = s_or ∧ ¬ s__ = s_xor ∧ ¬ s__ = s_not ∧ ¬ s__ = s_up ∧ ¬ s__ = s_down ∧ ¬ s__ = s_zero ∧ ¬ s__ = s_less ∧ ¬ s__ = s_off ∧ ¬ s__ = s_num ∧ ¬ s__ = s_name ∧ ¬ s__ = s_set ∧ ¬ s__ = s_if ∧ ¬ s__ = s_while ∧ ¬ s__ = s_place ∧ ¬ s__ = s_flag ∧ ¬ s__ = s_field ∧ ¬ s__ = s_signed ∧ ¬ s__ = s_reg ∧ ¬ s__ = s_cell ∧ ¬ s__ = s_word ∧ ¬ s__ = s_bit ∧ ¬ s__ = s_do ∧ ¬ s__ = s_else ∧ ¬ s__ = s_end := by decide +kernel
theorem q_do : ¬ s_do = s_add ∧ ¬ s_do = s_sub ∧ ¬ s_do = s_and ∧ ¬ s_do = s_or ∧ ¬ s_do = s_xor ∧ ¬ s_do = s_not ∧ ¬ s_do = s_up ∧ ¬ s_do = s_down ∧ ¬ s_do = s_zero ∧ ¬ s_do = s_less ∧ ¬ s_do = s_off ∧ ¬ s_do = s_num ∧ ¬ s_do = s_name ∧ ¬ s_do = s_set ∧ ¬ s_do = s_if ∧ ¬ s_do = s_while ∧ ¬ s_do = s_place ∧ ¬ s_do = s_flag ∧ ¬ s_do = s_field ∧ ¬ s_do = s_signed ∧ ¬ s_do = s_reg ∧ ¬ s_do = s_cell ∧ ¬ s_do = s_word ∧ ¬ s_do = s_bit ∧ ¬ s_do = s__ ∧ ¬ s_do = s_else ∧ ¬ s_do = s_end := by decide +kernel
theorem q_else : ¬ s_else = s_add ∧ ¬ s_else = s_sub ∧ ¬ s_else = s_and ∧ ¬ s_else = s_or ∧ ¬ s_else = s_xor ∧ ¬ s_else = s_not ∧ ¬ s_else = s_up ∧ ¬ s_else = s_down ∧ ¬ s_else = s_zero ∧ ¬ s_else = s_less ∧ ¬ s_else = s_off ∧ ¬ s_else = s_num ∧ ¬ s_else = s_name ∧ ¬ s_else = s_set ∧ ¬ s_else = s_if ∧ ¬ s_else = s_while ∧ ¬ s_else = s_place ∧ ¬ s_else = s_flag ∧ ¬ s_else = s_field ∧ ¬ s_else = s_signed ∧ ¬ s_else = s_reg ∧ ¬ s_else = s_cell ∧ ¬ s_else = s_word ∧ ¬ s_else = s_bit ∧ ¬ s_else = s__ ∧ ¬ s_else = s_do ∧ ¬ s_else = s_end := by decide +kernel
theorem q_end : ¬ s_end = s_add ∧ ¬ s_end = s_sub ∧ ¬ s_end = s_and ∧ ¬ s_end = s_or ∧ ¬ s_end = s_xor ∧ ¬ s_end = s_not ∧ ¬ s_end = s_up ∧ ¬ s_end = s_down ∧ ¬ s_end = s_zero ∧ ¬ s_end = s_less ∧ ¬ s_end = s_off ∧ ¬ s_end = s_num ∧ ¬ s_end = s_name ∧ ¬ s_end = s_set ∧ ¬ s_end = s_if ∧ ¬ s_end = s_while ∧ ¬ s_end = s_place ∧ ¬ s_end = s_flag ∧ ¬ s_end = s_field ∧ ¬ s_end = s_signed ∧ ¬ s_end = s_reg ∧ ¬ s_end = s_cell ∧ ¬ s_end = s_word ∧ ¬ s_end = s_bit ∧ ¬ s_end = s__ ∧ ¬ s_end = s_do ∧ ¬ s_end = s_else := by decide +kernel
end Mini
set_option Elab.async false
set_option linter.all false
set_option autoImplicit false
set_option maxRecDepth 100000
set_option maxHeartbeats 4000000
/- sources as data. Own work. -/
namespace Mini
abbrev Nm := List Nat
inductive O1 where
  | not | up | down
  deriving DecidableEq
inductive O2 where
  | add | sub | and | or | xor
  deriving DecidableEq
/-- sides of words -/
inductive Wd where
  | num (n : Nat)
  | nam (x : Nm)
  | one (o : O1) (a : Wd)
  | two (o : O2) (a b : Wd)
/-- sides of bits -/
inductive Bt where
  | zero (a : Wd)
  | less (a b : Wd)
  | off (b : Bt)
/-- sources -/
inductive Ss where
  | nil
  | set (x : Nm) (e : Wd) (r : Ss)
  | ite (c : Bt) (a b r : Ss)
  | whl (c : Bt) (a r : Ss)
def O1.s : O1 → Nm
  | .not => s_not
  | .up => s_up
  | .down => s_down
def O2.s : O2 → Nm
  | .add => s_add
  | .sub => s_sub
  | .and => s_and
  | .or => s_or
  | .xor => s_xor
def Wd.D : Wd → Mini.D
  | .num n => .tup [.str s_num, .int n]
  | .nam x => .tup [.str s_name, .str x]
  | .one o a => .tup [.str o.s, a.D]
  | .two o a b => .tup [.str o.s, a.D, b.D]
def Bt.D : Bt → Mini.D
  | .zero a => .tup [.str s_zero, a.D]
  | .less a b => .tup [.str s_less, a.D, b.D]
  | .off b => .tup [.str s_off, b.D]
def Ss.Ds : Ss → List Mini.D
  | .nil => []
  | .set x e r => .tup [.str s_set, .str x, e.D] :: r.Ds
  | .ite c a b r => .tup [.str s_if, c.D, .tup a.Ds, .tup b.Ds] :: r.Ds
  | .whl c a r => .tup [.str s_while, c.D, .tup a.Ds] :: r.Ds
def Ss.D (s : Ss) : Mini.D := .tup s.Ds
def Ss.app : Ss → Ss → Ss
  | .nil, t => t
  | .set x e r, t => .set x e (r.app t)
  | .ite c a b r, t => .ite c a b (r.app t)
  | .whl c a r, t => .whl c a (r.app t)
theorem Ss.Ds_app : ∀ (s t : Ss), (s.app t).Ds = s.Ds ++ t.Ds
  | .nil, t => rfl
  | .set x e r, t => by simp [Ss.app, Ss.Ds, Ss.Ds_app r t]
  | .ite c a b r, t => by simp [Ss.app, Ss.Ds, Ss.Ds_app r t]
  | .whl c a r, t => by simp [Ss.app, Ss.Ds, Ss.Ds_app r t]
theorem Ss.app_nil : ∀ s : Ss, s.app .nil = s
  | .nil => rfl
  | .set x e r => by simp [Ss.app, Ss.app_nil r]
  | .ite c a b r => by simp [Ss.app, Ss.app_nil r]
  | .whl c a r => by simp [Ss.app, Ss.app_nil r]
theorem Ss.app_assoc : ∀ s t u : Ss, (s.app t).app u = s.app (t.app u)
  | .nil, t, u => rfl
  | .set x e r, t, u => by simp [Ss.app, Ss.app_assoc r]
  | .ite c a b r, t, u => by simp [Ss.app, Ss.app_assoc r]
  | .whl c a r, t, u => by simp [Ss.app, Ss.app_assoc r]

/-! ### sizes -/
def Wd.dp : Wd → Nat
  | .num _ => 1
  | .nam _ => 1
  | .one _ a => a.dp + 1
  | .two _ a b => max a.dp b.dp + 1
def Bt.dp : Bt → Nat
  | .zero a => a.dp + 1
  | .less a b => max a.dp b.dp + 1
  | .off b => b.dp + 1
def Wd.sz : Wd → Nat
  | .num _ => 1
  | .nam _ => 1
  | .one _ a => a.sz + 1
  | .two _ a b => a.sz + b.sz + 1
def Bt.sz : Bt → Nat
  | .zero a => a.sz + 1
  | .less a b => a.sz + b.sz + 1
  | .off b => b.sz + 1
def Ss.len : Ss → Nat
  | .nil => 0
  | .set _ _ r => r.len + 1
  | .ite _ _ _ r => r.len + 1
  | .whl _ _ r => r.len + 1
def Ss.sz : Ss → Nat
  | .nil => 0
  | .set _ _ r => r.sz + 1
  | .ite _ a b r => a.sz + b.sz + r.sz + 1
  | .whl _ a r => a.sz + r.sz + 1
/-- how deep; an empty source is 1 deep -/
def Ss.dp : Ss → Nat
  | .nil => 1
  | .set _ _ r => r.dp
  | .ite _ a b r => max (max a.dp b.dp + 1) r.dp
  | .whl _ a r => max (a.dp + 1) r.dp
theorem Ss.len_Ds : ∀ s : Ss, s.Ds.length = s.len
  | .nil => rfl
  | .set x e r => by simp [Ss.Ds, Ss.len, Ss.len_Ds r]
  | .ite c a b r => by simp [Ss.Ds, Ss.len, Ss.len_Ds r]
  | .whl c a r => by simp [Ss.Ds, Ss.len, Ss.len_Ds r]
theorem Ss.len_le : ∀ s : Ss, s.len ≤ s.sz
  | .nil => Nat.le_refl _
  | .set x e r => by simp [Ss.sz, Ss.len]; exact Ss.len_le r
  | .ite c a b r => by simp [Ss.sz, Ss.len]; have := Ss.len_le r; omega
  | .whl c a r => by simp [Ss.sz, Ss.len]; have := Ss.len_le r; omega
theorem Wd.dp_pos : ∀ a : Wd, 1 ≤ a.dp
  | .num _ => Nat.le_refl _
  | .nam _ => Nat.le_refl _
  | .one _ a => by simp [Wd.dp]
  | .two _ a b => by simp [Wd.dp]
theorem Bt.dp_pos : ∀ a : Bt, 1 ≤ a.dp
  | .zero a => by simp [Bt.dp]
  | .less _ a => by simp [Bt.dp]
  | .off b => by simp [Bt.dp]
theorem Ss.dp_pos : ∀ a : Ss, 1 ≤ a.dp
  | .nil => Nat.le_refl _
  | .set _ _ r => by simp [Ss.dp, Ss.dp_pos r]
  | .ite _ a b r => by simp [Ss.dp]; omega
  | .whl _ a r => by simp [Ss.dp]; omega

/-! ### no dict; depths of data -/
theorem Wd.noDct : ∀ a : Wd, Mini.noDct a.D = true
  | .num _ => rfl
  | .nam _ => rfl
  | .one _ a => by simp [Wd.D, Mini.noDct, noDcts, Wd.noDct a]
  | .two _ a b => by simp [Wd.D, Mini.noDct, noDcts, Wd.noDct a, Wd.noDct b]
theorem Bt.noDct : ∀ a : Bt, Mini.noDct a.D = true
  | .zero a => by simp [Bt.D, Mini.noDct, noDcts, Wd.noDct a]
  | .less a b => by simp [Bt.D, Mini.noDct, noDcts, Wd.noDct a, Wd.noDct b]
  | .off b => by simp [Bt.D, Mini.noDct, noDcts, Bt.noDct b]
theorem Ss.noDcts : ∀ s : Ss, Mini.noDcts s.Ds = true
  | .nil => rfl
  | .set x e r => by simp [Ss.Ds, Mini.noDct, Mini.noDcts, Wd.noDct, Ss.noDcts r]
  | .ite c a b r => by simp [Ss.Ds, Mini.noDct, Mini.noDcts, Bt.noDct, Ss.noDcts r, Ss.noDcts a, Ss.noDcts b]
  | .whl c a r => by simp [Ss.Ds, Mini.noDct, Mini.noDcts, Bt.noDct, Ss.noDcts r, Ss.noDcts a]

/-! ### worths -/
abbrev Tb := List (Nm × Int)
def Tb.kv (t : Tb) : List (Ky × D) := t.map fun p => (.s p.1, .int p.2)
def tget : Tb → Nm → Int
  | [], _ => 0
  | (y, v) :: r, x => if y = x then v else tget r x
def thas : Tb → Nm → Bool
  | [], _ => false
  | (y, _) :: r, x => if y = x then true else thas r x
def tput (t : Tb) (x : Nm) (v : Int) : Tb := if thas t x = true then t.map (fun p => if p.1 = x then (p.1, v) else p) else t ++ [(x, v)]
theorem dget_kv (t : Tb) (x : Nm) : (dget t.kv (.s x)).getD (.int 0) = .int (tget t x) := by
  induction t with
  | nil => rfl
  | cons p t ih =>
    obtain ⟨y, v⟩ := p
    simp only [Tb.kv, List.map_cons, dget, tget, Ky.s.injEq]
    split
    · rfl
    · exact ih
theorem any_kv (t : Tb) (x : Nm) : (t.kv.any fun p => decide (p.1 = .s x)) = thas t x := by
  induction t with
  | nil => rfl
  | cons p t ih =>
    obtain ⟨y, v⟩ := p
    simp only [Tb.kv, List.map_cons, List.any_cons, thas, Ky.s.injEq] at ih ⊢
    by_cases e : y = x <;> simp [e, ih]
theorem dput_kv (t : Tb) (x : Nm) (v : Int) : dput t.kv (.s x) (.int v) = (tput t x v).kv := by
  unfold dput tput
  rw [any_kv]
  by_cases e : thas t x = true
  · rw [if_pos e, if_pos e]
    simp only [Tb.kv, List.map_map]
    refine List.map_congr_left fun p _ => ?_
    by_cases q : p.1 = x <;> simp [q]
  · rw [if_neg e, if_neg e]
    simp [Tb.kv]
def O1.do (w : Nat) (o : O1) (a : Int) : Int := match o with
  | .not => 2 ^ w - 1 - a
  | .up => (2 * a) % 2 ^ w
  | .down => a / 2
def O2.do (w : Nat) (o : O2) (a b : Int) : Int := match o with
  | .add => (a + b) % 2 ^ w
  | .sub => (a - b) % 2 ^ w
  | .and => (Nat.land a.toNat b.toNat : Nat)
  | .or => (Nat.lor a.toNat b.toNat : Nat)
  | .xor => (Nat.xor a.toNat b.toNat : Nat)
def Wd.wo (w : Nat) (t : Tb) : Wd → Int
  | .num n => (n : Int) % 2 ^ w
  | .nam x => tget t x
  | .one o a => o.do w (a.wo w t)
  | .two o a b => o.do w (a.wo w t) (b.wo w t)
def Bt.wo (w : Nat) (t : Tb) : Bt → Int
  | .zero a => if a.wo w t = 0 then 1 else 0
  | .less a b => if a.wo w t < b.wo w t then 1 else 0
  | .off b => 1 - b.wo w t
/-- all worths are words -/
def Tb.In (w : Nat) (t : Tb) : Prop := ∀ p ∈ t, 0 ≤ p.2 ∧ p.2 < 2 ^ w
theorem two_pos (w : Nat) : (0 : Int) < 2 ^ w := Int.pow_pos (by decide)
theorem tget_in {w : Nat} {t : Tb} (h : t.In w) (x : Nm) : 0 ≤ tget t x ∧ tget t x < 2 ^ w := by
  induction t with
  | nil => exact ⟨Int.le_refl _, two_pos w⟩
  | cons p t ih =>
    obtain ⟨y, v⟩ := p
    simp only [tget]
    split
    · exact h (y, v) (by simp)
    · exact ih fun q hq => h q (by simp [hq])
theorem tput_in {w : Nat} {t : Tb} (h : t.In w) (x : Nm) {v : Int} (h1 : 0 ≤ v) (h2 : v < 2 ^ w) : (tput t x v).In w := by
  intro p hp
  unfold tput at hp
  split at hp
  · obtain ⟨q, hq, rfl⟩ := List.mem_map.mp hp
    split
    · exact ⟨h1, h2⟩
    · exact h q hq
  · rcases List.mem_append.mp hp with z | z
    · exact h p z
    · rw [List.mem_singleton] at z
      subst z
      exact ⟨h1, h2⟩
theorem O1.do_in {w : Nat} (o : O1) {a : Int} (h1 : 0 ≤ a) (h2 : a < 2 ^ w) : 0 ≤ o.do w a ∧ o.do w a < 2 ^ w := by
  have p := two_pos w
  cases o with
  | not => simp only [O1.do]; omega
  | up => exact ⟨Int.emod_nonneg _ (by omega), Int.emod_lt_of_pos _ p⟩
  | down => simp only [O1.do]; omega
theorem nat_in {w : Nat} {a : Int} (h1 : 0 ≤ a) (h2 : a < 2 ^ w) : a.toNat < 2 ^ w := by
  have e : ((2 : Int) ^ w) = ((2 ^ w : Nat) : Int) := by simp
  rw [e] at h2
  omega
theorem O2.do_in {w : Nat} (o : O2) {a b : Int} (h1 : 0 ≤ a) (h2 : a < 2 ^ w) (k1 : 0 ≤ b) (k2 : b < 2 ^ w) : 0 ≤ o.do w a b ∧ o.do w a b < 2 ^ w := by
  have p := two_pos w
  have q1 := nat_in h1 h2
  have q2 := nat_in k1 k2
  have e : ((2 : Int) ^ w) = ((2 ^ w : Nat) : Int) := by simp
  cases o with
  | add => exact ⟨Int.emod_nonneg _ (by omega), Int.emod_lt_of_pos _ p⟩
  | sub => exact ⟨Int.emod_nonneg _ (by omega), Int.emod_lt_of_pos _ p⟩
  | and => simp only [O2.do]; rw [e]; exact ⟨Int.natCast_nonneg _, by exact_mod_cast Nat.and_lt_two_pow _ q2⟩
  | or => simp only [O2.do]; rw [e]; exact ⟨Int.natCast_nonneg _, by exact_mod_cast Nat.or_lt_two_pow q1 q2⟩
  | xor => simp only [O2.do]; rw [e]; exact ⟨Int.natCast_nonneg _, by exact_mod_cast Nat.xor_lt_two_pow q1 q2⟩
theorem Wd.wo_in {w : Nat} {t : Tb} (h : t.In w) : ∀ a : Wd, 0 ≤ a.wo w t ∧ a.wo w t < 2 ^ w
  | .num n => ⟨Int.emod_nonneg _ (by have := two_pos w; omega), Int.emod_lt_of_pos _ (two_pos w)⟩
  | .nam x => tget_in h x
  | .one o a => o.do_in (Wd.wo_in h a).1 (Wd.wo_in h a).2
  | .two o a b => o.do_in (Wd.wo_in h a).1 (Wd.wo_in h a).2 (Wd.wo_in h b).1 (Wd.wo_in h b).2
theorem Bt.wo_bit (w : Nat) (t : Tb) : ∀ a : Bt, a.wo w t = 0 ∨ a.wo w t = 1
  | .zero a => by simp only [Bt.wo]; split <;> simp
  | .less a b => by simp only [Bt.wo]; split <;> simp
  | .off b => by
    simp only [Bt.wo]
    rcases Bt.wo_bit w t b with e | e <;> rw [e] <;> simp
end Mini
set_option Elab.async false
set_option linter.all false
set_option autoImplicit false
set_option maxRecDepth 100000
set_option maxHeartbeats 4000000
/- words, law.power: what they compute. Own work. -/
namespace Mini

theorem r_is_whole {d : Nat} (hd : 1 ≤ d) (i : Int) (h : Heap) : run tab.defs d i_words_is_whole [.d (.int i)] h = .ok (.d (.bl true), h) := by
  obtain ⟨d, rfl, k⟩ := dep hd
  rw [run_at d_words_is_whole rfl]
  simp [f_words_is_whole, b_words_is_whole, Out.calm_ok, small]
theorem r_fits_whole {d : Nat} (hd : 2 ≤ d) (i lo hi : Int) (h : Heap) : run tab.defs d i_words_fits_whole [.d (.int i), .d (.int lo), .d (.int hi)] h = .ok (.d (.bl (decide (lo ≤ i) && decide (i ≤ hi))), h) := by
  obtain ⟨d, rfl, k⟩ := dep hd
  rw [run_at d_words_fits_whole rfl]
  simp [f_words_fits_whole, b_words_fits_whole, r_is_whole k, Out.calm_ok, small]
  by_cases q : lo ≤ i <;> simp [q]
theorem r_is_tuple_of {d : Nat} (hd : 1 ≤ d) (xs : List D) (lo hi : Int) (h : Heap) : run tab.defs d i_words_is_tuple_of [.d (.tup xs), .d (.int lo), .d (.int hi)] h = .ok (.d (.bl (decide (lo ≤ xs.length) && decide ((xs.length : Int) ≤ hi))), h) := by
  obtain ⟨d, rfl, k⟩ := dep hd
  rw [run_at d_words_is_tuple_of rfl]
  simp [f_words_is_tuple_of, b_words_is_tuple_of, Out.calm_ok, small]
  by_cases q : lo ≤ (xs.length : Int) <;> simp [q]

theorem power_loop {Φ : Calls} {base : Nat} (a : Option RV) (h : Heap) : ∀ (xs : List D) (v : Int) (c : Option RV), ∃ c',
    forS Φ base (.nm 2) l0_words_power xs [a, some (.d (.int v)), c] h = .ok (.nx, [a, some (.d (.int (2 ^ xs.length * v))), c'], h)
  | [], v, c => ⟨c, by simp [forS_nil]⟩
  | x :: xs, v, c => by
    obtain ⟨c', e⟩ := power_loop (Φ := Φ) (base := base) a h xs (2 * v) (some (.d x))
    refine ⟨c', ?_⟩
    have e2 : (2 : Int) ^ xs.length * (2 * v) = 2 ^ (xs.length + 1) * v := by rw [Int.pow_succ, Int.mul_assoc]
    rw [e2] at e
    simp only [List.length_cons]
    rw [← e]
    simp [forS_cons, l0_words_power, Out.calm_ok, small]
theorem length_range (n : Nat) : (rangeD 0 (n : Int)).length = n := by simp [rangeD]
theorem power_body {Φ : Calls} {base : Nat} (n : Nat) (hn : n ≤ LINE) (h : Heap) : exitF base (exS Φ base b_words_power [some (.d (.int n)), none, none] h) = .ok (.d (.int (2 ^ n)), h.take base) := by
  obtain ⟨c', e⟩ := power_loop (Φ := Φ) (base := base) (some (.d (.int n))) h (rangeD 0 n) 1 none
  have b1 : -(LINE : Int) ≤ (n : Int) := by unfold LINE; omega
  have b2 : (n : Int) ≤ (LINE : Int) := by omega
  rw [length_range] at e
  simp [b_words_power, Out.calm_ok, small, b1, b2, e]
theorem r_power {d : Nat} (hd : 1 ≤ d) (n : Nat) (hn : n ≤ LINE) (h : Heap) : run tab.defs d i_words_power [.d (.int n)] h = .ok (.d (.int (2 ^ n)), h) := by
  obtain ⟨d, rfl, k⟩ := dep hd
  rw [run_at d_words_power rfl]
  exact (power_body n hn h).trans (by rw [List.take_length])
theorem r_lpower {d : Nat} (hd : 1 ≤ d) (n : Nat) (hn : n ≤ LINE) (h : Heap) : run tab.defs d i_law_power [.d (.int n)] h = .ok (.d (.int (2 ^ n)), h) := by
  obtain ⟨d, rfl, k⟩ := dep hd
  rw [run_at d_law_power rfl]
  exact (power_body n hn h).trans (by rw [List.take_length])
theorem r_need_width {d : Nat} (hd : 3 ≤ d) (w : Int) (h1 : 4 ≤ w) (h2 : w ≤ 8) (h : Heap) : run tab.defs d i_words_need_width [.d (.int w)] h = .ok (.d .non, h) := by
  obtain ⟨d, rfl, k⟩ := dep hd
  rw [run_at d_words_need_width rfl]
  simp [f_words_need_width, b_words_need_width, c_words_LOW, c_words_HIGH, r_fits_whole k, h1, h2, Out.calm_ok, small]
end Mini
set_option Elab.async false
set_option linter.all false
set_option autoImplicit false
set_option maxRecDepth 100000
set_option maxHeartbeats 4000000
/- words.done_in, sources.worth_in. Own work. -/
namespace Mini
theorem r_done1 {d : Nat} (hd : 2 ≤ d) (o : O1) (w : Nat) (hw : w ≤ LINE) (a b : Int) (h : Heap) : run tab.defs d i_words_done_in [.d (.int w), .d (.str o.s), .d (.int a), .d (.int b)] h = .ok (.d (.int (o.do w a)), h) := by
  obtain ⟨d, rfl, k⟩ := dep hd
  rw [run_at d_words_done_in rfl]
  have p := two_pos w
  cases o <;> simp [f_words_done_in, b_words_done_in, r_power k w hw, p, O1.s, O1.do, q_not, q_up, q_down, Out.calm_ok, small]
theorem r_done2 {d : Nat} (hd : 2 ≤ d) (o : O2) (w : Nat) (hw : w ≤ LINE) (a b : Int) (ha : 0 ≤ a) (hb : 0 ≤ b) (h : Heap) : run tab.defs d i_words_done_in [.d (.int w), .d (.str o.s), .d (.int a), .d (.int b)] h = .ok (.d (.int (o.do w a b)), h) := by
  obtain ⟨d, rfl, k⟩ := dep hd
  rw [run_at d_words_done_in rfl]
  have p := two_pos w
  cases o <;> simp [f_words_done_in, b_words_done_in, r_power k w hw, O2.s, O2.do, q_add, q_sub, q_and, q_or, q_xor, bitI, ha, hb, p, Out.calm_ok, small]
theorem r_doneB {d : Nat} (hd : 2 ≤ d) (w : Nat) (hw : w ≤ LINE) (a b : Int) (h : Heap) :
    run tab.defs d i_words_done_in [.d (.int w), .d (.str s_zero), .d (.int a), .d (.int b)] h = .ok (.d (.int (if a = 0 then 1 else 0)), h) ∧
    run tab.defs d i_words_done_in [.d (.int w), .d (.str s_less), .d (.int a), .d (.int b)] h = .ok (.d (.int (if a < b then 1 else 0)), h) ∧
    run tab.defs d i_words_done_in [.d (.int w), .d (.str s_off), .d (.int a), .d (.int b)] h = .ok (.d (.int (1 - a)), h) := by
  obtain ⟨d, rfl, k⟩ := dep hd
  refine ⟨?_, ?_, ?_⟩ <;> rw [run_at d_words_done_in rfl]
  · by_cases q : a = 0 <;> simp [f_words_done_in, b_words_done_in, r_power k w hw, q_zero, q]
  · by_cases q : a < b <;> simp [f_words_done_in, b_words_done_in, r_power k w hw, q_less, q, Out.calm_ok, small]
  · simp [f_words_done_in, b_words_done_in, r_power k w hw, q_off, Out.calm_ok, small]

/-! ### sides as data: reckoned -/
theorem r_worth {w : Nat} (hw : w ≤ LINE) {t : Tb} (ht : t.In w) (h : Heap) : ∀ (a : Wd) (d : Nat), a.dp + 2 ≤ d → run tab.defs d i_sources_worth_in [.d (.int w), .d a.D, .d (.dct false t.kv)] h = .ok (.d (.int (a.wo w t)), h)
  | .num n, d, hd => by
    obtain ⟨d, rfl, k⟩ := dep hd
    rw [run_at d_sources_worth_in rfl]
    have p := two_pos w
    simp [f_sources_worth_in, b_sources_worth_in, Wd.D, Wd.wo, r_power (show 1 ≤ d by omega) w hw, p]
  | .nam x, d, hd => by
    obtain ⟨d, rfl, k⟩ := dep hd
    rw [run_at d_sources_worth_in rfl]
    simp [f_sources_worth_in, b_sources_worth_in, Wd.D, Wd.wo, q_name, dget_kv]
  | .one o a, d, hd => by
    obtain ⟨d, rfl, k⟩ := dep hd
    rw [run_at d_sources_worth_in rfl]
    have ih := r_worth hw ht h a d (by simp only [Wd.dp] at k; omega)
    have e1 := r_done1 (d := d) (by have := a.dp_pos; simp only [Wd.dp] at k; omega) o w hw (a.wo w t) 0 h
    cases o <;> simp only [O1.s] at e1 <;> simp [f_sources_worth_in, b_sources_worth_in, x0_sources_worth_in, Wd.D, Wd.wo, O1.s, q_not, q_up, q_down, stepS_eq, mapS_cons, mapS_nil, ih, e1]
  | .two o a b, d, hd => by
    obtain ⟨d, rfl, k⟩ := dep hd
    rw [run_at d_sources_worth_in rfl]
    have ih1 := r_worth hw ht h a d (by simp only [Wd.dp] at k; omega)
    have ih2 := r_worth hw ht h b d (by simp only [Wd.dp] at k; omega)
    have e1 := r_done2 (d := d) (by have := a.dp_pos; simp only [Wd.dp] at k; omega) o w hw (a.wo w t) (b.wo w t) (Wd.wo_in ht a).1 (Wd.wo_in ht b).1 h
    cases o <;> simp only [O2.s] at e1 <;> simp [f_sources_worth_in, b_sources_worth_in, x0_sources_worth_in, Wd.D, Wd.wo, O2.s, q_add, q_sub, q_and, q_or, q_xor, stepS_eq, mapS_cons, mapS_nil, ih1, ih2, e1]
theorem r_worthB {w : Nat} (hw : w ≤ LINE) {t : Tb} (ht : t.In w) (h : Heap) : ∀ (a : Bt) (d : Nat), a.dp + 2 ≤ d → run tab.defs d i_sources_worth_in [.d (.int w), .d a.D, .d (.dct false t.kv)] h = .ok (.d (.int (a.wo w t)), h)
  | .zero a, d, hd => by
    obtain ⟨d, rfl, k⟩ := dep hd
    rw [run_at d_sources_worth_in rfl]
    have ih := r_worth hw ht h a d (by simp only [Bt.dp] at k; omega)
    have e1 := (r_doneB (d := d) (by have := a.dp_pos; simp only [Bt.dp] at k; omega) w hw (a.wo w t) 0 h).1
    simp [f_sources_worth_in, b_sources_worth_in, x0_sources_worth_in, Bt.D, Bt.wo, q_zero, stepS_eq, mapS_cons, mapS_nil, ih, e1]
  | .less a b, d, hd => by
    obtain ⟨d, rfl, k⟩ := dep hd
    rw [run_at d_sources_worth_in rfl]
    have ih1 := r_worth hw ht h a d (by simp only [Bt.dp] at k; omega)
    have ih2 := r_worth hw ht h b d (by simp only [Bt.dp] at k; omega)
    have e1 := (r_doneB (d := d) (by have := a.dp_pos; simp only [Bt.dp] at k; omega) w hw (a.wo w t) (b.wo w t) h).2.1
    simp [f_sources_worth_in, b_sources_worth_in, x0_sources_worth_in, Bt.D, Bt.wo, q_less, stepS_eq, mapS_cons, mapS_nil, ih1, ih2, e1]
  | .off b, d, hd => by
    obtain ⟨d, rfl, k⟩ := dep hd
    rw [run_at d_sources_worth_in rfl]
    have ih := r_worthB hw ht h b d (by simp only [Bt.dp] at k; omega)
    have e1 := (r_doneB (d := d) (by have := b.dp_pos; simp only [Bt.dp] at k; omega) w hw (b.wo w t) 0 h).2.2
    simp [f_sources_worth_in, b_sources_worth_in, x0_sources_worth_in, Bt.D, Bt.wo, q_off, stepS_eq, mapS_cons, mapS_nil, ih, e1]
end Mini
set_option Elab.async false
set_option linter.all false
set_option autoImplicit false
set_option maxRecDepth 100000
set_option maxHeartbeats 4000000
/- steps and runs of sources. Own work. -/
namespace Mini
@[simp] theorem kv_length (t : Tb) : t.kv.length = t.length := by simp [Tb.kv]
/-! ### good sources -/
def Wd.ok (ns : List Nm) : Wd → Prop
  | .num n => n ≤ 255
  | .nam x => x ∈ ns
  | .one _ a => a.ok ns
  | .two _ a b => a.ok ns ∧ b.ok ns
def Bt.ok (ns : List Nm) : Bt → Prop
  | .zero a => a.ok ns
  | .less a b => a.ok ns ∧ b.ok ns
  | .off b => b.ok ns
def Wd.Ok (ns : List Nm) (a : Wd) : Prop := a.ok ns ∧ a.dp ≤ 3 ∧ a.sz ≤ 7
def Bt.Ok (ns : List Nm) (a : Bt) : Prop := a.ok ns ∧ a.dp ≤ 3 ∧ a.sz ≤ 7
def Ss.ok (ns : List Nm) : Ss → Prop
  | .nil => True
  | .set x e r => x ∈ ns ∧ e.Ok ns ∧ r.ok ns
  | .ite c a b r => c.Ok ns ∧ a.ok ns ∧ b.ok ns ∧ r.ok ns
  | .whl c a r => c.Ok ns ∧ a.ok ns ∧ r.ok ns
theorem Ss.ok_app {ns : List Nm} : ∀ {s t : Ss}, s.ok ns → t.ok ns → (s.app t).ok ns
  | .nil, t, _, k => k
  | .set x e r, t, h, k => ⟨h.1, h.2.1, Ss.ok_app h.2.2 k⟩
  | .ite c a b r, t, h, k => ⟨h.1, h.2.1, h.2.2.1, Ss.ok_app h.2.2.2 k⟩
  | .whl c a r, t, h, k => ⟨h.1, h.2.1, Ss.ok_app h.2.2 k⟩
/-- how many statements may be left at most -/
def Ss.ms : Ss → Nat
  | .nil => 0
  | .set _ _ r => max (1 + r.sz) r.ms
  | .ite _ a b r => max (max (1 + a.sz + b.sz) (max a.ms b.ms) + r.sz) r.ms
  | .whl _ a r => max (a.ms + 1 + a.sz + r.sz) r.ms
theorem Ss.sz_ms : ∀ s : Ss, s.sz ≤ s.ms
  | .nil => Nat.le_refl _
  | .set _ _ r => by simp only [Ss.sz, Ss.ms]; omega
  | .ite _ a b r => by simp only [Ss.sz, Ss.ms]; omega
  | .whl _ a r => by simp only [Ss.sz, Ss.ms]; omega
theorem Ss.sz_app : ∀ s t : Ss, (s.app t).sz = s.sz + t.sz
  | .nil, t => by simp [Ss.app, Ss.sz]
  | .set _ _ r, t => by simp only [Ss.app, Ss.sz, Ss.sz_app r t]; omega
  | .ite _ a b r, t => by simp only [Ss.app, Ss.sz, Ss.sz_app r t]; omega
  | .whl _ a r, t => by simp only [Ss.app, Ss.sz, Ss.sz_app r t]; omega
theorem Ss.dp_app : ∀ s t : Ss, (s.app t).dp = max s.dp t.dp
  | .nil, t => by have := t.dp_pos; simp only [Ss.app, Ss.dp]; omega
  | .set _ _ r, t => by simp only [Ss.app, Ss.dp, Ss.dp_app r t]
  | .ite _ a b r, t => by simp only [Ss.app, Ss.dp, Ss.dp_app r t]; omega
  | .whl _ a r, t => by simp only [Ss.app, Ss.dp, Ss.dp_app r t]; omega
theorem Ss.ms_app : ∀ s t : Ss, (s.app t).ms ≤ max (s.ms + t.sz) t.ms
  | .nil, t => by simp only [Ss.app, Ss.ms]; omega
  | .set _ _ r, t => by have := Ss.ms_app r t; simp only [Ss.app, Ss.ms, Ss.sz_app]; omega
  | .ite _ a b r, t => by have := Ss.ms_app r t; simp only [Ss.app, Ss.ms, Ss.sz_app]; omega
  | .whl _ a r, t => by have := Ss.ms_app r t; simp only [Ss.app, Ss.ms, Ss.sz_app]; omega
theorem Ss.ms_le : ∀ s : Ss, s.ms ≤ s.dp * s.sz
  | .nil => by simp [Ss.ms]
  | .set _ _ r => by
    have h1 := Ss.ms_le r
    have h2 := r.dp_pos
    simp only [Ss.ms, Ss.sz, Ss.dp]
    have : r.dp * (r.sz + 1) = r.dp * r.sz + r.dp := by rw [Nat.mul_add, Nat.mul_one]
    have h3 : 1 * r.sz ≤ r.dp * r.sz := Nat.mul_le_mul_right _ h2
    omega
  | .ite _ a b r => by
    have h1 := Ss.ms_le r
    have ha := Ss.ms_le a
    have hb := Ss.ms_le b
    simp only [Ss.ms, Ss.sz, Ss.dp]
    generalize hm : max (max a.dp b.dp + 1) r.dp = m
    have m1 : a.dp ≤ m := by omega
    have m2 : b.dp ≤ m := by omega
    have m3 : r.dp ≤ m := by omega
    have m4 : 1 ≤ m := by omega
    have k1 : a.dp * a.sz ≤ m * a.sz := Nat.mul_le_mul_right _ m1
    have k2 : b.dp * b.sz ≤ m * b.sz := Nat.mul_le_mul_right _ m2
    have k3 : r.dp * r.sz ≤ m * r.sz := Nat.mul_le_mul_right _ m3
    have j1 : 1 * a.sz ≤ m * a.sz := Nat.mul_le_mul_right _ m4
    have j2 : 1 * b.sz ≤ m * b.sz := Nat.mul_le_mul_right _ m4
    have j3 : 1 * r.sz ≤ m * r.sz := Nat.mul_le_mul_right _ m4
    have e : m * (a.sz + b.sz + r.sz + 1) = m * a.sz + m * b.sz + m * r.sz + m := by simp only [Nat.mul_add, Nat.mul_one]
    omega
  | .whl _ a r => by
    have h1 := Ss.ms_le r
    have ha := Ss.ms_le a
    simp only [Ss.ms, Ss.sz, Ss.dp]
    generalize hm : max (a.dp + 1) r.dp = m
    have m1 : a.dp + 1 ≤ m := by omega
    have m3 : r.dp ≤ m := by omega
    have m4 : 1 ≤ m := by omega
    have k1 : (a.dp + 1) * a.sz ≤ m * a.sz := Nat.mul_le_mul_right _ m1
    have k3 : r.dp * r.sz ≤ m * r.sz := Nat.mul_le_mul_right _ m3
    have j3 : 1 * r.sz ≤ m * r.sz := Nat.mul_le_mul_right _ m4
    have e : m * (a.sz + r.sz + 1) = m * a.sz + m * r.sz + m := by simp only [Nat.mul_add, Nat.mul_one]
    have e2 : (a.dp + 1) * a.sz = a.dp * a.sz + a.sz := by rw [Nat.add_mul, Nat.one_mul]
    omega

/-! ### steps -/
def stepP (w : Nat) (t : Tb) : Ss → Tb × Ss
  | .nil => (t, .nil)
  | .set x e r => (tput t x (e.wo w t), r)
  | .ite c a b r => (t, (if c.wo w t = 1 then a else b).app r)
  | .whl c a r => (t, if c.wo w t = 1 then a.app (.whl c a r) else r)
def keysIn (ns : List Nm) (t : Tb) : Prop := (t.map (·.1)).Nodup ∧ ∀ p ∈ t, p.1 ∈ ns
theorem nodup_len {α : Type} [DecidableEq α] : ∀ {l m : List α}, l.Nodup → (∀ x ∈ l, x ∈ m) → l.length ≤ m.length
  | [], m, _, _ => Nat.zero_le _
  | x :: l, m, h, k => by
    have hx : x ∈ m := k x (by simp)
    have := nodup_len (l := l) (m := m.erase x) (List.nodup_cons.mp h).2 fun y hy => by
      have hn : y ≠ x := fun e => (List.nodup_cons.mp h).1 (e ▸ hy)
      exact (List.mem_erase_of_ne hn).mpr (k y (by simp [hy]))
    rw [List.length_erase_of_mem hx] at this
    have := List.length_pos_of_mem hx
    simp only [List.length_cons]
    omega
theorem keysIn.len {ns : List Nm} {t : Tb} (h : keysIn ns t) : t.length ≤ ns.length := by
  have := nodup_len h.1 fun x hx => by
    obtain ⟨p, hp, rfl⟩ := List.mem_map.mp hx
    exact h.2 p hp
  simpa using this
theorem thas_iff (t : Tb) (x : Nm) : thas t x = true ↔ x ∈ t.map (·.1) := by
  induction t with
  | nil => simp [thas]
  | cons p t ih =>
    obtain ⟨y, v⟩ := p
    simp only [thas, List.map_cons, List.mem_cons]
    by_cases e : y = x
    · simp [e]
    · rw [if_neg e, ih]
      exact ⟨Or.inr, fun h => h.resolve_left fun q => e q.symm⟩
theorem tput_keys {ns : List Nm} {t : Tb} (h : keysIn ns t) {x : Nm} (hx : x ∈ ns) (v : Int) : keysIn ns (tput t x v) := by
  unfold tput
  split
  · rename_i q
    have e : (t.map fun p => if p.1 = x then (p.1, v) else p).map (·.1) = t.map (·.1) := by
      rw [List.map_map]
      refine List.map_congr_left fun p _ => ?_
      by_cases q : p.1 = x <;> simp [q]
    refine ⟨by rw [e]; exact h.1, fun p hp => ?_⟩
    obtain ⟨q, hq, rfl⟩ := List.mem_map.mp hp
    by_cases q1 : q.1 = x
    · simp [q1, hx]
    · simp [q1, h.2 q hq]
  · rename_i q
    rw [thas_iff] at q
    refine ⟨?_, fun p hp => ?_⟩
    · rw [List.map_append]
      refine List.nodup_append.mpr ⟨h.1, by simp, fun a ha b hb => ?_⟩
      simp only [List.map_cons, List.map_nil, List.mem_singleton] at hb
      subst hb
      exact fun e => q (e ▸ ha)
    · rcases List.mem_append.mp hp with z | z
      · exact h.2 p z
      · rw [List.mem_singleton] at z; subst z; exact hx
/-- what holds along a run -/
structure Inv (ns : List Nm) (w B : Nat) (t : Tb) (s : Ss) : Prop where
  tin : t.In w
  keys : keysIn ns t
  ok : s.ok ns
  ms : s.ms ≤ B
  dp : s.dp ≤ 4
theorem Inv.step {ns : List Nm} {w B : Nat} {t : Tb} {s : Ss} (I : Inv ns w B t s) : Inv ns w B (stepP w t s).1 (stepP w t s).2 := by
  obtain ⟨h1, h2, h3, h4, h5⟩ := I
  cases s with
  | nil => exact ⟨h1, h2, h3, h4, h5⟩
  | set x e r =>
    have b := e.wo_in h1
    exact ⟨tput_in h1 x b.1 b.2, tput_keys h2 h3.1 _, h3.2.2, by simp only [Ss.ms] at h4; show r.ms ≤ B; omega, h5⟩
  | ite c a b r =>
    simp only [Ss.ms] at h4
    simp only [Ss.dp] at h5
    refine ⟨h1, h2, Ss.ok_app ?_ h3.2.2.2, ?_, ?_⟩
    · split
      · exact h3.2.1
      · exact h3.2.2.1
    · have k1 := Ss.ms_app a r
      have k2 := Ss.ms_app b r
      show ((if c.wo w t = 1 then a else b).app r).ms ≤ B
      split <;> omega
    · show ((if c.wo w t = 1 then a else b).app r).dp ≤ 4
      rw [Ss.dp_app]
      split <;> omega
  | whl c a r =>
    by_cases q : c.wo w t = 1
    · have e : stepP w t (.whl c a r) = (t, a.app (.whl c a r)) := by simp [stepP, q]
      rw [e]
      refine ⟨h1, h2, Ss.ok_app h3.2.1 h3, ?_, ?_⟩
      · have k1 := Ss.ms_app a (.whl c a r)
        simp only [Ss.ms, Ss.sz] at k1 h4 ⊢
        omega
      · rw [Ss.dp_app]
        simp only [Ss.dp] at h5 ⊢
        omega
    · have e : stepP w t (.whl c a r) = (t, r) := by simp [stepP, q]
      rw [e]
      refine ⟨h1, h2, h3.2.2, ?_, ?_⟩
      · simp only [Ss.ms] at h4
        show r.ms ≤ B
        omega
      · simp only [Ss.dp] at h5
        show r.dp ≤ 4
        omega
theorem Ss.dle {s : Ss} {n : Nat} (h : s.sz ≤ n) : s.Ds.length ≤ n := by rw [Ss.len_Ds]; exact Nat.le_trans s.len_le h
theorem bit_one (x : Int) (h : x = 0 ∨ x = 1) : decide (x = 1) = (x != 0) := by rcases h with e | e <;> rw [e] <;> rfl
theorem r_step {ns : List Nm} {w B d : Nat} {t : Tb} {s : Ss} (hw : w ≤ LINE) (hB : 2 * B ≤ LINE) (hn : ns.length < LINE) (I : Inv ns w B t s) (hs : s ≠ .nil) (hd : 6 ≤ d) (h : Heap) :
    run tab.defs d i_sources_step_in [.d (.int w), .d (.dct false t.kv), .d s.D] h = .ok (.d (.tup [.dct false (stepP w t s).1.kv, (stepP w t s).2.D]), h) := by
  obtain ⟨d, rfl, k⟩ := dep hd
  rw [run_at d_sources_step_in rfl]
  have tl : t.length < LINE := Nat.lt_of_le_of_lt I.keys.len hn
  have tl' : t.length ≤ LINE := Nat.le_of_lt tl
  have sl := I.ms
  cases s with
  | nil => exact absurd rfl hs
  | set x e r =>
    have e1 := r_worth hw I.tin (h ++ [.dct false t.kv]) e d (by have := I.ok.2.1.2.1; omega)
    simp [f_sources_step_in, b_sources_step_in, Ss.D, Ss.Ds, q_set, tl, tl', e1, dput_kv, stepP]
  | ite c a b r =>
    have e1 := r_worthB hw I.tin h c d (by have := I.ok.1.2.1; omega)
    simp only [Ss.ms] at sl
    have r1 : r.Ds.length ≤ B := Ss.dle (by omega)
    have a1 : a.Ds.length ≤ B := Ss.dle (by omega)
    have b1 : b.Ds.length ≤ B := Ss.dle (by omega)
    have z1 : a.Ds.length + r.Ds.length ≤ LINE := by omega
    have z2 : b.Ds.length + r.Ds.length ≤ LINE := by omega
    by_cases q : c.wo w t = 1
    · simp [f_sources_step_in, b_sources_step_in, Ss.D, Ss.Ds, q_if, e1, stepP, q, z1, Ss.Ds_app]
    · simp [f_sources_step_in, b_sources_step_in, Ss.D, Ss.Ds, q_if, e1, stepP, q, z2, Ss.Ds_app]
  | whl c a r =>
    have e1 := r_worthB hw I.tin h c d (by have := I.ok.1.2.1; omega)
    simp only [Ss.ms] at sl
    have r1 : r.Ds.length ≤ B := Ss.dle (by omega)
    have a1 : a.Ds.length ≤ B := Ss.dle (by omega)
    have z1 : a.Ds.length + (r.Ds.length + 1) ≤ LINE := by
      have := Ss.dle (s := .whl c a r) (n := B) (by simp only [Ss.sz]; omega)
      simp only [Ss.Ds, List.length_cons] at this
      omega
    by_cases q : c.wo w t = 1
    · simp [f_sources_step_in, b_sources_step_in, Ss.D, Ss.Ds, q_while, e1, stepP, q, z1, Ss.Ds_app]
    · simp [f_sources_step_in, b_sources_step_in, Ss.D, Ss.Ds, q_while, e1, stepP, q, z1, Ss.Ds_app]

/-! ### runs -/
def runP (w : Nat) : Nat → Tb → Ss → (Tb × Ss) × Nat
  | 0, t, s => ((t, s), 0)
  | _ + 1, t, .nil => ((t, .nil), 0)
  | n + 1, t, s => ((runP w n (stepP w t s).1 (stepP w t s).2).1, (runP w n (stepP w t s).1 (stepP w t s).2).2 + 1)
theorem runP_nil (w n : Nat) (t : Tb) : runP w n t .nil = ((t, .nil), 0) := by cases n <;> rfl
theorem runP_succ (w n : Nat) (t : Tb) {s : Ss} (h : s ≠ .nil) : runP w (n + 1) t s = ((runP w n (stepP w t s).1 (stepP w t s).2).1, (runP w n (stepP w t s).1 (stepP w t s).2).2 + 1) := by
  cases s with
  | nil => exact absurd rfl h
  | set x e r => rfl
  | ite c a b r => rfl
  | whl c a r => rfl
theorem Inv.run {ns : List Nm} {w B : Nat} : ∀ (n : Nat) {t : Tb} {s : Ss}, Inv ns w B t s → Inv ns w B (runP w n t s).1.1 (runP w n t s).1.2
  | 0, t, s, I => I
  | n + 1, t, s, I => by
    by_cases h : s = .nil
    · subst h; rw [runP_nil]; exact I
    · rw [runP_succ w n t h]; exact Inv.run n I.step
theorem Ss.D_ne {s : Ss} (h : s ≠ .nil) : eqDs s.Ds [] = false := by
  cases s with
  | nil => exact absurd rfl h
  | _ => simp [Ss.Ds]
theorem run_loop {ns : List Nm} {w B d base : Nat} (hw : w ≤ LINE) (hB : 2 * B ≤ LINE) (hn : ns.length < LINE) (hd : 6 ≤ d) (x1 : Option RV) (h : Heap) : ∀ (n F : Nat) (t : Tb) (s : Ss) (m : Nat), n < F → Inv ns w B t s →
    whlS (run tab.defs d) base t0_sources_run_in l0_sources_run_in F [some (.d (.int w)), x1, some (.d s.D), some (.d (.int (m + n : Nat))), some (.d (.dct false t.kv)), some (.d (.int m))] h
      = .ok (.nx, [some (.d (.int w)), x1, some (.d (runP w n t s).1.2.D), some (.d (.int (m + n : Nat))), some (.d (.dct false (runP w n t s).1.1.kv)), some (.d (.int (m + (runP w n t s).2 : Nat)))], h)
  | n, 0, t, s, m, hF, I => absurd hF (by omega)
  | 0, F + 1, t, s, m, hF, I => by
    simp [whlS_succ, t0_sources_run_in, runP]
  | n + 1, F + 1, t, s, m, hF, I => by
    have lt : (m : Int) < (m : Int) + ((n : Int) + 1) := by omega
    by_cases hs : s = .nil
    · subst hs
      simp [whlS_succ, t0_sources_run_in, runP_nil, Ss.D, Ss.Ds, lt]
    · have e1 := r_step hw hB hn I hs hd h
      have ih := run_loop (base := base) hw hB hn hd x1 h n F (stepP w t s).1 (stepP w t s).2 (m + 1) (by omega) I.step
      have em : m + 1 + n = m + (n + 1) := by omega
      have em2 : ((m + 1 : Nat) : Int) = (m : Int) + 1 := by omega
      have dp1 : min (depths s.Ds + 1) 1 ≤ 60 := by omega
      rw [em, em2] at ih
      rw [runP_succ w n t hs, whlS_succ]
      have ne := Ss.D_ne hs
      have nd := Ss.noDcts s
      simp only [Ss.D] at e1 ih ⊢
      have ek : m + ((runP w n (stepP w t s).1 (stepP w t s).2).2 + 1) = m + 1 + (runP w n (stepP w t s).1 (stepP w t s).2).2 := by omega
      rw [ek]
      simp [t0_sources_run_in, lt, ne, nd, dp1]
      simp [l0_sources_run_in, e1]
      exact ih
end Mini
set_option Elab.async false
set_option linter.all false
set_option autoImplicit false
set_option maxRecDepth 100000
set_option maxHeartbeats 4000000
/- worths told; runs whole. Own work. -/
namespace Mini
def pairD (p : Nm × Int) : D := .tup [.str p.1, .int p.2]
def Tb.D (t : Tb) : Mini.D := .tup (t.map pairD)
def toldP (t : Tb) : Tb := ((sortBy ltStr (t.map (·.1))).filter fun x => tget t x != 0).map fun x => (x, tget t x)
theorem strKs_kv : ∀ t : Tb, strKs t.kv = some (t.map (·.1))
  | [] => rfl
  | (x, v) :: t => by
    have := strKs_kv t
    simp only [Tb.kv, List.map_cons, strKs] at this ⊢
    rw [this]; rfl
theorem dget_has : ∀ {t : Tb} {x : Nm}, x ∈ t.map (·.1) → dget (Tb.kv t) (.s x) = some (.int (tget t x))
  | [], x, h => by simp at h
  | (y, v) :: t, x, h => by
    have e : Tb.kv ((y, v) :: t) = (.s y, .int v) :: Tb.kv t := rfl
    rw [e, show dget ((Ky.s y, D.int v) :: Tb.kv t) (.s x) = if Ky.s y = .s x then some (.int v) else dget (Tb.kv t) (.s x) from rfl]
    by_cases q : y = x
    · simp [q, tget]
    · have h' : x ∈ t.map (·.1) := by
        rcases List.mem_cons.mp h with z | z
        · exact absurd z.symm q
        · exact z
      rw [if_neg (by simpa using q), dget_has h']
      simp [tget, q]
theorem mem_insBy {α : Type} {lt : α → α → Bool} {x z : α} : ∀ {l : List α}, z ∈ insBy lt x l ↔ z = x ∨ z ∈ l
  | [] => by simp [insBy]
  | y :: r => by
    unfold insBy
    split
    · simp
    · simp [mem_insBy (l := r)]
      constructor
      · rintro (h | h | h) <;> simp [h]
      · rintro (h | h | h) <;> simp [h]
theorem mem_sortBy {α : Type} {lt : α → α → Bool} {z : α} : ∀ {l : List α}, z ∈ sortBy lt l ↔ z ∈ l
  | [] => by simp [sortBy]
  | x :: r => by rw [sortBy, mem_insBy, mem_sortBy (l := r), List.mem_cons]
theorem len_insBy {α : Type} {lt : α → α → Bool} {x : α} : ∀ {l : List α}, (insBy lt x l).length = l.length + 1
  | [] => rfl
  | y :: r => by
    unfold insBy
    split
    · rfl
    · simp [len_insBy (l := r)]
theorem len_sortBy {α : Type} {lt : α → α → Bool} : ∀ {l : List α}, (sortBy lt l).length = l.length
  | [] => rfl
  | x :: r => by rw [sortBy, len_insBy, len_sortBy (l := r)]; rfl
theorem flat_filter {α β : Type} (p : α → Bool) (g : α → β) : ∀ l : List α, (l.flatMap fun x => if p x = true then [g x] else []) = (l.filter p).map g
  | [] => rfl
  | x :: l => by
    rw [List.flatMap_cons, flat_filter p g l, List.filter_cons]
    by_cases h : p x = true <;> simp [h]
theorem told_body {Φ : Calls} {base : Nat} (t : Tb) (hl : t.length < 64) (h : Heap) : exitF base (exS Φ base b_sources_told_in [some (.d (.dct false t.kv)), none] h) = .ok (.d (toldP t).D, h.take base) := by
  have e : mapS Φ [1] (.nm 1) k0_sources_told_in x0_sources_told_in [some (.d (.dct false t.kv)), none] ((sortBy ltStr (t.map (·.1))).map .str) h = .ok ((sortBy ltStr (t.map (·.1))).flatMap fun x => if (tget t x != 0) = true then [pairD (x, tget t x)] else [], h) := by
    refine mapS_enc Φ D.str _ fun x hx => ?_
    have k := dget_has (t := t) (mem_sortBy.mp hx)
    by_cases q : tget t x = 0 <;> simp [stepS_eq, k0_sources_told_in, x0_sources_told_in, k, q, pairD]
  have l1 : (sortBy ltStr (t.map (·.1))).length < 64 := by rw [len_sortBy]; simpa using hl
  rw [flat_filter] at e
  have l2 : ((sortBy ltStr (t.map (·.1))).filter fun x => tget t x != 0).length ≤ 100 := Nat.le_trans (List.length_filter_le _ _) (by omega)
  have l3 : (((sortBy ltStr (t.map (·.1))).filter fun x => tget t x != 0).map fun x => pairD (x, tget t x)).length ≤ LINE := by rw [List.length_map]; exact lit_le l2
  have hl2 : (t.map (·.1)).length < 64 := by simpa using hl
  simp [b_sources_told_in, strKs_kv, hl]
  rw [e]
  have l4 : ((sortBy ltStr (t.map (·.1))).filter fun x => tget t x != 0).length ≤ LINE := lit_le l2
  simp [Tb.D, toldP, Function.comp_def, l4]
theorem r_told {d : Nat} (hd : 1 ≤ d) (t : Tb) (hl : t.length < 64) (h : Heap) : run tab.defs d i_sources_told_in [.d (.dct false t.kv)] h = .ok (.d (toldP t).D, h) := by
  obtain ⟨d, rfl, k⟩ := dep hd
  rw [run_at d_sources_told_in rfl]
  exact (told_body t hl h).trans (by rw [List.take_length])
theorem r_ltold {d : Nat} (hd : 1 ≤ d) (t : Tb) (hl : t.length < 64) (h : Heap) : run tab.defs d i_law_told [.d (.dct false t.kv)] h = .ok (.d (toldP t).D, h) := by
  obtain ⟨d, rfl, k⟩ := dep hd
  rw [run_at d_law_told rfl]
  exact (told_body t hl h).trans (by rw [List.take_length])
theorem pairsOf_D : ∀ t : Tb, pairsOf (t.map pairD) = some (Tb.kv t)
  | [] => rfl
  | (x, v) :: t => by
    simp only [List.map_cons, pairsOf, pairsOf_D t, pairD]
    rfl
theorem dmerge_app : ∀ (b t : Tb), ((b ++ t).map (·.1)).Nodup → dmerge (Tb.kv b) (Tb.kv t) = Tb.kv (b ++ t)
  | b, [], _ => by simp [Tb.kv, dmerge]
  | b, (x, v) :: t, h => by
    have hx : ¬ thas b x = true := by
      rw [thas_iff]
      rw [List.map_append] at h
      have := (List.nodup_append.mp h).2.2
      intro hb
      exact this x hb x (by simp) rfl
    have e : dmerge b.kv (Tb.kv ((x, v) :: t)) = dmerge (dput (Tb.kv b) (.s x) (.int v)) (Tb.kv t) := rfl
    rw [e, dput_kv]
    have e2 : tput b x v = b ++ [(x, v)] := by unfold tput; rw [if_neg hx]
    rw [e2, dmerge_app (b ++ [(x, v)]) t (by simpa using h)]
    simp
theorem dmerge_kv {t : Tb} (h : (t.map (·.1)).Nodup) : dmerge [] t.kv = t.kv := by
  have := dmerge_app [] t (by simpa using h)
  simpa [Tb.kv] using this
theorem r_run {ns : List Nm} {w B d : Nat} {t : Tb} {s : Ss} (hw : w ≤ LINE) (hB : 2 * B ≤ LINE) (hn : ns.length < 64) (I : Inv ns w B t s) (n : Nat) (hn2 : n ≤ 2000) (hd : 7 ≤ d) (h : Heap) :
    run tab.defs d i_sources_run_in [.d (.int w), .d t.D, .d s.D, .d (.int n)] h = .ok (.d (.tup [(toldP (runP w n t s).1.1).D, (runP w n t s).1.2.D, .int (runP w n t s).2]), h) := by
  obtain ⟨d, rfl, k⟩ := dep hd
  rw [run_at d_sources_run_in rfl]
  have e1 := run_loop (base := h.length) hw hB (by rw [LINE_eq]; omega) k (some (.d t.D)) h n TURNS t s 0 (by unfold TURNS; omega) I
  have I2 := I.run n
  have e2 := r_told (d := d) (by omega) (runP w n t s).1.1 (Nat.lt_of_le_of_lt I2.keys.len hn) h
  rw [Nat.zero_add, Nat.zero_add] at e1
  rw [show ((0 : Nat) : Int) = 0 from rfl] at e1
  simp only [Tb.D] at e1 e2 ⊢
  simp [f_sources_run_in, b_sources_run_in, pairsOf_D, dmerge_kv I.keys.1, e1, e2]
end Mini
set_option Elab.async false
set_option linter.all false
set_option autoImplicit false
set_option maxRecDepth 100000
set_option maxHeartbeats 4000000
/- what is judged. Own work. -/
namespace Mini
/-! ### names -/
def smallS : Nm := [97, 98, 99, 100, 101, 102, 103, 104, 105, 106, 107, 108, 109, 110, 111, 112, 113, 114, 115, 116, 117, 118, 119, 120, 121, 122]
def nameB (x : Nm) : Bool := decide (1 ≤ x.length) && decide (x.length ≤ 6) && x.all fun c => smallS.contains c
def keyB (x : Nm) : Bool := [s_set, s_if, s_while, s_do, s_else, s_end, s_zero, s_less, s_off, s_add, s_sub, s_and, s_or, s_xor, s_not, s_up, s_down].any fun y => decide (y = x)
def isNm' (x : Nm) : Bool := nameB x && !keyB x
theorem blsOf_map {α : Type} (f : α → Bool) : ∀ l : List α, blsOf (l.map fun x => .bl (f x)) = some (l.map f)
  | [] => rfl
  | x :: l => by simp [blsOf, blsOf_map f l]
theorem r_fits_name {d : Nat} (hd : 1 ≤ d) (x : Nm) (h : Heap) : run tab.defs d i_tables_fits_name [.d (.str x)] h = .ok (.d (.bl (nameB x)), h) := by
  obtain ⟨d, rfl, k⟩ := dep hd
  rw [run_at d_tables_fits_name rfl]
  by_cases h1 : 1 ≤ x.length
  · by_cases h2 : x.length ≤ 6
    · have e := mapS_encm (run tab.defs d) (own := [1]) (t := .nm 1) (c := .tyes) (e := x0_tables_fits_name) (env := [some (.d (.str x)), none]) (h := h) (xs := x) (fun c => .str [c]) (fun c => .bl (smallS.contains c)) (fun c _ => by simp [stepS_eq, x0_tables_fits_name, c_tables_SMALL, smallS])
      have l : x.length ≤ LINE := lit_le (by omega)
      have h1' : (1 : Int) ≤ x.length := by omega
      have h2' : (x.length : Int) ≤ 6 := by omega
      simp [f_tables_fits_name, b_tables_fits_name, c_tables_NAME, h1', h2', e, l, blsOf_map, nameB, h1, h2]
    · have h1' : (1 : Int) ≤ x.length := by omega
      have h2' : ¬ (x.length : Int) ≤ 6 := by omega
      simp [f_tables_fits_name, b_tables_fits_name, c_tables_NAME, h1', h2', nameB, h2]
  · have h1' : ¬ (1 : Int) ≤ x.length := by omega
    have h3 : decide (1 ≤ x.length) = false := decide_eq_false h1
    simp only [nameB, h3, Bool.false_and]
    simp [f_tables_fits_name, b_tables_fits_name, c_tables_NAME, h1']
theorem r_is_name {d : Nat} (hd : 2 ≤ d) (x : Nm) (h : Heap) : run tab.defs d i_sources_is_name [.d (.str x)] h = .ok (.d (.bl (isNm' x)), h) := by
  obtain ⟨d, rfl, k⟩ := dep hd
  rw [run_at d_sources_is_name rfl]
  cases q : nameB x with
  | false => simp [f_sources_is_name, b_sources_is_name, r_fits_name k, q, isNm']
  | true =>
    simp [f_sources_is_name, b_sources_is_name, r_fits_name k, q, isNm', c_sources_KEYS, keyB]
/-! ### sides: kinds -/
theorem r_wants1 {d : Nat} (hd : 1 ≤ d) (o : O1) (h : Heap) : run tab.defs d i_sources_wants_in [.d (.str o.s)] h = .ok (.d (.tup [.str s_word]), h) := by
  obtain ⟨d, rfl, k⟩ := dep hd
  rw [run_at d_sources_wants_in rfl]
  cases o <;> simp [f_sources_wants_in, b_sources_wants_in, O1.s, c_words_TWO, c_words_ONE, q_add, q_sub, q_and, q_or, q_xor, q_not, q_up, q_down]
theorem r_wants2 {d : Nat} (hd : 1 ≤ d) (o : O2) (h : Heap) : run tab.defs d i_sources_wants_in [.d (.str o.s)] h = .ok (.d (.tup [.str s_word, .str s_word]), h) := by
  obtain ⟨d, rfl, k⟩ := dep hd
  rw [run_at d_sources_wants_in rfl]
  cases o <;> simp [f_sources_wants_in, b_sources_wants_in, O2.s, c_words_TWO, c_words_ONE, q_add, q_sub, q_and, q_or, q_xor]
theorem r_wantsB {d : Nat} (hd : 1 ≤ d) (h : Heap) :
    run tab.defs d i_sources_wants_in [.d (.str s_zero)] h = .ok (.d (.tup [.str s_word]), h) ∧ run tab.defs d i_sources_wants_in [.d (.str s_less)] h = .ok (.d (.tup [.str s_word, .str s_word]), h) ∧ run tab.defs d i_sources_wants_in [.d (.str s_off)] h = .ok (.d (.tup [.str s_bit]), h) := by
  obtain ⟨d, rfl, k⟩ := dep hd
  refine ⟨?_, ?_, ?_⟩ <;> rw [run_at d_sources_wants_in rfl] <;> simp [f_sources_wants_in, b_sources_wants_in, c_words_TWO, c_words_ONE, c_sources_WANTS, k_sources_WANTS, q_add, q_sub, q_and, q_or, q_xor, q_not, q_up, q_down, q_zero, q_less, q_off]
theorem r_kindW {ns : List Nm} (hN : ∀ x ∈ ns, isNm' x = true) (h : Heap) : ∀ (a : Wd) (d n : Nat), a.ok ns → a.dp ≤ n → a.dp + 3 ≤ d → run tab.defs d i_sources_kind_in [.d a.D, .d (.int n)] h = .ok (.d (.str s_word), h)
  | .num m, d, n, ha, hn, hd => by
    obtain ⟨d, rfl, k⟩ := dep hd
    rw [run_at d_sources_kind_in rfl]
    have n0 : ¬ n = 0 := by simp only [Wd.dp] at hn; omega
    have m1 : (m : Int) ≤ 255 := by have : m ≤ 255 := ha; omega
    simp [f_sources_kind_in, b_sources_kind_in, Wd.D, r_is_tuple_of (show 1 ≤ d by omega), r_fits_whole (show 2 ≤ d by omega), n0, m1]
  | .nam x, d, n, ha, hn, hd => by
    obtain ⟨d, rfl, k⟩ := dep hd
    rw [run_at d_sources_kind_in rfl]
    have n0 : ¬ n = 0 := by simp only [Wd.dp] at hn; omega
    simp [f_sources_kind_in, b_sources_kind_in, Wd.D, r_is_tuple_of (show 1 ≤ d by omega), r_is_name (show 2 ≤ d by omega), hN x ha, n0, q_name]
  | .one o a, d, n, ha, hn, hd => by
    obtain ⟨d, rfl, k⟩ := dep hd
    rw [run_at d_sources_kind_in rfl]
    simp only [Wd.dp] at hn k
    have n0 : ¬ n = 0 := by omega
    have ih := r_kindW hN h a d (n - 1) ha (by omega) (by omega)
    have en : ((n - 1 : Nat) : Int) = (n : Int) - 1 := by omega
    rw [en] at ih
    have e1 := r_wants1 (show 1 ≤ d by omega) o h
    cases o <;> simp only [O1.s] at e1 <;> simp [f_sources_kind_in, b_sources_kind_in, x0_sources_kind_in, Wd.D, O1.s, r_is_tuple_of (show 1 ≤ d by omega), n0, q_not, q_up, q_down, e1, mapS_cons, mapS_nil, stepS_eq, ih, c_sources_WANTS, k_sources_WANTS, q_zero, q_less, q_off]
  | .two o a b, d, n, ha, hn, hd => by
    obtain ⟨d, rfl, k⟩ := dep hd
    rw [run_at d_sources_kind_in rfl]
    simp only [Wd.dp] at hn k
    have n0 : ¬ n = 0 := by omega
    have ih1 := r_kindW hN h a d (n - 1) ha.1 (by omega) (by omega)
    have ih2 := r_kindW hN h b d (n - 1) ha.2 (by omega) (by omega)
    have en : ((n - 1 : Nat) : Int) = (n : Int) - 1 := by omega
    rw [en] at ih1 ih2
    have e1 := r_wants2 (show 1 ≤ d by omega) o h
    cases o <;> simp only [O2.s] at e1 <;> simp [f_sources_kind_in, b_sources_kind_in, x0_sources_kind_in, Wd.D, O2.s, r_is_tuple_of (show 1 ≤ d by omega), n0, q_add, q_sub, q_and, q_or, q_xor, e1, mapS_cons, mapS_nil, stepS_eq, ih1, ih2, c_sources_WANTS, k_sources_WANTS, q_zero, q_less, q_off]
theorem r_kindB {ns : List Nm} (hN : ∀ x ∈ ns, isNm' x = true) (h : Heap) : ∀ (a : Bt) (d n : Nat), a.ok ns → a.dp ≤ n → a.dp + 3 ≤ d → run tab.defs d i_sources_kind_in [.d a.D, .d (.int n)] h = .ok (.d (.str s_bit), h)
  | .zero a, d, n, ha, hn, hd => by
    obtain ⟨d, rfl, k⟩ := dep hd
    rw [run_at d_sources_kind_in rfl]
    simp only [Bt.dp] at hn k
    have n0 : ¬ n = 0 := by omega
    have ih := r_kindW hN h a d (n - 1) ha (by omega) (by omega)
    have en : ((n - 1 : Nat) : Int) = (n : Int) - 1 := by omega
    rw [en] at ih
    have e1 := (r_wantsB (show 1 ≤ d by omega) h).1
    simp [f_sources_kind_in, b_sources_kind_in, x0_sources_kind_in, Bt.D, r_is_tuple_of (show 1 ≤ d by omega), n0, q_zero, e1, mapS_cons, mapS_nil, stepS_eq, ih, c_sources_WANTS, k_sources_WANTS]
  | .less a b, d, n, ha, hn, hd => by
    obtain ⟨d, rfl, k⟩ := dep hd
    rw [run_at d_sources_kind_in rfl]
    simp only [Bt.dp] at hn k
    have n0 : ¬ n = 0 := by omega
    have ih1 := r_kindW hN h a d (n - 1) ha.1 (by omega) (by omega)
    have ih2 := r_kindW hN h b d (n - 1) ha.2 (by omega) (by omega)
    have en : ((n - 1 : Nat) : Int) = (n : Int) - 1 := by omega
    rw [en] at ih1 ih2
    have e1 := (r_wantsB (show 1 ≤ d by omega) h).2.1
    simp [f_sources_kind_in, b_sources_kind_in, x0_sources_kind_in, Bt.D, r_is_tuple_of (show 1 ≤ d by omega), n0, q_less, q_zero, e1, mapS_cons, mapS_nil, stepS_eq, ih1, ih2, c_sources_WANTS, k_sources_WANTS]
  | .off b, d, n, ha, hn, hd => by
    obtain ⟨d, rfl, k⟩ := dep hd
    rw [run_at d_sources_kind_in rfl]
    simp only [Bt.dp] at hn k
    have n0 : ¬ n = 0 := by omega
    have ih := r_kindB hN h b d (n - 1) ha (by omega) (by omega)
    have en : ((n - 1 : Nat) : Int) = (n : Int) - 1 := by omega
    rw [en] at ih
    have e1 := (r_wantsB (show 1 ≤ d by omega) h).2.2
    simp [f_sources_kind_in, b_sources_kind_in, x0_sources_kind_in, Bt.D, r_is_tuple_of (show 1 ≤ d by omega), n0, q_off, q_less, q_zero, e1, mapS_cons, mapS_nil, stepS_eq, ih, c_sources_WANTS, k_sources_WANTS]
/-! ### sides: parts -/
inductive Sd where
  | sw (a : Wd)
  | sb (a : Bt)
def Sd.D : Sd → Mini.D
  | .sw a => a.D
  | .sb a => a.D
def Sd.sz : Sd → Nat
  | .sw a => a.sz
  | .sb a => a.sz
/-- what is in it, from the left -/
def Sd.kids : Sd → List Sd
  | .sw (.num _) => []
  | .sw (.nam _) => []
  | .sw (.one _ a) => [.sw a]
  | .sw (.two _ a b) => [.sw a, .sw b]
  | .sb (.zero a) => [.sw a]
  | .sb (.less a b) => [.sw a, .sw b]
  | .sb (.off b) => [.sb b]
def Wd.parts : Wd → List Mini.D
  | .num n => [Wd.D (.num n)]
  | .nam x => [Wd.D (.nam x)]
  | .one o a => Wd.D (.one o a) :: a.parts
  | .two o a b => Wd.D (.two o a b) :: (b.parts ++ a.parts)
def Bt.parts : Bt → List Mini.D
  | .zero a => Bt.D (.zero a) :: a.parts
  | .less a b => Bt.D (.less a b) :: (b.parts ++ a.parts)
  | .off b => Bt.D (.off b) :: b.parts
def Sd.parts : Sd → List Mini.D
  | .sw a => a.parts
  | .sb a => a.parts
def szs : List Sd → Nat
  | [] => 0
  | x :: r => x.sz + szs r
theorem szs_app : ∀ a b : List Sd, szs (a ++ b) = szs a + szs b
  | [], b => by simp [szs]
  | x :: a, b => by simp only [List.cons_append, szs, szs_app a b]; omega
theorem Sd.sz_kids (x : Sd) : szs x.kids.reverse + 1 = x.sz := by
  cases x with
  | sw a => cases a <;> simp [Sd.kids, Sd.sz, Wd.sz, szs]; omega
  | sb a => cases a <;> simp [Sd.kids, Sd.sz, Bt.sz, szs]; omega
theorem Sd.parts_kids (x : Sd) : x.parts = x.D :: x.kids.reverse.flatMap Sd.parts := by
  cases x with
  | sw a => cases a <;> simp [Sd.kids, Sd.D, Sd.parts, Wd.parts]
  | sb a => cases a <;> simp [Sd.kids, Sd.D, Sd.parts, Bt.parts]
theorem Wd.len_parts : ∀ a : Wd, a.parts.length = a.sz
  | .num _ => rfl
  | .nam _ => rfl
  | .one _ a => by simp [Wd.parts, Wd.sz, Wd.len_parts a]
  | .two _ a b => by simp [Wd.parts, Wd.sz, Wd.len_parts a, Wd.len_parts b]; omega
theorem Bt.len_parts : ∀ a : Bt, a.parts.length = a.sz
  | .zero a => by simp [Bt.parts, Bt.sz, Wd.len_parts a]
  | .less a b => by simp [Bt.parts, Bt.sz, Wd.len_parts a, Wd.len_parts b]; omega
  | .off b => by simp [Bt.parts, Bt.sz, Bt.len_parts b]
@[simp] theorem isi_W (a : Wd) : isiV .tuple a.D = some true := by cases a <;> rfl
@[simp] theorem isi_B (a : Bt) : isiV .tuple a.D = some true := by cases a <;> rfl
theorem kids_eq {Φ : Calls} {k e : C} (hk : k = .te (.isi (.var 4) .tuple)) (he : e = .var 4) (x : Sd) (a0 a1 a2 a3 a4 : Option RV) (h : Heap) : ∃ ys, sliV x.D (some 1) none = some (.d (.tup ys)) ∧ mapS Φ [4] (.nm 4) k e [a0, a1, a2, a3, a4] ys h = .ok (x.kids.map Sd.D, h) := by
  subst hk he
  cases x with
  | sw a => cases a <;> refine ⟨_, rfl, ?_⟩ <;> simp [mapS_cons, mapS_nil, stepS_eq, Sd.kids, Sd.D]
  | sb a => cases a <;> refine ⟨_, rfl, ?_⟩ <;> simp [mapS_cons, mapS_nil, stepS_eq, Sd.kids, Sd.D]
theorem kids_len (x : Sd) : x.kids.length ≤ 2 := by
  cases x with
  | sw a => cases a <;> simp [Sd.kids]
  | sb a => cases a <;> simp [Sd.kids]
theorem eqDs_snoc (xs : List D) (x : D) : eqDs (xs ++ [x]) [] = false := by cases xs <;> simp
theorem depths_le (xs : List D) (n : Nat) : min (depths xs + 1) 1 ≤ n + 1 := by omega
theorem parts_loop {Φ : Calls} {base : Nat} (a0 : Option RV) (h : Heap) (hnd : ∀ x : Sd, noDct x.D = true) : ∀ (F : Nat) (st : List Sd) (fd : List D) (a3 a4 : Option RV), szs st < F → fd.length + szs st ≤ 1000 → ∃ a3' a4',
    whlS Φ base t0_sources_parts_in l0_sources_parts_in F [a0, some (.ref h.length), some (.ref (h.length + 1)), a3, a4] (h ++ [.lst fd, .lst (st.map Sd.D).reverse])
      = .ok (.nx, [a0, some (.ref h.length), some (.ref (h.length + 1)), a3', a4'], h ++ [.lst (fd ++ st.flatMap Sd.parts), .lst []])
  | 0, st, fd, a3, a4, hF, hl => absurd hF (by omega)
  | F + 1, [], fd, a3, a4, hF, hl => ⟨a3, a4, by simp [whlS_succ, t0_sources_parts_in]⟩
  | F + 1, x :: st, fd, a3, a4, hF, hl => by
    have hk := x.sz_kids
    simp only [szs] at hF hl
    have sz2 : szs (x.kids.reverse ++ st) + 1 = x.sz + szs st := by rw [szs_app]; omega
    obtain ⟨a3', a4', ih⟩ := parts_loop (Φ := Φ) (base := base) a0 h hnd F (x.kids.reverse ++ st) (fd ++ [x.D]) (some (.d x.D)) a4 (by omega) (by simp; omega)
    refine ⟨a3', a4', ?_⟩
    obtain ⟨ys, es, em⟩ := kids_eq (Φ := Φ) (k := k0_sources_parts_in) (e := x0_sources_parts_in) rfl rfl x a0 (some (.ref h.length)) (some (.ref (h.length + 1))) (some (.d x.D)) a4 (h ++ [.lst (fd ++ [x.D]), .lst (st.map Sd.D).reverse])
    have nd : noDcts ((st.map Sd.D).reverse ++ [x.D]) = true := by
      have gen : ∀ l : List D, (∀ z ∈ l, noDct z = true) → noDcts l = true := by
        intro l
        induction l with
        | nil => intro _; simp
        | cons z l ih => intro q; simp [q z (by simp), ih fun u hu => q u (by simp [hu])]
      refine gen _ fun z hz => ?_
      rcases List.mem_append.mp hz with q | q
      · obtain ⟨s, _, rfl⟩ := List.mem_map.mp (List.mem_reverse.mp q)
        exact hnd s
      · rw [List.mem_singleton] at q; rw [q]; exact hnd x
    have f1 : fd.length < LINE := by rw [LINE_eq]; omega
    have stl : st.length ≤ szs st := by
      have gen : ∀ l : List Sd, l.length ≤ szs l := by
        intro l
        induction l with
        | nil => exact Nat.le_refl _
        | cons z l ih => have := z.sz_kids; simp only [szs, List.length_cons]; omega
      exact gen st
    have f2 : (st.map Sd.D).reverse.length + (x.kids.map Sd.D).length ≤ LINE := by
      have := kids_len x
      rw [LINE_eq]; simp; omega
    have f3 : (x.kids.map Sd.D).length ≤ LINE := by have := kids_len x; simp; exact lit_le (by omega)
    have ne := eqDs_snoc (st.map Sd.D).reverse x.D
    have dl : min (depths ((st.map Sd.D).reverse ++ [x.D]) + 1) 1 ≤ 60 := by omega
    have e3 : (x :: st).flatMap Sd.parts = x.D :: (x.kids.reverse ++ st).flatMap Sd.parts := by
      rw [List.flatMap_cons, Sd.parts_kids, List.flatMap_append]; rfl
    have e4 : ((x.kids.reverse ++ st).map Sd.D).reverse = (st.map Sd.D).reverse ++ x.kids.map Sd.D := by simp
    rw [e4] at ih
    have et : tst Φ t0_sources_parts_in [a0, some (.ref h.length), some (.ref (h.length + 1)), a3, a4] (h ++ [.lst fd, .lst ((st.map Sd.D).reverse ++ [x.D])]) = .ok (true, h ++ [.lst fd, .lst ((st.map Sd.D).reverse ++ [x.D])]) := by
      simp [t0_sources_parts_in, nd, ne, dl]
    simp only [List.length_map, List.length_reverse] at f2 f3
    have eb : exS Φ base l0_sources_parts_in [a0, some (.ref h.length), some (.ref (h.length + 1)), a3, a4] (h ++ [.lst fd, .lst ((st.map Sd.D).reverse ++ [x.D])]) = .ok (.nx, [a0, some (.ref h.length), some (.ref (h.length + 1)), some (.d x.D), a4], h ++ [.lst (fd ++ [x.D]), .lst ((st.map Sd.D).reverse ++ x.kids.map Sd.D)]) := by
      simp [l0_sources_parts_in, f1, es, em, f2, f3]
    rw [List.map_cons, List.reverse_cons, e3, whlS_succ, et]
    simp only [b2_ok, kWh_t]
    rw [eb]
    simp only [b3_ok, kLW_nx, kLF_nx]
    rw [ih]
    simp
theorem Sd.noDct (x : Sd) : Mini.noDct x.D = true := by
  cases x with
  | sw a => exact a.noDct
  | sb a => exact a.noDct
theorem r_parts {d : Nat} (hd : 1 ≤ d) (x : Sd) (hx : x.sz ≤ 1000) (h : Heap) : run tab.defs d i_sources_parts_in [.d x.D] h = .ok (.nw (.lst x.parts), h) := by
  obtain ⟨d, rfl, k⟩ := dep hd
  rw [run_at d_sources_parts_in rfl]
  obtain ⟨a3', a4', e⟩ := parts_loop (Φ := run tab.defs d) (base := h.length) (some (.d x.D)) h Sd.noDct TURNS [x] [] none none (by simp only [szs, TURNS]; omega) (by simp only [szs]; simpa using hx)
  simp at e
  simp [f_sources_parts_in, b_sources_parts_in, e]
theorem r_fits_sideW {ns : List Nm} (hN : ∀ x ∈ ns, isNm' x = true) {d : Nat} (hd : 7 ≤ d) (a : Wd) (ha : a.Ok ns) (h : Heap) : run tab.defs d i_sources_fits_side [.d a.D, .d (.str s_word)] h = .ok (.d (.bl true), h) := by
  obtain ⟨d, rfl, k⟩ := dep hd
  rw [run_at d_sources_fits_side rfl]
  have e1 := r_kindW hN h a d 3 ha.1 ha.2.1 (by have := ha.2.1; omega)
  have e2 := r_parts (d := d) (by omega) (.sw a) (by have := ha.2.2; simp only [Sd.sz]; omega) h
  have l : (a.parts.length : Int) ≤ 7 := by rw [a.len_parts]; have := ha.2.2; omega
  simp only [Sd.D, Sd.parts] at e2
  simp only [show ((3 : Nat) : Int) = 3 from rfl] at e1
  simp [f_sources_fits_side, b_sources_fits_side, c_sources_SIDE, c_sources_PARTS, e1, e2, l]
theorem r_fits_sideB {ns : List Nm} (hN : ∀ x ∈ ns, isNm' x = true) {d : Nat} (hd : 7 ≤ d) (a : Bt) (ha : a.Ok ns) (h : Heap) : run tab.defs d i_sources_fits_side [.d a.D, .d (.str s_bit)] h = .ok (.d (.bl true), h) := by
  obtain ⟨d, rfl, k⟩ := dep hd
  rw [run_at d_sources_fits_side rfl]
  have e1 := r_kindB hN h a d 3 ha.1 ha.2.1 (by have := ha.2.1; omega)
  have e2 := r_parts (d := d) (by omega) (.sb a) (by have := ha.2.2; simp only [Sd.sz]; omega) h
  have l : (a.parts.length : Int) ≤ 7 := by rw [a.len_parts]; have := ha.2.2; omega
  simp only [Sd.D, Sd.parts] at e2
  simp only [show ((3 : Nat) : Int) = 3 from rfl] at e1
  simp [f_sources_fits_side, b_sources_fits_side, c_sources_SIDE, c_sources_PARTS, e1, e2, l]
theorem r_is_sideW {ns : List Nm} (hN : ∀ x ∈ ns, isNm' x = true) {d : Nat} (hd : 8 ≤ d) (a : Wd) (ha : a.Ok ns) (h : Heap) : run tab.defs d i_sources_is_side [.d a.D] h = .ok (.d (.bl true), h) := by
  obtain ⟨d, rfl, k⟩ := dep hd
  rw [run_at d_sources_is_side rfl]
  simp [f_sources_is_side, b_sources_is_side, r_fits_sideW hN k a ha]
theorem r_is_sideB {ns : List Nm} (hN : ∀ x ∈ ns, isNm' x = true) {d : Nat} (hd : 8 ≤ d) (a : Bt) (ha : a.Ok ns) (h : Heap) : run tab.defs d i_sources_is_side [.d a.D] h = .ok (.d (.bl true), h) := by
  obtain ⟨d, rfl, k⟩ := dep hd
  rw [run_at d_sources_is_side rfl]
  obtain ⟨d, rfl, k2⟩ := dep k
  have e0 : run tab.defs (d + 1) i_sources_fits_side [.d a.D, .d (.str s_word)] h = .ok (.d (.bl false), h) := by
    rw [run_at d_sources_fits_side rfl]
    have e1 := r_kindB hN h a d 3 ha.1 ha.2.1 (by have := ha.2.1; omega)
    simp only [show ((3 : Nat) : Int) = 3 from rfl] at e1
    simp [f_sources_fits_side, b_sources_fits_side, c_sources_SIDE, c_sources_PARTS, e1, q_bit]
  simp [f_sources_is_side, b_sources_is_side, e0, r_fits_sideB hN k a ha]
end Mini
set_option Elab.async false
set_option linter.all false
set_option autoImplicit false
set_option maxRecDepth 100000
set_option maxHeartbeats 4000000
/- sources judged. Own work. -/
namespace Mini
section
variable {ns : List Nm} (hN : ∀ x ∈ ns, isNm' x = true)
include hN
mutual
theorem r_stmts (h : Heap) : ∀ (s : Ss) (d n : Nat), s.ok ns → s.dp ≤ n → s.sz ≤ 1000 → n + 8 ≤ d → run tab.defs d i_sources_fits_statements [.d s.D, .d (.int n)] h = .ok (.d (.bl true), h)
  | s, d, n, ok, hn, hz, hd => by
    obtain ⟨d, rfl, k⟩ := dep (show (n + 7) + 1 ≤ d from hd)
    rw [run_at d_sources_fits_statements rfl]
    have n0 : ¬ n = 0 := by have := s.dp_pos; omega
    obtain ⟨a2, e⟩ := stmts_loop h h.length s d n (some (.d s.D)) none none ok hn hz k
    simp only [Ss.D] at e ⊢
    simp [f_sources_fits_statements, b_sources_fits_statements, n0, e]
termination_by s => (sizeOf s, 1)
theorem stmts_loop (h : Heap) (base : Nat) : ∀ (s : Ss) (d n : Nat) (a0 a2 a3 : Option RV), s.ok ns → s.dp ≤ n → s.sz ≤ 1000 → n + 7 ≤ d → ∃ a2',
    forS (run tab.defs d) base (.nm 2) l0_sources_fits_statements s.Ds [a0, some (.d (.int n)), a2, a3] h = .ok (.nx, [a0, some (.d (.int n)), a2', a3], h)
  | .nil, d, n, a0, a2, a3, ok, hn, hz, hd => ⟨a2, by simp [Ss.Ds, forS_nil]⟩
  | .set x e r, d, n, a0, a2, a3, ok, hn, hz, hd => by
    have hn1 : r.dp ≤ n := hn
    have d7 : 7 ≤ d := by omega
    obtain ⟨a2', ih⟩ := stmts_loop h base r d n a0 (some (.d (.tup [.str s_set, .str x, e.D]))) a3 ok.2.2 hn1 (by simp only [Ss.sz] at hz; omega) hd
    refine ⟨a2', ?_⟩
    rw [Ss.Ds, forS_cons, show setTg (.nm 2) _ [a0, some (.d (.int n)), a2, a3] = some [a0, some (.d (.int n)), some (.d _), a3] from rfl, kFT_e]
    have eb : exS (run tab.defs d) base l0_sources_fits_statements [a0, some (.d (.int n)), some (.d (.tup [.str s_set, .str x, e.D])), a3] h = .ok (.nx, [a0, some (.d (.int n)), some (.d (.tup [.str s_set, .str x, e.D])), a3], h) := by
      simp [l0_sources_fits_statements, r_is_tuple_of (show 1 ≤ d by omega), r_is_name (show 2 ≤ d by omega), hN x ok.1, r_fits_sideW hN d7 e ok.2.1, c_sources_SIZES, k_sources_SIZES]
    rw [eb]
    exact ih
  | .ite c a b r, d, n, a0, a2, a3, ok, hn, hz, hd => by
    simp only [Ss.dp] at hn
    simp only [Ss.sz] at hz
    have d7 : 7 ≤ d := by omega
    obtain ⟨a2', ih⟩ := stmts_loop h base r d n a0 (some (.d (.tup [.str s_if, c.D, .tup a.Ds, .tup b.Ds]))) a3 ok.2.2.2 (by omega) (by omega) hd
    refine ⟨a2', ?_⟩
    rw [Ss.Ds, forS_cons, show setTg (.nm 2) _ [a0, some (.d (.int n)), a2, a3] = some [a0, some (.d (.int n)), some (.d _), a3] from rfl, kFT_e]
    have e1 := r_stmts h a d (n - 1) ok.2.1 (by omega) (by omega) (by omega)
    have e2 := r_stmts h b d (n - 1) ok.2.2.1 (by omega) (by omega) (by omega)
    have en : ((n - 1 : Nat) : Int) = (n : Int) - 1 := by omega
    rw [en] at e1 e2
    simp only [Ss.D] at e1 e2
    have eb : exS (run tab.defs d) base l0_sources_fits_statements [a0, some (.d (.int n)), some (.d (.tup [.str s_if, c.D, .tup a.Ds, .tup b.Ds])), a3] h = .ok (.nx, [a0, some (.d (.int n)), some (.d (.tup [.str s_if, c.D, .tup a.Ds, .tup b.Ds])), a3], h) := by
      simp [l0_sources_fits_statements, x0_sources_fits_statements, r_is_tuple_of (show 1 ≤ d by omega), r_fits_sideB hN d7 c ok.1, c_sources_SIZES, k_sources_SIZES, q_if, q_set, mapS_cons, mapS_nil, stepS_eq, e1, e2, blsOf]
    rw [eb]
    exact ih
  | .whl c a r, d, n, a0, a2, a3, ok, hn, hz, hd => by
    simp only [Ss.dp] at hn
    simp only [Ss.sz] at hz
    have d7 : 7 ≤ d := by omega
    obtain ⟨a2', ih⟩ := stmts_loop h base r d n a0 (some (.d (.tup [.str s_while, c.D, .tup a.Ds]))) a3 ok.2.2 (by omega) (by omega) hd
    refine ⟨a2', ?_⟩
    rw [Ss.Ds, forS_cons, show setTg (.nm 2) _ [a0, some (.d (.int n)), a2, a3] = some [a0, some (.d (.int n)), some (.d _), a3] from rfl, kFT_e]
    have e1 := r_stmts h a d (n - 1) ok.2.1 (by omega) (by omega) (by omega)
    have en : ((n - 1 : Nat) : Int) = (n : Int) - 1 := by omega
    rw [en] at e1
    simp only [Ss.D] at e1
    have eb : exS (run tab.defs d) base l0_sources_fits_statements [a0, some (.d (.int n)), some (.d (.tup [.str s_while, c.D, .tup a.Ds])), a3] h = .ok (.nx, [a0, some (.d (.int n)), some (.d (.tup [.str s_while, c.D, .tup a.Ds])), a3], h) := by
      simp [l0_sources_fits_statements, x0_sources_fits_statements, r_is_tuple_of (show 1 ≤ d by omega), r_fits_sideB hN d7 c ok.1, c_sources_SIZES, k_sources_SIZES, q_while, q_if, q_set, mapS_cons, mapS_nil, stepS_eq, e1, blsOf]
    rw [eb]
    exact ih
termination_by s => (sizeOf s, 0)
end
end
end Mini
set_option Elab.async false
set_option linter.all false
set_option autoImplicit false
set_option maxRecDepth 100000
set_option maxHeartbeats 4000000
/- all statements of a source; names. Own work. -/
namespace Mini
/-- all statements, as they stand -/
def Ss.all : Ss → List Mini.D
  | .nil => []
  | .set x e r => .tup [.str s_set, .str x, e.D] :: r.all
  | .ite c a b r => .tup [.str s_if, c.D, .tup a.Ds, .tup b.Ds] :: (a.all ++ b.all ++ r.all)
  | .whl c a r => .tup [.str s_while, c.D, .tup a.Ds] :: (a.all ++ r.all)
theorem Ss.all_app : ∀ s t : Ss, (s.app t).all = s.all ++ t.all
  | .nil, t => rfl
  | .set x e r, t => by simp [Ss.app, Ss.all, Ss.all_app r t]
  | .ite c a b r, t => by simp [Ss.app, Ss.all, Ss.all_app r t]
  | .whl c a r, t => by simp [Ss.app, Ss.all, Ss.all_app r t]
theorem Ss.len_all : ∀ s : Ss, s.all.length = s.sz
  | .nil => rfl
  | .set x e r => by simp [Ss.all, Ss.sz, Ss.len_all r]
  | .ite c a b r => by simp [Ss.all, Ss.sz, Ss.len_all r, Ss.len_all a, Ss.len_all b]; omega
  | .whl c a r => by simp [Ss.all, Ss.sz, Ss.len_all r, Ss.len_all a]
theorem map_id1 {Φ : Calls} (a0 a1 a2 a3 a4 a5 : Option RV) (xs : List D) (h : Heap) : mapS Φ [5] (.nm 5) .tyes x0_sources_all_in [a0, a1, a2, a3, a4, a5] xs h = .ok (xs, h) := by
  have := mapS_map Φ (own := [5]) (t := .nm 5) (c := .tyes) (e := x0_sources_all_in) (env := [a0, a1, a2, a3, a4, a5]) (h := h) (xs := xs) (fun x => x) fun x _ => by simp [stepS_eq, x0_sources_all_in]
  simpa using this
theorem noDcts_rev {xs : List D} (h : noDcts xs = true) : noDcts xs.reverse = true := by
  have gen : ∀ l : List D, noDcts l = true ↔ ∀ z ∈ l, noDct z = true := by
    intro l
    induction l with
    | nil => simp
    | cons z l ih => simp [ih]
  rw [gen] at h ⊢
  intro z hz
  exact h z (List.mem_reverse.mp hz)
/-- the statement ahead and the stack behind it -/
def Ss.hd : Ss → Mini.D
  | .nil => .non
  | .set x e _ => .tup [.str s_set, .str x, e.D]
  | .ite c a b _ => .tup [.str s_if, c.D, .tup a.Ds, .tup b.Ds]
  | .whl c a _ => .tup [.str s_while, c.D, .tup a.Ds]
def Ss.tl : Ss → Ss
  | .nil => .nil
  | .set _ _ r => r
  | .ite _ _ _ r => r
  | .whl _ _ r => r
def Ss.inn : Ss → Ss
  | .nil => .nil
  | .set _ _ _ => .nil
  | .ite _ a b _ => a.app b
  | .whl _ a _ => a
theorem Ss.Ds_hd {s : Ss} (h : s ≠ .nil) : s.Ds = s.hd :: s.tl.Ds := by cases s <;> first | exact absurd rfl h | rfl
theorem Ss.all_hd {s : Ss} (h : s ≠ .nil) : s.all = s.hd :: (s.inn.app s.tl).all := by
  cases s with
  | nil => exact absurd rfl h
  | set x e r => rfl
  | ite c a b r => simp [Ss.all, Ss.hd, Ss.inn, Ss.tl, Ss.all_app]
  | whl c a r => simp [Ss.all, Ss.hd, Ss.inn, Ss.tl, Ss.all_app]
theorem Ss.sz_hd {s : Ss} (h : s ≠ .nil) : s.sz = (s.inn.app s.tl).sz + 1 := by
  cases s with
  | nil => exact absurd rfl h
  | set x e r => rfl
  | ite c a b r => simp [Ss.sz, Ss.inn, Ss.tl, Ss.sz_app]
  | whl c a r => simp [Ss.sz, Ss.inn, Ss.tl, Ss.sz_app]
theorem all_kids {Φ : Calls} (s : Ss) (a0 a1 a2 a4 a5 : Option RV) (h : Heap) (hl : s.inn.Ds.length ≤ LINE) (hs : s ≠ .nil) :
    ev Φ (.ite (.te (.cmp .ne (.idx (.var 3) (.con (.int 0))) (.con (.str s_set)))) (.comp2 [4, 5] (.nm 4) (.wv (.rev (.sli (.var 3) (.pv (.con (.int 2))) .nil))) .tyes [5] (.nm 5) v0_sources_all_in .tyes x0_sources_all_in) (.lst .nil)) [a0, a1, a2, some (.d s.hd), a4, a5] h = .ok (.nw (.lst s.inn.Ds.reverse), h) := by
  cases s with
  | nil => exact absurd rfl hs
  | set x e r => simp [Ss.hd, Ss.inn, Ss.Ds]
  | ite c a b r =>
    simp only [Ss.inn] at hl
    have hl2 : b.Ds.length + a.Ds.length ≤ LINE := by rw [Ss.Ds_app, List.length_append] at hl; omega
    simp [Ss.hd, Ss.inn, q_if, mapS2_cons, mapS2_nil, stepS2_eq, v0_sources_all_in, map_id1, Ss.Ds_app, hl2]
  | whl c a r =>
    simp only [Ss.inn] at hl
    simp [Ss.hd, Ss.inn, q_while, mapS2_cons, mapS2_nil, stepS2_eq, v0_sources_all_in, map_id1, hl]
theorem all_loop {Φ : Calls} {base : Nat} (a0 : Option RV) (h : Heap) : ∀ (F : Nat) (s : Ss) (fd : List D) (a3 a4 a5 : Option RV), s.sz < F → fd.length + s.sz ≤ 10000 → ∃ a3' a4' a5',
    whlS Φ base t0_sources_all_in l0_sources_all_in F [a0, some (.ref h.length), some (.ref (h.length + 1)), a3, a4, a5] (h ++ [.lst fd, .lst s.Ds.reverse])
      = .ok (.nx, [a0, some (.ref h.length), some (.ref (h.length + 1)), a3', a4', a5'], h ++ [.lst (fd ++ s.all), .lst []])
  | 0, s, fd, a3, a4, a5, hF, hl => absurd hF (by omega)
  | F + 1, s, fd, a3, a4, a5, hF, hl => by
    by_cases hs : s = .nil
    · subst hs
      exact ⟨a3, a4, a5, by simp [whlS_succ, t0_sources_all_in, Ss.Ds, Ss.all]⟩
    · have hz := Ss.sz_hd hs
      obtain ⟨a3', a4', a5', ih⟩ := all_loop (Φ := Φ) (base := base) a0 h F (s.inn.app s.tl) (fd ++ [s.hd]) (some (.d s.hd)) a4 a5 (by omega) (by simp; omega)
      refine ⟨a3', a4', a5', ?_⟩
      have f0 : (s.inn.app s.tl).Ds.length ≤ 10000 := Ss.dle (by omega)
      rw [Ss.Ds_app, List.length_append] at f0
      have f1 : fd.length < LINE := by rw [LINE_eq]; omega
      have f2 : s.tl.Ds.length + s.inn.Ds.length ≤ LINE := by rw [LINE_eq]; omega
      have f3 : s.inn.Ds.length ≤ LINE := by omega
      have ek := all_kids (Φ := Φ) s a0 (some (.ref h.length)) (some (.ref (h.length + 1))) a4 a5 (h ++ [.lst (fd ++ [s.hd]), .lst s.tl.Ds.reverse]) f3 hs
      have nd : noDcts (s.tl.Ds.reverse ++ [s.hd]) = true := by
        have := noDcts_rev (Ss.noDcts s)
        rw [Ss.Ds_hd hs] at this
        simpa using this
      have ne := eqDs_snoc s.tl.Ds.reverse s.hd
      have dl : min (depths (s.tl.Ds.reverse ++ [s.hd]) + 1) 1 ≤ 60 := by omega
      have et : tst Φ t0_sources_all_in [a0, some (.ref h.length), some (.ref (h.length + 1)), a3, a4, a5] (h ++ [.lst fd, .lst (s.tl.Ds.reverse ++ [s.hd])]) = .ok (true, h ++ [.lst fd, .lst (s.tl.Ds.reverse ++ [s.hd])]) := by
        simp [t0_sources_all_in, nd, ne, dl]
      have eb : exS Φ base l0_sources_all_in [a0, some (.ref h.length), some (.ref (h.length + 1)), a3, a4, a5] (h ++ [.lst fd, .lst (s.tl.Ds.reverse ++ [s.hd])]) = .ok (.nx, [a0, some (.ref h.length), some (.ref (h.length + 1)), some (.d s.hd), a4, a5], h ++ [.lst (fd ++ [s.hd]), .lst (s.tl.Ds.reverse ++ s.inn.Ds.reverse)]) := by
        simp [l0_sources_all_in, f1, -zev_ite, ek, f2]
      have e4 : (s.inn.app s.tl).Ds.reverse = s.tl.Ds.reverse ++ s.inn.Ds.reverse := by rw [Ss.Ds_app, List.reverse_append]
      rw [e4] at ih
      rw [Ss.Ds_hd hs, List.reverse_cons, whlS_succ, et]
      simp only [b2_ok, kWh_t]
      rw [eb]
      simp only [b3_ok, kLW_nx, kLF_nx]
      rw [ih, Ss.all_hd hs]
      simp
theorem r_all {d : Nat} (hd : 1 ≤ d) (s : Ss) (hs : s.sz ≤ 10000) (h : Heap) : run tab.defs d i_sources_all_in [.d s.D] h = .ok (.nw (.lst s.all), h) := by
  obtain ⟨d, rfl, k⟩ := dep hd
  rw [run_at d_sources_all_in rfl]
  obtain ⟨a3', a4', a5', e⟩ := all_loop (Φ := run tab.defs d) (base := h.length) (some (.d s.D)) h TURNS s [] none none none (by unfold TURNS; omega) (by simpa using hs)
  simp only [Ss.D, List.nil_append] at e ⊢
  simp [f_sources_all_in, b_sources_all_in, e]

/-! ### sides of all statements; names -/
def Ss.sides : Ss → List Sd
  | .nil => []
  | .set _ e r => .sw e :: r.sides
  | .ite c a b r => .sb c :: (a.sides ++ b.sides ++ r.sides)
  | .whl c a r => .sb c :: (a.sides ++ r.sides)
def Ss.names : Ss → List Nm
  | .nil => []
  | .set x _ r => x :: r.names
  | .ite _ a b r => a.names ++ b.names ++ r.names
  | .whl _ a r => a.names ++ r.names
def Wd.reads : Wd → List Nm
  | .num _ => []
  | .nam x => [x]
  | .one _ a => a.reads
  | .two _ a b => b.reads ++ a.reads
def Bt.reads : Bt → List Nm
  | .zero a => a.reads
  | .less a b => b.reads ++ a.reads
  | .off b => b.reads
def Sd.reads : Sd → List Nm
  | .sw a => a.reads
  | .sb a => a.reads
/-- the statements one by one -/
inductive St where
  | set (x : Nm) (e : Wd)
  | ite (c : Bt) (a b : Ss)
  | whl (c : Bt) (a : Ss)
def St.D : St → Mini.D
  | .set x e => .tup [.str s_set, .str x, e.D]
  | .ite c a b => .tup [.str s_if, c.D, .tup a.Ds, .tup b.Ds]
  | .whl c a => .tup [.str s_while, c.D, .tup a.Ds]
def Ss.sts : Ss → List St
  | .nil => []
  | .set x e r => .set x e :: r.sts
  | .ite c a b r => .ite c a b :: (a.sts ++ b.sts ++ r.sts)
  | .whl c a r => .whl c a :: (a.sts ++ r.sts)
theorem Ss.all_sts : ∀ s : Ss, s.all = s.sts.map St.D
  | .nil => rfl
  | .set x e r => by simp [Ss.all, Ss.sts, Ss.all_sts r, St.D]
  | .ite c a b r => by simp [Ss.all, Ss.sts, Ss.all_sts r, Ss.all_sts a, Ss.all_sts b, St.D]
  | .whl c a r => by simp [Ss.all, Ss.sts, Ss.all_sts r, Ss.all_sts a, St.D]
def St.side : St → Sd
  | .set _ e => .sw e
  | .ite c _ _ => .sb c
  | .whl c _ => .sb c
def St.nm : St → List Nm
  | .set x _ => [x]
  | _ => []
theorem Ss.sides_sts : ∀ s : Ss, s.sts.map St.side = s.sides
  | .nil => rfl
  | .set x e r => by simp [Ss.sts, Ss.sides, St.side, Ss.sides_sts r]
  | .ite c a b r => by simp [Ss.sts, Ss.sides, St.side, Ss.sides_sts r, Ss.sides_sts a, Ss.sides_sts b]
  | .whl c a r => by simp [Ss.sts, Ss.sides, St.side, Ss.sides_sts r, Ss.sides_sts a]
theorem Ss.names_sts : ∀ s : Ss, s.sts.flatMap St.nm = s.names
  | .nil => rfl
  | .set x e r => by simp [Ss.sts, Ss.names, St.nm, Ss.names_sts r]
  | .ite c a b r => by simp [Ss.sts, Ss.names, St.nm, Ss.names_sts r, Ss.names_sts a, Ss.names_sts b]
  | .whl c a r => by simp [Ss.sts, Ss.names, St.nm, Ss.names_sts r, Ss.names_sts a]
theorem Ss.len_sts (s : Ss) : s.sts.length = s.sz := by rw [← Ss.len_all, Ss.all_sts, List.length_map]
theorem r_sides {d : Nat} (hd : 2 ≤ d) (s : Ss) (hs : s.sz ≤ 10000) (h : Heap) : run tab.defs d i_sources_sides_in [.d s.D] h = .ok (.nw (.lst (s.sides.map Sd.D)), h) := by
  obtain ⟨d, rfl, k⟩ := dep hd
  rw [run_at d_sources_sides_in rfl]
  have e1 := r_all k s hs h
  have e2 := mapS_encm (run tab.defs d) (own := [1]) (t := .nm 1) (c := .tyes) (e := x0_sources_sides_in) (env := [some (.d s.D), none]) (h := h) (xs := s.sts) St.D (fun x => x.side.D) (fun x _ => by cases x <;> simp [stepS_eq, x0_sources_sides_in, St.D, St.side, Sd.D, q_if, q_while])
  have e3 : s.sts.map (fun x => x.side.D) = s.sides.map Sd.D := by rw [← Ss.sides_sts, List.map_map]; rfl
  have l : s.sides.length ≤ LINE := by rw [← Ss.sides_sts, List.length_map, Ss.len_sts, LINE_eq]; omega
  rw [e3] at e2
  rw [Ss.all_sts] at e1
  simp [f_sources_sides_in, b_sources_sides_in, e1, e2, l]
theorem strsOf_map (l : List Nm) : strsOf (l.map .str) = some l := by
  induction l with
  | nil => rfl
  | cons x l ih => simp [strsOf, ih]
theorem mem_dedup {α : Type} [DecidableEq α] {x : α} : ∀ {l : List α}, x ∈ dedup l ↔ x ∈ l
  | [] => Iff.rfl
  | y :: l => by
    unfold dedup
    split
    · rename_i q
      rw [mem_dedup (l := l), List.mem_cons]
      exact ⟨Or.inr, fun z => z.elim (fun e => e ▸ q) id⟩
    · rw [List.mem_cons, List.mem_cons, mem_dedup (l := l)]
theorem nodup_dedup {α : Type} [DecidableEq α] : ∀ l : List α, (dedup l).Nodup
  | [] => List.nodup_nil
  | y :: l => by
    unfold dedup
    split
    · exact nodup_dedup l
    · rename_i q
      exact List.nodup_cons.mpr ⟨fun z => q (mem_dedup.mp z), nodup_dedup l⟩
theorem len_dedup {α : Type} [DecidableEq α] {l m : List α} (h : ∀ x ∈ l, x ∈ m) : (dedup l).length ≤ m.length := nodup_len (nodup_dedup l) fun x hx => h x (mem_dedup.mp hx)
/-- names in order, each once -/
def asc (l : List Nm) : List Nm := sortBy ltStr (dedup l)
theorem r_set_in {d : Nat} (hd : 2 ≤ d) (s : Ss) (hs : s.sz ≤ 1000) {m : List Nm} (hm : ∀ x ∈ s.names, x ∈ m) (hl : m.length < 64) (h : Heap) : run tab.defs d i_sources_set_in [.d s.D] h = .ok (.nw (.lst ((asc s.names).map .str)), h) := by
  obtain ⟨d, rfl, k⟩ := dep hd
  rw [run_at d_sources_set_in rfl]
  have e1 := r_all k s (by omega) h
  have e2 := mapS_enc (run tab.defs d) (own := [1]) (t := .nm 1) (c := k0_sources_set_in) (e := x0_sources_set_in) (env := [some (.d s.D), none]) (h := h) (xs := s.sts) St.D (fun x => x.nm.map .str) (fun x _ => by cases x <;> simp [stepS_eq, k0_sources_set_in, x0_sources_set_in, St.D, St.nm, q_if, q_while])
  have e3 : (s.sts.flatMap fun x => x.nm.map D.str) = s.names.map .str := by rw [← Ss.names_sts, List.map_flatMap]
  have nl : s.names.length ≤ s.sz := by
    have gen : ∀ s : Ss, s.names.length ≤ s.sz := by
      intro s
      induction s with
      | nil => exact Nat.le_refl _
      | set x e r ih => simp only [Ss.names, Ss.sz, List.length_cons]; omega
      | ite c a b r iha ihb ihr => simp only [Ss.names, Ss.sz, List.length_append]; omega
      | whl c a r iha ihr => simp only [Ss.names, Ss.sz, List.length_append]; omega
    exact gen s
  have l : s.names.length ≤ LINE := by rw [LINE_eq]; omega
  have l4 : s.names.length ≤ 4000 := by omega
  have l6 := Nat.lt_of_le_of_lt (len_dedup hm) hl
  rw [e3] at e2
  rw [Ss.all_sts] at e1
  simp [f_sources_set_in, b_sources_set_in, e1, e2, l, strsOf_map, l4, l6, asc]
def Wd.subs : Wd → List Sd
  | .num n => [.sw (.num n)]
  | .nam x => [.sw (.nam x)]
  | .one o a => .sw (.one o a) :: a.subs
  | .two o a b => .sw (.two o a b) :: (b.subs ++ a.subs)
def Bt.subs : Bt → List Sd
  | .zero a => .sb (.zero a) :: a.subs
  | .less a b => .sb (.less a b) :: (b.subs ++ a.subs)
  | .off b => .sb (.off b) :: b.subs
def Sd.subs : Sd → List Sd
  | .sw a => a.subs
  | .sb a => a.subs
def Sd.nmr : Sd → List Nm
  | .sw (.nam x) => [x]
  | _ => []
theorem Wd.parts_subs : ∀ a : Wd, a.parts = a.subs.map Sd.D
  | .num _ => rfl
  | .nam _ => rfl
  | .one _ a => by simp [Wd.parts, Wd.subs, Sd.D, Wd.parts_subs a]
  | .two _ a b => by simp [Wd.parts, Wd.subs, Sd.D, Wd.parts_subs a, Wd.parts_subs b]
theorem Bt.parts_subs : ∀ a : Bt, a.parts = a.subs.map Sd.D
  | .zero a => by simp [Bt.parts, Bt.subs, Sd.D, Wd.parts_subs a]
  | .less a b => by simp [Bt.parts, Bt.subs, Sd.D, Wd.parts_subs a, Wd.parts_subs b]
  | .off b => by simp [Bt.parts, Bt.subs, Sd.D, Bt.parts_subs b]
theorem Sd.parts_subs (x : Sd) : x.parts = x.subs.map Sd.D := by
  cases x with
  | sw a => exact a.parts_subs
  | sb a => exact a.parts_subs
theorem Wd.reads_subs : ∀ a : Wd, a.subs.flatMap Sd.nmr = a.reads
  | .num _ => rfl
  | .nam _ => rfl
  | .one _ a => by simp [Wd.subs, Wd.reads, Sd.nmr, Wd.reads_subs a]
  | .two _ a b => by simp [Wd.subs, Wd.reads, Sd.nmr, Wd.reads_subs a, Wd.reads_subs b]
theorem Bt.reads_subs : ∀ a : Bt, a.subs.flatMap Sd.nmr = a.reads
  | .zero a => by simp [Bt.subs, Bt.reads, Sd.nmr, Wd.reads_subs a]
  | .less a b => by simp [Bt.subs, Bt.reads, Sd.nmr, Wd.reads_subs a, Wd.reads_subs b]
  | .off b => by simp [Bt.subs, Bt.reads, Sd.nmr, Bt.reads_subs b]
theorem Sd.reads_subs (x : Sd) : x.subs.flatMap Sd.nmr = x.reads := by
  cases x with
  | sw a => exact a.reads_subs
  | sb a => exact a.reads_subs
theorem Wd.len_reads : ∀ a : Wd, a.reads.length ≤ a.sz
  | .num _ => Nat.zero_le _
  | .nam _ => Nat.le_refl _
  | .one _ a => by have := Wd.len_reads a; simp only [Wd.reads, Wd.sz]; omega
  | .two _ a b => by have := Wd.len_reads a; have := Wd.len_reads b; simp only [Wd.reads, Wd.sz, List.length_append]; omega
theorem Bt.len_reads : ∀ a : Bt, a.reads.length ≤ a.sz
  | .zero a => by have := Wd.len_reads a; simp only [Bt.reads, Bt.sz]; omega
  | .less a b => by have := Wd.len_reads a; have := Wd.len_reads b; simp only [Bt.reads, Bt.sz, List.length_append]; omega
  | .off b => by have := Bt.len_reads b; simp only [Bt.reads, Bt.sz]; omega
theorem Sd.len_reads (x : Sd) : x.reads.length ≤ x.sz := by
  cases x with
  | sw a => exact a.len_reads
  | sb a => exact a.len_reads
/-- names that sides read -/
def Ss.reads (s : Ss) : List Nm := s.sides.flatMap Sd.reads
theorem Ss.side_sz {ns : List Nm} : ∀ {s : Ss}, s.ok ns → ∀ x ∈ s.sides, x.sz ≤ 7
  | .nil, _, x, hx => by simp [Ss.sides] at hx
  | .set _ e r, ok, x, hx => by
    rcases List.mem_cons.mp hx with rfl | hx
    · exact ok.2.1.2.2
    · exact Ss.side_sz ok.2.2 x hx
  | .ite c a b r, ok, x, hx => by
    rcases List.mem_cons.mp hx with rfl | hx
    · exact ok.1.2.2
    · rcases List.mem_append.mp hx with hx | hx
      · rcases List.mem_append.mp hx with hx | hx
        · exact Ss.side_sz ok.2.1 x hx
        · exact Ss.side_sz ok.2.2.1 x hx
      · exact Ss.side_sz ok.2.2.2 x hx
  | .whl c a r, ok, x, hx => by
    rcases List.mem_cons.mp hx with rfl | hx
    · exact ok.1.2.2
    · rcases List.mem_append.mp hx with hx | hx
      · exact Ss.side_sz ok.2.1 x hx
      · exact Ss.side_sz ok.2.2 x hx
theorem Wd.reads_ok {ns : List Nm} : ∀ {a : Wd}, a.ok ns → ∀ x ∈ a.reads, x ∈ ns
  | .num _, _, x, hx => by simp [Wd.reads] at hx
  | .nam y, ok, x, hx => by simp [Wd.reads] at hx; rw [hx]; exact ok
  | .one _ a, ok, x, hx => Wd.reads_ok (a := a) ok x hx
  | .two _ a b, ok, x, hx => by
    rcases List.mem_append.mp hx with hx | hx
    · exact Wd.reads_ok ok.2 x hx
    · exact Wd.reads_ok ok.1 x hx
theorem Bt.reads_ok {ns : List Nm} : ∀ {a : Bt}, a.ok ns → ∀ x ∈ a.reads, x ∈ ns
  | .zero a, ok, x, hx => Wd.reads_ok (a := a) ok x hx
  | .less a b, ok, x, hx => by
    rcases List.mem_append.mp hx with hx | hx
    · exact Wd.reads_ok ok.2 x hx
    · exact Wd.reads_ok ok.1 x hx
  | .off b, ok, x, hx => Bt.reads_ok (a := b) ok x hx
theorem Ss.reads_ok {ns : List Nm} : ∀ {s : Ss}, s.ok ns → ∀ x ∈ s.reads, x ∈ ns
  | .nil, _, x, hx => by simp [Ss.reads, Ss.sides] at hx
  | .set _ e r, ok, x, hx => by
    simp only [Ss.reads, Ss.sides, List.flatMap_cons, List.mem_append] at hx
    rcases hx with hx | hx
    · exact Wd.reads_ok ok.2.1.1 x hx
    · exact Ss.reads_ok ok.2.2 x hx
  | .ite c a b r, ok, x, hx => by
    simp only [Ss.reads, Ss.sides, List.flatMap_cons, List.flatMap_append, List.mem_append] at hx
    rcases hx with hx | ((hx | hx) | hx)
    · exact Bt.reads_ok ok.1.1 x hx
    · exact Ss.reads_ok ok.2.1 x hx
    · exact Ss.reads_ok ok.2.2.1 x hx
    · exact Ss.reads_ok ok.2.2.2 x hx
  | .whl c a r, ok, x, hx => by
    simp only [Ss.reads, Ss.sides, List.flatMap_cons, List.flatMap_append, List.mem_append] at hx
    rcases hx with hx | (hx | hx)
    · exact Bt.reads_ok ok.1.1 x hx
    · exact Ss.reads_ok ok.2.1 x hx
    · exact Ss.reads_ok ok.2.2 x hx
theorem Ss.names_ok {ns : List Nm} : ∀ {s : Ss}, s.ok ns → ∀ x ∈ s.names, x ∈ ns
  | .nil, _, x, hx => by simp [Ss.names] at hx
  | .set _ e r, ok, x, hx => by
    simp only [Ss.names, List.mem_cons] at hx
    rcases hx with hx | hx
    · rw [hx]; exact ok.1
    · exact Ss.names_ok ok.2.2 x hx
  | .ite c a b r, ok, x, hx => by
    simp only [Ss.names, List.mem_append] at hx
    rcases hx with ((hx | hx) | hx)
    · exact Ss.names_ok ok.2.1 x hx
    · exact Ss.names_ok ok.2.2.1 x hx
    · exact Ss.names_ok ok.2.2.2 x hx
  | .whl c a r, ok, x, hx => by
    simp only [Ss.names, List.mem_append] at hx
    rcases hx with (hx | hx)
    · exact Ss.names_ok ok.2.1 x hx
    · exact Ss.names_ok ok.2.2 x hx
theorem flat_len {α β : Type} (f : α → List β) (k : Nat) : ∀ {l : List α}, (∀ x ∈ l, (f x).length ≤ k) → (l.flatMap f).length ≤ k * l.length
  | [], _ => by simp
  | x :: l, h => by
    have h1 := h x (by simp)
    have h2 := flat_len f k (l := l) fun y hy => h y (by simp [hy])
    rw [List.flatMap_cons, List.length_append, List.length_cons, Nat.mul_add, Nat.mul_one]
    omega
theorem Ss.len_sides (s : Ss) : s.sides.length = s.sz := by rw [← Ss.sides_sts, List.length_map, Ss.len_sts]
theorem read_step {d : Nat} (hd : 1 ≤ d) (a0 : Option RV) (x : Sd) (hx : x.sz ≤ 7) (h : Heap) : stepS2 (run tab.defs d) [1, 2] (.nm 1) .tyes [2] (.nm 2) v0_sources_read_in k0_sources_read_in x0_sources_read_in [a0, none, none] x.D h = .ok (x.reads.map .str, h) := by
  have e1 := r_parts hd x (by omega) h
  have e2 := mapS_enc (run tab.defs d) (own := [2]) (t := .nm 2) (c := k0_sources_read_in) (e := x0_sources_read_in) (env := [a0, some (.d x.D), none]) (h := h) (xs := x.subs) Sd.D (fun y => y.nmr.map .str) (fun y _ => by
    cases y with
    | sw a =>
      cases a with
      | one o a => cases o <;> simp [stepS_eq, k0_sources_read_in, x0_sources_read_in, Sd.D, Wd.D, Sd.nmr, O1.s, q_not, q_up, q_down]
      | two o a b => cases o <;> simp [stepS_eq, k0_sources_read_in, x0_sources_read_in, Sd.D, Wd.D, Sd.nmr, O2.s, q_add, q_sub, q_and, q_or, q_xor]
      | num n => simp [stepS_eq, k0_sources_read_in, x0_sources_read_in, Sd.D, Wd.D, Sd.nmr, q_num]
      | nam z => simp [stepS_eq, k0_sources_read_in, x0_sources_read_in, Sd.D, Wd.D, Sd.nmr]
    | sb a => cases a <;> simp [stepS_eq, k0_sources_read_in, x0_sources_read_in, Sd.D, Bt.D, Sd.nmr, q_zero, q_less, q_off])
  have e3 : (x.subs.flatMap fun y => y.nmr.map D.str) = x.reads.map .str := by rw [← Sd.reads_subs, List.map_flatMap]
  rw [e3] at e2
  rw [Sd.parts_subs] at e1
  simp [stepS2_eq, v0_sources_read_in, e1, e2]
theorem r_read_in {d : Nat} (hd : 3 ≤ d) (s : Ss) (hs : s.sz ≤ 500) {m : List Nm} (ok : s.ok m) (hl : m.length < 64) (h : Heap) : run tab.defs d i_sources_read_in [.d s.D] h = .ok (.nw (.lst ((asc s.reads).map .str)), h) := by
  obtain ⟨d, rfl, k⟩ := dep hd
  rw [run_at d_sources_read_in rfl]
  have e1 := r_sides k s (by omega) h
  have e2 := mapS2_enc (run tab.defs d) (own := [1, 2]) (t := .nm 1) (c := .tyes) (own2 := [2]) (t2 := .nm 2) (it2 := v0_sources_read_in) (c2 := k0_sources_read_in) (e := x0_sources_read_in) (env := [some (.d s.D), none, none]) (h := h) (xs := s.sides) Sd.D (fun x => x.reads.map .str) (fun x hx => read_step (by omega) _ x (Ss.side_sz ok x hx) h)
  have e3 : (s.sides.flatMap fun x => x.reads.map D.str) = s.reads.map .str := by rw [Ss.reads, List.map_flatMap]
  rw [e3] at e2
  have nl : s.reads.length ≤ 7 * s.sz := by
    rw [← Ss.len_sides]
    exact flat_len _ 7 fun x hx => Nat.le_trans x.len_reads (Ss.side_sz ok x hx)
  have l : s.reads.length ≤ LINE := by rw [LINE_eq]; omega
  have l4 : s.reads.length ≤ 4000 := by omega
  have l6 := Nat.lt_of_le_of_lt (len_dedup (Ss.reads_ok ok)) hl
  simp [f_sources_read_in, b_sources_read_in, e1, e2, l, strsOf_map, l4, l6, asc]
theorem mem_asc {l : List Nm} {x : Nm} : x ∈ asc l ↔ x ∈ l := by rw [asc, mem_sortBy, mem_dedup]
theorem r_fits_some {ns : List Nm} (hN : ∀ x ∈ ns, isNm' x = true) (hl : ns.length ≤ 6) {d : Nat} (hd : 13 ≤ d) (s : Ss) (ok : s.ok ns) (dp : s.dp ≤ 4) (many : Nat) (hz : s.sz ≤ many) (hm : many ≤ 500) (h : Heap) :
    run tab.defs d i_sources_fits_some [.d s.D, .d (.int many)] h = .ok (.d (.bl true), h) := by
  obtain ⟨d, rfl, k⟩ := dep hd
  rw [run_at d_sources_fits_some rfl]
  have e1 := r_stmts hN h s d 4 ok dp (by omega) (by omega)
  have e2 := r_all (d := d) (by omega) s (by omega) h
  have e3 := r_set_in (d := d) (by omega) s (by omega) (Ss.names_ok ok) (by omega) h
  have e4 := r_read_in (d := d) (by omega) s (by omega) ok (by omega) h
  have la : ((s.all.length : Nat) : Int) ≤ (many : Int) := by rw [Ss.len_all]; omega
  have mem : ∀ x ∈ asc s.names ++ asc s.reads, x ∈ ns := fun x hx => by
    rcases List.mem_append.mp hx with q | q
    · exact Ss.names_ok ok x (mem_asc.mp q)
    · exact Ss.reads_ok ok x (mem_asc.mp q)
  have ld : (dedup (asc s.names ++ asc s.reads)).length ≤ 6 := Nat.le_trans (len_dedup mem) hl
  have la1 : (asc s.names).length ≤ 6 := by rw [asc, len_sortBy]; exact Nat.le_trans (len_dedup (Ss.names_ok ok)) hl
  have la2 : (asc s.reads).length ≤ 6 := by rw [asc, len_sortBy]; exact Nat.le_trans (len_dedup (Ss.reads_ok ok)) hl
  have lb : (asc s.names).length + (asc s.reads).length ≤ LINE := lit_le (by omega)
  have lc : (asc s.names).length + (asc s.reads).length ≤ 4000 := by omega
  have ld' : ((dedup (asc s.names ++ asc s.reads)).length : Int) ≤ 6 := by omega
  have em : (asc s.names).map D.str ++ (asc s.reads).map D.str = (asc s.names ++ asc s.reads).map D.str := by simp
  simp only [show ((4 : Nat) : Int) = 4 from rfl] at e1
  simp [f_sources_fits_some, b_sources_fits_some, c_sources_DEEP, c_sources_NAMES, e1, e2, e3, e4, la, lb]
  rw [em, strsOf_map]
  simp [lc, ld']
end Mini
set_option Elab.async false
set_option linter.all false
set_option autoImplicit false
set_option maxRecDepth 100000
set_option maxHeartbeats 4000000
/- worths judged; what the package tells of runs. Own work. -/
namespace Mini
/-! ### order of names -/
theorem lt_asymm' : ∀ {x y : Nm}, ltStr x y = false → x ≠ y → ltStr y x = true
  | [], [], _, h => absurd rfl h
  | [], _ :: _, h, _ => by simp [ltStr] at h
  | _ :: _, [], _, _ => rfl
  | a :: x, b :: y, h, k => by
    unfold ltStr at h ⊢
    by_cases h1 : a < b
    · simp [h1] at h
    · by_cases h2 : b < a
      · simp [h2]
      · have e : a = b := by omega
        subst e
        simp only [Nat.lt_irrefl, if_false] at h ⊢
        exact lt_asymm' h fun q => k (by rw [q])
theorem lt_trans' : ∀ {x y z : Nm}, ltStr x y = true → ltStr y z = true → ltStr x z = true
  | [], _, [], h, k => by
    rename_i y
    cases y <;> simp [ltStr] at h k
  | [], _, _ :: _, _, _ => rfl
  | _ :: _, [], _, h, _ => by simp [ltStr] at h
  | _ :: _, _ :: _, [], _, k => by simp [ltStr] at k
  | a :: x, b :: y, c :: z, h, k => by
    unfold ltStr at h k ⊢
    by_cases h1 : a < b
    · by_cases h2 : b < c
      · have : a < c := by omega
        simp [this]
      · by_cases h3 : c < b
        · simp [h2, h3] at k
        · have e : b = c := by omega
          subst e
          simp [h1]
    · by_cases h4 : b < a
      · simp [h1, h4] at h
      · have e : a = b := by omega
        subst e
        simp only [Nat.lt_irrefl, if_false] at h
        by_cases h2 : a < c
        · simp [h2]
        · by_cases h3 : c < a
          · simp [h2, h3] at k
          · have e : a = c := by omega
            subst e
            simp only [Nat.lt_irrefl, if_false] at k ⊢
            exact lt_trans' h k
theorem lt_irrefl' : ∀ x : Nm, ltStr x x = false
  | [] => rfl
  | a :: x => by simp [ltStr, lt_irrefl' x]
abbrev Rising (l : List Nm) : Prop := l.Pairwise fun x y => ltStr x y = true
theorem insBy_rising {x : Nm} : ∀ {l : List Nm}, Rising l → x ∉ l → Rising (insBy ltStr x l)
  | [], _, _ => by simp [insBy]
  | y :: r, h, k => by
    unfold insBy
    have h1 := List.pairwise_cons.mp h
    by_cases q : ltStr x y = true
    · rw [if_pos q]
      refine List.pairwise_cons.mpr ⟨fun z hz => ?_, h⟩
      rcases List.mem_cons.mp hz with rfl | hz
      · exact q
      · exact lt_trans' q (h1.1 z hz)
    · rw [if_neg q]
      have q' : ltStr x y = false := by simpa using q
      have yx := lt_asymm' q' fun e => k (by simp [e])
      refine List.pairwise_cons.mpr ⟨fun z hz => ?_, insBy_rising h1.2 fun m => k (by simp [m])⟩
      rcases mem_insBy.mp hz with rfl | hz
      · exact yx
      · exact h1.1 z hz
theorem sortBy_rising : ∀ {l : List Nm}, l.Nodup → Rising (sortBy ltStr l)
  | [], _ => by simp [sortBy]
  | x :: l, h => by
    have h1 := List.nodup_cons.mp h
    exact insBy_rising (sortBy_rising h1.2) fun m => h1.1 (mem_sortBy.mp m)
theorem rising_nodup {l : List Nm} (h : Rising l) : l.Nodup := h.imp fun {a b} q e => by
  subst e
  rw [lt_irrefl'] at q
  cases q
theorem sortBy_id : ∀ {l : List Nm}, Rising l → sortBy ltStr l = l
  | [], _ => rfl
  | x :: l, h => by
    have h1 := List.pairwise_cons.mp h
    rw [sortBy, sortBy_id h1.2]
    cases l with
    | nil => rfl
    | cons y r => unfold insBy; rw [if_pos (h1.1 y (by simp))]
theorem rising_zip : ∀ {l : List Nm}, Rising l → ∀ z ∈ zipD (l.map .str) (l.map D.str).tail, ∃ x y, z = .tup [.str x, .str y] ∧ ltStr x y = true
  | [], _, z, hz => by simp at hz
  | [x], _, z, hz => by simp at hz
  | x :: y :: r, h, z, hz => by
    have h1 := List.pairwise_cons.mp h
    simp only [List.map_cons, List.tail_cons, zipD, List.mem_cons] at hz
    rcases hz with rfl | hz
    · exact ⟨x, y, rfl, h1.1 y (by simp)⟩
    · exact rising_zip h1.2 z (by simpa using hz)
theorem len_zipD : ∀ xs ys : List D, (zipD xs ys).length ≤ xs.length
  | [], ys => by cases ys <;> simp
  | x :: xs, [] => by simp
  | x :: xs, y :: ys => by simp; exact len_zipD xs ys
theorem all_true {l : List Bool} (h : ∀ b ∈ l, b = true) : l.all id = true := by
  rw [List.all_eq_true]; exact h
@[simp] theorem all_tt {α : Type} (l : List α) : (l.all fun _ => true) = true := by rw [List.all_eq_true]; intro x _; rfl
theorem blsOf_const {α : Type} : ∀ l : List α, blsOf (l.map fun _ => D.bl true) = some (l.map fun _ => true)
  | [] => rfl
  | x :: l => by simp [blsOf, blsOf_const l]
theorem r_is_rising {d : Nat} (hd : 1 ≤ d) (l : List Nm) (hl : l.length ≤ 1000) (hr : Rising l) (h : Heap) : run tab.defs d i_words_is_rising [.d (.lst (l.map .str))] h = .ok (.d (.bl true), h) := by
  obtain ⟨d, rfl, k⟩ := dep hd
  rw [run_at d_words_is_rising rfl]
  have e := mapS_map (run tab.defs d) (own := [1, 2]) (t := .tp (.cons (.nm 1) (.cons (.nm 2) .nil))) (c := .tyes) (e := x0_words_is_rising) (env := [some (.d (.lst (l.map .str))), none, none]) (h := h) (xs := zipD (l.map .str) (l.map D.str).tail) (fun _ => .bl true) (fun z hz => by
    obtain ⟨x, y, rfl, q⟩ := rising_zip hr z hz
    simp [stepS_eq, x0_words_is_rising, q])
  have zl : (zipD (l.map .str) (l.map D.str).tail).length ≤ LINE := by
    have := len_zipD (l.map .str) (l.map D.str).tail
    rw [List.length_map] at this
    rw [LINE_eq]; omega
  have ec : cut (l.map D.str) (some 1) none = (l.map D.str).tail := by simpa using cut_from (l.map D.str) 1
  have ea : (List.map (fun _ => true) (zipD (l.map .str) (l.map D.str).tail)).all id = true := all_true fun b hb => by
    obtain ⟨_, _, rfl⟩ := List.mem_map.mp hb
    rfl
  simp [f_words_is_rising, b_words_is_rising, ec, e, zl, blsOf_const]
/-- worths: names in order, words -/
structure Tb.Wo (w : Nat) (t : Tb) : Prop where
  len : t.length ≤ 12
  nms : ∀ p ∈ t, isNm' p.1 = true
  tin : t.In w
  ris : Rising (t.map (·.1))
theorem r_fits_worths {d : Nat} (hd : 4 ≤ d) {w : Nat} (hw : w ≤ LINE) (t : Tb) (W : t.Wo w) (h : Heap) : run tab.defs d i_sources_fits_worths [.d (.int w), .d t.D] h = .ok (.d (.bl true), h) := by
  obtain ⟨d, rfl, k⟩ := dep hd
  rw [run_at d_sources_fits_worths rfl]
  have e0 := mapS_encm (run tab.defs d) (own := [2]) (t := .nm 2) (c := .tyes) (e := x0_sources_fits_worths) (env := [some (.d (.int w)), some (.d t.D), none, none, none]) (h := h) (xs := t) pairD (fun _ => .bl true) (fun p _ => by simp [stepS_eq, x0_sources_fits_worths, pairD, r_is_tuple_of (show 1 ≤ d by omega)])
  have e1 := mapS_encm (run tab.defs d) (own := [3, 4]) (t := .tp (.cons (.nm 3) (.cons (.nm 4) .nil))) (c := .tyes) (e := x1_sources_fits_worths) (env := [some (.d (.int w)), some (.d t.D), none, none, none]) (h := h) (xs := t) pairD (fun _ => .bl true) (fun p hp => by
    have h1 := (W.tin p hp).1
    have h2 : p.2 ≤ 2 ^ w - 1 := by have := (W.tin p hp).2; omega
    simp [stepS_eq, x1_sources_fits_worths, pairD, r_is_name (show 2 ≤ d by omega), W.nms p hp, r_fits_whole (show 2 ≤ d by omega), r_power (show 1 ≤ d by omega) w hw, h1, h2])
  have e2 := mapS_encm (run tab.defs d) (own := [3, 4]) (t := .tp (.cons (.nm 3) (.cons (.nm 4) .nil))) (c := .tyes) (e := x2_sources_fits_worths) (env := [some (.d (.int w)), some (.d t.D), none, none, none]) (h := h) (xs := t) pairD (fun p => .str p.1) (fun p hp => by
    simp [stepS_eq, x2_sources_fits_worths, pairD])
  have l1 : t.length ≤ LINE := lit_le (by have := W.len; omega)
  have l2 : (t.length : Int) ≤ 12 := by have := W.len; omega
  have ea : (List.map (fun _ => true) t).all id = true := all_true fun b hb => by
    obtain ⟨_, _, rfl⟩ := List.mem_map.mp hb
    rfl
  have er := r_is_rising (d := d) (by omega) (t.map (·.1)) (by have := W.len; simp; omega) W.ris h
  rw [List.map_map] at er
  have ef : (D.str ∘ fun p : Nm × Int => p.1) = fun p : Nm × Int => D.str p.1 := rfl
  rw [ef] at er
  simp only [Tb.D] at e0 e1 e2 ⊢
  simp [f_sources_fits_worths, b_sources_fits_worths, c_sources_NAMES, small, r_is_tuple_of (show 1 ≤ d by omega), l1, l2, e0, e1, e2, blsOf_const, er]
theorem Tb.Wo.keys {w : Nat} {t : Tb} (W : t.Wo w) : (t.map (·.1)).Nodup := rising_nodup W.ris
/-- what is told is worths -/
theorem told_Wo {ns : List Nm} {w : Nat} {t : Tb} (hN : ∀ x ∈ ns, isNm' x = true) (hl : ns.length ≤ 12) (k : keysIn ns t) (ht : t.In w) : (toldP t).Wo w := by
  have em : (toldP t).map (·.1) = (sortBy ltStr (t.map (·.1))).filter fun x => tget t x != 0 := by
    unfold toldP
    rw [List.map_map]
    exact List.map_id _
  refine ⟨?_, fun p hp => ?_, fun p hp => ?_, ?_⟩
  · have h1 : (toldP t).length = ((toldP t).map (·.1)).length := by simp
    rw [h1, em]
    refine Nat.le_trans (List.length_filter_le _ _) ?_
    rw [len_sortBy, List.length_map]
    exact Nat.le_trans k.len hl
  · obtain ⟨x, hx, rfl⟩ := List.mem_map.mp hp
    have hx := mem_sortBy.mp (List.mem_filter.mp hx).1
    obtain ⟨q, hq, rfl⟩ := List.mem_map.mp hx
    exact hN _ (k.2 q hq)
  · obtain ⟨x, hx, rfl⟩ := List.mem_map.mp hp
    exact tget_in ht x
  · rw [em]
    exact (sortBy_rising k.1).filter _
theorem told_keys {ns : List Nm} {t : Tb} (k : keysIn ns t) : keysIn ns (toldP t) := by
  have em : (toldP t).map (·.1) = (sortBy ltStr (t.map (·.1))).filter fun x => tget t x != 0 := by
    unfold toldP
    rw [List.map_map]
    exact List.map_id _
  refine ⟨?_, fun p hp => ?_⟩
  · rw [em]
    exact rising_nodup ((sortBy_rising k.1).filter _)
  · obtain ⟨x, hx, rfl⟩ := List.mem_map.mp hp
    have hx := mem_sortBy.mp (List.mem_filter.mp hx).1
    obtain ⟨q, hq, rfl⟩ := List.mem_map.mp hx
    exact k.2 q hq
/-! ### the package's functions -/
structure Fit (ns nt : List Nm) (w : Nat) (t : Tb) (s : Ss) : Prop where
  w4 : 4 ≤ w
  w8 : w ≤ 8
  wo : t.Wo w
  kin : keysIn nt t
  ok : s.ok ns
  ms : s.ms ≤ 200
  dp : s.dp ≤ 4
section
variable {ns nt : List Nm} (hN : ∀ x ∈ ns, isNm' x = true) (hl : ns.length ≤ 6) (sub : ∀ x ∈ ns, x ∈ nt) (ht : nt.length < 64) {w : Nat} {t : Tb} {s : Ss} (F : Fit ns nt w t s)
theorem Ss.ok_mono {ns nt : List Nm} (sub : ∀ x ∈ ns, x ∈ nt) : ∀ {s : Ss}, s.ok ns → s.ok nt := by
  have W : ∀ a : Wd, a.ok ns → a.ok nt := by
    intro a
    induction a with
    | num n => exact id
    | nam x => exact sub x
    | one o a ih => exact ih
    | two o a b iha ihb => exact fun h => ⟨iha h.1, ihb h.2⟩
  have B : ∀ a : Bt, a.ok ns → a.ok nt := by
    intro a
    induction a with
    | zero a => exact W a
    | less a b => exact fun h => ⟨W a h.1, W b h.2⟩
    | off b ih => exact ih
  intro s
  induction s with
  | nil => exact id
  | set x e r ih => exact fun h => ⟨sub x h.1, ⟨W e h.2.1.1, h.2.1.2⟩, ih h.2.2⟩
  | ite c a b r iha ihb ihr => exact fun h => ⟨⟨B c h.1.1, h.1.2⟩, iha h.2.1, ihb h.2.2.1, ihr h.2.2.2⟩
  | whl c a r iha ihr => exact fun h => ⟨⟨B c h.1.1, h.1.2⟩, iha h.2.1, ihr h.2.2⟩
include sub in
theorem Fit.inv (F : Fit ns nt w t s) : Inv nt w 200 t s := ⟨F.wo.tin, F.kin, Ss.ok_mono sub F.ok, F.ms, F.dp⟩
include hN hl F in
theorem r_need_run {d : Nat} (hd : 14 ≤ d) (h : Heap) : run tab.defs d i_sources_need_run [.d (.int w), .d t.D, .d s.D] h = .ok (.d .non, h) := by
  obtain ⟨d, rfl, k⟩ := dep hd
  rw [run_at d_sources_need_run rfl]
  have hw : w ≤ LINE := lit_le (by have := F.w8; omega)
  have e1 := r_need_width (d := d) (by omega) (w : Int) (by have := F.w4; omega) (by have := F.w8; omega) h
  have e2 := r_fits_worths (d := d) (by omega) hw t F.wo h
  have e3 := r_fits_some hN hl (d := d) (by omega) s F.ok F.dp 200 (Nat.le_trans s.sz_ms F.ms) (by omega) h
  simp only [show ((200 : Nat) : Int) = 200 from rfl] at e3
  simp [f_sources_need_run, b_sources_need_run, c_sources_RESTS, e1, e2, e3]
theorem r_need_steps {d : Nat} (hd : 3 ≤ d) (n : Nat) (hn : n ≤ 2000) (h : Heap) : run tab.defs d i_sources_need_steps [.d (.int n)] h = .ok (.d .non, h) := by
  obtain ⟨d, rfl, k⟩ := dep hd
  rw [run_at d_sources_need_steps rfl]
  have : (n : Int) ≤ 2000 := by omega
  simp [f_sources_need_steps, b_sources_need_steps, c_sources_STEPS, r_fits_whole k, this]
include hN hl sub ht F in
theorem r_source_run {d : Nat} (hd : 15 ≤ d) (n : Nat) (hn : n ≤ 2000) (h : Heap) : run tab.defs d i_sources_source_run [.d (.int w), .d t.D, .d s.D, .d (.int n)] h = .ok (.d (.tup [(toldP (runP w n t s).1.1).D, (runP w n t s).1.2.D, .int (runP w n t s).2]), h) := by
  obtain ⟨d, rfl, k⟩ := dep hd
  rw [run_at d_sources_source_run rfl]
  have hw : w ≤ LINE := lit_le (by have := F.w8; omega)
  have e1 := r_need_run hN hl F k h
  have e2 := r_need_steps (d := d) (by omega) n hn h
  have e3 := r_run hw (by rw [LINE_eq]; omega) ht (F.inv sub) n hn (d := d) (by omega) h
  simp [f_sources_source_run, b_sources_source_run, e1, e2, e3]
include hN hl sub ht F in
theorem r_source_step {d : Nat} (hd : 15 ≤ d) (h : Heap) : run tab.defs d i_sources_source_step [.d (.int w), .d t.D, .d s.D] h = .ok (.d (.tup [(toldP (runP w 1 t s).1.1).D, (runP w 1 t s).1.2.D]), h) := by
  obtain ⟨d, rfl, k⟩ := dep hd
  rw [run_at d_sources_source_step rfl]
  have hw : w ≤ LINE := lit_le (by have := F.w8; omega)
  have e1 := r_need_run hN hl F k h
  have e3 := r_run hw (by rw [LINE_eq]; omega) ht (F.inv sub) 1 (by omega) (d := d) (by omega) h
  simp only [show ((1 : Nat) : Int) = 1 from rfl] at e3
  have ec : ∀ x y z : D, cut [x, y, z] none (some 2) = [x, y] := fun x y z => by simpa using cut_to [x, y, z] 2
  simp [f_sources_source_step, b_sources_source_step, e1, e3, ec]
theorem Ss.isNil (s : Ss) : (match s with
    | .nil => true
    | _ => false) = eqDs s.Ds [] := by cases s <;> simp [Ss.Ds]
def endedB : Ss → Bool
  | .nil => true
  | _ => false
theorem ended_eq (s : Ss) : eqDs s.Ds [] = endedB s := by cases s <;> simp [Ss.Ds, endedB]
include hN hl sub ht F in
theorem r_source_end {d : Nat} (hd : 15 ≤ d) (n : Nat) (hn : n ≤ 2000) (h : Heap) : run tab.defs d i_sources_source_end [.d (.int w), .d t.D, .d s.D, .d (.int n)] h = .ok (.d (if endedB (runP w n t s).1.2 = true then (toldP (runP w n t s).1.1).D else .non), h) := by
  obtain ⟨d, rfl, k⟩ := dep hd
  rw [run_at d_sources_source_end rfl]
  have hw : w ≤ LINE := lit_le (by have := F.w8; omega)
  have e1 := r_need_run hN hl F k h
  have e2 := r_need_steps (d := d) (by omega) n hn h
  have e3 := r_run hw (by rw [LINE_eq]; omega) ht (F.inv sub) n hn (d := d) (by omega) h
  have nd := Ss.noDcts (runP w n t s).1.2
  have dl : min (depths (runP w n t s).1.2.Ds + 1) 1 ≤ 60 := by omega
  have ee := ended_eq (runP w n t s).1.2
  simp only [Ss.D] at e3 e1 ⊢
  cases q : endedB (runP w n t s).1.2 <;> simp [f_sources_source_end, b_sources_source_end, e1, e2, e3, nd, dl, ee, q]
include hN hl sub ht F in
theorem r_steps_to_end {d : Nat} (hd : 15 ≤ d) (n : Nat) (hn : n ≤ 2000) (h : Heap) : run tab.defs d i_sources_steps_to_end [.d (.int w), .d t.D, .d s.D, .d (.int n)] h = .ok (.d (if endedB (runP w n t s).1.2 = true then .int (runP w n t s).2 else .non), h) := by
  obtain ⟨d, rfl, k⟩ := dep hd
  rw [run_at d_sources_steps_to_end rfl]
  have hw : w ≤ LINE := lit_le (by have := F.w8; omega)
  have e1 := r_need_run hN hl F k h
  have e2 := r_need_steps (d := d) (by omega) n hn h
  have e3 := r_run hw (by rw [LINE_eq]; omega) ht (F.inv sub) n hn (d := d) (by omega) h
  have nd := Ss.noDcts (runP w n t s).1.2
  have dl : min (depths (runP w n t s).1.2.Ds + 1) 1 ≤ 60 := by omega
  have ee := ended_eq (runP w n t s).1.2
  simp only [Ss.D] at e3 e1 ⊢
  cases q : endedB (runP w n t s).1.2 <;> simp [f_sources_steps_to_end, b_sources_steps_to_end, e1, e2, e3, nd, dl, ee, q]
end
end Mini
set_option Elab.async false
set_option linter.all false
set_option autoImplicit false
set_option maxRecDepth 100000
set_option maxHeartbeats 4000000
/- ways; a side by itself. Own work. -/
namespace Mini
theorem strInt0 : strInt 0 = [48] := by decide +kernel
theorem strInt1 : strInt 1 = [49] := by decide +kernel
theorem str_bit {i : Int} (h : i = 0 ∨ i = 1) : biV .str [.int i] = some (.d (.str (strInt i))) := by
  rcases h with rfl | rfl <;> rw [ystr, if_pos (by decide +kernel)]
/-- the bit of the statement ahead -/
def bitP (w : Nat) (t : Tb) : Ss → List Nat
  | .nil => []
  | .set _ _ _ => []
  | .ite c _ _ _ => strInt (c.wo w t)
  | .whl c _ _ => strInt (c.wo w t)
def waysP (w : Nat) : Nat → Tb → Ss → List Nat
  | 0, _, _ => []
  | n + 1, t, s => bitP w t s ++ waysP w n (stepP w t s).1 (stepP w t s).2
theorem waysP_nil (w : Nat) (t : Tb) : ∀ n, waysP w n t .nil = []
  | 0 => rfl
  | n + 1 => by simp [waysP, bitP, stepP, waysP_nil w t n]
theorem bitP_len (w : Nat) (t : Tb) (s : Ss) : (bitP w t s).length ≤ 1 := by
  cases s with
  | nil => simp [bitP]
  | set x e r => simp [bitP]
  | ite c a b r => rcases Bt.wo_bit w t c with e | e <;> simp [bitP, e, strInt0, strInt1]
  | whl c a r => rcases Bt.wo_bit w t c with e | e <;> simp [bitP, e, strInt0, strInt1]
theorem ways_step {ns : List Nm} {w B d base : Nat} (hw : w ≤ LINE) (hB : 2 * B ≤ LINE) (hn : ns.length < LINE) (hd : 6 ≤ d) (a1 a3 : Option RV) (u : D) (h : Heap) (t : Tb) (s : Ss) (f : Nm) (hf : f.length ≤ 10000) (I : Inv ns w B t s) :
    exS (run tab.defs d) base l0_sources_source_ways [some (.d (.int w)), a1, some (.d s.D), a3, some (.d (.dct false t.kv)), some (.d (.str f)), some (.d u)] h
      = .ok (.nx, [some (.d (.int w)), a1, some (.d (stepP w t s).2.D), a3, some (.d (.dct false (stepP w t s).1.kv)), some (.d (.str (f ++ bitP w t s))), some (.d u)], h) := by
  have nd := Ss.noDcts s
  have dl : min (depths s.Ds + 1) 1 ≤ 60 := by omega
  by_cases hs : s = .nil
  · subst hs
    simp [l0_sources_source_ways, Ss.D, Ss.Ds, bitP, stepP]
  · have e1 := r_step hw hB hn I hs hd h
    have ne := Ss.D_ne hs
    have fl : f.length + 1 ≤ LINE := by rw [LINE_eq]; omega
    cases s with
    | nil => exact absurd rfl hs
    | set x e r =>
      simp only [Ss.D] at e1 ⊢
      simp only [Ss.Ds] at e1 nd ne dl ⊢
      simp [l0_sources_source_ways, nd, ne, dl, e1, bitP]
    | ite c a b r =>
      have e2 := r_worthB hw I.tin h c d (by have := I.ok.1.2.1; omega)
      have e3 := str_bit (Bt.wo_bit w t c)
      have l1 : (strInt (c.wo w t)).length = 1 := by rcases Bt.wo_bit w t c with e | e <;> simp [e, strInt0, strInt1]
      simp only [Ss.D] at e1 ⊢
      simp only [Ss.Ds] at e1 nd ne dl ⊢
      simp [l0_sources_source_ways, nd, ne, dl, e1, e2, bitP, q_if, e3, l1, fl, -ystr]
    | whl c a r =>
      have e2 := r_worthB hw I.tin h c d (by have := I.ok.1.2.1; omega)
      have e3 := str_bit (Bt.wo_bit w t c)
      have l1 : (strInt (c.wo w t)).length = 1 := by rcases Bt.wo_bit w t c with e | e <;> simp [e, strInt0, strInt1]
      simp only [Ss.D] at e1 ⊢
      simp only [Ss.Ds] at e1 nd ne dl ⊢
      simp [l0_sources_source_ways, nd, ne, dl, e1, e2, bitP, q_while, e3, l1, fl, -ystr]
theorem ways_loop {ns : List Nm} {w B d base : Nat} (hw : w ≤ LINE) (hB : 2 * B ≤ LINE) (hn : ns.length < LINE) (hd : 6 ≤ d) (a1 a3 : Option RV) (h : Heap) : ∀ (us : List D) (t : Tb) (s : Ss) (f : Nm) (a6 : Option RV), f.length + us.length ≤ 10000 → Inv ns w B t s → ∃ a2' a4' a6',
    forS (run tab.defs d) base (.nm 6) l0_sources_source_ways us [some (.d (.int w)), a1, some (.d s.D), a3, some (.d (.dct false t.kv)), some (.d (.str f)), a6] h
      = .ok (.nx, [some (.d (.int w)), a1, a2', a3, a4', some (.d (.str (f ++ waysP w us.length t s))), a6'], h)
  | [], t, s, f, a6, hl, I => ⟨_, _, a6, by simp [forS_nil, waysP]; exact ⟨rfl, rfl⟩⟩
  | u :: us, t, s, f, a6, hl, I => by
    simp only [List.length_cons] at hl
    have b := bitP_len w t s
    obtain ⟨a2', a4', a6', ih⟩ := ways_loop (base := base) hw hB hn hd a1 a3 h us (stepP w t s).1 (stepP w t s).2 (f ++ bitP w t s) (some (.d u)) (by rw [List.length_append]; omega) I.step
    refine ⟨a2', a4', a6', ?_⟩
    rw [forS_cons, show setTg (.nm 6) u [some (.d (.int w)), a1, some (.d s.D), a3, some (.d (.dct false t.kv)), some (.d (.str f)), a6] = some [some (.d (.int w)), a1, some (.d s.D), a3, some (.d (.dct false t.kv)), some (.d (.str f)), some (.d u)] from rfl, kFT_e, ways_step hw hB hn hd a1 a3 u h t s f (by omega) I]
    simp only [b3_ok, kLW_nx, kLF_nx]
    rw [ih]
    simp [waysP]
section
variable {ns nt : List Nm} (hN : ∀ x ∈ ns, isNm' x = true) (hl : ns.length ≤ 6) (sub : ∀ x ∈ ns, x ∈ nt) (ht : nt.length < 64) {w : Nat} {t : Tb} {s : Ss} (F : Fit ns nt w t s)
include hN hl sub ht F in
theorem r_source_ways {d : Nat} (hd : 15 ≤ d) (n : Nat) (hn : n ≤ 2000) (h : Heap) : run tab.defs d i_sources_source_ways [.d (.int w), .d t.D, .d s.D, .d (.int n)] h = .ok (.d (.str (waysP w n t s)), h) := by
  obtain ⟨d, rfl, k⟩ := dep hd
  rw [run_at d_sources_source_ways rfl]
  have hw : w ≤ LINE := lit_le (by have := F.w8; omega)
  have e1 := r_need_run hN hl F k h
  have e2 := r_need_steps (d := d) (by omega) n hn h
  obtain ⟨a2', a4', a6', e3⟩ := ways_loop (d := d) (base := h.length) hw (B := 200) (by rw [LINE_eq]; omega) (by rw [LINE_eq]; omega) (by omega) (some (.d t.D)) (some (.d (.int n))) h (rangeD 0 n) t s [] none (by rw [length_range]; simp; omega) (F.inv sub)
  rw [length_range] at e3
  have kk := dmerge_kv F.kin.1
  have b1 : -(LINE : Int) ≤ (n : Int) := by rw [LINE_eq]; omega
  have b2 : (n : Int) ≤ (LINE : Int) := by rw [LINE_eq]; omega
  simp only [Tb.D] at e1 e3 ⊢
  simp only [List.nil_append] at e3
  simp [f_sources_source_ways, b_sources_source_ways, e1, e2, pairsOf_D, kk, b1, b2, s__, e3]
end
theorem r_side_worthW {ns nt : List Nm} (hN : ∀ x ∈ ns, isNm' x = true) {w : Nat} (w4 : 4 ≤ w) (w8 : w ≤ 8) {t : Tb} (W : t.Wo w) {d : Nat} (hd : 9 ≤ d) (a : Wd) (ha : a.Ok ns) (h : Heap) : run tab.defs d i_sources_side_worth [.d (.int w), .d a.D, .d t.D] h = .ok (.d (.int (a.wo w t)), h) := by
  obtain ⟨d, rfl, k⟩ := dep hd
  rw [run_at d_sources_side_worth rfl]
  have hw : w ≤ LINE := lit_le (by omega)
  have e0 := r_need_width (d := d) (by omega) (w : Int) (by omega) (by omega) h
  have e1 := r_is_sideW hN k a ha h
  have e2 := r_fits_worths (d := d) (by omega) hw t W h
  have e3 := r_worth hw W.tin h a d (by have := ha.2.1; omega)
  have kk := dmerge_kv W.keys
  simp only [Tb.D] at e2 ⊢
  simp [f_sources_side_worth, b_sources_side_worth, e0, e1, e2, e3, pairsOf_D, kk]
theorem r_side_worthB {ns nt : List Nm} (hN : ∀ x ∈ ns, isNm' x = true) {w : Nat} (w4 : 4 ≤ w) (w8 : w ≤ 8) {t : Tb} (W : t.Wo w) {d : Nat} (hd : 9 ≤ d) (a : Bt) (ha : a.Ok ns) (h : Heap) : run tab.defs d i_sources_side_worth [.d (.int w), .d a.D, .d t.D] h = .ok (.d (.int (a.wo w t)), h) := by
  obtain ⟨d, rfl, k⟩ := dep hd
  rw [run_at d_sources_side_worth rfl]
  have hw : w ≤ LINE := lit_le (by omega)
  have e0 := r_need_width (d := d) (by omega) (w : Int) (by omega) (by omega) h
  have e1 := r_is_sideB hN k a ha h
  have e2 := r_fits_worths (d := d) (by omega) hw t W h
  have e3 := r_worthB hw W.tin h a d (by have := ha.2.1; omega)
  have kk := dmerge_kv W.keys
  simp only [Tb.D] at e2 ⊢
  simp [f_sources_side_worth, b_sources_side_worth, e0, e1, e2, e3, pairsOf_D, kk]
end Mini
set_option Elab.async false
set_option linter.all false
set_option autoImplicit false
set_option maxRecDepth 100000
set_option maxHeartbeats 4000000
/- words: expressions of numbers; folded. Own work. -/
namespace Mini
/-- no name in it -/
def Wd.cl : Wd → Prop
  | .num n => n ≤ 255
  | .nam _ => False
  | .one _ a => a.cl
  | .two _ a b => a.cl ∧ b.cl
theorem Wd.cl_ok : ∀ {a : Wd}, a.cl → a.ok []
  | .num _, h => h
  | .nam _, h => h.elim
  | .one _ a, h => Wd.cl_ok (a := a) h
  | .two _ a b, h => ⟨Wd.cl_ok h.1, Wd.cl_ok h.2⟩
@[simp] theorem nd_W (a : Wd) : noDct a.D = true := a.noDct
@[simp] theorem nd_B (a : Bt) : noDct a.D = true := a.noDct
@[simp] theorem nd_S (s : Ss) : noDcts s.Ds = true := s.noDcts
@[simp] theorem min1 (k : Nat) : min 1 k ≤ 60 := by omega
@[simp] theorem min2 (k : Nat) : min k 1 ≤ 60 := by omega
theorem r_leafN {d : Nat} (hd : 3 ≤ d) (n : Nat) (hn : n ≤ 255) (h : Heap) : run tab.defs d i_words_leaf_kind [.d (Wd.D (.num n))] h = .ok (.d (.str s_word), h) := by
  obtain ⟨d, rfl, k⟩ := dep hd
  rw [run_at d_words_leaf_kind rfl]
  have h1 : (n : Int) ≤ 255 := by omega
  have e := r_power (show 1 ≤ d by omega) 8 (lit_le (by omega)) h
  simp only [show ((8 : Nat) : Int) = 8 from rfl] at e
  simp [f_words_leaf_kind, b_words_leaf_kind, Wd.D, q_place, q_flag, q_num, c_words_HIGH, e, r_fits_whole k, h1]
theorem r_leaf1 {d : Nat} (hd : 3 ≤ d) (o : O1) (a : Wd) (h : Heap) : run tab.defs d i_words_leaf_kind [.d (Wd.D (.one o a))] h = .ok (.d (.str s__), h) := by
  obtain ⟨d, rfl, k⟩ := dep hd
  rw [run_at d_words_leaf_kind rfl]
  cases o <;> simp [f_words_leaf_kind, b_words_leaf_kind, Wd.D, O1.s, q_place, q_flag, q_num, q_field, q_signed, q_reg, q_not, q_up, q_down]
theorem r_leaf2 {d : Nat} (hd : 3 ≤ d) (o : O2) (a b : Wd) (h : Heap) : run tab.defs d i_words_leaf_kind [.d (Wd.D (.two o a b))] h = .ok (.d (.str s__), h) := by
  obtain ⟨d, rfl, k⟩ := dep hd
  rw [run_at d_words_leaf_kind rfl]
  cases o <;> simp [f_words_leaf_kind, b_words_leaf_kind, Wd.D, O2.s, q_place, q_flag, q_num, q_field, q_signed, q_reg, q_add, q_sub, q_and, q_or, q_xor]
def wantsK : List (Ky × D) := [(.t [.inr s_off, .inl 2], .tup [.str s_bit, .str s_bit]), (.t [.inr s_zero, .inl 2], .tup [.str s_bit, .str s_word]), (.t [.inr s_less, .inl 3], .tup [.str s_bit, .str s_word])]
theorem wants_d1 : dictOf true [.tup [.str s_off, .int 2], .tup [.str s_bit, .str s_bit], .tup [.str s_zero, .int 2], .tup [.str s_bit, .str s_word], .tup [.str s_less, .int 3], .tup [.str s_bit, .str s_word]] = some wantsK := by rfl
theorem wants_d2 : dmerge [] wantsK = wantsK := by rfl
theorem wants_d3 : subV true (.dct true wantsK) (.tup [.str s_cell, .int 2]) (.tup [.str s_word, .str s_word]) = some (.dct true (wantsK ++ [(.t [.inr s_cell, .inl 2], .tup [.str s_word, .str s_word])])) := by rfl
theorem wants_l : wantsK.length = 3 := rfl
theorem r_wantsof1 {d : Nat} (hd : 1 ≤ d) (o : O1) (a : Wd) (h : Heap) : run tab.defs d i_words_wants_of [.d (Wd.D (.one o a))] h = .ok (.d (.tup [.str s_word, .str s_word]), h) := by
  obtain ⟨d, rfl, k⟩ := dep hd
  rw [run_at d_words_wants_of rfl]
  cases o <;> simp [f_words_wants_of, b_words_wants_of, Wd.D, O1.s, wants_d1, wants_d2, wants_d3, wants_l, c_words_TWO, c_words_ONE, q_add, q_sub, q_and, q_or, q_xor, q_not, q_up, q_down, -ysub]
theorem r_wantsof2 {d : Nat} (hd : 1 ≤ d) (o : O2) (a b : Wd) (h : Heap) : run tab.defs d i_words_wants_of [.d (Wd.D (.two o a b))] h = .ok (.d (.tup [.str s_word, .str s_word]), h) := by
  obtain ⟨d, rfl, k⟩ := dep hd
  rw [run_at d_words_wants_of rfl]
  cases o <;> simp [f_words_wants_of, b_words_wants_of, Wd.D, O2.s, wants_d1, wants_d2, wants_d3, wants_l, c_words_TWO, c_words_ONE, q_add, q_sub, q_and, q_or, q_xor, -ysub]
theorem r_kindC (h : Heap) : ∀ (a : Wd) (d n : Nat), a.cl → a.dp ≤ n → a.dp + 4 ≤ d → run tab.defs d i_words_kind_in [.d a.D, .d (.int n)] h = .ok (.d (.str s_word), h)
  | .num m, d, n, ha, hn, hd => by
    obtain ⟨d, rfl, k⟩ := dep hd
    rw [run_at d_words_kind_in rfl]
    have n0 : ¬ n = 0 := by simp only [Wd.dp] at hn; omega
    have e := r_leafN (show 3 ≤ d by omega) m ha h
    simp only [Wd.D] at e ⊢
    simp [f_words_kind_in, b_words_kind_in, r_is_tuple_of (show 1 ≤ d by omega), n0, e, q_word]
  | .nam x, d, n, ha, hn, hd => ha.elim
  | .one o a, d, n, ha, hn, hd => by
    obtain ⟨d, rfl, k⟩ := dep hd
    rw [run_at d_words_kind_in rfl]
    simp only [Wd.dp] at hn k
    have n0 : ¬ n = 0 := by omega
    have ih := r_kindC h a d (n - 1) ha (by omega) (by omega)
    have en : ((n - 1 : Nat) : Int) = (n : Int) - 1 := by omega
    rw [en] at ih
    have e1 := r_leaf1 (show 3 ≤ d by omega) o a h
    have e2 := r_wantsof1 (show 1 ≤ d by omega) o a h
    simp only [Wd.D] at e1 e2 ⊢
    simp [f_words_kind_in, b_words_kind_in, x0_words_kind_in, r_is_tuple_of (show 1 ≤ d by omega), n0, e1, e2, mapS_cons, mapS_nil, stepS_eq, ih, blsOf]
  | .two o a b, d, n, ha, hn, hd => by
    obtain ⟨d, rfl, k⟩ := dep hd
    rw [run_at d_words_kind_in rfl]
    simp only [Wd.dp] at hn k
    have n0 : ¬ n = 0 := by omega
    have ih1 := r_kindC h a d (n - 1) ha.1 (by omega) (by omega)
    have ih2 := r_kindC h b d (n - 1) ha.2 (by omega) (by omega)
    have en : ((n - 1 : Nat) : Int) = (n : Int) - 1 := by omega
    rw [en] at ih1 ih2
    have e1 := r_leaf2 (show 3 ≤ d by omega) o a b h
    have e2 := r_wantsof2 (show 1 ≤ d by omega) o a b h
    simp only [Wd.D] at e1 e2 ⊢
    simp [f_words_kind_in, b_words_kind_in, x0_words_kind_in, r_is_tuple_of (show 1 ≤ d by omega), n0, e1, e2, mapS_cons, mapS_nil, stepS_eq, ih1, ih2, blsOf]
/-! ### in it, from the left -/
def Wd.pre : Wd → List Sd
  | .num n => [.sw (.num n)]
  | .nam x => [.sw (.nam x)]
  | .one o a => .sw (.one o a) :: a.pre
  | .two o a b => .sw (.two o a b) :: (a.pre ++ b.pre)
def Bt.pre : Bt → List Sd
  | .zero a => .sb (.zero a) :: a.pre
  | .less a b => .sb (.less a b) :: (a.pre ++ b.pre)
  | .off b => .sb (.off b) :: b.pre
def Sd.pre : Sd → List Sd
  | .sw a => a.pre
  | .sb a => a.pre
theorem Sd.pre_kids (x : Sd) : x.pre = x :: x.kids.flatMap Sd.pre := by
  cases x with
  | sw a => cases a <;> simp [Sd.kids, Sd.pre, Wd.pre]
  | sb a => cases a <;> simp [Sd.kids, Sd.pre, Bt.pre]
theorem Wd.len_pre : ∀ a : Wd, a.pre.length = a.sz
  | .num _ => rfl
  | .nam _ => rfl
  | .one _ a => by simp [Wd.pre, Wd.sz, Wd.len_pre a]
  | .two _ a b => by simp [Wd.pre, Wd.sz, Wd.len_pre a, Wd.len_pre b]
theorem Bt.len_pre : ∀ a : Bt, a.pre.length = a.sz
  | .zero a => by simp [Bt.pre, Bt.sz, Wd.len_pre a]
  | .less a b => by simp [Bt.pre, Bt.sz, Wd.len_pre a, Wd.len_pre b]
  | .off b => by simp [Bt.pre, Bt.sz, Bt.len_pre b]
theorem Sd.len_pre (x : Sd) : x.pre.length = x.sz := by
  cases x with
  | sw a => exact a.len_pre
  | sb a => exact a.len_pre
theorem szs_kids (x : Sd) : szs x.kids + 1 = x.sz := by
  have gen : ∀ l : List Sd, szs l.reverse = szs l := by
    intro l
    induction l with
    | nil => rfl
    | cons y l ih => rw [List.reverse_cons, szs_app, ih]; simp only [szs]; omega
  rw [← gen]; exact x.sz_kids
theorem szs_len (l : List Sd) : l.length ≤ szs l := by
  induction l with
  | nil => exact Nat.le_refl _
  | cons z l ih => have := z.sz_kids; simp only [szs, List.length_cons]; omega
theorem noDcts_map (l : List Sd) : noDcts (l.map Sd.D) = true := by
  induction l with
  | nil => simp
  | cons x l ih => simp [ih, Sd.noDct x]
theorem inner_loop {Φ : Calls} {base : Nat} (a0 : Option RV) (h : Heap) : ∀ (F : Nat) (st : List Sd) (fd : List D) (a3 a4 : Option RV), szs st < F → fd.length + szs st ≤ 1000 → ∃ a3' a4',
    whlS Φ base t0_words_inner_in l0_words_inner_in F [a0, some (.ref h.length), some (.ref (h.length + 1)), a3, a4] (h ++ [.lst fd, .lst (st.map Sd.D).reverse])
      = .ok (.nx, [a0, some (.ref h.length), some (.ref (h.length + 1)), a3', a4'], h ++ [.lst (fd ++ (st.flatMap Sd.pre).map Sd.D), .lst []])
  | 0, st, fd, a3, a4, hF, hl => absurd hF (by omega)
  | F + 1, [], fd, a3, a4, hF, hl => ⟨a3, a4, by simp [whlS_succ, t0_words_inner_in]⟩
  | F + 1, x :: st, fd, a3, a4, hF, hl => by
    have hk := szs_kids x
    simp only [szs] at hF hl
    have sz2 : szs (x.kids ++ st) + 1 = x.sz + szs st := by rw [szs_app]; omega
    obtain ⟨a3', a4', ih⟩ := inner_loop (Φ := Φ) (base := base) a0 h F (x.kids ++ st) (fd ++ [x.D]) (some (.d x.D)) a4 (by omega) (by simp; omega)
    refine ⟨a3', a4', ?_⟩
    obtain ⟨ys, es, em⟩ := kids_eq (Φ := Φ) (k := k0_words_inner_in) (e := x0_words_inner_in) rfl rfl x a0 (some (.ref h.length)) (some (.ref (h.length + 1))) (some (.d x.D)) a4 (h ++ [.lst (fd ++ [x.D]), .lst (st.map Sd.D).reverse])
    have nd : noDcts ((st.map Sd.D).reverse ++ [x.D]) = true := by
      have := noDcts_rev (noDcts_map (x :: st))
      simpa using this
    have f1 : fd.length < LINE := by rw [LINE_eq]; omega
    have stl := szs_len st
    have f2 : st.length + x.kids.length ≤ LINE := by
      have := kids_len x
      rw [LINE_eq]; omega
    have f3 : x.kids.length ≤ LINE := by have := kids_len x; exact lit_le (by omega)
    have ne := eqDs_snoc (st.map Sd.D).reverse x.D
    have e4 : ((x.kids ++ st).map Sd.D).reverse = (st.map Sd.D).reverse ++ (x.kids.map Sd.D).reverse := by simp
    rw [e4] at ih
    have et : tst Φ t0_words_inner_in [a0, some (.ref h.length), some (.ref (h.length + 1)), a3, a4] (h ++ [.lst fd, .lst ((st.map Sd.D).reverse ++ [x.D])]) = .ok (true, h ++ [.lst fd, .lst ((st.map Sd.D).reverse ++ [x.D])]) := by
      have dl : min (depths ((st.map Sd.D).reverse ++ [x.D]) + 1) 1 ≤ 60 := by omega
      simp [t0_words_inner_in, nd, ne, dl]
    have eb : exS Φ base l0_words_inner_in [a0, some (.ref h.length), some (.ref (h.length + 1)), a3, a4] (h ++ [.lst fd, .lst ((st.map Sd.D).reverse ++ [x.D])]) = .ok (.nx, [a0, some (.ref h.length), some (.ref (h.length + 1)), some (.d x.D), a4], h ++ [.lst (fd ++ [x.D]), .lst ((st.map Sd.D).reverse ++ (x.kids.map Sd.D).reverse)]) := by
      simp [l0_words_inner_in, f1, es, em, f2, f3]
    rw [List.map_cons, List.reverse_cons, whlS_succ, et]
    simp only [b2_ok, kWh_t]
    rw [eb]
    simp only [b3_ok, kLW_nx, kLF_nx]
    rw [ih]
    have e3 : (x :: st).flatMap Sd.pre = x :: (x.kids ++ st).flatMap Sd.pre := by
      rw [List.flatMap_cons, Sd.pre_kids, List.flatMap_append]; rfl
    rw [e3]
    simp
theorem r_inner {d : Nat} (hd : 1 ≤ d) (x : Sd) (hx : x.sz ≤ 1000) (h : Heap) : run tab.defs d i_words_inner_in [.d x.D] h = .ok (.nw (.lst (x.pre.map Sd.D)), h) := by
  obtain ⟨d, rfl, k⟩ := dep hd
  rw [run_at d_words_inner_in rfl]
  obtain ⟨a3', a4', e⟩ := inner_loop (Φ := run tab.defs d) (base := h.length) (some (.d x.D)) h TURNS [x] [] none none (by simp only [szs, TURNS]; omega) (by simp only [szs]; simpa using hx)
  simp at e
  simp [f_words_inner_in, b_words_inner_in, e]
theorem r_need_term {d : Nat} (hd : 11 ≤ d) (a : Wd) (cl : a.cl) (dp : a.dp ≤ 4) (sz : a.sz ≤ 12) (h : Heap) : run tab.defs d i_words_need_term [.d a.D] h = .ok (.d .non, h) := by
  obtain ⟨d, rfl, k⟩ := dep hd
  rw [run_at d_words_need_term rfl]
  obtain ⟨d, rfl, k2⟩ := dep k
  have e0 : run tab.defs (d + 1) i_words_fits_term [.d a.D] h = .ok (.d (.bl true), h) := by
    rw [run_at d_words_fits_term rfl]
    have e1 := r_kindC h a d 4 cl dp (by omega)
    have e2 := r_inner (d := d) (by omega) (.sw a) (by simp only [Sd.sz]; omega) h
    simp only [Sd.D, Sd.pre] at e2
    simp only [show ((4 : Nat) : Int) = 4 from rfl] at e1
    have l : ((a.pre.length : Nat) : Int) ≤ 12 := by rw [a.len_pre]; omega
    simp [f_words_fits_term, b_words_fits_term, c_words_DEEP, c_words_NODES, e1, e2, l, q_word]
  simp [f_words_need_term, b_words_need_term, e0]
theorem r_folded_in {w : Nat} (hw : w ≤ LINE) (h : Heap) : ∀ (a : Wd) (d : Nat), a.cl → a.dp + 3 ≤ d → run tab.defs d i_words_folded_in [.d (.int w), .d a.D] h = .ok (.d (.tup [.str s_num, .int (a.wo w [])]), h)
  | .num n, d, cl, hd => by
    obtain ⟨d, rfl, k⟩ := dep hd
    rw [run_at d_words_folded_in rfl]
    simp only [Wd.dp] at k
    have p := two_pos w
    have e := r_leafN (show 3 ≤ d by omega) n cl h
    simp only [Wd.D] at e ⊢
    simp [f_words_folded_in, b_words_folded_in, e, q_word, r_power (show 1 ≤ d by omega) w hw, p, Wd.wo]
  | .nam x, d, cl, hd => cl.elim
  | .one o a, d, cl, hd => by
    obtain ⟨d, rfl, k⟩ := dep hd
    rw [run_at d_words_folded_in rfl]
    simp only [Wd.dp] at k
    have ap := a.dp_pos
    have e := r_leaf1 (show 3 ≤ d by omega) o a h
    have ih := r_folded_in hw h a d cl (by omega)
    have e1 := r_done1 (d := d) (by omega) o w hw (a.wo w []) 0 h
    simp only [Wd.D] at e ⊢
    cases o <;> simp only [O1.s] at e e1 ⊢ <;> simp [f_words_folded_in, b_words_folded_in, x0_words_folded_in, x1_words_folded_in, e, mapS_cons, mapS_nil, stepS_eq, ih, blsOf, c_words_TWO, c_words_ONE, q_add, q_sub, q_and, q_or, q_xor, q_not, q_up, q_down, e1, Wd.wo]
  | .two o a b, d, cl, hd => by
    obtain ⟨d, rfl, k⟩ := dep hd
    rw [run_at d_words_folded_in rfl]
    simp only [Wd.dp] at k
    have ap := a.dp_pos
    have e := r_leaf2 (show 3 ≤ d by omega) o a b h
    have ih1 := r_folded_in hw h a d cl.1 (by omega)
    have ih2 := r_folded_in hw h b d cl.2 (by omega)
    have ht : Tb.In w [] := fun p hp => by simp at hp
    have e1 := r_done2 (d := d) (by omega) o w hw (a.wo w []) (b.wo w []) (Wd.wo_in ht a).1 (Wd.wo_in ht b).1 h
    simp only [Wd.D] at e ⊢
    cases o <;> simp only [O2.s] at e e1 ⊢ <;> simp [f_words_folded_in, b_words_folded_in, x0_words_folded_in, x1_words_folded_in, e, mapS_cons, mapS_nil, stepS_eq, ih1, ih2, blsOf, c_words_TWO, c_words_ONE, q_add, q_sub, q_and, q_or, q_xor, e1, Wd.wo]
theorem r_folded {w : Nat} (w4 : 4 ≤ w) (w8 : w ≤ 8) {d : Nat} (hd : 12 ≤ d) (a : Wd) (cl : a.cl) (dp : a.dp ≤ 4) (sz : a.sz ≤ 12) (h : Heap) : run tab.defs d i_words_folded [.d (.int w), .d a.D] h = .ok (.d (.tup [.str s_num, .int (a.wo w [])]), h) := by
  obtain ⟨d, rfl, k⟩ := dep hd
  rw [run_at d_words_folded rfl]
  have e0 := r_need_width (d := d) (by omega) (w : Int) (by omega) (by omega) h
  have e1 := r_need_term k a cl dp sz h
  have e2 := r_folded_in (w := w) (lit_le (by omega)) h a d cl (by omega)
  simp [f_words_folded, b_words_folded, e0, e1, e2]
end Mini
set_option Elab.async false
set_option linter.all false
set_option autoImplicit false
set_option maxRecDepth 100000
set_option maxHeartbeats 4000000
/- the law's own: draws, likeness, what is in an expression. Own work. -/
namespace Mini
/-! ### draws -/
/-- the cup: what is left of a large cell, a number that goes on -/
structure Cup where
  a : Int
  b : Int
  ha : 0 ≤ a
  hb : 0 ≤ b
  hb2 : b < 2 ^ 63
def Cup.h (c : Cup) : Heap := [.lst [.int c.a, .int c.b]]
theorem r_roll {d : Nat} (hd : 1 ≤ d) (c : Cup) (m : Nat) (hm : 0 < m) (hm2 : m < 1000000) : ∃ (c' : Cup) (r : Nat), r < m ∧ run tab.defs d i_law_roll [.ref 0, .d (.int m)] c.h = .ok (.d (.int r), c'.h) := by
  obtain ⟨d, rfl, k⟩ := dep hd
  rw [run_at d_law_roll rfl]
  have m0 : (0 : Int) < m := by omega
  have m1 : (m : Int) < 1073741824 := by omega
  have p0 : place 2 0 = some 0 := by decide
  have p1 : place 2 1 = some 1 := by decide
  by_cases h : 0 < c.a
  · have r0 := Int.emod_nonneg c.a (show (m : Int) ≠ 0 by omega)
    have r1 := Int.emod_lt_of_pos c.a m0
    refine ⟨⟨c.a / m, c.b, Int.ediv_nonneg c.ha (by omega), c.hb, c.hb2⟩, (c.a % m).toNat, by omega, ?_⟩
    have e : (((c.a % m).toNat : Nat) : Int) = c.a % m := by omega
    rw [e]
    simp [f_law_roll, b_law_roll, Cup.h, h, hm, m1, p0]
  · have hb := c.hb
    have b0 := Int.emod_nonneg (c.b * 30703 + 7753) (show (2147482951 : Int) ≠ 0 by decide)
    have b1 := Int.emod_lt_of_pos (c.b * 30703 + 7753) (show (0 : Int) < 2147482951 by decide)
    generalize hv : (c.b * 30703 + 7753) % 2147482951 = v at b0 b1
    have d0 := Int.emod_nonneg (v * (v + 223)) (show (2147483059 : Int) ≠ 0 by decide)
    generalize hu : (v * (v + 223)) % 2147483059 = u at d0
    have r0 := Int.emod_nonneg (u / 821) (show (m : Int) ≠ 0 by omega)
    have r1 := Int.emod_lt_of_pos (u / 821) m0
    refine ⟨⟨c.a, v, c.ha, b0, by omega⟩, ((u / 821) % m).toNat, by omega, ?_⟩
    have e : ((((u / 821) % m).toNat : Nat) : Int) = (u / 821) % m := by omega
    have s1 : -18446744073709551616 < v ∧ v < 18446744073709551616 := by omega
    rw [e]
    simp [f_law_roll, b_law_roll, Cup.h, h, hm, m1, p0, p1, hv, hu, s1, small]
theorem r_some {d : Nat} (hd : 2 ≤ d) (c : Cup) (xs : List D) (h0 : 0 < xs.length) (hl : xs.length < 1000000) : ∃ (c' : Cup) (x : D), x ∈ xs ∧ run tab.defs d i_law_some [.ref 0, .d (.lst xs)] c.h = .ok (.d x, c'.h) := by
  obtain ⟨d, rfl, k⟩ := dep hd
  obtain ⟨c', r, hr, e⟩ := r_roll k c xs.length h0 hl
  rw [run_at d_law_some rfl]
  have ea : atD xs (r : Int) = some xs[r] := by
    unfold atD place
    rw [if_pos (by omega), if_pos (by omega)]
    simp
  refine ⟨c', xs[r], List.getElem_mem _, ?_⟩
  have e' : run tab.defs d i_law_roll [.ref 0, .d (.int xs.length)] c.h = .ok (.d (.int r), c'.h) := e
  simp [f_law_some, b_law_some, e', ea]
  simp [Cup.h]
theorem r_cup {d : Nat} (hd : 1 ≤ d) (ns : List Int) (hl : ns.length < LINE) : ∃ c : Cup, run tab.defs d i_law_cup [.d (.lst (ns.map .int))] [] = .ok (.nw (.lst [.int c.a, .int c.b]), []) := by
  obtain ⟨d, rfl, k⟩ := dep hd
  rw [run_at d_law_cup rfl]
  obtain ⟨v, hv⟩ : ∃ v : Int, atD (ns.map D.int ++ [D.int 0]) 0 = some (.int v) := by
    cases ns with
    | nil => exact ⟨0, rfl⟩
    | cons n ns => exact ⟨n, by simp⟩
  have fl : ns.length + 1 ≤ LINE := hl
  generalize ha : (if v < 0 then -v else v) = u
  have u0 : 0 ≤ u := by rw [← ha]; split <;> omega
  have b0 := Int.emod_nonneg (u * 313 + 3911) (show (2077502087 : Int) ≠ 0 by decide)
  have b1 := Int.emod_lt_of_pos (u * 313 + 3911) (show (0 : Int) < 2077502087 by decide)
  have pw : (10 : Int) ^ (18 : Int).toNat = 1000000000000000000 := by decide
  by_cases q : (1000000000000000000 : Int) ≤ u
  · refine ⟨⟨u / 79, (u * 313 + 3911) % 2077502087 + 193, Int.ediv_nonneg u0 (by decide), by omega, by omega⟩, ?_⟩
    simp [f_law_cup, b_law_cup, fl, hv, ha, q, small]
  · refine ⟨⟨0, (u * 313 + 3911) % 2077502087 + 193, by decide, by omega, by omega⟩, ?_⟩
    simp [f_law_cup, b_law_cup, fl, hv, ha, q, small]
/-! ### likeness -/
mutual
def plain : D → Bool
  | .non => true
  | .bl _ => true
  | .int _ => true
  | .str _ => true
  | .tup xs => plains xs
  | _ => false
def plains : List D → Bool
  | [] => true
  | x :: xs => plain x && plains xs
end
theorem plains_mem : ∀ {xs : List D}, plains xs = true → ∀ x ∈ xs, plain x = true
  | y :: ys, h, x, hx => by
    simp only [plains, Bool.and_eq_true] at h
    rcases List.mem_cons.mp hx with rfl | hx
    · exact h.1
    · exact plains_mem h.2 x hx
theorem depth_mem : ∀ {xs : List D}, ∀ x ∈ xs, depth x ≤ depths xs
  | y :: ys, x, hx => by
    rw [depths]
    rcases List.mem_cons.mp hx with rfl | hx
    · omega
    · have := depth_mem x hx; omega
theorem eqD_strs (x : List Nat) : eqD (.str x) (.str x) = true := by simp
/- no tuple is too long -/
mutual
def short : D → Bool
  | .tup xs => decide (xs.length ≤ 100000) && shorts xs
  | _ => true
def shorts : List D → Bool
  | [] => true
  | x :: xs => short x && shorts xs
end
theorem shorts_mem : ∀ {xs : List D}, shorts xs = true → ∀ x ∈ xs, short x = true
  | y :: ys, h, x, hx => by
    simp only [shorts, Bool.and_eq_true] at h
    rcases List.mem_cons.mp hx with rfl | hx
    · exact h.1
    · exact shorts_mem h.2 x hx
theorem same_ok (h : Heap) : ∀ (n d : Nat) (x : D), plain x = true → short x = true → depth x ≤ n → n + 1 ≤ d → run tab.defs d i_law_same [.d x, .d x] h = .ok (.d (.bl true), h) := by
  intro n
  induction n with
  | zero =>
    intro d x hp hs hn hd
    obtain ⟨d, rfl, k⟩ := dep hd
    rw [run_at d_law_same rfl]
    cases x with
    | non => simp [f_law_same, b_law_same]
    | bl b => cases b <;> simp [f_law_same, b_law_same, isD]
    | int i => simp [f_law_same, b_law_same]
    | str s => simp [f_law_same, b_law_same]
    | tup xs => simp [depth] at hn
    | lst xs => simp [plain] at hp
    | dct t kvs => simp [plain] at hp
  | succ n ih =>
    intro d x hp hs hn hd
    obtain ⟨d, rfl, k⟩ := dep hd
    rw [run_at d_law_same rfl]
    cases x with
    | non => simp [f_law_same, b_law_same]
    | bl b => cases b <;> simp [f_law_same, b_law_same, isD]
    | int i => simp [f_law_same, b_law_same]
    | str s => simp [f_law_same, b_law_same]
    | lst xs => simp [plain] at hp
    | dct t kvs => simp [plain] at hp
    | tup xs =>
      simp only [plain] at hp
      simp only [short, Bool.and_eq_true, decide_eq_true_eq] at hs
      rw [depth] at hn
      have e : mapS (run tab.defs d) [2] (.nm 2) .tyes x0_law_same [some (.d (.tup xs)), some (.d (.tup xs)), none] (rangeD 0 xs.length) h = .ok ((List.range xs.length).map fun _ => .bl true, h) := by
        have er : rangeD 0 (xs.length : Int) = (List.range xs.length).map fun k : Nat => D.int k := by unfold rangeD; simp
        rw [er]
        refine mapS_encm (run tab.defs d) (fun k : Nat => D.int k) (fun _ => .bl true) fun j hj => ?_
        have hj' : j < xs.length := List.mem_range.mp hj
        have ea : atD xs (j : Int) = some xs[j] := by
          unfold atD place
          rw [if_pos (by omega), if_pos (by omega)]
          simp
        have hm : xs[j] ∈ xs := List.getElem_mem _
        have e1 := ih d xs[j] (plains_mem hp _ hm) (shorts_mem hs.2 _ hm) (by have := depth_mem _ hm; omega) k
        simp [stepS_eq, x0_law_same, ea, e1]
      have l0 : (xs.length : Int) ≤ LINE := by rw [LINE_eq]; omega
      have l1 : -(LINE : Int) ≤ xs.length := by rw [LINE_eq]; omega
      have l2 : xs.length ≤ LINE := by rw [LINE_eq]; omega
      have eb := blsOf_const (List.range xs.length)
      simp [f_law_same, b_law_same, l0, l1, l2, e, eb]
end Mini
set_option Elab.async false
set_option linter.all false
set_option autoImplicit false
set_option maxRecDepth 100000
set_option maxHeartbeats 4000000
/- the law's own: expressions worked out with a pile. Own work. -/
namespace Mini
theorem linner_loop {Φ : Calls} {base : Nat} (a0 : Option RV) (h : Heap) : ∀ (F : Nat) (st : List Sd) (fd : List D) (a3 a4 : Option RV), szs st < F → fd.length + szs st ≤ 1000 → ∃ a2' a3' a4',
    whlS Φ base t0_law_inner l0_law_inner F [a0, some (.ref h.length), some (.d (.lst (st.map Sd.D).reverse)), a3, a4] (h ++ [.lst fd])
      = .ok (.nx, [a0, some (.ref h.length), a2', a3', a4'], h ++ [.lst (fd ++ (st.flatMap Sd.pre).map Sd.D)])
  | 0, st, fd, a3, a4, hF, hl => absurd hF (by omega)
  | F + 1, [], fd, a3, a4, hF, hl => ⟨_, a3, a4, by simp [whlS_succ, t0_law_inner]; rfl⟩
  | F + 1, x :: st, fd, a3, a4, hF, hl => by
    have hk := szs_kids x
    simp only [szs] at hF hl
    have sz2 : szs (x.kids ++ st) + 1 = x.sz + szs st := by rw [szs_app]; omega
    obtain ⟨a2', a3', a4', ih⟩ := linner_loop (Φ := Φ) (base := base) a0 h F (x.kids ++ st) (fd ++ [x.D]) (some (.d x.D)) a4 (by omega) (by simp; omega)
    refine ⟨a2', a3', a4', ?_⟩
    have nd : noDcts ((st.map Sd.D).reverse ++ [x.D]) = true := by
      have := noDcts_rev (noDcts_map (x :: st))
      simpa using this
    obtain ⟨ys, es, em⟩ := kids_eq (Φ := Φ) (k := k0_law_inner) (e := x0_law_inner) rfl rfl x a0 (some (.ref h.length)) (some (.d (.lst ((st.map Sd.D).reverse ++ [x.D])))) (some (.d x.D)) a4 (h ++ [.lst fd])
    have f1 : fd.length < LINE := by rw [LINE_eq]; omega
    have stl := szs_len st
    have f2 : st.length + x.kids.length ≤ LINE := by
      have := kids_len x
      rw [LINE_eq]; omega
    have f3 : x.kids.length ≤ LINE := by have := kids_len x; exact lit_le (by omega)
    have ne := eqDs_snoc (st.map Sd.D).reverse x.D
    have e4 : ((x.kids ++ st).map Sd.D).reverse = (st.map Sd.D).reverse ++ (x.kids.map Sd.D).reverse := by simp
    rw [e4] at ih
    have et : tst Φ t0_law_inner [a0, some (.ref h.length), some (.d (.lst ((st.map Sd.D).reverse ++ [x.D]))), a3, a4] (h ++ [.lst fd]) = .ok (true, h ++ [.lst fd]) := by
      have dl : min (depths ((st.map Sd.D).reverse ++ [x.D]) + 1) 1 ≤ 60 := by omega
      simp [t0_law_inner, nd, ne, dl]
    have eb : exS Φ base l0_law_inner [a0, some (.ref h.length), some (.d (.lst ((st.map Sd.D).reverse ++ [x.D]))), a3, a4] (h ++ [.lst fd]) = .ok (.nx, [a0, some (.ref h.length), some (.d (.lst ((st.map Sd.D).reverse ++ (x.kids.map Sd.D).reverse))), some (.d x.D), a4], h ++ [.lst (fd ++ [x.D])]) := by
      simp [l0_law_inner, f1, es, em, f2, f3]
    rw [List.map_cons, List.reverse_cons, whlS_succ, et]
    simp only [b2_ok, kWh_t]
    rw [eb]
    simp only [b3_ok, kLW_nx, kLF_nx]
    rw [ih]
    have e3 : (x :: st).flatMap Sd.pre = x :: (x.kids ++ st).flatMap Sd.pre := by
      rw [List.flatMap_cons, Sd.pre_kids, List.flatMap_append]; rfl
    rw [e3]
    simp
theorem r_linner {d : Nat} (hd : 1 ≤ d) (x : Sd) (hx : x.sz ≤ 1000) (h : Heap) : run tab.defs d i_law_inner [.d x.D] h = .ok (.nw (.lst (x.pre.map Sd.D)), h) := by
  obtain ⟨d, rfl, k⟩ := dep hd
  rw [run_at d_law_inner rfl]
  obtain ⟨a2', a3', a4', e⟩ := linner_loop (Φ := run tab.defs d) (base := h.length) (some (.d x.D)) h TURNS [x] [] none none (by simp only [szs, TURNS]; omega) (by simp only [szs]; simpa using hx)
  simp at e
  simp [f_law_inner, b_law_inner, e]
/-! ### numbers alone -/
def Bt.cl : Bt → Prop
  | .zero a => a.cl
  | .less a b => a.cl ∧ b.cl
  | .off b => b.cl
def scene0 : D := .tup [.tup [], .tup [], .int 0, .int 0, .tup []]
theorem r_leaf_num {d : Nat} (hd : 2 ≤ d) {w : Nat} (hw : w ≤ LINE) (n : Nat) (h : Heap) : run tab.defs d i_law_leaf [.d (.int w), .d (Wd.D (.num n)), .d scene0] h = .ok (.d (.int ((n : Int) % 2 ^ w)), h) := by
  obtain ⟨d, rfl, k⟩ := dep hd
  rw [run_at d_law_leaf rfl]
  have p := two_pos w
  simp [f_law_leaf, b_law_leaf, scene0, Wd.D, r_lpower k w hw, p, dictOf, dmerge, dput, q_num, q_place, q_flag]
theorem leaf_none {d : Nat} (hd : 2 ≤ d) {w : Nat} (o : Nm) (as : List D) (ho : o ≠ s_num ∧ o ≠ s_place ∧ o ≠ s_flag ∧ o ≠ s_reg ∧ o ≠ s_field ∧ o ≠ s_signed) (h : Heap) : run tab.defs d i_law_leaf [.d (.int w), .d (.tup (.str o :: as)), .d scene0] h = .ok (.d .non, h) := by
  obtain ⟨d, rfl, k⟩ := dep hd
  rw [run_at d_law_leaf rfl]
  obtain ⟨h1, h2, h3, h4, h5, h6⟩ := ho
  have g1 : ¬ s_num = o := fun e => h1 e.symm
  have g2 : ¬ s_place = o := fun e => h2 e.symm
  have g3 : ¬ s_flag = o := fun e => h3 e.symm
  simp [f_law_leaf, b_law_leaf, scene0, g1, g2, g3, h4, h5, h6, mapS_nil, pairsOf, dmerge]

theorem asgV_own4 {base n : Nat} {c : Cell} {a0 a1 a2 a3 : Option RV} {e : Env} {h : Heap} (q1 : base ≤ n) (q2 : n < h.length) (q3 : alone n 4 0 (a0 :: a1 :: a2 :: a3 :: some (.ref n) :: e) = true) : asgV base true 4 (.nw c) (a0 :: a1 :: a2 :: a3 :: some (.ref n) :: e) h = .ok (a0 :: a1 :: a2 :: a3 :: some (.ref n) :: e, h.set n c) := asgV_own rfl q1 q2 q3
theorem asgV_own9 {base n : Nat} {c : Cell} {a0 a1 a2 a3 a4 a5 a6 a7 a8 : Option RV} {e : Env} {h : Heap} (q1 : base ≤ n) (q2 : n < h.length) (q3 : alone n 9 0 (a0 :: a1 :: a2 :: a3 :: a4 :: a5 :: a6 :: a7 :: a8 :: some (.ref n) :: e) = true) : asgV base true 9 (.nw c) (a0 :: a1 :: a2 :: a3 :: a4 :: a5 :: a6 :: a7 :: a8 :: some (.ref n) :: e) h = .ok (a0 :: a1 :: a2 :: a3 :: a4 :: a5 :: a6 :: a7 :: a8 :: some (.ref n) :: e, h.set n c) := asgV_own rfl q1 q2 q3
def tabA (x y : Int) : List (Ky × D) := [(.s s_add, .int (x + y)), (.s s_sub, .int (x - y)), (.s s_not, .int (-1 - x)), (.s s_up, .int (x + x)), (.s s_down, .int (x / 2))]
def tabB (x y : Int) (p q : D) : List (Ky × D) := [(.s s_zero, p), (.s s_less, q), (.s s_off, .int (1 - x))]
theorem tabA1 (x y : Int) : dictOf false [.str s_add, .int (x + y), .str s_sub, .int (x - y), .str s_not, .int (-1 - x), .str s_up, .int (x + x), .str s_down, .int (x / 2)] = some (tabA x y) := rfl
theorem tabA2 (x y : Int) : dmerge [] (tabA x y) = tabA x y := rfl
theorem tabB1 (x y : Int) (p q : D) : dictOf false [.str s_zero, p, .str s_less, q, .str s_off, .int (1 - x)] = some (tabB x y p q) := rfl
theorem tabB2 (x y : Int) (p q : D) : dmerge [] (tabB x y p q) = tabB x y p q := rfl
theorem tabAB (x y : Int) (p q : D) : dmerge (tabA x y) (tabB x y p q) = tabA x y ++ tabB x y p q := rfl
theorem tabAl (x y : Int) : (tabA x y).length = 5 := rfl
theorem tabBl (x y : Int) (p q : D) : (tabB x y p q).length = 3 := rfl
def e9 (n : Nat) : Option Cell → Option RV
  | none => none
  | some _ => some (.ref (n + 1))
def wE (w : Nat) (t1 : D) (n : Nat) (a5 a6 a7 a8 : Option RV) (tl : Option Cell) : Env := [some (.d (.int w)), some (.d t1), some (.d scene0), some (.d (.int (2 ^ w))), some (.ref n), a5, a6, a7, a8, e9 n tl]
def wH (h : Heap) (P : List Int) (tl : Option Cell) : Heap := h ++ .lst (P.map .int) :: tl.toList
theorem wstep_num {d : Nat} (hd : 2 ≤ d) {w : Nat} (hw : w ≤ LINE) (t1 : D) (h : Heap) (n : Nat) (P : List Int) (hP : P.length < LINE) (a6 a7 a8 : Option RV) (tl : Option Cell) :
    exS (run tab.defs d) h.length l0_law_worth (wE w t1 h.length (some (.d (Wd.D (.num n)))) a6 a7 a8 tl) (wH h P tl) = .ok (.nx, wE w t1 h.length (some (.d (Wd.D (.num n)))) (some (.d (.int ((n : Int) % 2 ^ w)))) a7 a8 tl, wH h (P ++ [(n : Int) % 2 ^ w]) tl) := by
  have e := r_leaf_num hd hw n (wH h P tl)
  have e2 : (wH h P tl)[h.length]? = some (.lst (P.map .int)) := by simp [wH]
  have e3 : (wH h P tl).set h.length (.lst (P.map D.int ++ [D.int ((n : Int) % 2 ^ w)])) = wH h (P ++ [(n : Int) % 2 ^ w]) tl := by simp [wH]
  simp [l0_law_worth, wE, e, e2, hP, e3]

theorem sz_neg (w : Nat) {x : Int} (h0 : 0 ≤ x) (h1 : x < 2 ^ w) : (-1 - x) % 2 ^ w = 2 ^ w - 1 - x := by
  have e : (-1 - x) = (2 ^ w - 1 - x) + (-1) * 2 ^ w := by omega
  rw [e, Int.add_mul_emod_self_right]
  exact Int.emod_eq_of_lt (by omega) (by omega)
theorem sz_half (w : Nat) {x : Int} (h0 : 0 ≤ x) (h1 : x < 2 ^ w) : x / 2 % 2 ^ w = x / 2 := Int.emod_eq_of_lt (by omega) (by omega)
theorem sz_bit {w : Nat} (hw : 1 ≤ w) {x : Int} (h : x = 0 ∨ x = 1) : x % 2 ^ w = x := by
  have p : (2 : Int) ^ 1 ≤ 2 ^ w := by
    have := Nat.pow_le_pow_right (show 0 < 2 by decide) hw
    exact_mod_cast this
  exact Int.emod_eq_of_lt (by omega) (by omega)
theorem dgetA (x y : Int) (p q : D) : dget (tabA x y ++ tabB x y p q) (.s s_add) = some (.int (x + y)) ∧ dget (tabA x y ++ tabB x y p q) (.s s_sub) = some (.int (x - y)) ∧ dget (tabA x y ++ tabB x y p q) (.s s_not) = some (.int (-1 - x)) ∧ dget (tabA x y ++ tabB x y p q) (.s s_up) = some (.int (x + x)) ∧ dget (tabA x y ++ tabB x y p q) (.s s_down) = some (.int (x / 2)) ∧
    dget (tabA x y ++ tabB x y p q) (.s s_zero) = some p ∧ dget (tabA x y ++ tabB x y p q) (.s s_less) = some q ∧ dget (tabA x y ++ tabB x y p q) (.s s_off) = some (.int (1 - x)) ∧ dget (tabA x y ++ tabB x y p q) (.s s_and) = none ∧ dget (tabA x y ++ tabB x y p q) (.s s_or) = none ∧ dget (tabA x y ++ tabB x y p q) (.s s_xor) = none := ⟨rfl, rfl, rfl, rfl, rfl, rfl, rfl, rfl, rfl, rfl, rfl⟩
theorem ev_tabA {Φ : Calls} (a0 a1 a2 a3 a4 a5 a6 : Option RV) (x y : Int) (e : Env) (h : Heap) : ev Φ (.dic false (.cons (.con (.str s_add)) (.cons (.bin .add (.var 7) (.var 8)) (.cons (.con (.str s_sub)) (.cons (.bin .sub (.var 7) (.var 8)) (.cons (.con (.str s_not)) (.cons (.bin .sub (.neg (.con (.int 1))) (.var 7)) (.cons (.con (.str s_up)) (.cons (.bin .add (.var 7) (.var 7)) (.cons (.con (.str s_down)) (.cons (.bin .fdiv (.var 7) (.con (.int 2))) .nil))))))))))) (a0 :: a1 :: a2 :: a3 :: a4 :: a5 :: a6 :: some (.d (.int x)) :: some (.d (.int y)) :: e) h = .ok (.nw (.dct false (tabA x y)), h) := by
  simp [tabA1, tabA2, tabAl]
theorem ev_tabB {Φ : Calls} (a0 a1 a2 a3 a4 a5 a6 : Option RV) (x y : Int) (e : Env) (h : Heap) : ev Φ (.dic false (.cons (.con (.str s_zero)) (.cons (.ite (.te (.cmp .eq (.var 7) (.con (.int 0)))) (.con (.int 1)) (.con (.int 0))) (.cons (.con (.str s_less)) (.cons (.ite (.te (.cmp .lt (.var 7) (.var 8))) (.con (.int 1)) (.con (.int 0))) (.cons (.con (.str s_off)) (.cons (.bin .sub (.con (.int 1)) (.var 7)) .nil))))))) (a0 :: a1 :: a2 :: a3 :: a4 :: a5 :: a6 :: some (.d (.int x)) :: some (.d (.int y)) :: e) h = .ok (.nw (.dct false (tabB x y (.int (if x = 0 then 1 else 0)) (.int (if x < y then 1 else 0)))), h) := by
  by_cases q : x = 0
  · subst q
    by_cases q2 : 0 < y <;> simp [q2] <;> rfl
  · by_cases q2 : x < y <;> simp [q, q2] <;> rfl
theorem wstep1 {d : Nat} (hd : 2 ≤ d) {w : Nat} (t1 : D) (h : Heap) (o : O1) (a : Wd) (P : List Int) (hP : P.length < 1000) {x : Int} (h0 : 0 ≤ x) (h1 : x < 2 ^ w) (a6 a7 a8 : Option RV) (tl : Option Cell) : ∃ c,
    exS (run tab.defs d) h.length l0_law_worth (wE w t1 h.length (some (.d (Wd.D (.one o a)))) a6 a7 a8 tl) (wH h (P ++ [x]) tl) = .ok (.nx, wE w t1 h.length (some (.d (Wd.D (.one o a)))) (some (.d (.int (o.do w x)))) (some (.d (.int x))) (some (.d (.int 0))) (some c), wH h (P ++ [o.do w x]) (some c)) := by
  have p := two_pos w
  have f1 : P.length < LINE := by rw [LINE_eq]; omega
  have e0 := fun (o : Nm) ho => leaf_none (w := w) hd o [a.D] ho
  have g1 := sz_neg w h0 h1
  have g2 := sz_half w h0 h1
  have g3 : x + x = 2 * x := by omega
  refine ⟨.dct false (tabA x 0 ++ tabB x 0 (.int (if x = 0 then 1 else 0)) (.int (if x < 0 then 1 else 0))), ?_⟩
  have gA := dgetA x 0
  cases o <;> cases tl <;> simp only [Wd.D, O1.s, O1.do] <;>
    simp [-zev_dic, ev_tabA, ev_tabB, l0_law_worth, wE, wH, e9, e0, q_not, q_up, q_down, q_and, q_or, q_xor, asgV_own4, asgV_own9, alone, tabAB, tabAl, tabBl, gA, p, f1, g1, g2, g3]
theorem wstep2 {d : Nat} (hd : 2 ≤ d) {w : Nat} (t1 : D) (h : Heap) (o : O2) (a b : Wd) (P : List Int) (hP : P.length < 1000) {x y : Int} (h0 : 0 ≤ x) (k0 : 0 ≤ y) (a6 a7 a8 : Option RV) (tl : Option Cell) : ∃ c,
    exS (run tab.defs d) h.length l0_law_worth (wE w t1 h.length (some (.d (Wd.D (.two o a b)))) a6 a7 a8 tl) (wH h (P ++ [y, x]) tl) = .ok (.nx, wE w t1 h.length (some (.d (Wd.D (.two o a b)))) (some (.d (.int (o.do w x y)))) (some (.d (.int x))) (some (.d (.int y))) (some c), wH h (P ++ [o.do w x y]) (some c)) := by
  have p := two_pos w
  have f1 : P.length < LINE := by rw [LINE_eq]; omega
  have e0 := fun (o : Nm) ho => leaf_none (w := w) hd o [a.D, b.D] ho
  refine ⟨.dct false (tabA x y ++ tabB x y (.int (if x = 0 then 1 else 0)) (.int (if x < y then 1 else 0))), ?_⟩
  have gA := dgetA x y
  cases o <;> cases tl <;> simp only [Wd.D, O2.s, O2.do] <;>
    simp [-zev_dic, ev_tabA, ev_tabB, l0_law_worth, wE, wH, e9, e0, q_add, q_sub, q_and, q_or, q_xor, asgV_own4, asgV_own9, alone, tabAB, tabAl, tabBl, gA, p, f1, bitI, h0, k0]
theorem wstepZ {d : Nat} (hd : 2 ≤ d) {w : Nat} (hw : 1 ≤ w) (t1 : D) (h : Heap) (a : Wd) (P : List Int) (hP : P.length < 1000) (x : Int) (a6 a7 a8 : Option RV) (tl : Option Cell) : ∃ c,
    exS (run tab.defs d) h.length l0_law_worth (wE w t1 h.length (some (.d (Bt.D (.zero a)))) a6 a7 a8 tl) (wH h (P ++ [x]) tl) = .ok (.nx, wE w t1 h.length (some (.d (Bt.D (.zero a)))) (some (.d (.int (if x = 0 then 1 else 0)))) (some (.d (.int x))) (some (.d (.int 0))) (some c), wH h (P ++ [if x = 0 then 1 else 0]) (some c)) := by
  have p := two_pos w
  have f1 : P.length < LINE := by rw [LINE_eq]; omega
  have e0 := fun (o : Nm) ho => leaf_none (w := w) hd o [a.D] ho
  refine ⟨.dct false (tabA x 0 ++ tabB x 0 (.int (if x = 0 then 1 else 0)) (.int (if x < 0 then 1 else 0))), ?_⟩
  have gA := dgetA x 0
  have gb := sz_bit hw (x := if x = 0 then 1 else 0) (by split <;> simp)
  cases tl <;> simp only [Bt.D] <;>
    simp [-zev_dic, ev_tabA, ev_tabB, l0_law_worth, wE, wH, e9, e0, q_zero, q_and, q_or, q_xor, asgV_own4, asgV_own9, alone, tabAB, tabAl, tabBl, gA, p, f1, gb]
theorem wstepF {d : Nat} (hd : 2 ≤ d) {w : Nat} (hw : 1 ≤ w) (t1 : D) (h : Heap) (a : Bt) (P : List Int) (hP : P.length < 1000) {x : Int} (hx : x = 0 ∨ x = 1) (a6 a7 a8 : Option RV) (tl : Option Cell) : ∃ c,
    exS (run tab.defs d) h.length l0_law_worth (wE w t1 h.length (some (.d (Bt.D (.off a)))) a6 a7 a8 tl) (wH h (P ++ [x]) tl) = .ok (.nx, wE w t1 h.length (some (.d (Bt.D (.off a)))) (some (.d (.int (1 - x)))) (some (.d (.int x))) (some (.d (.int 0))) (some c), wH h (P ++ [1 - x]) (some c)) := by
  have p := two_pos w
  have f1 : P.length < LINE := by rw [LINE_eq]; omega
  have e0 := fun (o : Nm) ho => leaf_none (w := w) hd o [a.D] ho
  refine ⟨.dct false (tabA x 0 ++ tabB x 0 (.int (if x = 0 then 1 else 0)) (.int (if x < 0 then 1 else 0))), ?_⟩
  have gA := dgetA x 0
  have gb := sz_bit hw (x := 1 - x) (by omega)
  cases tl <;> simp only [Bt.D] <;>
    simp [-zev_dic, ev_tabA, ev_tabB, l0_law_worth, wE, wH, e9, e0, q_off, q_and, q_or, q_xor, asgV_own4, asgV_own9, alone, tabAB, tabAl, tabBl, gA, p, f1, gb]
theorem wstepL {d : Nat} (hd : 2 ≤ d) {w : Nat} (hw : 1 ≤ w) (t1 : D) (h : Heap) (a b : Wd) (P : List Int) (hP : P.length < 1000) (x y : Int) (a6 a7 a8 : Option RV) (tl : Option Cell) : ∃ c,
    exS (run tab.defs d) h.length l0_law_worth (wE w t1 h.length (some (.d (Bt.D (.less a b)))) a6 a7 a8 tl) (wH h (P ++ [y, x]) tl) = .ok (.nx, wE w t1 h.length (some (.d (Bt.D (.less a b)))) (some (.d (.int (if x < y then 1 else 0)))) (some (.d (.int x))) (some (.d (.int y))) (some c), wH h (P ++ [if x < y then 1 else 0]) (some c)) := by
  have p := two_pos w
  have f1 : P.length < LINE := by rw [LINE_eq]; omega
  have e0 := fun (o : Nm) ho => leaf_none (w := w) hd o [a.D, b.D] ho
  refine ⟨.dct false (tabA x y ++ tabB x y (.int (if x = 0 then 1 else 0)) (.int (if x < y then 1 else 0))), ?_⟩
  have gA := dgetA x y
  have gb := sz_bit hw (x := if x < y then 1 else 0) (by split <;> simp)
  cases tl <;> simp only [Bt.D] <;>
    simp [-zev_dic, ev_tabA, ev_tabB, l0_law_worth, wE, wH, e9, e0, q_less, q_and, q_or, q_xor, asgV_own4, asgV_own9, alone, tabAB, tabAl, tabBl, gA, p, f1, gb]
end Mini
set_option Elab.async false
set_option linter.all false
set_option autoImplicit false
set_option maxRecDepth 100000
set_option maxHeartbeats 4000000
/- the law's own: expressions worked out, names put in. Own work. -/
namespace Mini
theorem wE_set (w : Nat) (t1 : D) (n : Nat) (x : D) (a5 a6 a7 a8 : Option RV) (tl : Option Cell) : setTg (.nm 5) x (wE w t1 n a5 a6 a7 a8 tl) = some (wE w t1 n (some (.d x)) a6 a7 a8 tl) := rfl
section
variable {d : Nat} (hd : 2 ≤ d) {w : Nat} (hw : w ≤ LINE) (hw1 : 1 ≤ w) (t1 : D) (h : Heap)
theorem in0 (w : Nat) : Tb.In w [] := fun p hp => by simp at hp
include hd hw in
theorem worthW_run : ∀ (a : Wd), a.cl → ∀ (us : List D) (P : List Int) (a5 a6 a7 a8 : Option RV) (tl : Option Cell), P.length + a.sz ≤ 900 → ∃ a5' a6' a7' a8' tl',
    forS (run tab.defs d) h.length (.nm 5) l0_law_worth (a.pre.reverse.map Sd.D ++ us) (wE w t1 h.length a5 a6 a7 a8 tl) (wH h P tl) = forS (run tab.defs d) h.length (.nm 5) l0_law_worth us (wE w t1 h.length a5' a6' a7' a8' tl') (wH h (P ++ [a.wo w []]) tl')
  | .num n, _, us, P, a5, a6, a7, a8, tl, hP => by
    refine ⟨some (.d (Wd.D (.num n))), some (.d (.int ((n : Int) % 2 ^ w))), a7, a8, tl, ?_⟩
    simp only [Wd.pre, List.reverse_singleton, List.map_cons, List.map_nil, List.singleton_append, Sd.D]
    rw [forS_cons, wE_set, kFT_e, wstep_num hd hw t1 h n P (by rw [LINE_eq]; omega) a6 a7 a8 tl]
    rfl
  | .nam x, cl, _, _, _, _, _, _, _, _ => cl.elim
  | .one o a, cl, us, P, a5, a6, a7, a8, tl, hP => by
    simp only [Wd.sz] at hP
    obtain ⟨b5, b6, b7, b8, tl1, e1⟩ := worthW_run a cl (Wd.D (.one o a) :: us) P a5 a6 a7 a8 tl (by omega)
    have bd := a.wo_in (in0 w)
    obtain ⟨c, e2⟩ := wstep1 hd (w := w) t1 h o a P (by omega) bd.1 bd.2 b6 b7 b8 tl1
    have e0 : (Wd.pre (.one o a)).reverse.map Sd.D ++ us = a.pre.reverse.map Sd.D ++ Wd.D (.one o a) :: us := by simp [Wd.pre, Sd.D]
    rw [e0, e1, forS_cons, wE_set, kFT_e, e2]
    exact ⟨_, _, _, _, _, rfl⟩
  | .two o a b, cl, us, P, a5, a6, a7, a8, tl, hP => by
    simp only [Wd.sz] at hP
    obtain ⟨b5, b6, b7, b8, tl1, e1⟩ := worthW_run b cl.2 (a.pre.reverse.map Sd.D ++ Wd.D (.two o a b) :: us) P a5 a6 a7 a8 tl (by omega)
    obtain ⟨c5, c6, c7, c8, tl2, e2⟩ := worthW_run a cl.1 (Wd.D (.two o a b) :: us) (P ++ [b.wo w []]) b5 b6 b7 b8 tl1 (by simp; omega)
    obtain ⟨c, e3⟩ := wstep2 hd (w := w) t1 h o a b P (by omega) (a.wo_in (in0 w)).1 (b.wo_in (in0 w)).1 c6 c7 c8 tl2
    have e0 : (Wd.pre (.two o a b)).reverse.map Sd.D ++ us = b.pre.reverse.map Sd.D ++ (a.pre.reverse.map Sd.D ++ Wd.D (.two o a b) :: us) := by simp [Wd.pre, Sd.D]
    have e4 : P ++ [b.wo w []] ++ [a.wo w []] = P ++ [b.wo w [], a.wo w []] := by simp
    rw [e4] at e2
    rw [e0, e1, e2, forS_cons, wE_set, kFT_e, e3]
    exact ⟨_, _, _, _, _, rfl⟩
include hd hw hw1 in
theorem worthB_run : ∀ (a : Bt), a.cl → ∀ (us : List D) (P : List Int) (a5 a6 a7 a8 : Option RV) (tl : Option Cell), P.length + a.sz ≤ 900 → ∃ a5' a6' a7' a8' tl',
    forS (run tab.defs d) h.length (.nm 5) l0_law_worth (a.pre.reverse.map Sd.D ++ us) (wE w t1 h.length a5 a6 a7 a8 tl) (wH h P tl) = forS (run tab.defs d) h.length (.nm 5) l0_law_worth us (wE w t1 h.length a5' a6' a7' a8' tl') (wH h (P ++ [a.wo w []]) tl')
  | .zero a, cl, us, P, a5, a6, a7, a8, tl, hP => by
    simp only [Bt.sz] at hP
    obtain ⟨b5, b6, b7, b8, tl1, e1⟩ := worthW_run hd hw t1 h a cl (Bt.D (.zero a) :: us) P a5 a6 a7 a8 tl (by omega)
    obtain ⟨c, e2⟩ := wstepZ hd hw1 t1 h a P (by omega) (a.wo w []) b6 b7 b8 tl1
    have e0 : (Bt.pre (.zero a)).reverse.map Sd.D ++ us = a.pre.reverse.map Sd.D ++ Bt.D (.zero a) :: us := by simp [Bt.pre, Sd.D]
    rw [e0, e1, forS_cons, wE_set, kFT_e, e2]
    exact ⟨_, _, _, _, _, rfl⟩
  | .less a b, cl, us, P, a5, a6, a7, a8, tl, hP => by
    simp only [Bt.sz] at hP
    obtain ⟨b5, b6, b7, b8, tl1, e1⟩ := worthW_run hd hw t1 h b cl.2 (a.pre.reverse.map Sd.D ++ Bt.D (.less a b) :: us) P a5 a6 a7 a8 tl (by omega)
    obtain ⟨c5, c6, c7, c8, tl2, e2⟩ := worthW_run hd hw t1 h a cl.1 (Bt.D (.less a b) :: us) (P ++ [b.wo w []]) b5 b6 b7 b8 tl1 (by simp; omega)
    obtain ⟨c, e3⟩ := wstepL hd hw1 t1 h a b P (by omega) (a.wo w []) (b.wo w []) c6 c7 c8 tl2
    have e0 : (Bt.pre (.less a b)).reverse.map Sd.D ++ us = b.pre.reverse.map Sd.D ++ (a.pre.reverse.map Sd.D ++ Bt.D (.less a b) :: us) := by simp [Bt.pre, Sd.D]
    have e4 : P ++ [b.wo w []] ++ [a.wo w []] = P ++ [b.wo w [], a.wo w []] := by simp
    rw [e4] at e2
    rw [e0, e1, e2, forS_cons, wE_set, kFT_e, e3]
    exact ⟨_, _, _, _, _, rfl⟩
  | .off b, cl, us, P, a5, a6, a7, a8, tl, hP => by
    simp only [Bt.sz] at hP
    obtain ⟨b5, b6, b7, b8, tl1, e1⟩ := worthB_run b cl (Bt.D (.off b) :: us) P a5 a6 a7 a8 tl (by omega)
    obtain ⟨c, e2⟩ := wstepF hd hw1 t1 h b P (by omega) (b.wo_bit w []) b6 b7 b8 tl1
    have e0 : (Bt.pre (.off b)).reverse.map Sd.D ++ us = b.pre.reverse.map Sd.D ++ Bt.D (.off b) :: us := by simp [Bt.pre, Sd.D]
    rw [e0, e1, forS_cons, wE_set, kFT_e, e2]
    exact ⟨_, _, _, _, _, rfl⟩
end
def Sd.cl : Sd → Prop
  | .sw a => a.cl
  | .sb a => a.cl
def Sd.wo (w : Nat) (t : Tb) : Sd → Int
  | .sw a => a.wo w t
  | .sb a => a.wo w t
theorem r_lworth {d : Nat} (hd : 3 ≤ d) {w : Nat} (hw : w ≤ LINE) (hw1 : 1 ≤ w) (x : Sd) (cl : x.cl) (hx : x.sz ≤ 900) (h : Heap) : run tab.defs d i_law_worth [.d (.int w), .d x.D, .d scene0] h = .ok (.d (.int (x.wo w [])), h) := by
  obtain ⟨d, rfl, k⟩ := dep hd
  rw [run_at d_law_worth rfl]
  have e0 := r_lpower (show 1 ≤ d by omega) w hw h
  have e1 := r_linner (show 1 ≤ d by omega) x (by omega) (h ++ [.lst []])
  obtain ⟨b5, b6, b7, b8, tl1, e2⟩ : ∃ a5' a6' a7' a8' tl', forS (run tab.defs d) h.length (.nm 5) l0_law_worth (x.pre.reverse.map Sd.D) (wE w x.D h.length none none none none none) (wH h [] none) = .ok (.nx, wE w x.D h.length a5' a6' a7' a8' tl', wH h [x.wo w []] tl') := by
    cases x with
    | sw a =>
      obtain ⟨b5, b6, b7, b8, tl1, e2⟩ := worthW_run k hw (Sd.D (.sw a)) h a cl [] [] none none none none none (by simp only [Sd.sz] at hx; simpa using hx)
      rw [List.append_nil] at e2
      exact ⟨b5, b6, b7, b8, tl1, e2⟩
    | sb a =>
      obtain ⟨b5, b6, b7, b8, tl1, e2⟩ := worthB_run k hw hw1 (Sd.D (.sb a)) h a cl [] [] none none none none none (by simp only [Sd.sz] at hx; simpa using hx)
      rw [List.append_nil] at e2
      exact ⟨b5, b6, b7, b8, tl1, e2⟩
  have e3 : forS (run tab.defs d) h.length (.nm 5) l0_law_worth (x.pre.map Sd.D).reverse [some (.d (.int w)), some (.d x.D), some (.d scene0), some (.d (.int (2 ^ w))), some (.ref h.length), none, none, none, none, none] (h ++ [.lst []]) = .ok (.nx, wE w x.D h.length b5 b6 b7 b8 tl1, wH h [x.wo w []] tl1) := by
    rw [← List.map_reverse]; exact e2
  have e4 : (wH h [x.wo w []] tl1)[h.length]? = some (.lst [.int (x.wo w [])]) := by simp [wH]
  have e5 : (wH h [x.wo w []] tl1).take h.length = h := by simp [wH]
  simp [f_law_worth, b_law_worth, e0, e1, e3, wE, e4, e5]
end Mini
set_option Elab.async false
set_option linter.all false
set_option autoImplicit false
set_option maxRecDepth 100000
set_option maxHeartbeats 4000000
/- the law's own: names put in; sides. Own work. -/
namespace Mini
/-- a dict of worths at hand: by itself, or a mutable one -/
def TabAt (h : Heap) (rv : RV) (t : Tb) : Prop := rv = .d (.dct false t.kv) ∨ ∃ n, rv = .ref n ∧ h[n]? = some (.dct false t.kv)
theorem asgV_own2 {base n : Nat} {c : Cell} {a0 a1 : Option RV} {e : Env} {h : Heap} (q1 : base ≤ n) (q2 : n < h.length) (q3 : alone n 2 0 (a0 :: a1 :: some (.ref n) :: e) = true) : asgV base true 2 (.nw c) (a0 :: a1 :: some (.ref n) :: e) h = .ok (a0 :: a1 :: some (.ref n) :: e, h.set n c) := asgV_own rfl q1 q2 q3
section
variable {d : Nat} (h : Heap) (s0 : D) (rv : RV) (t : Tb)
theorem pstep_num {Φ : Calls} {base : Nat} (n : Nat) (P : List D) (hP : P.length < 1000) (a4 : Option RV) :
    exS Φ base l0_law_put [some (.d s0), some rv, some (.ref h.length), some (.d (Wd.D (.num n))), a4] (h ++ [.lst P]) = .ok (.nx, [some (.d s0), some rv, some (.ref h.length), some (.d (Wd.D (.num n))), a4], h ++ [.lst (P ++ [Wd.D (.num n)])]) := by
  have f1 : P.length < LINE := by rw [LINE_eq]; omega
  simp [l0_law_put, Wd.D, f1]
theorem pstep_nam {Φ : Calls} {base : Nat} (T : TabAt h rv t) (x : Nm) (h0 : 0 ≤ tget t x) (P : List D) (hP : P.length < 1000) (a4 : Option RV) :
    exS Φ base l0_law_put [some (.d s0), some rv, some (.ref h.length), some (.d (Wd.D (.nam x))), a4] (h ++ [.lst P]) = .ok (.nx, [some (.d s0), some rv, some (.ref h.length), some (.d (Wd.D (.nam x))), a4], h ++ [.lst (P ++ [Wd.D (.num (tget t x).toNat)])]) := by
  have f1 : P.length < LINE := by rw [LINE_eq]; omega
  have e : (((tget t x).toNat : Nat) : Int) = tget t x := by omega
  rcases T with rfl | ⟨n, rfl, hn⟩
  · simp [l0_law_put, Wd.D, f1, q_name, q_num, dget_kv, -Int.ofNat_toNat, e]
  · have hl : n < h.length := (List.getElem?_eq_some_iff.mp hn).1
    have e2 : (h ++ [Cell.lst P])[n]? = some (.dct false t.kv) := by rw [List.getElem?_append_left hl]; exact hn
    simp [l0_law_put, Wd.D, f1, q_name, q_num, e2, dget_kv, -Int.ofNat_toNat, e]
theorem alone_put {n : Nat} (T : TabAt h rv t) (a b : D) (v : D) : alone h.length 2 0 [some (.d a), some rv, some (.ref h.length), some (.d b), some (.d v)] = true := by
  rcases T with rfl | ⟨n, rfl, hn⟩
  · simp [alone]
  · have hl : n < h.length := (List.getElem?_eq_some_iff.mp hn).1
    have : ¬ n = h.length := by omega
    simp [alone, this]
theorem pstep_1 {Φ : Calls} (T : TabAt h rv t) (o : Nm) (ho : o ≠ s_num ∧ o ≠ s_name) (q y : D) (P : List D) (hP : P.length < 1000) (a4 : Option RV) (hq : noDct q = true) :
    exS Φ h.length l0_law_put [some (.d s0), some rv, some (.ref h.length), some (.d (.tup [.str o, q])), a4] (h ++ [.lst (P ++ [y])]) = .ok (.nx, [some (.d s0), some rv, some (.ref h.length), some (.d (.tup [.str o, q])), some (.d (.int 1))], h ++ [.lst (P ++ [.tup [.str o, y]])]) := by
  have f1 : P.length + 1 ≤ LINE := by rw [LINE_eq]; omega
  have g1 : ¬ s_num = o := fun e => ho.1 e.symm
  have g2 : ¬ s_name = o := fun e => ho.2 e.symm
  have al := alone_put (n := 0) h rv t T s0 (.tup [.str o, q]) (.int 1)
  simp [l0_law_put, g1, g2, f1, asgV_own2, al]
theorem pstep_2 {Φ : Calls} (T : TabAt h rv t) (o : Nm) (ho : o ≠ s_num ∧ o ≠ s_name) (q1 q2 y1 y2 : D) (P : List D) (hP : P.length < 1000) (a4 : Option RV) :
    exS Φ h.length l0_law_put [some (.d s0), some rv, some (.ref h.length), some (.d (.tup [.str o, q1, q2])), a4] (h ++ [.lst (P ++ [y2, y1])]) = .ok (.nx, [some (.d s0), some rv, some (.ref h.length), some (.d (.tup [.str o, q1, q2])), some (.d (.int 2))], h ++ [.lst (P ++ [.tup [.str o, y1, y2]])]) := by
  have f1 : P.length + 1 ≤ LINE := by rw [LINE_eq]; omega
  have g1 : ¬ s_num = o := fun e => ho.1 e.symm
  have g2 : ¬ s_name = o := fun e => ho.2 e.symm
  have al := alone_put (n := 0) h rv t T s0 (.tup [.str o, q1, q2]) (.int 2)
  simp [l0_law_put, g1, g2, f1, asgV_own2, al]
end
/-- a number for each name -/
def Wd.put (t : Tb) : Wd → Wd
  | .num n => .num n
  | .nam x => .num (tget t x).toNat
  | .one o a => .one o (a.put t)
  | .two o a b => .two o (a.put t) (b.put t)
def Bt.put (t : Tb) : Bt → Bt
  | .zero a => .zero (a.put t)
  | .less a b => .less (a.put t) (b.put t)
  | .off b => .off (b.put t)
def Sd.put (t : Tb) : Sd → Sd
  | .sw a => .sw (a.put t)
  | .sb a => .sb (a.put t)
theorem Wd.put_sz (t : Tb) : ∀ a : Wd, (a.put t).sz = a.sz ∧ (a.put t).dp = a.dp
  | .num _ => ⟨rfl, rfl⟩
  | .nam _ => ⟨rfl, rfl⟩
  | .one _ a => by simp [Wd.put, Wd.sz, Wd.dp, Wd.put_sz t a]
  | .two _ a b => by simp [Wd.put, Wd.sz, Wd.dp, Wd.put_sz t a, Wd.put_sz t b]
theorem Bt.put_sz (t : Tb) : ∀ a : Bt, (a.put t).sz = a.sz
  | .zero a => by simp [Bt.put, Bt.sz, Wd.put_sz t a]
  | .less a b => by simp [Bt.put, Bt.sz, Wd.put_sz t a, Wd.put_sz t b]
  | .off b => by simp [Bt.put, Bt.sz, Bt.put_sz t b]
theorem Sd.put_sz (t : Tb) (x : Sd) : (x.put t).sz = x.sz := by
  cases x with
  | sw a => exact (a.put_sz t).1
  | sb a => exact a.put_sz t
theorem Wd.put_wo {w : Nat} {t : Tb} (ht : t.In w) : ∀ a : Wd, (a.put t).wo w [] = a.wo w t
  | .num _ => rfl
  | .nam x => by
    have b := tget_in ht x
    simp only [Wd.put, Wd.wo]
    rw [show (((tget t x).toNat : Nat) : Int) = tget t x by omega]
    exact Int.emod_eq_of_lt b.1 b.2
  | .one o a => by simp [Wd.put, Wd.wo, Wd.put_wo ht a]
  | .two o a b => by simp [Wd.put, Wd.wo, Wd.put_wo ht a, Wd.put_wo ht b]
theorem Bt.put_wo {w : Nat} {t : Tb} (ht : t.In w) : ∀ a : Bt, (a.put t).wo w [] = a.wo w t
  | .zero a => by simp [Bt.put, Bt.wo, Wd.put_wo ht a]
  | .less a b => by simp [Bt.put, Bt.wo, Wd.put_wo ht a, Wd.put_wo ht b]
  | .off b => by simp [Bt.put, Bt.wo, Bt.put_wo ht b]
theorem Sd.put_wo {w : Nat} {t : Tb} (ht : t.In w) (x : Sd) : (x.put t).wo w [] = x.wo w t := by
  cases x with
  | sw a => exact a.put_wo ht
  | sb a => exact a.put_wo ht
theorem Wd.put_cl {ns : List Nm} {w : Nat} (w8 : w ≤ 8) {t : Tb} (ht : t.In w) : ∀ {a : Wd}, a.ok ns → (a.put t).cl
  | .num _, h => h
  | .nam x, h => by
    have b := (tget_in ht x).2
    have : (2 : Int) ^ w ≤ 2 ^ 8 := by
      have := Nat.pow_le_pow_right (show 0 < 2 by decide) w8
      exact_mod_cast this
    show (tget t x).toNat ≤ 255
    omega
  | .one _ a, h => Wd.put_cl w8 ht (a := a) h
  | .two _ a b, h => ⟨Wd.put_cl w8 ht h.1, Wd.put_cl w8 ht h.2⟩
theorem Bt.put_cl {ns : List Nm} {w : Nat} (w8 : w ≤ 8) {t : Tb} (ht : t.In w) : ∀ {a : Bt}, a.ok ns → (a.put t).cl
  | .zero a, h => Wd.put_cl w8 ht (a := a) h
  | .less a b, h => ⟨Wd.put_cl w8 ht h.1, Wd.put_cl w8 ht h.2⟩
  | .off b, h => Bt.put_cl w8 ht (a := b) h
def Sd.ok (ns : List Nm) : Sd → Prop
  | .sw a => a.ok ns
  | .sb a => a.ok ns
theorem Sd.put_cl {ns : List Nm} {w : Nat} (w8 : w ≤ 8) {t : Tb} (ht : t.In w) {x : Sd} (h : x.ok ns) : (x.put t).cl := by
  cases x with
  | sw a => exact Wd.put_cl w8 ht h
  | sb a => exact Bt.put_cl w8 ht h
section
variable {Φ : Calls} (h : Heap) (s0 : D) (rv : RV) (t : Tb) (T : TabAt h rv t) {w : Nat} (ht : t.In w)
theorem pE_set (n : Nat) (x : D) (a3 a4 : Option RV) : setTg (.nm 3) x [some (.d s0), some rv, some (.ref n), a3, a4] = some [some (.d s0), some rv, some (.ref n), some (.d x), a4] := rfl
theorem O1.ne (o : O1) : o.s ≠ s_num ∧ o.s ≠ s_name := by cases o <;> simp [O1.s, q_not, q_up, q_down]
theorem O2.ne (o : O2) : o.s ≠ s_num ∧ o.s ≠ s_name := by cases o <;> simp [O2.s, q_add, q_sub, q_and, q_or, q_xor]
include T ht in
theorem putW_run : ∀ (a : Wd) (us : List D) (P : List D) (a3 a4 : Option RV), P.length + a.sz ≤ 900 → ∃ a3' a4',
    forS Φ h.length (.nm 3) l0_law_put (a.pre.reverse.map Sd.D ++ us) [some (.d s0), some rv, some (.ref h.length), a3, a4] (h ++ [.lst P]) = forS Φ h.length (.nm 3) l0_law_put us [some (.d s0), some rv, some (.ref h.length), a3', a4'] (h ++ [.lst (P ++ [(a.put t).D])])
  | .num n, us, P, a3, a4, hP => by
    simp only [Wd.pre, List.reverse_singleton, List.map_cons, List.map_nil, List.singleton_append, Sd.D]
    rw [forS_cons, pE_set, kFT_e, pstep_num h s0 rv n P (by omega) a4]
    exact ⟨_, _, rfl⟩
  | .nam x, us, P, a3, a4, hP => by
    simp only [Wd.pre, List.reverse_singleton, List.map_cons, List.map_nil, List.singleton_append, Sd.D]
    rw [forS_cons, pE_set, kFT_e, pstep_nam h s0 rv t T x (tget_in ht x).1 P (by omega) a4]
    exact ⟨_, _, rfl⟩
  | .one o a, us, P, a3, a4, hP => by
    simp only [Wd.sz] at hP
    obtain ⟨b3, b4, e1⟩ := putW_run a (Wd.D (.one o a) :: us) P a3 a4 (by omega)
    have e0 : (Wd.pre (.one o a)).reverse.map Sd.D ++ us = a.pre.reverse.map Sd.D ++ Wd.D (.one o a) :: us := by simp [Wd.pre, Sd.D]
    have e2 := pstep_1 (Φ := Φ) h s0 rv t T o.s o.ne a.D (a.put t).D P (by omega) b4 a.noDct
    rw [e0, e1, forS_cons, pE_set, kFT_e, show Wd.D (.one o a) = .tup [.str o.s, a.D] from rfl, e2]
    exact ⟨_, _, rfl⟩
  | .two o a b, us, P, a3, a4, hP => by
    simp only [Wd.sz] at hP
    obtain ⟨b3, b4, e1⟩ := putW_run b (a.pre.reverse.map Sd.D ++ Wd.D (.two o a b) :: us) P a3 a4 (by omega)
    obtain ⟨c3, c4, e2⟩ := putW_run a (Wd.D (.two o a b) :: us) (P ++ [(b.put t).D]) b3 b4 (by simp; omega)
    have e0 : (Wd.pre (.two o a b)).reverse.map Sd.D ++ us = b.pre.reverse.map Sd.D ++ (a.pre.reverse.map Sd.D ++ Wd.D (.two o a b) :: us) := by simp [Wd.pre, Sd.D]
    have e4 : P ++ [(b.put t).D] ++ [(a.put t).D] = P ++ [(b.put t).D, (a.put t).D] := by simp
    have e3 := pstep_2 (Φ := Φ) h s0 rv t T o.s o.ne a.D b.D (a.put t).D (b.put t).D P (by omega) c4
    rw [e4] at e2
    rw [e0, e1, e2, forS_cons, pE_set, kFT_e, show Wd.D (.two o a b) = .tup [.str o.s, a.D, b.D] from rfl, e3]
    exact ⟨_, _, rfl⟩
include T ht in
theorem putB_run : ∀ (a : Bt) (us : List D) (P : List D) (a3 a4 : Option RV), P.length + a.sz ≤ 900 → ∃ a3' a4',
    forS Φ h.length (.nm 3) l0_law_put (a.pre.reverse.map Sd.D ++ us) [some (.d s0), some rv, some (.ref h.length), a3, a4] (h ++ [.lst P]) = forS Φ h.length (.nm 3) l0_law_put us [some (.d s0), some rv, some (.ref h.length), a3', a4'] (h ++ [.lst (P ++ [(a.put t).D])])
  | .zero a, us, P, a3, a4, hP => by
    simp only [Bt.sz] at hP
    obtain ⟨b3, b4, e1⟩ := putW_run (Φ := Φ) h s0 rv t T ht a (Bt.D (.zero a) :: us) P a3 a4 (by omega)
    have e0 : (Bt.pre (.zero a)).reverse.map Sd.D ++ us = a.pre.reverse.map Sd.D ++ Bt.D (.zero a) :: us := by simp [Bt.pre, Sd.D]
    have e2 := pstep_1 (Φ := Φ) h s0 rv t T s_zero (by simp [q_zero]) a.D (a.put t).D P (by omega) b4 a.noDct
    rw [e0, e1, forS_cons, pE_set, kFT_e, show Bt.D (.zero a) = .tup [.str s_zero, a.D] from rfl, e2]
    exact ⟨_, _, rfl⟩
  | .less a b, us, P, a3, a4, hP => by
    simp only [Bt.sz] at hP
    obtain ⟨b3, b4, e1⟩ := putW_run (Φ := Φ) h s0 rv t T ht b (a.pre.reverse.map Sd.D ++ Bt.D (.less a b) :: us) P a3 a4 (by omega)
    obtain ⟨c3, c4, e2⟩ := putW_run (Φ := Φ) h s0 rv t T ht a (Bt.D (.less a b) :: us) (P ++ [(b.put t).D]) b3 b4 (by simp; omega)
    have e0 : (Bt.pre (.less a b)).reverse.map Sd.D ++ us = b.pre.reverse.map Sd.D ++ (a.pre.reverse.map Sd.D ++ Bt.D (.less a b) :: us) := by simp [Bt.pre, Sd.D]
    have e4 : P ++ [(b.put t).D] ++ [(a.put t).D] = P ++ [(b.put t).D, (a.put t).D] := by simp
    have e3 := pstep_2 (Φ := Φ) h s0 rv t T s_less (by simp [q_less]) a.D b.D (a.put t).D (b.put t).D P (by omega) c4
    rw [e4] at e2
    rw [e0, e1, e2, forS_cons, pE_set, kFT_e, show Bt.D (.less a b) = .tup [.str s_less, a.D, b.D] from rfl, e3]
    exact ⟨_, _, rfl⟩
  | .off a, us, P, a3, a4, hP => by
    simp only [Bt.sz] at hP
    obtain ⟨b3, b4, e1⟩ := putB_run a (Bt.D (.off a) :: us) P a3 a4 (by omega)
    have e0 : (Bt.pre (.off a)).reverse.map Sd.D ++ us = a.pre.reverse.map Sd.D ++ Bt.D (.off a) :: us := by simp [Bt.pre, Sd.D]
    have e2 := pstep_1 (Φ := Φ) h s0 rv t T s_off (by simp [q_off]) a.D (a.put t).D P (by omega) b4 a.noDct
    rw [e0, e1, forS_cons, pE_set, kFT_e, show Bt.D (.off a) = .tup [.str s_off, a.D] from rfl, e2]
    exact ⟨_, _, rfl⟩
end
theorem nrm_tab {h : Heap} {rv : RV} {t : Tb} (T : TabAt h rv t) : nrm rv = rv := by
  rcases T with rfl | ⟨n, rfl, _⟩ <;> rfl
theorem r_lput {d : Nat} (hd : 2 ≤ d) {w : Nat} {t : Tb} (ht : t.In w) (x : Sd) (hx : x.sz ≤ 900) {h : Heap} {rv : RV} (T : TabAt h rv t) : run tab.defs d i_law_put [.d x.D, rv] h = .ok (.d (x.put t).D, h) := by
  obtain ⟨d, rfl, k⟩ := dep hd
  rw [run_at d_law_put rfl]
  have e1 := r_linner k x (by omega) (h ++ [.lst []])
  obtain ⟨b3, b4, e2⟩ : ∃ a3' a4', forS (run tab.defs d) h.length (.nm 3) l0_law_put (x.pre.reverse.map Sd.D) [some (.d x.D), some rv, some (.ref h.length), none, none] (h ++ [.lst []]) = .ok (.nx, [some (.d x.D), some rv, some (.ref h.length), a3', a4'], h ++ [.lst [(x.put t).D]]) := by
    cases x with
    | sw a =>
      obtain ⟨b3, b4, e2⟩ := putW_run (Φ := run tab.defs d) h (Sd.D (.sw a)) rv t T ht a [] [] none none (by simp only [Sd.sz] at hx; simpa using hx)
      rw [List.append_nil] at e2
      exact ⟨b3, b4, e2⟩
    | sb a =>
      obtain ⟨b3, b4, e2⟩ := putB_run (Φ := run tab.defs d) h (Sd.D (.sb a)) rv t T ht a [] [] none none (by simp only [Sd.sz] at hx; simpa using hx)
      rw [List.append_nil] at e2
      exact ⟨b3, b4, e2⟩
  rw [List.map_reverse] at e2
  simp [f_law_put, b_law_put, e1, e2]
theorem r_lside {d : Nat} (hd : 4 ≤ d) {w : Nat} (w1 : 1 ≤ w) (w8 : w ≤ 8) {ns : List Nm} {t : Tb} (ht : t.In w) (x : Sd) (ok : x.ok ns) (hx : x.sz ≤ 900) {h : Heap} {rv : RV} (T : TabAt h rv t) : run tab.defs d i_law_side_worth [.d (.int w), .d x.D, rv] h = .ok (.d (.int (x.wo w t)), h) := by
  obtain ⟨d, rfl, k⟩ := dep hd
  rw [run_at d_law_side_worth rfl]
  have e1 := r_lput (show 2 ≤ d by omega) ht x hx T
  have e2 := r_lworth k (w := w) (lit_le (by omega)) w1 (x.put t) (Sd.put_cl w8 ht ok) (by rw [Sd.put_sz]; exact hx) h
  rw [Sd.put_wo ht] at e2
  simp only [scene0] at e2
  simp [f_law_side_worth, b_law_side_worth, nrm_tab T, e1, e2]
end Mini
set_option Elab.async false
set_option linter.all false
set_option autoImplicit false
set_option maxRecDepth 100000
set_option maxHeartbeats 4000000
/- the law's own: runs with a pile. Own work. -/
namespace Mini
theorem told_bodyR {Φ : Calls} {base : Nat} (t : Tb) (hl : t.length < 64) (h : Heap) (n : Nat) (hn : h[n]? = some (.dct false t.kv)) : exitF base (exS Φ base b_sources_told_in [some (.ref n), none] h) = .ok (.d (toldP t).D, h.take base) := by
  have e : mapS Φ [1] (.nm 1) k0_sources_told_in x0_sources_told_in [some (.ref n), none] ((sortBy ltStr (t.map (·.1))).map .str) h = .ok ((sortBy ltStr (t.map (·.1))).flatMap fun x => if (tget t x != 0) = true then [pairD (x, tget t x)] else [], h) := by
    refine mapS_enc Φ D.str _ fun x hx => ?_
    have k := dget_has (t := t) (mem_sortBy.mp hx)
    by_cases q : tget t x = 0 <;> simp [stepS_eq, k0_sources_told_in, x0_sources_told_in, k, q, pairD, hn]
  have l1 : (sortBy ltStr (t.map (·.1))).length < 64 := by rw [len_sortBy]; simpa using hl
  rw [flat_filter] at e
  have l2 : ((sortBy ltStr (t.map (·.1))).filter fun x => tget t x != 0).length ≤ 100 := Nat.le_trans (List.length_filter_le _ _) (by omega)
  have l3 : (((sortBy ltStr (t.map (·.1))).filter fun x => tget t x != 0).map fun x => pairD (x, tget t x)).length ≤ LINE := by rw [List.length_map]; exact lit_le l2
  simp [b_sources_told_in, strKs_kv, hl, hn]
  rw [e]
  have l4 : ((sortBy ltStr (t.map (·.1))).filter fun x => tget t x != 0).length ≤ LINE := lit_le l2
  simp [Tb.D, toldP, Function.comp_def, l4]
theorem r_ltoldR {d : Nat} (hd : 1 ≤ d) (t : Tb) (hl : t.length < 64) (h : Heap) (n : Nat) (hn : h[n]? = some (.dct false t.kv)) : run tab.defs d i_law_told [.ref n] h = .ok (.d (toldP t).D, h) := by
  obtain ⟨d, rfl, k⟩ := dep hd
  rw [run_at d_law_told rfl]
  exact (told_bodyR t hl h n hn).trans (by rw [List.take_length])
theorem doneE_set (w : Nat) : True := trivial
section
variable {ns : List Nm} {w B d : Nat} (w1 : 1 ≤ w) (w8 : w ≤ 8) (hB : 2 * B ≤ LINE) (hn : ns.length < LINE) (hd : 4 ≤ d) (x1 x2 : Option RV) (h : Heap)
theorem Wd.Ok_sd {a : Wd} (k : a.Ok ns) : (Sd.sw a).ok ns ∧ (Sd.sw a).sz ≤ 900 := ⟨k.1, by have := k.2.2; simp only [Sd.sz]; omega⟩
theorem Bt.Ok_sd {a : Bt} (k : a.Ok ns) : (Sd.sb a).ok ns ∧ (Sd.sb a).sz ≤ 900 := ⟨k.1, by have := k.2.2; simp only [Sd.sz]; omega⟩
def dE (w : Nat) (x1 x2 : Option RV) (n : Int) (k : Nat) (s : Ss) (m : Int) (f : Nm) (a8 a9 : Option RV) : Env := [some (.d (.int w)), x1, x2, some (.d (.int n)), some (.ref k), some (.d (.lst s.Ds.reverse)), some (.d (.int m)), some (.d (.str f)), a8, a9]
include w1 w8 hB hn hd in
theorem done_step (n m : Int) {t : Tb} {s : Ss} (I : Inv ns w B t s) (hs : s ≠ .nil) (f : Nm) (hf : f.length ≤ 10000) (a8 a9 : Option RV) : ∃ fl a8' a9', (fl = .nx ∨ fl = .ct) ∧
    exS (run tab.defs d) h.length l0_law_done (dE w x1 x2 n h.length s m f a8 a9) (h ++ [.dct false t.kv]) = .ok (fl, dE w x1 x2 n h.length (stepP w t s).2 (m + 1) (f ++ bitP w t s) a8' a9', h ++ [.dct false (stepP w t s).1.kv]) := by
  have tl : t.length < LINE := Nat.lt_of_le_of_lt I.keys.len hn
  have T : TabAt (h ++ [.dct false t.kv]) (.ref h.length) t := .inr ⟨_, rfl, by simp⟩
  have fl : f.length + 1 ≤ LINE := by rw [LINE_eq]; omega
  have sl := I.ms
  cases s with
  | nil => exact absurd rfl hs
  | set x e r =>
    have e1 := r_lside hd w1 w8 I.tin (.sw e) (Wd.Ok_sd I.ok.2.1).1 (Wd.Ok_sd I.ok.2.1).2 T
    simp only [Sd.D, Sd.wo] at e1
    refine ⟨.ct, some (.d (Ss.hd (.set x e r))), a9, .inr rfl, ?_⟩
    simp [l0_law_done, dE, Ss.Ds, e1, tl, dput_kv, stepP, bitP, Ss.hd]
  | ite c a b r =>
    have e1 := r_lside hd w1 w8 I.tin (.sb c) (Bt.Ok_sd I.ok.1).1 (Bt.Ok_sd I.ok.1).2 T
    simp only [Sd.D, Sd.wo] at e1
    have e3 := str_bit (Bt.wo_bit w t c)
    have l1 : (strInt (c.wo w t)).length = 1 := by rcases Bt.wo_bit w t c with e | e <;> simp [e, strInt0, strInt1]
    simp only [Ss.ms] at sl
    have r1 : r.Ds.length ≤ B := Ss.dle (by omega)
    have a1 : a.Ds.length ≤ B := Ss.dle (by omega)
    have b1 : b.Ds.length ≤ B := Ss.dle (by omega)
    have z1 : r.Ds.length + a.Ds.length ≤ LINE := by omega
    have z2 : r.Ds.length + b.Ds.length ≤ LINE := by omega
    refine ⟨.nx, some (.d (Ss.hd (.ite c a b r))), some (.d (.int (c.wo w t))), .inl rfl, ?_⟩
    by_cases q : c.wo w t = 1
    · rw [q] at e1 e3 l1
      simp [l0_law_done, dE, Ss.Ds, q_if, e1, e3, l1, fl, z1, stepP, bitP, q, Ss.Ds_app, -ystr, Ss.hd]
    · simp [l0_law_done, dE, Ss.Ds, q_if, e1, e3, l1, fl, z2, stepP, bitP, q, Ss.Ds_app, -ystr, Ss.hd]
  | whl c a r =>
    have e1 := r_lside hd w1 w8 I.tin (.sb c) (Bt.Ok_sd I.ok.1).1 (Bt.Ok_sd I.ok.1).2 T
    simp only [Sd.D, Sd.wo] at e1
    have e3 := str_bit (Bt.wo_bit w t c)
    have l1 : (strInt (c.wo w t)).length = 1 := by rcases Bt.wo_bit w t c with e | e <;> simp [e, strInt0, strInt1]
    simp only [Ss.ms] at sl
    have r1 : r.Ds.length ≤ B := Ss.dle (by omega)
    have a1 : a.Ds.length ≤ B := Ss.dle (by omega)
    have z1 : r.Ds.length + 1 + a.Ds.length ≤ LINE := by
      have := Ss.dle (s := .whl c a r) (n := B) (by simp only [Ss.sz]; omega)
      simp only [Ss.Ds, List.length_cons] at this
      omega
    refine ⟨.nx, some (.d (Ss.hd (.whl c a r))), some (.d (.int (c.wo w t))), .inl rfl, ?_⟩
    by_cases q : c.wo w t = 1
    · rw [q] at e1 e3 l1
      simp [l0_law_done, dE, Ss.Ds, q_while, e1, e3, l1, fl, z1, stepP, bitP, q, Ss.Ds_app, -ystr, Ss.hd]
    · simp [l0_law_done, dE, Ss.Ds, q_while, e1, e3, l1, fl, z1, stepP, bitP, q, Ss.Ds_app, -ystr, Ss.hd]
include w1 w8 hB hn hd in
theorem done_loop : ∀ (n F m : Nat) (t : Tb) (s : Ss) (f : Nm) (a8 a9 : Option RV), n < F → f.length + n ≤ 10000 → Inv ns w B t s → ∃ a8' a9',
    whlS (run tab.defs d) h.length t0_law_done l0_law_done F (dE w x1 x2 (m + n : Nat) h.length s m f a8 a9) (h ++ [.dct false t.kv])
      = .ok (.nx, dE w x1 x2 (m + n : Nat) h.length (runP w n t s).1.2 (m + (runP w n t s).2 : Nat) (f ++ waysP w n t s) a8' a9', h ++ [.dct false (runP w n t s).1.1.kv])
  | n, 0, m, t, s, f, a8, a9, hF, hl, I => absurd hF (by omega)
  | n, F + 1, m, t, .nil, f, a8, a9, hF, hl, I => by
    refine ⟨a8, a9, ?_⟩
    simp [whlS_succ, t0_law_done, dE, Ss.Ds, runP_nil, waysP_nil]
  | 0, F + 1, m, t, s, f, a8, a9, hF, hl, I => by
    by_cases hs : s = .nil
    · subst hs
      refine ⟨a8, a9, ?_⟩
      simp [whlS_succ, t0_law_done, dE, Ss.Ds, runP_nil, waysP_nil]
    · refine ⟨a8, a9, ?_⟩
      have nd := noDcts_rev (Ss.noDcts s)
      have ne : eqDs s.Ds.reverse [] = false := by rw [Ss.Ds_hd hs, List.reverse_cons]; exact eqDs_snoc _ _
      simp [whlS_succ, t0_law_done, dE, nd, ne, runP, waysP]
  | n + 1, F + 1, m, t, s, f, a8, a9, hF, hl, I => by
    by_cases hs : s = .nil
    · subst hs
      refine ⟨a8, a9, ?_⟩
      simp [whlS_succ, t0_law_done, dE, Ss.Ds, runP_nil, waysP_nil]
    · have b := bitP_len w t s
      obtain ⟨fl, b8, b9, hfl, e1⟩ := done_step w1 w8 hB hn hd x1 x2 h (m + (n + 1) : Nat) m I hs f (by omega) a8 a9
      obtain ⟨c8, c9, ih⟩ := done_loop n F (m + 1) (stepP w t s).1 (stepP w t s).2 (f ++ bitP w t s) b8 b9 (by omega) (by rw [List.length_append]; omega) I.step
      refine ⟨c8, c9, ?_⟩
      have nd := noDcts_rev (Ss.noDcts s)
      have ne : eqDs s.Ds.reverse [] = false := by rw [Ss.Ds_hd hs, List.reverse_cons]; exact eqDs_snoc _ _
      have lt : (m : Int) < (m : Int) + ((n : Int) + 1) := by omega
      have et : tst (run tab.defs d) t0_law_done (dE w x1 x2 (m + (n + 1) : Nat) h.length s m f a8 a9) (h ++ [.dct false t.kv]) = .ok (true, h ++ [.dct false t.kv]) := by
        simp [t0_law_done, dE, nd, ne, lt]
      rw [whlS_succ, et]
      simp only [b2_ok, kWh_t]
      rw [e1]
      have em : m + 1 + n = m + (n + 1) := by omega
      have em2 : ((m + 1 : Nat) : Int) = (m : Int) + 1 := by omega
      have em3 : m + 1 + (runP w n (stepP w t s).1 (stepP w t s).2).2 = m + ((runP w n (stepP w t s).1 (stepP w t s).2).2 + 1) := by omega
      rw [em, em2, em3] at ih
      have e5 : f ++ waysP w (n + 1) t s = f ++ bitP w t s ++ waysP w n (stepP w t s).1 (stepP w t s).2 := by simp [waysP]
      rw [runP_succ w n t hs, e5, ← ih]
      rcases hfl with rfl | rfl <;> rfl
end
theorem r_ldone {ns : List Nm} {w B d : Nat} (w1 : 1 ≤ w) (w8 : w ≤ 8) (hB : 2 * B ≤ LINE) (hn : ns.length < 64) (hd : 5 ≤ d) {t : Tb} {s : Ss} (I : Inv ns w B t s) (n : Nat) (hn2 : n ≤ 2000) (h : Heap) :
    run tab.defs d i_law_done [.d (.int w), .d t.D, .d s.D, .d (.int n)] h = .ok (.d (.tup [(toldP (runP w n t s).1.1).D, (runP w n t s).1.2.D, .int (runP w n t s).2, .str (waysP w n t s)]), h) := by
  obtain ⟨d, rfl, k⟩ := dep hd
  rw [run_at d_law_done rfl]
  obtain ⟨a8, a9, e1⟩ := done_loop w1 w8 hB (show ns.length < LINE by rw [LINE_eq]; omega) k (some (.d t.D)) (some (.d s.D)) h n TURNS 0 t s [] none none (by unfold TURNS; omega) (by simp; omega) I
  have I2 := I.run n
  have e2 := r_ltoldR (d := d) (by omega) (runP w n t s).1.1 (Nat.lt_of_le_of_lt I2.keys.len hn) (h ++ [.dct false (runP w n t s).1.1.kv]) h.length (by simp)
  rw [Nat.zero_add, Nat.zero_add, show ((0 : Nat) : Int) = 0 from rfl] at e1
  simp only [dE, List.nil_append, Tb.D, Ss.D] at e1 e2 ⊢
  simp [f_law_done, b_law_done, pairsOf_D, dmerge_kv I.keys.1, s__, e1, e2]
end Mini
set_option Elab.async false
set_option linter.all false
set_option autoImplicit false
set_option maxRecDepth 100000
set_option maxHeartbeats 4000000
/- the law's own: what is drawn. Own work. -/
namespace Mini
abbrev nmsD (ns : List Nm) : D := .lst (ns.map .str)
theorem roll_lit {d : Nat} (hd : 1 ≤ d) (c : Cup) (m : Nat) (hm : 0 < m) (hm2 : m < 1000000) (M : Int) (e : (m : Int) = M) : ∃ (c' : Cup) (r : Nat), r < m ∧ run tab.defs d i_law_roll [.ref 0, .d (.int M)] c.h = .ok (.d (.int r), c'.h) := by
  subst e
  exact r_roll hd c m hm hm2
theorem some_nm {d : Nat} (hd : 2 ≤ d) (c : Cup) {ns : List Nm} (hn : ns ≠ []) (hl : ns.length < 1000) : ∃ (c' : Cup) (x : Nm), x ∈ ns ∧ run tab.defs d i_law_some [.ref 0, .d (nmsD ns)] c.h = .ok (.d (.str x), c'.h) := by
  obtain ⟨c', y, hy, e⟩ := r_some hd c (ns.map .str) (by rw [List.length_map]; exact List.length_pos_iff.mpr hn) (by rw [List.length_map]; omega)
  obtain ⟨x, hx, rfl⟩ := List.mem_map.mp hy
  exact ⟨c', x, hx, e⟩
theorem some_lit {d : Nat} (hd : 2 ≤ d) (c : Cup) (xs : List D) (h0 : 0 < xs.length) (hl : xs.length < 100) : ∃ (c' : Cup) (x : D), x ∈ xs ∧ run tab.defs d i_law_some [.ref 0, .d (.lst xs)] c.h = .ok (.d x, c'.h) := r_some hd c xs h0 (by omega)
theorem first_nm {ns : List Nm} (hn : ns ≠ []) : ∃ x, x ∈ ns ∧ atD (ns.map D.str) 0 = some (.str x) := by
  cases ns with
  | nil => exact absurd rfl hn
  | cons x r => exact ⟨x, by simp, by simp⟩
def Wd.Tip (ns : List Nm) (a : Wd) : Prop := a.ok ns ∧ a.dp = 1 ∧ a.sz = 1
section
variable {ns : List Nm} (hn : ns ≠ []) (hl : ns.length < 1000)
include hn hl
theorem r_tip {d : Nat} (hd : 3 ≤ d) (c : Cup) : ∃ (c' : Cup) (a : Wd), a.Tip ns ∧ run tab.defs d i_law_tip [.ref 0, .d (nmsD ns)] c.h = .ok (.d a.D, c'.h) := by
  obtain ⟨d, rfl, k⟩ := dep hd
  obtain ⟨c1, r1, hr1, e1⟩ := roll_lit (show 1 ≤ d by omega) c 256 (by omega) (by omega) 256 rfl
  obtain ⟨c2, r2, hr2, e2⟩ := roll_lit (show 1 ≤ d by omega) c1 4 (by omega) (by omega) 4 rfl
  obtain ⟨c3, x, hx, e3⟩ := some_nm k c2 hn hl
  obtain ⟨y, hy, e4⟩ := first_nm hn
  obtain ⟨c4, z, hz, e5⟩ := some_lit k c3 [.tup [.str s_num, .int r1], .tup [.str s_num, .int r2], .tup [.str s_name, .str x], .tup [.str s_name, .str y]] (by simp) (by simp)
  have ez : ∃ a : Wd, a.Tip ns ∧ z = a.D := by
    simp only [List.mem_cons, List.not_mem_nil, or_false] at hz
    rcases hz with rfl | rfl | rfl | rfl
    · exact ⟨.num r1, ⟨by show r1 ≤ 255; omega, rfl, rfl⟩, rfl⟩
    · exact ⟨.num r2, ⟨by show r2 ≤ 255; omega, rfl, rfl⟩, rfl⟩
    · exact ⟨.nam x, ⟨hx, rfl, rfl⟩, rfl⟩
    · exact ⟨.nam y, ⟨hy, rfl, rfl⟩, rfl⟩
  obtain ⟨a, ha, rfl⟩ := ez
  refine ⟨c4, a, ha, ?_⟩
  rw [run_at d_law_tip rfl]
  simp [f_law_tip, b_law_tip, e1, e2, e3, e4, e5]
  simp [Cup.h]
theorem some_o2 {d : Nat} (hd : 2 ≤ d) (c : Cup) : ∃ (c' : Cup) (o : O2), run tab.defs d i_law_some [.ref 0, .d (.lst [.str s_add, .str s_sub, .str s_and, .str s_or, .str s_xor])] c.h = .ok (.d (.str o.s), c'.h) := by
  obtain ⟨c', z, hz, e⟩ := some_lit hd c [.str s_add, .str s_sub, .str s_and, .str s_or, .str s_xor] (by simp) (by simp)
  simp only [List.mem_cons, List.not_mem_nil, or_false] at hz
  rcases hz with rfl | rfl | rfl | rfl | rfl
  · exact ⟨c', .add, e⟩
  · exact ⟨c', .sub, e⟩
  · exact ⟨c', .and, e⟩
  · exact ⟨c', .or, e⟩
  · exact ⟨c', .xor, e⟩
theorem some_o1 {d : Nat} (hd : 2 ≤ d) (c : Cup) : ∃ (c' : Cup) (o : O1), run tab.defs d i_law_some [.ref 0, .d (.lst [.str s_not, .str s_up, .str s_down])] c.h = .ok (.d (.str o.s), c'.h) := by
  obtain ⟨c', z, hz, e⟩ := some_lit hd c [.str s_not, .str s_up, .str s_down] (by simp) (by simp)
  simp only [List.mem_cons, List.not_mem_nil, or_false] at hz
  rcases hz with rfl | rfl | rfl
  · exact ⟨c', .not, e⟩
  · exact ⟨c', .up, e⟩
  · exact ⟨c', .down, e⟩
theorem r_small {d : Nat} (hd : 4 ≤ d) (c : Cup) : ∃ (c' : Cup) (a : Wd), (a.ok ns ∧ a.dp ≤ 2 ∧ a.sz ≤ 3) ∧ run tab.defs d i_law_small [.ref 0, .d (nmsD ns)] c.h = .ok (.d a.D, c'.h) := by
  obtain ⟨d, rfl, k⟩ := dep hd
  obtain ⟨c1, t1, h1, e1⟩ := r_tip hn hl k c
  obtain ⟨c2, t2, h2, e2⟩ := r_tip hn hl k c1
  obtain ⟨c3, o2, e3⟩ := some_o2 hn hl (show 2 ≤ d by omega) c2
  obtain ⟨c4, o1, e4⟩ := some_o1 hn hl (show 2 ≤ d by omega) c3
  obtain ⟨c5, z, hz, e5⟩ := some_lit (show 2 ≤ d by omega) c4 [t1.D, t2.D, .tup [.str o2.s, t1.D, t2.D], .tup [.str o2.s, t1.D, t2.D], .tup [.str o1.s, t1.D]] (by simp) (by simp)
  have g1 := h1.2.1
  have g2 := h2.2.1
  have g3 := h1.2.2
  have g4 := h2.2.2
  have ez : ∃ a : Wd, (a.ok ns ∧ a.dp ≤ 2 ∧ a.sz ≤ 3) ∧ z = a.D := by
    simp only [List.mem_cons, List.not_mem_nil, or_false] at hz
    rcases hz with rfl | rfl | rfl | rfl | rfl
    · exact ⟨t1, ⟨h1.1, by omega, by omega⟩, rfl⟩
    · exact ⟨t2, ⟨h2.1, by omega, by omega⟩, rfl⟩
    · exact ⟨.two o2 t1 t2, ⟨⟨h1.1, h2.1⟩, by simp only [Wd.dp]; omega, by simp only [Wd.sz]; omega⟩, rfl⟩
    · exact ⟨.two o2 t1 t2, ⟨⟨h1.1, h2.1⟩, by simp only [Wd.dp]; omega, by simp only [Wd.sz]; omega⟩, rfl⟩
    · exact ⟨.one o1 t1, ⟨h1.1, by simp only [Wd.dp]; omega, by simp only [Wd.sz]; omega⟩, rfl⟩
  obtain ⟨a, ha, rfl⟩ := ez
  refine ⟨c5, a, ha, ?_⟩
  rw [run_at d_law_small rfl]
  simp [f_law_small, b_law_small, e1, e2, e3, e4, e5]
  simp [Cup.h]
theorem r_deep {d : Nat} (hd : 5 ≤ d) (c : Cup) : ∃ (c' : Cup) (a : Wd), a.Ok ns ∧ run tab.defs d i_law_deep [.ref 0, .d (nmsD ns)] c.h = .ok (.d a.D, c'.h) := by
  obtain ⟨d, rfl, k⟩ := dep hd
  obtain ⟨c1, t1, h1, e1⟩ := r_small hn hl k c
  obtain ⟨c2, t2, h2, e2⟩ := r_small hn hl k c1
  obtain ⟨c3, o2, e3⟩ := some_o2 hn hl (show 2 ≤ d by omega) c2
  obtain ⟨c5, z, hz, e5⟩ := some_lit (show 2 ≤ d by omega) c3 [t1.D, .tup [.str o2.s, t1.D, t2.D], .tup [.str s_up, t2.D]] (by simp) (by simp)
  obtain ⟨q1, g1, g3⟩ := h1
  obtain ⟨q2, g2, g4⟩ := h2
  have ez : ∃ a : Wd, a.Ok ns ∧ z = a.D := by
    simp only [List.mem_cons, List.not_mem_nil, or_false] at hz
    rcases hz with rfl | rfl | rfl
    · exact ⟨t1, ⟨q1, by omega, by omega⟩, rfl⟩
    · exact ⟨.two o2 t1 t2, ⟨⟨q1, q2⟩, by simp only [Wd.dp]; omega, by simp only [Wd.sz]; omega⟩, rfl⟩
    · exact ⟨.one .up t2, ⟨q2, by simp only [Wd.dp]; omega, by simp only [Wd.sz]; omega⟩, rfl⟩
  obtain ⟨a, ha, rfl⟩ := ez
  refine ⟨c5, a, ha, ?_⟩
  rw [run_at d_law_deep rfl]
  simp [f_law_deep, b_law_deep, e1, e2, e3, e5]
  simp [Cup.h]
theorem r_test {d : Nat} (hd : 5 ≤ d) (c : Cup) : ∃ (c' : Cup) (a : Bt), a.Ok ns ∧ run tab.defs d i_law_test [.ref 0, .d (nmsD ns)] c.h = .ok (.d a.D, c'.h) := by
  obtain ⟨d, rfl, k⟩ := dep hd
  obtain ⟨c1, t1, h1, e1⟩ := r_small hn hl k c
  obtain ⟨c2, t2, h2, e2⟩ := r_small hn hl k c1
  obtain ⟨c3, t3, h3, e3⟩ := r_tip hn hl (show 3 ≤ d by omega) c2
  obtain ⟨y, hy, e4⟩ := first_nm hn
  obtain ⟨c5, z, hz, e5⟩ := some_lit (show 2 ≤ d by omega) c3 [.tup [.str s_zero, t1.D], .tup [.str s_less, t1.D, t2.D], .tup [.str s_off, .tup [.str s_zero, t3.D]], .tup [.str s_off, .tup [.str s_less, t3.D, .tup [.str s_name, .str y]]]] (by simp) (by simp)
  obtain ⟨q1, g1, g3⟩ := h1
  obtain ⟨q2, g2, g4⟩ := h2
  obtain ⟨q3, g5, g6⟩ := h3
  have ez : ∃ a : Bt, a.Ok ns ∧ z = a.D := by
    simp only [List.mem_cons, List.not_mem_nil, or_false] at hz
    rcases hz with rfl | rfl | rfl | rfl
    · exact ⟨.zero t1, ⟨q1, by simp only [Bt.dp]; omega, by simp only [Bt.sz]; omega⟩, rfl⟩
    · exact ⟨.less t1 t2, ⟨⟨q1, q2⟩, by simp only [Bt.dp]; omega, by simp only [Bt.sz]; omega⟩, rfl⟩
    · exact ⟨.off (.zero t3), ⟨q3, by simp only [Bt.dp]; omega, by simp only [Bt.sz]; omega⟩, rfl⟩
    · exact ⟨.off (.less t3 (.nam y)), ⟨⟨q3, hy⟩, by simp only [Bt.dp, Wd.dp]; omega, by simp only [Bt.sz, Wd.sz]; omega⟩, rfl⟩
  obtain ⟨a, ha, rfl⟩ := ez
  refine ⟨c5, a, ha, ?_⟩
  rw [run_at d_law_test rfl]
  simp [f_law_test, b_law_test, e1, e2, e3, e4, e5]
  simp [Cup.h]
theorem sets_go {d : Nat} (hd : 5 ≤ d) (a2 : Option RV) : ∀ (xs : List D) (c : Cup), ∃ (c' : Cup) (s : Ss), s.ok ns ∧ s.sz = xs.length ∧ s.dp = 1 ∧
    mapS (run tab.defs d) [3] (.nm 3) .tyes x0_law_sets [some (.ref 0), some (.d (nmsD ns)), a2, none] xs c.h = .ok (s.Ds, c'.h)
  | [], c => ⟨c, .nil, trivial, rfl, rfl, by simp [mapS_nil, Ss.Ds]⟩
  | y :: xs, c => by
    obtain ⟨c1, x, hx, e1⟩ := some_nm (show 2 ≤ d by omega) c hn hl
    obtain ⟨c2, a, ha, e2⟩ := r_deep hn hl hd c1
    obtain ⟨c3, s, h1, h2, h3, e3⟩ := sets_go hd a2 xs c2
    refine ⟨c3, .set x a s, ⟨hx, ha, h1⟩, by simp [Ss.sz, h2], by simp [Ss.dp, h3], ?_⟩
    have es : stepS (run tab.defs d) [3] (.nm 3) .tyes x0_law_sets [some (.ref 0), some (.d (nmsD ns)), a2, none] y c.h = .ok ([.tup [.str s_set, .str x, a.D]], c2.h) := by
      simp [stepS_eq, x0_law_sets, e1, e2]
    rw [mapS_cons, es]
    simp [e3, Ss.Ds]
theorem r_sets {d : Nat} (hd : 6 ≤ d) (c : Cup) (m : Nat) (hm : m ≤ 1000) : ∃ (c' : Cup) (s : Ss), s.ok ns ∧ s.sz = m ∧ s.dp = 1 ∧ run tab.defs d i_law_sets [.ref 0, .d (nmsD ns), .d (.int m)] c.h = .ok (.d s.D, c'.h) := by
  obtain ⟨d, rfl, k⟩ := dep hd
  obtain ⟨c1, s, h1, h2, h3, e1⟩ := sets_go hn hl k (some (.d (.int m))) (rangeD 0 m) c
  rw [length_range] at h2
  refine ⟨c1, s, h1, h2, h3, ?_⟩
  rw [run_at d_law_sets rfl]
  have b1 : -(LINE : Int) ≤ (m : Int) := by rw [LINE_eq]; omega
  have b2 : (m : Int) ≤ (LINE : Int) := by rw [LINE_eq]; omega
  have b3 : s.Ds.length ≤ LINE := by have := Ss.dle (s := s) (n := m) (by omega); rw [LINE_eq]; omega
  simp [f_law_sets, b_law_sets, b1, b2, b3, e1, Ss.D]
  simp [Cup.h]
theorem r_ways {d : Nat} (hd : 7 ≤ d) (c : Cup) (s : Ss) (ok : s.ok ns) (hs : s.sz ≤ 1000) : ∃ (c' : Cup) (u : Ss) (z : D), u.ok ns ∧ u.sz ≤ s.sz + 2 ∧ u.dp ≤ s.dp + 1 ∧ u.Ds = [z] ∧ run tab.defs d i_law_ways [.ref 0, .d (nmsD ns), .d s.D] c.h = .ok (.d z, c'.h) := by
  obtain ⟨d, rfl, k⟩ := dep hd
  obtain ⟨c1, x, hx, e1⟩ := some_nm (show 2 ≤ d by omega) c hn hl
  obtain ⟨c2, r, hr, e2⟩ := roll_lit (show 1 ≤ d by omega) c1 3 (by omega) (by omega) 3 rfl
  have sp := s.dp_pos
  rcases (show r = 0 ∨ r = 1 ∨ r = 2 by omega) with rfl | rfl | rfl
  · obtain ⟨c3, b, hb, e3⟩ := r_test hn hl (show 5 ≤ d by omega) c2
    obtain ⟨c4, r2, hr2, e4⟩ := roll_lit (show 1 ≤ d by omega) c3 2 (by omega) (by omega) 2 rfl
    obtain ⟨c5, v, v1, v2, v3, e5⟩ := r_sets hn hl k c4 r2 (by omega)
    refine ⟨c5, .ite b s v .nil, _, ⟨hb, ok, v1, trivial⟩, by simp only [Ss.sz]; omega, by simp only [Ss.dp]; omega, rfl, ?_⟩
    rw [run_at d_law_ways rfl]
    simp only [show ((0 : Nat) : Int) = 0 from rfl] at e2
    simp [f_law_ways, b_law_ways, e1, e2, e3, e4, e5, Ss.D]
    simp [Cup.h]
  · obtain ⟨c3, b, hb, e3⟩ := r_test hn hl (show 5 ≤ d by omega) c2
    refine ⟨c3, .whl b s .nil, _, ⟨hb, ok, trivial⟩, by simp only [Ss.sz]; omega, by simp only [Ss.dp]; omega, rfl, ?_⟩
    rw [run_at d_law_ways rfl]
    simp only [show ((1 : Nat) : Int) = 1 from rfl] at e2
    simp [f_law_ways, b_law_ways, e1, e2, e3, Ss.D]
    simp [Cup.h]
  · have l1 : s.Ds.length + 1 ≤ LINE := by have := Ss.dle hs; rw [LINE_eq]; omega
    refine ⟨c2, .whl (.off (.zero (.nam x))) (s.app (.set x (.two .sub (.nam x) (.num 1)) .nil)) .nil, _, ⟨⟨hx, by simp [Bt.dp, Wd.dp], by simp [Bt.sz, Wd.sz]⟩, Ss.ok_app ok ⟨hx, ⟨⟨hx, by show 1 ≤ 255; omega⟩, by simp [Wd.dp], by simp [Wd.sz]⟩, trivial⟩, trivial⟩, by simp only [Ss.sz, Ss.sz_app]; omega, by simp only [Ss.dp, Ss.dp_app]; omega, rfl, ?_⟩
    rw [run_at d_law_ways rfl]
    simp only [show ((2 : Nat) : Int) = 2 from rfl] at e2
    simp [f_law_ways, b_law_ways, e1, e2, l1, Ss.D, Ss.Ds_app, Ss.Ds, Bt.D, Wd.D, O2.s]
    simp [Cup.h]
end
end Mini
set_option Elab.async false
set_option linter.all false
set_option autoImplicit false
set_option maxRecDepth 100000
set_option maxHeartbeats 4000000
/- the law's own: sources and worths drawn. Own work. -/
namespace Mini
section
variable {ns : List Nm} (hn : ns ≠ []) (hl : ns.length < 1000)
include hn hl
theorem source_go {d : Nat} (hd : 7 ≤ d) (base : Nat) (a1 : Option RV) : ∀ (xs : List D) (c : Cup) (s : Ss) (a4 : Option RV), s.ok ns → s.sz + 5 * xs.length ≤ 900 → ∃ (c' : Cup) (s' : Ss) (a4' : Option RV), s'.ok ns ∧ s'.sz ≤ s.sz + 5 * xs.length ∧ s'.dp ≤ s.dp + xs.length ∧
    forS (run tab.defs d) base (.nm 4) l0_law_source xs [some (.ref 0), a1, some (.d (nmsD ns)), some (.d s.D), a4] c.h = .ok (.nx, [some (.ref 0), a1, some (.d (nmsD ns)), some (.d s'.D), a4'], c'.h)
  | [], c, s, a4, ok, hz => ⟨c, s, a4, ok, by simp, by simp, by simp [forS_nil]⟩
  | y :: xs, c, s, a4, ok, hz => by
    simp only [List.length_cons] at hz
    obtain ⟨c1, r1, hr1, e1⟩ := roll_lit (show 1 ≤ d by omega) c 3 (by omega) (by omega) 3 rfl
    obtain ⟨c2, s1, q1, q2, q3, e2⟩ := r_sets hn hl (show 6 ≤ d by omega) c1 r1 (by omega)
    obtain ⟨c3, u1, z1, p1, p2, p3, p4, e3⟩ := r_ways hn hl hd c2 s1 q1 (by omega)
    obtain ⟨c4, u2, z2, t1, t2, t3, t4, e4⟩ := r_ways hn hl hd c3 s ok (by omega)
    obtain ⟨c5, z, hz5, e5⟩ := some_lit (show 2 ≤ d by omega) c4 [.tup (s.Ds ++ [z1]), .tup [z2]] (by simp) (by simp)
    obtain ⟨c6, r2, hr2, e6⟩ := roll_lit (show 1 ≤ d by omega) c5 2 (by omega) (by omega) 2 rfl
    obtain ⟨c7, s2, w1, w2, w3, e7⟩ := r_sets hn hl (show 6 ≤ d by omega) c6 r2 (by omega)
    have sp := s.dp_pos
    have ez : ∃ v : Ss, v.ok ns ∧ v.sz ≤ s.sz + 4 ∧ v.dp ≤ s.dp + 1 ∧ z = v.D := by
      simp only [List.mem_cons, List.not_mem_nil, or_false] at hz5
      rcases hz5 with rfl | rfl
      · refine ⟨s.app u1, Ss.ok_app ok p1, by rw [Ss.sz_app]; omega, by rw [Ss.dp_app]; omega, ?_⟩
        rw [Ss.D, Ss.Ds_app, p4]
      · refine ⟨u2, t1, by omega, by omega, ?_⟩
        rw [Ss.D, t4]
    obtain ⟨v, v1, v2, v3, rfl⟩ := ez
    obtain ⟨c8, s', a4', k1, k2, k3, e8⟩ := source_go hd base a1 xs c7 (v.app s2) (some (.d y)) (Ss.ok_app v1 w1) (by rw [Ss.sz_app]; omega)
    rw [Ss.sz_app] at k2
    rw [Ss.dp_app] at k3
    refine ⟨c8, s', a4', k1, by simp only [List.length_cons]; omega, by simp only [List.length_cons]; omega, ?_⟩
    have l1 : s.Ds.length + 1 ≤ LINE := by have := Ss.dle (s := s) (n := 900) (by omega); rw [LINE_eq]; omega
    have l2 : v.Ds.length + s2.Ds.length ≤ LINE := by
      have := Ss.dle (s := v) (n := 1000) (by omega)
      have := Ss.dle (s := s2) (n := 10) (by omega)
      rw [LINE_eq]; omega
    have eb : exS (run tab.defs d) base l0_law_source [some (.ref 0), a1, some (.d (nmsD ns)), some (.d s.D), some (.d y)] c.h = .ok (.nx, [some (.ref 0), a1, some (.d (nmsD ns)), some (.d (v.app s2).D), some (.d y)], c7.h) := by
      simp only [Ss.D] at e2 e3 e4 e5 e7 ⊢
      simp [l0_law_source, e1, e2, e3, e4, l1, e5, e6, e7, l2, Ss.Ds_app]
    rw [forS_cons, show setTg (.nm 4) y [some (.ref 0), a1, some (.d (nmsD ns)), some (.d s.D), a4] = some [some (.ref 0), a1, some (.d (nmsD ns)), some (.d s.D), some (.d y)] from rfl, kFT_e, eb]
    exact e8
end
def nmsL : List (List Nm) := [[s_a], [s_a, s_b], [s_a, s_b, s_c], [s_x, s_doe, s_total, s_n]]
theorem nmsL_ok : ∀ ns ∈ nmsL, ns ≠ [] ∧ ns.length < 1000 := by
  intro ns h
  simp only [nmsL, List.mem_cons, List.not_mem_nil, or_false] at h
  rcases h with rfl | rfl | rfl | rfl <;> simp
theorem r_source {d : Nat} (hd : 8 ≤ d) (c : Cup) : ∃ (c' : Cup) (ns : List Nm) (s : Ss), ns ∈ nmsL ∧ s.ok ns ∧ s.sz ≤ 17 ∧ s.dp ≤ 4 ∧ run tab.defs d i_law_source [.ref 0, .d (.int 4)] c.h = .ok (.d s.D, c'.h) := by
  obtain ⟨d, rfl, k⟩ := dep hd
  obtain ⟨c1, z, hz, e1⟩ := some_lit (show 2 ≤ d by omega) c [nmsD [s_a], nmsD [s_a, s_b], nmsD [s_a, s_b, s_c], nmsD [s_x, s_doe, s_total, s_n]] (by simp) (by simp)
  have ez : ∃ ns ∈ nmsL, z = nmsD ns := by
    simp only [List.mem_cons, List.not_mem_nil, or_false] at hz
    rcases hz with rfl | rfl | rfl | rfl
    · exact ⟨_, by simp [nmsL], rfl⟩
    · exact ⟨[s_a, s_b], by simp [nmsL], rfl⟩
    · exact ⟨[s_a, s_b, s_c], by simp [nmsL], rfl⟩
    · exact ⟨[s_x, s_doe, s_total, s_n], by simp [nmsL], rfl⟩
  obtain ⟨ns, hns, rfl⟩ := ez
  have hn := (nmsL_ok ns hns).1
  have hl := (nmsL_ok ns hns).2
  obtain ⟨c2, r1, hr1, e2⟩ := roll_lit (show 1 ≤ d by omega) c1 3 (by omega) (by omega) 3 rfl
  obtain ⟨c3, s1, q1, q2, q3, e3⟩ := r_sets hn hl (show 6 ≤ d by omega) c2 r1 (by omega)
  obtain ⟨c4, r2, hr2, e4⟩ := roll_lit (show 1 ≤ d by omega) c3 4 (by omega) (by omega) 4 rfl
  obtain ⟨c5, s, a4, k1, k2, k3, e5⟩ := source_go hn hl k 1 (some (.d (.int 4))) (rangeD 0 r2) c4 s1 none q1 (by rw [length_range]; omega)
  rw [length_range] at k2 k3
  refine ⟨c5, ns, s, hns, k1, by omega, by omega, ?_⟩
  rw [run_at d_law_source rfl]
  have b1 : -(LINE : Int) ≤ (r2 : Int) := by rw [LINE_eq]; omega
  have b2 : (r2 : Int) ≤ (LINE : Int) := by rw [LINE_eq]; omega
  have hlen : c.h.length = 1 := rfl
  simp only [nmsD, List.map_cons, List.map_nil] at e1
  simp [f_law_source, b_law_source, hlen, e1, e2, e3, e4, b1, b2, e5]
  simp [Cup.h]
theorem pow_cast (w : Nat) : (((2 ^ w : Nat)) : Int) = (2 : Int) ^ w := by simp
theorem worths_step {d : Nat} (hd : 1 ≤ d) {w : Nat} (w8 : w ≤ 8) (x : Nm) (c : Cup) : ∃ (c' : Cup) (l : Tb), (l.map (·.1)).Sublist [x] ∧ l.In w ∧
    stepS (run tab.defs d) [2] (.nm 2) k0_law_worths x0_law_worths [some (.ref 0), some (.d (.int w)), none] (.str x) c.h = .ok (l.map pairD, c'.h) := by
  obtain ⟨c1, r1, hr1, e1⟩ := roll_lit hd c 2 (by omega) (by omega) 2 rfl
  have pw : 2 ^ w ≤ 2 ^ 8 := Nat.pow_le_pow_right (by decide) w8
  have pw0 : 0 < 2 ^ w := Nat.pow_pos (by decide)
  obtain ⟨c2, r2, hr2, e2⟩ := roll_lit hd c1 (2 ^ w) pw0 (by omega) (2 ^ w) (pow_cast w)
  have e3 := r_lpower hd w (lit_le (by omega)) c1.h
  by_cases q : r1 = 0
  · subst q
    refine ⟨c2, [(x, r2)], by simp, fun p hp => ?_, ?_⟩
    · rw [List.mem_singleton] at hp
      subst hp
      refine ⟨Int.natCast_nonneg _, ?_⟩
      rw [← pow_cast]
      exact Int.ofNat_lt.mpr hr2
    · simp only [show ((0 : Nat) : Int) = 0 from rfl] at e1
      simp [stepS_eq, k0_law_worths, x0_law_worths, e1, e2, e3, pairD]
  · refine ⟨c1, [], by simp, fun p hp => by simp at hp, ?_⟩
    simp [stepS_eq, k0_law_worths, x0_law_worths, e1, q]
def wnms : List Nm := [s_a, s_b, s_total, s_x]
theorem r_worths {d : Nat} (hd : 2 ≤ d) {w : Nat} (w8 : w ≤ 8) (c : Cup) : ∃ (c' : Cup) (t : Tb), (t.map (·.1)).Sublist wnms ∧ t.In w ∧ run tab.defs d i_law_worths [.ref 0, .d (.int w)] c.h = .ok (.d t.D, c'.h) := by
  obtain ⟨d, rfl, k⟩ := dep hd
  obtain ⟨c1, l1, s1, t1, e1⟩ := worths_step k w8 s_a c
  obtain ⟨c2, l2, s2, t2, e2⟩ := worths_step k w8 s_b c1
  obtain ⟨c3, l3, s3, t3, e3⟩ := worths_step k w8 s_total c2
  obtain ⟨c4, l4, s4, t4, e4⟩ := worths_step k w8 s_x c3
  have sl : ((l1 ++ (l2 ++ (l3 ++ l4))).map (·.1)).Sublist wnms := by
    simp only [List.map_append]
    exact s1.append (s2.append (s3.append s4))
  refine ⟨c4, l1 ++ (l2 ++ (l3 ++ l4)), sl, fun p hp => ?_, ?_⟩
  · simp only [List.mem_append] at hp
    rcases hp with z | z | z | z
    · exact t1 p z
    · exact t2 p z
    · exact t3 p z
    · exact t4 p z
  · rw [run_at d_law_worths rfl]
    have hle := sl.length_le
    simp only [List.length_map, List.length_append, wnms, List.length_cons, List.length_nil] at hle
    have l : (l1.map pairD ++ (l2.map pairD ++ (l3.map pairD ++ l4.map pairD))).length ≤ LINE := by
      simp only [List.length_append, List.length_map]
      exact lit_le (by omega)
    simp only [List.length_append, List.length_map] at l
    simp [f_law_worths, b_law_worths, mapS_cons, mapS_nil, e1, e2, e3, e4, l, Tb.D]
    simp [Cup.h]
end Mini
set_option Elab.async false
set_option linter.all false
set_option autoImplicit false
set_option maxRecDepth 100000
set_option maxHeartbeats 4000000
/- runs: alike tables, parts, a product. Own work. -/
namespace Mini
def teq (t t' : Tb) : Prop := ∀ x, tget t x = tget t' x
theorem tget_tput (t : Tb) (x : Nm) (v : Int) (y : Nm) : tget (tput t x v) y = if x = y then v else tget t y := by
  have h1 : ∀ t : Tb, thas t x = true → tget (t.map fun p => if p.1 = x then (p.1, v) else p) y = if x = y then v else tget t y := by
    intro t
    induction t with
    | nil => intro h; simp [thas] at h
    | cons p t ih =>
      obtain ⟨z, u⟩ := p
      intro h
      have key : ∀ t : Tb, thas t x = false → tget (t.map fun p => if p.1 = x then (p.1, v) else p) y = tget t y := by
        intro t
        induction t with
        | nil => intro _; rfl
        | cons p t ih =>
          obtain ⟨z, u⟩ := p
          intro h
          simp only [thas] at h
          by_cases q : z = x
          · simp [q] at h
          · rw [if_neg q] at h
            simp only [List.map_cons, if_neg q, tget, ih h]
      simp only [thas] at h
      by_cases q : z = x
      · subst q
        simp only [List.map_cons, if_true, tget]
        by_cases q2 : z = y
        · simp [q2]
        · rw [if_neg q2, if_neg q2, if_neg q2]
          cases e : thas t z with
          | true => rw [ih e, if_neg q2]
          | false => exact key t e
      · rw [if_neg q] at h
        simp only [List.map_cons, if_neg q, tget, ih h]
        by_cases q2 : z = y
        · subst q2
          rw [if_pos rfl, if_neg fun e => q e.symm, if_pos rfl]
        · rw [if_neg q2, if_neg q2]
  have h2 : ∀ t : Tb, thas t x = false → tget (t ++ [(x, v)]) y = if x = y then v else tget t y := by
    intro t
    induction t with
    | nil => intro _; simp [tget]
    | cons p t ih =>
      obtain ⟨z, u⟩ := p
      intro h
      simp only [thas] at h
      by_cases q : z = x
      · simp [q] at h
      · rw [if_neg q] at h
        simp only [List.cons_append, tget, ih h]
        by_cases q2 : z = y
        · subst q2
          rw [if_pos rfl, if_neg fun e => q e.symm, if_pos rfl]
        · rw [if_neg q2, if_neg q2]
  unfold tput
  cases e : thas t x with
  | true => rw [if_pos rfl]; exact h1 t e
  | false => rw [if_neg (by decide)]; exact h2 t e
theorem Wd.wo_eq {w : Nat} {t t' : Tb} (h : teq t t') : ∀ a : Wd, a.wo w t = a.wo w t'
  | .num _ => rfl
  | .nam x => h x
  | .one o a => by simp [Wd.wo, Wd.wo_eq h a]
  | .two o a b => by simp [Wd.wo, Wd.wo_eq h a, Wd.wo_eq h b]
theorem Bt.wo_eq {w : Nat} {t t' : Tb} (h : teq t t') : ∀ a : Bt, a.wo w t = a.wo w t'
  | .zero a => by simp [Bt.wo, Wd.wo_eq h a]
  | .less a b => by simp [Bt.wo, Wd.wo_eq h a, Wd.wo_eq h b]
  | .off b => by simp [Bt.wo, Bt.wo_eq h b]
theorem stepP_eq {w : Nat} {t t' : Tb} (h : teq t t') (s : Ss) : teq (stepP w t s).1 (stepP w t' s).1 ∧ (stepP w t s).2 = (stepP w t' s).2 := by
  cases s with
  | nil => exact ⟨h, rfl⟩
  | set x e r =>
    refine ⟨fun y => ?_, rfl⟩
    simp only [stepP, tget_tput, Wd.wo_eq h e, h y]
  | ite c a b r => exact ⟨h, by simp only [stepP, Bt.wo_eq h c]⟩
  | whl c a r => exact ⟨h, by simp only [stepP, Bt.wo_eq h c]⟩
theorem runP_eq {w : Nat} : ∀ (n : Nat) {t t' : Tb} (h : teq t t') (s : Ss), teq (runP w n t s).1.1 (runP w n t' s).1.1 ∧ (runP w n t s).1.2 = (runP w n t' s).1.2 ∧ (runP w n t s).2 = (runP w n t' s).2
  | 0, t, t', h, s => ⟨h, rfl, rfl⟩
  | n + 1, t, t', h, s => by
    by_cases hs : s = .nil
    · subst hs; rw [runP_nil, runP_nil]; exact ⟨h, rfl, rfl⟩
    · have k := stepP_eq (w := w) h s
      have ih := runP_eq (w := w) n k.1 (stepP w t s).2
      rw [runP_succ w n t hs, runP_succ w n t' hs, ← k.2]
      exact ⟨ih.1, ih.2.1, by rw [ih.2.2]⟩
theorem runP_add (w : Nat) : ∀ (a b : Nat) (t : Tb) (s : Ss), runP w (a + b) t s = ((runP w b (runP w a t s).1.1 (runP w a t s).1.2).1, (runP w a t s).2 + (runP w b (runP w a t s).1.1 (runP w a t s).1.2).2)
  | 0, b, t, s => by simp [runP]
  | a + 1, b, t, s => by
    by_cases hs : s = .nil
    · subst hs; simp [runP_nil]
    · have e : a + 1 + b = (a + b) + 1 := by omega
      rw [e, runP_succ w (a + b) t hs, runP_succ w a t hs, runP_add w a b]
      dsimp only
      congr 1
      omega
theorem stepP_ok {ns : List Nm} {w : Nat} {t : Tb} {s : Ss} (h : s.ok ns) : (stepP w t s).2.ok ns := by
  cases s with
  | nil => exact h
  | set x e r => exact h.2.2
  | ite c a b r =>
    refine Ss.ok_app ?_ h.2.2.2
    split
    · exact h.2.1
    · exact h.2.2.1
  | whl c a r =>
    show (if c.wo w t = 1 then a.app (.whl c a r) else r).ok ns
    split
    · exact Ss.ok_app h.2.1 h
    · exact h.2.2
theorem runP_ok {ns : List Nm} {w : Nat} : ∀ (n : Nat) {t : Tb} {s : Ss}, s.ok ns → (runP w n t s).1.2.ok ns
  | 0, t, s, h => h
  | n + 1, t, s, h => by
    by_cases hs : s = .nil
    · subst hs; rw [runP_nil]; exact h
    · rw [runP_succ w n t hs]; exact runP_ok n (stepP_ok h)
theorem tget_zero : ∀ {t : Tb} {x : Nm}, x ∉ t.map (·.1) → tget t x = 0
  | [], _, _ => rfl
  | (y, v) :: t, x, h => by
    simp only [List.map_cons, List.mem_cons, not_or] at h
    rw [tget, if_neg fun e => h.1 e.symm, tget_zero h.2]
theorem tget_map (f : Nm → Int) : ∀ (l : List Nm) (x : Nm), tget (l.map fun y => (y, f y)) x = if x ∈ l then f x else 0
  | [], x => rfl
  | y :: l, x => by
    simp only [List.map_cons, tget, tget_map f l x, List.mem_cons]
    by_cases q : y = x
    · simp [q]
    · have q' : ¬ x = y := fun e => q e.symm
      simp [q, q']
theorem tget_told (t : Tb) : teq (toldP t) t := fun x => by
  unfold toldP
  rw [tget_map (tget t)]
  by_cases h : x ∈ (sortBy ltStr (t.map (·.1))).filter fun x => tget t x != 0
  · rw [if_pos h]
  · rw [if_neg h]
    by_cases k : tget t x = 0
    · exact k.symm
    · have : x ∈ t.map (·.1) := by
        rcases Classical.em (x ∈ t.map (·.1)) with q | q
        · exact q
        · exact absurd (tget_zero q) k
      exact absurd (List.mem_filter.mpr ⟨mem_sortBy.mpr this, by simpa using k⟩) h
theorem rising_ext : ∀ {l m : List Nm}, Rising l → Rising m → (∀ x, x ∈ l ↔ x ∈ m) → l = m
  | [], [], _, _, _ => rfl
  | [], y :: m, _, _, h => absurd ((h y).mpr (by simp)) (by simp)
  | x :: l, [], _, _, h => absurd ((h x).mp (by simp)) (by simp)
  | x :: l, y :: m, hl, hm, h => by
    have h1 := List.pairwise_cons.mp hl
    have h2 := List.pairwise_cons.mp hm
    have exy : x = y := by
      rcases List.mem_cons.mp ((h x).mp (by simp)) with q | q
      · exact q
      · rcases List.mem_cons.mp ((h y).mpr (by simp)) with r | r
        · exact r.symm
        · have a := h1.1 y r
          have b := h2.1 x q
          have c := lt_trans' a b
          rw [lt_irrefl'] at c
          cases c
    subst exy
    rw [rising_ext h1.2 h2.2 fun z => ⟨fun hz => ?_, fun hz => ?_⟩]
    · rcases List.mem_cons.mp ((h z).mp (by simp [hz])) with q | q
      · subst q
        have c := h1.1 z hz
        rw [lt_irrefl'] at c
        cases c
      · exact q
    · rcases List.mem_cons.mp ((h z).mpr (by simp [hz])) with q | q
      · subst q
        have c := h2.1 z hz
        rw [lt_irrefl'] at c
        cases c
      · exact q
theorem told_eq {t t' : Tb} (h : teq t t') (k : (t.map (·.1)).Nodup) (k' : (t'.map (·.1)).Nodup) : toldP t = toldP t' := by
  have mem : ∀ (t : Tb) (x : Nm), x ∈ ((sortBy ltStr (t.map (·.1))).filter fun x => tget t x != 0) ↔ tget t x ≠ 0 := fun t x => by
    rw [List.mem_filter, mem_sortBy]
    constructor
    · intro q; simpa using q.2
    · intro q
      refine ⟨?_, by simpa using q⟩
      rcases Classical.em (x ∈ t.map (·.1)) with z | z
      · exact z
      · exact absurd (tget_zero z) q
  have e : ((sortBy ltStr (t.map (·.1))).filter fun x => tget t x != 0) = ((sortBy ltStr (t'.map (·.1))).filter fun x => tget t' x != 0) :=
    rising_ext ((sortBy_rising k).filter _) ((sortBy_rising k').filter _) fun x => by rw [mem, mem, h x]
  unfold toldP
  rw [e]
  exact List.map_congr_left fun x _ => by rw [h x]
/-! ### plain, short, not deep -/
theorem Wd.pl : ∀ a : Wd, plain a.D = true ∧ short a.D = true ∧ depth a.D ≤ a.dp
  | .num n => ⟨rfl, rfl, by simp [Wd.D, Wd.dp]⟩
  | .nam x => ⟨rfl, rfl, by simp [Wd.D, Wd.dp]⟩
  | .one o a => by
    have h := Wd.pl a
    exact ⟨by simp [Wd.D, plain, plains, h], by simp [Wd.D, short, shorts, h], by simp [Wd.D, Wd.dp]; omega⟩
  | .two o a b => by
    have h := Wd.pl a
    have k := Wd.pl b
    exact ⟨by simp [Wd.D, plain, plains, h, k], by simp [Wd.D, short, shorts, h, k], by simp [Wd.D, Wd.dp]; omega⟩
theorem Bt.pl : ∀ a : Bt, plain a.D = true ∧ short a.D = true ∧ depth a.D ≤ a.dp
  | .zero a => by
    have h := Wd.pl a
    exact ⟨by simp [Bt.D, plain, plains, h], by simp [Bt.D, short, shorts, h], by simp [Bt.D, Bt.dp]; omega⟩
  | .less a b => by
    have h := Wd.pl a
    have k := Wd.pl b
    exact ⟨by simp [Bt.D, plain, plains, h, k], by simp [Bt.D, short, shorts, h, k], by simp [Bt.D, Bt.dp]; omega⟩
  | .off b => by
    have h := Bt.pl b
    exact ⟨by simp [Bt.D, plain, plains, h], by simp [Bt.D, short, shorts, h], by simp [Bt.D, Bt.dp]; omega⟩
theorem Ss.pl {ns : List Nm} : ∀ (s : Ss), s.ok ns → s.sz ≤ 100000 → plains s.Ds = true ∧ shorts s.Ds = true ∧ depths s.Ds ≤ 2 * s.dp + 2
  | .nil, _, _ => ⟨rfl, rfl, by simp [Ss.Ds]⟩
  | .set x e r, ok, hz => by
    have h := e.pl
    have k := Ss.pl r ok.2.2 (by simp only [Ss.sz] at hz; omega)
    have h3 := ok.2.1.2.1
    have rp := r.dp_pos
    exact ⟨by simp [Ss.Ds, plain, plains, h, k], by simp [Ss.Ds, short, shorts, h, k], by simp [Ss.Ds, Ss.dp]; omega⟩
  | .ite c a b r, ok, hz => by
    simp only [Ss.sz] at hz
    have h := c.pl
    have ka := Ss.pl a ok.2.1 (by omega)
    have kb := Ss.pl b ok.2.2.1 (by omega)
    have k := Ss.pl r ok.2.2.2 (by omega)
    have h3 := ok.1.2.1
    have ap := a.dp_pos
    have la : a.Ds.length ≤ 100000 := Ss.dle (by omega)
    have lb : b.Ds.length ≤ 100000 := Ss.dle (by omega)
    exact ⟨by simp [Ss.Ds, plain, plains, h, k, ka, kb], by simp [Ss.Ds, short, shorts, h, k, ka, kb, la, lb], by simp [Ss.Ds, Ss.dp]; omega⟩
  | .whl c a r, ok, hz => by
    simp only [Ss.sz] at hz
    have h := c.pl
    have ka := Ss.pl a ok.2.1 (by omega)
    have k := Ss.pl r ok.2.2 (by omega)
    have h3 := ok.1.2.1
    have ap := a.dp_pos
    have la : a.Ds.length ≤ 100000 := Ss.dle (by omega)
    exact ⟨by simp [Ss.Ds, plain, plains, h, k, ka], by simp [Ss.Ds, short, shorts, h, k, ka, la], by simp [Ss.Ds, Ss.dp]; omega⟩
theorem Tb.pl (t : Tb) (hl : t.length ≤ 1000) : plain t.D = true ∧ short t.D = true ∧ depth t.D ≤ 2 := by
  have g : ∀ t : Tb, plains (t.map pairD) = true ∧ shorts (t.map pairD) = true ∧ depths (t.map pairD) ≤ 1 := by
    intro t
    induction t with
    | nil => exact ⟨rfl, rfl, by simp⟩
    | cons p t ih => exact ⟨by simp [pairD, plain, plains, ih], by simp [pairD, short, shorts, ih], by simp [pairD]; omega⟩
  have := g t
  have l : t.length ≤ 100000 := by omega
  exact ⟨by simp [Tb.D, plain, this], by simp [Tb.D, short, this, l], by simp [Tb.D]; omega⟩
/-! ### the product -/
def mulS : Ss := .whl (.off (.zero (.nam s_n))) (.set s_n (.two .sub (.nam s_n) (.num 1)) (.set s_sum (.two .add (.nam s_sum) (.nam s_m)) .nil)) .nil
theorem one_mod {w : Nat} (hw : 1 ≤ w) : (1 : Int) % 2 ^ w = 1 := sz_bit hw (.inr rfl)
theorem mul_run {w : Nat} (hw : 1 ≤ w) (e : Nat) : ∀ (k : Nat) (t : Tb), (k : Int) < 2 ^ w → tget t s_n = k → 0 ≤ tget t s_sum → tget t s_sum < 2 ^ w → ∃ t', runP w (3 * k + 1 + e) t mulS = ((t', .nil), 3 * k + 1) ∧
    ∀ x, tget t' x = if x = s_n then 0 else if x = s_sum then (tget t s_sum + k * tget t s_m) % 2 ^ w else tget t x
  | 0, t, hk, hn, hs, hs2 => by
    refine ⟨t, ?_, fun x => ?_⟩
    · have e1 : 3 * 0 + 1 + e = e + 1 := by omega
      rw [e1, runP_succ w e t (by simp [mulS])]
      have st : stepP w t mulS = (t, .nil) := by
        simp [stepP, mulS, Bt.wo, Wd.wo, hn]
      rw [st, runP_nil]
    · by_cases q : x = s_n
      · subst q; rw [if_pos rfl, hn]; rfl
      · rw [if_neg q]
        by_cases q2 : x = s_sum
        · subst q2
          rw [if_pos rfl]
          have z : tget t s_sum + ((0 : Nat) : Int) * tget t s_m = tget t s_sum := by simp
          rw [z, Int.emod_eq_of_lt hs hs2]
        · rw [if_neg q2]
  | k + 1, t, hk, hn, hs, hs2 => by
    have p := two_pos w
    have nm : ¬ s_n = s_m := by decide
    have nsum : ¬ s_n = s_sum := by decide
    have sm : ¬ s_sum = s_m := by decide
    have sn : ¬ s_sum = s_n := by decide
    have st1 : stepP w t mulS = (t, (.set s_n (.two .sub (.nam s_n) (.num 1)) (.set s_sum (.two .add (.nam s_sum) (.nam s_m)) mulS))) := by
      have nz : ¬ ((k : Int) + 1) = 0 := by omega
      simp [stepP, mulS, Bt.wo, Wd.wo, hn, Ss.app, nz]
    generalize ht1 : tput t s_n k = t1
    generalize ht2 : tput t1 s_sum ((tget t s_sum + tget t s_m) % 2 ^ w) = t2
    have g1 : ∀ x, tget t1 x = if s_n = x then (k : Int) else tget t x := fun x => by rw [← ht1, tget_tput]
    have g2 : ∀ x, tget t2 x = if s_sum = x then (tget t s_sum + tget t s_m) % 2 ^ w else tget t1 x := fun x => by rw [← ht2, tget_tput]
    have kk : ((k : Int) + 1 - 1) % 2 ^ w = k := by
      rw [show (k : Int) + 1 - 1 = k by omega]
      exact Int.emod_eq_of_lt (by omega) (by omega)
    have st2 : stepP w t (.set s_n (.two .sub (.nam s_n) (.num 1)) (.set s_sum (.two .add (.nam s_sum) (.nam s_m)) mulS)) = (t1, .set s_sum (.two .add (.nam s_sum) (.nam s_m)) mulS) := by
      have k2 : (k : Int) % 2 ^ w = k := Int.emod_eq_of_lt (by omega) (by omega)
      simp [stepP, Wd.wo, O2.do, hn, one_mod hw, k2, ht1]
    have st3 : stepP w t1 (.set s_sum (.two .add (.nam s_sum) (.nam s_m)) mulS) = (t2, mulS) := by
      have a1 : tget t1 s_sum = tget t s_sum := by rw [g1, if_neg nsum]
      have a2 : tget t1 s_m = tget t s_m := by rw [g1, if_neg nm]
      simp [stepP, Wd.wo, O2.do, a1, a2, ht2]
    have hn2 : tget t2 s_n = k := by rw [g2, if_neg sn, g1, if_pos rfl]
    have hs3 : tget t2 s_sum = (tget t s_sum + tget t s_m) % 2 ^ w := by rw [g2, if_pos rfl]
    have hm3 : tget t2 s_m = tget t s_m := by rw [g2, if_neg sm, g1, if_neg nm]
    obtain ⟨t', e1, e2⟩ := mul_run hw e k t2 (by omega) hn2 (by rw [hs3]; exact Int.emod_nonneg _ (by omega)) (by rw [hs3]; exact Int.emod_lt_of_pos _ p)
    refine ⟨t', ?_, fun x => ?_⟩
    · have en : 3 * (k + 1) + 1 + e = (3 * k + 1 + e) + 1 + 1 + 1 := by omega
      rw [en, runP_succ w _ t (by simp [mulS]), st1, runP_succ w _ t (by simp), st2, runP_succ w _ t1 (by simp), st3, e1]
      dsimp only
      congr 1
    · rw [e2, hs3, hm3]
      by_cases q : x = s_n
      · rw [if_pos q, if_pos q]
      · rw [if_neg q, if_neg q]
        by_cases q2 : x = s_sum
        · rw [if_pos q2, if_pos q2]
          rw [Int.emod_add_emod]
          congr 1
          have : ((k + 1 : Nat) : Int) * tget t s_m = k * tget t s_m + tget t s_m := by rw [Int.natCast_add, Int.add_mul]; simp
          rw [this]; omega
        · rw [if_neg q2, if_neg q2, g2, if_neg fun z => q2 z.symm, g1, if_neg fun z => q z.symm]
end Mini
set_option Elab.async false
set_option linter.all false
set_option autoImplicit false
set_option maxRecDepth 100000
set_option maxHeartbeats 8000000
/- the law: whether a run is told. Own work. -/
namespace Mini
def NT : List Nm := [s_a, s_b, s_c, s_x, s_doe, s_total, s_n, s_m, s_sum]
theorem NT_ok : ∀ x ∈ NT, isNm' x = true := by decide +kernel
theorem nmsL_sub : ∀ ns ∈ nmsL, (∀ x ∈ ns, x ∈ NT) ∧ ns.length ≤ 6 := by decide +kernel
theorem wnms_sub : ∀ x ∈ wnms, x ∈ NT := by decide +kernel
theorem wnms_ris : Rising wnms := by unfold Rising wnms; decide +kernel
theorem fit_of {ns : List Nm} (hns : ns ∈ nmsL) {w : Nat} (w4 : 4 ≤ w) (w8 : w ≤ 8) {t : Tb} (ht : (t.map (·.1)).Sublist wnms) (hi : t.In w) {s : Ss} (ok : s.ok ns) (hz : s.sz ≤ 17) (dp : s.dp ≤ 4) : Fit ns NT w t s := by
  have ris : Rising (t.map (·.1)) := wnms_ris.sublist ht
  have hle := ht.length_le
  simp only [List.length_map, wnms, List.length_cons, List.length_nil] at hle
  have mem : ∀ p ∈ t, p.1 ∈ NT := fun p hp => wnms_sub _ (ht.subset (List.mem_map_of_mem hp))
  refine ⟨w4, w8, ⟨by omega, fun p hp => NT_ok _ (mem p hp), hi, ris⟩, ⟨rising_nodup ris, mem⟩, ok, ?_, dp⟩
  have h1 := s.ms_le
  have h2 : s.dp * s.sz ≤ 4 * 17 := Nat.mul_le_mul dp hz
  omega
theorem fit_run {ns : List Nm} (hns : ns ∈ nmsL) {w : Nat} {t : Tb} {s : Ss} (F : Fit ns NT w t s) (n : Nat) : Fit ns NT w (toldP (runP w n t s).1.1) (runP w n t s).1.2 := by
  have I := (F.inv (nmsL_sub ns hns).1).run n
  exact ⟨F.w4, F.w8, told_Wo NT_ok (by decide) I.keys I.tin, told_keys I.keys, runP_ok n F.ok, I.ms, I.dp⟩
theorem same_ok' (h : Heap) {d : Nat} (hd : 40 ≤ d) {x : D} (p : plain x = true ∧ short x = true ∧ depth x ≤ 30) : run tab.defs d i_law_same [.d x, .d x] h = .ok (.d (.bl true), h) := same_ok h 30 d x p.1 p.2.1 p.2.2 (by omega)
theorem Ss.plD {ns : List Nm} {s : Ss} (ok : s.ok ns) (hz : s.sz ≤ 100000) (dp : s.dp ≤ 4) : plain s.D = true ∧ short s.D = true ∧ depth s.D ≤ 11 := by
  have k := Ss.pl s ok hz
  have l := Ss.dle hz
  exact ⟨by simp [Ss.D, plain, k], by simp [Ss.D, short, k, l], by simp [Ss.D]; omega⟩
theorem r_right {d : Nat} (hd : 41 ≤ d) (c : Cup) : ∃ c' : Cup, run tab.defs d i_law_right [.ref 0] c.h = .ok (.d (.bl true), c'.h) := by
  obtain ⟨d, rfl, k⟩ := dep hd
  obtain ⟨c1, r1, hr1, e1⟩ := roll_lit (show 1 ≤ d by omega) c 5 (by omega) (by omega) 5 rfl
  obtain ⟨c2, ns, s, hns, ok, hz, dp, e2⟩ := r_source (show 8 ≤ d by omega) c1
  obtain ⟨w, hw⟩ : ∃ w : Nat, (4 : Int) + r1 = w := ⟨4 + r1, by omega⟩
  have w4 : 4 ≤ w := by omega
  have w8 : w ≤ 8 := by omega
  have w1 : 1 ≤ w := by omega
  obtain ⟨c3, t, ht, hi, e3⟩ := r_worths (show 2 ≤ d by omega) w8 c2
  obtain ⟨c4, m, hm, e4⟩ := roll_lit (show 1 ≤ d by omega) c3 60 (by omega) (by omega) 60 rfl
  obtain ⟨hsub, hl6⟩ := nmsL_sub ns hns
  have hN : ∀ x ∈ ns, isNm' x = true := fun x hx => NT_ok x (hsub x hx)
  have lNT : NT.length < 64 := by decide
  have F := fit_of hns w4 w8 ht hi ok hz dp
  have I := F.inv hsub
  have B2 : 2 * 200 ≤ LINE := by rw [LINE_eq]; omega
  have dm : ∀ (n : Nat) (h : Heap), n ≤ 2000 → run tab.defs d i_law_done [.d (.int w), .d t.D, .d s.D, .d (.int n)] h = .ok (.d (.tup [(toldP (runP w n t s).1.1).D, (runP w n t s).1.2.D, .int (runP w n t s).2, .str (waysP w n t s)]), h) := fun n h hn => r_ldone w1 w8 B2 lNT (by omega) I n hn h
  have e5 := dm m c4.h (by omega)
  have e6 := r_source_run hN hl6 hsub lNT F (show 15 ≤ d by omega) m (by omega) c4.h
  have e7 := r_source_ways hN hl6 hsub lNT F (show 15 ≤ d by omega) m (by omega) c4.h
  have e8 := r_source_end hN hl6 hsub lNT F (show 15 ≤ d by omega) m (by omega) c4.h
  have e9 := r_steps_to_end hN hl6 hsub lNT F (show 15 ≤ d by omega) m (by omega) c4.h
  obtain ⟨c5, p, hp, e10⟩ := roll_lit (show 1 ≤ d by omega) c4 (m + 1) (by omega) (by omega) ((m : Int) + 1) (by omega)
  have e11 := r_source_run hN hl6 hsub lNT F (show 15 ≤ d by omega) p (by omega) c5.h
  obtain ⟨q, hq⟩ : ∃ q : Nat, (m : Int) - p = q := ⟨m - p, by omega⟩
  have mpq : m = p + q := by omega
  have F2 := fit_run hns F p
  have e12 := r_source_run hN hl6 hsub lNT F2 (show 15 ≤ d by omega) q (by omega) c5.h
  have kp := ((I.run p).keys).1
  have te := tget_told (runP w p t s).1.1
  have rq := runP_eq (w := w) q te (runP w p t s).1.2
  have ra := runP_add w p q t s
  have Im := I.run m
  have I2 := (F2.inv hsub).run q
  have f2 : (runP w q (toldP (runP w p t s).1.1) (runP w p t s).1.2).1.2 = (runP w m t s).1.2 := by
    rw [mpq, ra]; exact rq.2.1
  have f1 : toldP (runP w q (toldP (runP w p t s).1.1) (runP w p t s).1.2).1.1 = toldP (runP w m t s).1.1 := by
    refine told_eq ?_ I2.keys.1 Im.keys.1
    rw [mpq, ra]; exact rq.1
  have f3 : (((runP w p t s).2 : Nat) : Int) + ((runP w q (toldP (runP w p t s).1.1) (runP w p t s).1.2).2 : Nat) = ((runP w m t s).2 : Nat) := by
    rw [mpq, ra, rq.2.2]; simp
  rw [f1, f2] at e12
  have e13 := r_source_step hN hl6 hsub lNT F (show 15 ≤ d by omega) c5.h
  have e14 := dm 1 c5.h (by omega)
  simp only [show ((1 : Nat) : Int) = 1 from rfl] at e14
  obtain ⟨c6, a1, ha1, e15⟩ := r_deep (ns := [s_a, s_b]) (by simp) (by simp) (show 5 ≤ d by omega) c5
  obtain ⟨c7, b1, hb1, e16⟩ := r_test (ns := [s_x, s_total]) (by simp) (by simp) (show 5 ≤ d by omega) c6
  obtain ⟨c8, z, hz8, e17⟩ := some_lit (show 2 ≤ d by omega) c7 [a1.D, b1.D] (by simp) (by simp)
  obtain ⟨c9, a2, ha2, e18⟩ := r_deep (ns := [s_a, s_total]) (by simp) (by simp) (show 5 ≤ d by omega) c8
  simp only [nmsD, List.map_cons, List.map_nil] at e15 e16 e18
  have T : ∀ h : Heap, TabAt h (.d (.dct false t.kv)) t := fun h => .inl rfl
  have NA : ∀ l : List Nm, (∀ x ∈ l, x ∈ NT) → ∀ x ∈ l, isNm' x = true := fun l hl x hx => NT_ok x (hl x hx)
  obtain ⟨v, e19, e20⟩ : ∃ v : Int, run tab.defs d i_sources_side_worth [.d (.int w), .d z, .d t.D] c8.h = .ok (.d (.int v), c8.h) ∧ run tab.defs d i_law_side_worth [.d (.int w), .d z, .d (.dct false t.kv)] c8.h = .ok (.d (.int v), c8.h) := by
    simp only [List.mem_cons, List.not_mem_nil, or_false] at hz8
    rcases hz8 with rfl | rfl
    · have o := Wd.Ok_sd ha1
      exact ⟨_, r_side_worthW (nt := NT) (NA [s_a, s_b] (by decide +kernel)) w4 w8 F.wo (by omega) a1 ha1 c8.h, r_lside (by omega) w1 w8 hi (.sw a1) o.1 o.2 (T c8.h)⟩
    · have o := Bt.Ok_sd hb1
      exact ⟨_, r_side_worthB (nt := NT) (NA [s_x, s_total] (by decide +kernel)) w4 w8 F.wo (by omega) b1 hb1 c8.h, r_lside (by omega) w1 w8 hi (.sb b1) o.1 o.2 (T c8.h)⟩
  have o2 := Wd.Ok_sd ha2
  have e21 := r_side_worthW (nt := NT) (NA [s_a, s_total] (by decide +kernel)) w4 w8 F.wo (show 9 ≤ d by omega) a2 ha2 c9.h
  have e22 := r_lside (show 4 ≤ d by omega) w1 w8 hi (.sw a2) o2.1 o2.2 (T c9.h)
  have e23 := r_lput (show 2 ≤ d by omega) hi (.sw a2) o2.2 (T c9.h)
  have e24 := r_folded w4 w8 (show 12 ≤ d by omega) (a2.put t) (Wd.put_cl w8 hi ha2.1) (by rw [(a2.put_sz t).2]; have := ha2.2.1; omega) (by rw [(a2.put_sz t).1]; have := ha2.2.2; omega) c9.h
  rw [Wd.put_wo hi] at e24
  simp only [Sd.D, Sd.put, Sd.wo] at e22 e23
  -- likeness
  have tl : ∀ n, (toldP (runP w n t s).1.1).length ≤ 1000 := fun n => by
    have h1 : (toldP (runP w n t s).1.1).length ≤ (runP w n t s).1.1.length := by
      unfold toldP
      rw [List.length_map]
      refine Nat.le_trans (List.length_filter_le _ _) ?_
      rw [len_sortBy, List.length_map]; exact Nat.le_refl _
    have := (I.run n).keys.len
    have : NT.length = 9 := by decide
    omega
  have pt := fun n => Tb.pl _ (tl n)
  have ps := fun n => Ss.plD (runP_ok n ok : (runP w n t s).1.2.ok ns) (by have := (runP w n t s).1.2.sz_ms; have := (I.run n).ms; omega) (I.run n).dp
  have L1 := same_ok' c4.h k (x := .tup [.tup [(toldP (runP w m t s).1.1).D, (runP w m t s).1.2.D, .int (runP w m t s).2], .str (waysP w m t s)]) ⟨by simp [plain, plains, pt m, ps m], by simp [short, shorts, pt m, ps m], by have := (pt m).2.2; have := (ps m).2.2; simp; omega⟩
  have L3 := same_ok' c5.h k (x := .tup [.tup [(toldP (runP w m t s).1.1).D, (runP w m t s).1.2.D], .int (runP w m t s).2]) ⟨by simp [plain, plains, pt m, ps m], by simp [short, shorts, pt m, ps m], by have := (pt m).2.2; have := (ps m).2.2; simp; omega⟩
  have L4 := same_ok' c5.h k (x := .tup [(toldP (runP w 1 t s).1.1).D, (runP w 1 t s).1.2.D]) ⟨by simp [plain, plains, pt 1, ps 1], by simp [short, shorts, pt 1, ps 1], by have := (pt 1).2.2; have := (ps 1).2.2; simp; omega⟩
  have L5 := same_ok' c8.h k (x := .int v) ⟨rfl, rfl, by simp⟩
  have L6 := same_ok' c9.h k (x := .tup [.tup [.str s_num, .int (a2.wo w t)], .int (a2.wo w t)]) ⟨rfl, rfl, by simp⟩
  have cut3 : ∀ x y z u : D, cut [x, y, z, u] none (some 3) = [x, y, z] := fun x y z u => by simpa using cut_to [x, y, z, u] 3
  have cut2a : ∀ x y z u : D, cut [x, y, z, u] none (some 2) = [x, y] := fun x y z u => by simpa using cut_to [x, y, z, u] 2
  have cut2b : ∀ x y z : D, cut [x, y, z] none (some 2) = [x, y] := fun x y z => by simpa using cut_to [x, y, z] 2
  have kk := dmerge_kv F.kin.1
  have po := pairsOf_D t
  have ee := ended_eq (runP w m t s).1.2
  refine ⟨c9, ?_⟩
  rw [run_at d_law_right rfl]
  have L2 : ∀ (x y : D), plain x = true ∧ short x = true ∧ depth x ≤ 2 → plain y = true ∧ short y = true ∧ depth y ≤ 2 → run tab.defs d i_law_same [.d (.tup [x, y]), .d (.tup [x, y])] c4.h = .ok (.d (.bl true), c4.h) := fun x y hx hy => same_ok' c4.h k ⟨by simp [plain, plains, hx, hy], by simp [short, shorts, hx, hy], by have := hx.2.2; have := hy.2.2; simp; omega⟩
  simp only [Tb.D, Ss.D] at *
  cases qe : endedB (runP w m t s).1.2 with
  | true =>
    rw [qe] at ee e8 e9
    have L2' := L2 (.tup ((toldP (runP w m t s).1.1).map pairD)) (.int (runP w m t s).2) (pt m) ⟨rfl, rfl, by simp⟩
    simp only [if_true] at e8 e9
    simp [f_law_right, b_law_right, e1, e2, hw, e3, e4, e5, e6, e7, e8, e9, e10, e11, hq, e12, f3, e13, e14, e15, e16, e17, po, kk, e19, e20, e18, e21, e22, e23, e24, L1, L2', L3, L4, L5, L6, cut3, cut2a, cut2b, ee]
    simp [Cup.h]
  | false =>
    rw [qe] at ee e8 e9
    have L2' := L2 .non .non ⟨rfl, rfl, by simp⟩ ⟨rfl, rfl, by simp⟩
    simp only [if_false, Bool.false_eq_true] at e8 e9
    simp [f_law_right, b_law_right, e1, e2, hw, e3, e4, e5, e6, e7, e8, e9, e10, e11, hq, e12, f3, e13, e14, e15, e16, e17, po, kk, e19, e20, e18, e21, e22, e23, e24, L1, L2', L3, L4, L5, L6, cut3, cut2a, cut2b, ee]
    simp [Cup.h]
end Mini
set_option Elab.async false
set_option linter.all false
set_option autoImplicit false
set_option maxRecDepth 100000
set_option maxHeartbeats 8000000
/- the law, whole. Own work. -/
namespace Mini
theorem rights_go {d : Nat} (hd : 41 ≤ d) (base : Nat) (a0 a3 a4 a5 a6 a7 a8 a9 : Option RV) : ∀ (xs : List D) (c : Cup) (a2 : Option RV), ∃ (c' : Cup) (a2' : Option RV),
    forS (run tab.defs d) base (.nm 2) l0_law xs [a0, some (.ref 0), a2, a3, a4, a5, a6, a7, a8, a9] c.h = .ok (.nx, [a0, some (.ref 0), a2', a3, a4, a5, a6, a7, a8, a9], c'.h)
  | [], c, a2 => ⟨c, a2, by simp [forS_nil]⟩
  | x :: xs, c, a2 => by
    obtain ⟨c1, e1⟩ := r_right hd c
    obtain ⟨c2, a2', e2⟩ := rights_go hd base a0 a3 a4 a5 a6 a7 a8 a9 xs c1 (some (.d x))
    refine ⟨c2, a2', ?_⟩
    have eb : exS (run tab.defs d) base l0_law [a0, some (.ref 0), some (.d x), a3, a4, a5, a6, a7, a8, a9] c.h = .ok (.nx, [a0, some (.ref 0), some (.d x), a3, a4, a5, a6, a7, a8, a9], c1.h) := by
      simp [l0_law, e1]
    rw [forS_cons, show setTg (.nm 2) x [a0, some (.ref 0), a2, a3, a4, a5, a6, a7, a8, a9] = some [a0, some (.ref 0), some (.d x), a3, a4, a5, a6, a7, a8, a9] from rfl, kFT_e, eb]
    exact e2
theorem r_law {d : Nat} (hd : 42 ≤ d) (ns : List Int) (hl : ns.length < LINE) : run tab.defs d i_law [.d (.lst (ns.map .int))] [] = .ok (.d (.bl true), []) := by
  obtain ⟨d, rfl, k⟩ := dep hd
  obtain ⟨c, e1⟩ := r_cup (show 1 ≤ d by omega) ns hl
  obtain ⟨c1, a2', e2⟩ := rights_go k 0 (some (.d (.lst (ns.map .int)))) none none none none none none none (rangeD 0 5) c none
  obtain ⟨c2, r1, hr1, e3⟩ := roll_lit (show 1 ≤ d by omega) c1 5 (by omega) (by omega) 5 rfl
  obtain ⟨w, hw⟩ : ∃ w : Nat, (4 : Int) + r1 = w := ⟨4 + r1, by omega⟩
  have w4 : 4 ≤ w := by omega
  have w8 : w ≤ 8 := by omega
  have w1 : 1 ≤ w := by omega
  have pw : 2 ^ w ≤ 2 ^ 8 := Nat.pow_le_pow_right (by decide) w8
  have pw0 : 0 < 2 ^ w := Nat.pow_pos (by decide)
  have p := two_pos w
  have ep := fun h => r_lpower (show 1 ≤ d by omega) w (lit_le (by omega)) h
  obtain ⟨c3, one, h1, e4⟩ := roll_lit (show 1 ≤ d by omega) c2 (2 ^ w) pw0 (by omega) (2 ^ w) (pow_cast w)
  obtain ⟨c4, oth, h2, e5⟩ := roll_lit (show 1 ≤ d by omega) c3 (2 ^ w) pw0 (by omega) (2 ^ w) (pow_cast w)
  have h1' : (one : Int) < 2 ^ w := by rw [← pow_cast]; exact Int.ofNat_lt.mpr h1
  have h2' : (oth : Int) < 2 ^ w := by rw [← pow_cast]; exact Int.ofNat_lt.mpr h2
  let t : Tb := [(s_m, (oth : Int)), (s_n, (one : Int))]
  have tin : Tb.In w t := fun q hq => by
    simp only [t, List.mem_cons, List.not_mem_nil, or_false] at hq
    rcases hq with rfl | rfl
    · exact ⟨Int.natCast_nonneg _, h2'⟩
    · exact ⟨Int.natCast_nonneg _, h1'⟩
  have hN : ∀ x ∈ [s_n, s_sum, s_m], isNm' x = true := by decide +kernel
  have hsub : ∀ x ∈ [s_n, s_sum, s_m], x ∈ NT := by decide +kernel
  have tm : ∀ q ∈ t, q.1 ∈ NT := fun q hq => by
    simp only [t, List.mem_cons, List.not_mem_nil, or_false] at hq
    rcases hq with rfl | rfl
    · show s_m ∈ NT; decide +kernel
    · show s_n ∈ NT; decide +kernel
  have ris : Rising (t.map (·.1)) := by show Rising [s_m, s_n]; unfold Rising; decide +kernel
  have F : Fit [s_n, s_sum, s_m] NT w t mulS := by
    refine ⟨w4, w8, ⟨by simp [t], fun q hq => NT_ok _ (tm q hq), tin, ris⟩, ⟨rising_nodup ris, tm⟩, ?_, by decide, by decide⟩
    refine ⟨⟨by show s_n ∈ [s_n, s_sum, s_m]; simp, by decide, by decide⟩, ⟨by simp, ⟨⟨by show s_n ∈ [s_n, s_sum, s_m]; simp, by show 1 ≤ 255; omega⟩, by decide, by decide⟩, by simp, ⟨⟨by show s_sum ∈ [s_n, s_sum, s_m]; simp, by show s_m ∈ [s_n, s_sum, s_m]; simp⟩, by decide, by decide⟩, trivial⟩, trivial⟩
  have lNT : NT.length < 64 := by decide
  have e6 := r_source_run hN (by simp) hsub lNT F (show 15 ≤ d by omega) 2000 (by omega) c4.h
  have tn : tget t s_n = one := by simp [t, tget, show ¬ s_m = s_n by decide]
  have tmm : tget t s_m = oth := by simp [t, tget]
  have ts : tget t s_sum = 0 := by simp [t, tget, show ¬ s_m = s_sum by decide, show ¬ s_n = s_sum by decide]
  obtain ⟨t', r1', r2⟩ := mul_run w1 (2000 - (3 * one + 1)) one t h1' tn (by rw [ts]; exact Int.le_refl _) (by rw [ts]; exact p)
  have en : 3 * one + 1 + (2000 - (3 * one + 1)) = 2000 := by omega
  rw [en] at r1'
  rw [r1'] at e6
  have Ir := (F.inv hsub).run 2000
  rw [r1'] at Ir
  let u : Tb := [(s_m, (oth : Int)), (s_sum, (one : Int) * oth % 2 ^ w)]
  have un : (u.map (·.1)).Nodup := by show [s_m, s_sum].Nodup; decide +kernel
  have et : toldP t' = toldP u := by
    refine told_eq (fun x => ?_) Ir.keys.1 un
    rw [r2, ts, tmm]
    have eu : tget u x = if s_m = x then (oth : Int) else if s_sum = x then (one : Int) * oth % 2 ^ w else 0 := rfl
    have ett : tget t x = if s_m = x then (oth : Int) else if s_n = x then (one : Int) else 0 := rfl
    rw [eu, ett]
    by_cases q1 : x = s_n
    · subst q1
      rw [if_pos rfl, if_neg (by decide), if_neg (by decide)]
    · rw [if_neg q1]
      by_cases q2 : x = s_sum
      · subst q2
        rw [if_pos rfl, if_neg (by decide), if_pos rfl]; simp
      · have z1 : ¬ s_n = x := fun z => q1 z.symm
        have z2 : ¬ s_sum = x := fun z => q2 z.symm
        simp [q2, z1, z2]
  have ul : u.length < 64 := by simp [u]
  have e7 := r_ltold (show 1 ≤ d by omega) u ul c4.h
  have tl : (toldP u).length ≤ 1000 := by
    unfold toldP
    rw [List.length_map]
    refine Nat.le_trans (List.length_filter_le _ _) ?_
    rw [len_sortBy, List.length_map]; simp [u]
  have pt := Tb.pl _ tl
  have L := same_ok' c4.h (show 40 ≤ d by omega) (x := .tup [(toldP u).D, .tup [], .int (3 * one + 1)]) ⟨by simp [plain, plains, pt], by simp [short, shorts, pt], by have := pt.2.2; simp; omega⟩
  rw [run_at d_law rfl]
  have sm : small (one : Int) = true := by simp [small]; omega
  have d1 : dictOf false [.str s_m, .int oth, .str s_sum, .int ((one : Int) * oth % 2 ^ w)] = some u.kv := rfl
  have d2 : dmerge [] u.kv = u.kv := dmerge_kv un
  have d3 : List.length u ≤ 15 := by simp [u]
  have hlr : (rangeD 0 5).length = 5 := by rfl
  have tD : t.D = .tup [.tup [.str s_m, .int oth], .tup [.str s_n, .int one]] := rfl
  have mD : mulS.D = .tup [.tup [.str s_while, .tup [.str s_off, .tup [.str s_zero, .tup [.str s_name, .str s_n]]], .tup [.tup [.str s_set, .str s_n, .tup [.str s_sub, .tup [.str s_name, .str s_n], .tup [.str s_num, .int 1]]], .tup [.str s_set, .str s_sum, .tup [.str s_add, .tup [.str s_name, .str s_sum], .tup [.str s_name, .str s_m]]]]]] := rfl
  have e6' : run tab.defs d i_sources_source_run [.d (.int w), .d (.tup [.tup [.str s_m, .int oth], .tup [.str s_n, .int one]]), .d (.tup [.tup [.str s_while, .tup [.str s_off, .tup [.str s_zero, .tup [.str s_name, .str s_n]]], .tup [.tup [.str s_set, .str s_n, .tup [.str s_sub, .tup [.str s_name, .str s_n], .tup [.str s_num, .int 1]]], .tup [.str s_set, .str s_sum, .tup [.str s_add, .tup [.str s_name, .str s_sum], .tup [.str s_name, .str s_m]]]]]]), .d (.int 2000)] c4.h = .ok (.d (.tup [(toldP u).D, .tup [], .int (3 * one + 1)]), c4.h) := by
    have := e6
    dsimp only at this
    rw [tD, mD, et] at this
    simpa [Ss.D, Ss.Ds] using this
  simp only [Cup.h] at e2 e3 e4 e5 e6' L
  have e7' := e7
  simp only [Cup.h] at e7'
  have l5 : (5 : Int) ≤ (LINE : Int) := by rw [LINE_eq]; omega
  have l5' : -(LINE : Int) ≤ 5 := by rw [LINE_eq]; omega
  simp [f_law, b_law, e1, l5, l5', e2, e3, hw, ep, e4, e5, e6', sm, p, d1, d2, d3, e7', L]
end Mini
set_option Elab.async false
set_option linter.all false
set_option maxRecDepth 100000
set_option maxHeartbeats 0
namespace Mini
open PySem PySem.W PySem.Calls PyProof.Rows
abbrev R : OpenRow := OpenLaw.row PySem.Challenge.rw_microwright_k78_whole_steps_of_sources
abbrev qv : Program := PySem.W.view R.prog [94]
def loose0 : List PySem.Str := [(PySem.Str.ofString "WrightError"), (PySem.Str.ofString "InvalidTerm"), (PySem.Str.ofString "InvalidWord"), (PySem.Str.ofString "InvalidSource"), (PySem.Str.ofString "InvalidNumber"), (PySem.Str.ofString "LOW"), (PySem.Str.ofString "HIGH"), (PySem.Str.ofString "DEEP_words"), (PySem.Str.ofString "NODES"), (PySem.Str.ofString "LETTERS"), (PySem.Str.ofString "TWO"), (PySem.Str.ofString "ONE"), (PySem.Str.ofString "REGISTERS"), (PySem.Str.ofString "is_whole"), (PySem.Str.ofString "fits_whole"), (PySem.Str.ofString "is_tuple_of"), (PySem.Str.ofString "is_rising"), (PySem.Str.ofString "power"), (PySem.Str.ofString "need_width"), (PySem.Str.ofString "fits_letter"), (PySem.Str.ofString "leaf_kind"), (PySem.Str.ofString "wants_of"), (PySem.Str.ofString "kind_in"), (PySem.Str.ofString "kind_in_words"), (PySem.Str.ofString "inner_in")]
def loose1 : List PySem.Str := [(PySem.Str.ofString "fits_term"), (PySem.Str.ofString "need_term"), (PySem.Str.ofString "done_in"), (PySem.Str.ofString "folded_in"), (PySem.Str.ofString "folded"), (PySem.Str.ofString "NAME"), (PySem.Str.ofString "SMALL"), (PySem.Str.ofString "fits_name"), (PySem.Str.ofString "DEEP_sources"), (PySem.Str.ofString "SIDE"), (PySem.Str.ofString "PARTS"), (PySem.Str.ofString "RESTS"), (PySem.Str.ofString "NAMES"), (PySem.Str.ofString "STEPS"), (PySem.Str.ofString "KEYS"), (PySem.Str.ofString "WANTS"), (PySem.Str.ofString "SIZES"), (PySem.Str.ofString "is_name"), (PySem.Str.ofString "wants_in"), (PySem.Str.ofString "kind_in_sources"), (PySem.Str.ofString "parts_in"), (PySem.Str.ofString "fits_side"), (PySem.Str.ofString "fits_statements"), (PySem.Str.ofString "all_in"), (PySem.Str.ofString "sides_in")]
def loose2 : List PySem.Str := [(PySem.Str.ofString "set_in"), (PySem.Str.ofString "read_in"), (PySem.Str.ofString "fits_some"), (PySem.Str.ofString "fits_worths"), (PySem.Str.ofString "need_run"), (PySem.Str.ofString "need_steps"), (PySem.Str.ofString "worth_in"), (PySem.Str.ofString "step_in"), (PySem.Str.ofString "told_in"), (PySem.Str.ofString "run_in"), (PySem.Str.ofString "is_side"), (PySem.Str.ofString "side_worth"), (PySem.Str.ofString "source_step"), (PySem.Str.ofString "source_run"), (PySem.Str.ofString "source_end"), (PySem.Str.ofString "source_ways"), (PySem.Str.ofString "steps_to_end"), (PySem.Str.ofString "_law_cup"), (PySem.Str.ofString "_law_roll"), (PySem.Str.ofString "_law_some"), (PySem.Str.ofString "_law_same"), (PySem.Str.ofString "_law_power"), (PySem.Str.ofString "_law_inner"), (PySem.Str.ofString "_law_leaf"), (PySem.Str.ofString "_law_worth")]
def loose3 : List PySem.Str := [(PySem.Str.ofString "_law_tip"), (PySem.Str.ofString "_law_small"), (PySem.Str.ofString "_law_deep"), (PySem.Str.ofString "_law_test"), (PySem.Str.ofString "_law_sets"), (PySem.Str.ofString "_law_ways"), (PySem.Str.ofString "_law_source"), (PySem.Str.ofString "_law_put"), (PySem.Str.ofString "_law_side_worth"), (PySem.Str.ofString "_law_told"), (PySem.Str.ofString "_law_done"), (PySem.Str.ofString "_law_worths"), (PySem.Str.ofString "_law_right")]
def loose : List PySem.Str := loose0 ++ loose1 ++ loose2 ++ loose3
abbrev hk : Hook := hookM 4 tab
def ob (s : SharedT) : AlM := obsMG 4 tab (HandSHeadRun.getT s)
theorem ob_eq (s : SharedT) : ob s = hk.obs s.abs := obsMG_eq (HandSHeadRun.getT_eq s)
def fr (s : SharedT) : PySem.W.Frag := He.frG (HandSHeadRun.getT s) (He.asD (HandSHeadRun.getT s) 4)
def chF (K : PySem.W.Frag) (p : Nat × PySem.Str × Mini.Def × List PySem.Str) : Bool := isRefAt K p.2.1 && (match tab.row p.1 with
    | some q => decide (q.2.1 = p.2.1)
    | none => false) && defB tab.G p.2.2.1 p.2.2.2 K (He.ga K p.2.1)
def chR (K : PySem.W.Frag) : Bool := (tab.cs.all fun p => valAt K p.1 (repB K p.2)) && (tab.ds.all fun p => valAt K p.1 (dctB K p.2)) && bltN.all (isFree K)
abbrev hsV (w : World) : List (List Int) := tab.ds.map fun p => hshD w p.2
theorem ob_parts {s : SharedT} {v : List (List Int)} (h1 : ((tab.fs.take 21).all (chF (fr s))) = true) (h2 : (((tab.fs.drop 21).take 21).all (chF (fr s))) = true) (h3 : (((tab.fs.drop 21).drop 21).all (chF (fr s))) = true) (h4 : chR (fr s) = true) (h5 : (tab.ds.map fun p => hshOf (fr s) p.1) = v) : ob s = (true, v) := by
  show (okM tab (fr s), tab.ds.map fun p => hshOf (fr s) p.1) = (true, v)
  have e : okM tab (fr s) = ((tab.fs.all (chF (fr s))) && (tab.cs.all fun p => valAt (fr s) p.1 (repB (fr s) p.2)) && (tab.ds.all fun p => valAt (fr s) p.1 (dctB (fr s) p.2)) && bltN.all (isFree (fr s))) := rfl
  have e2 : tab.fs.all (chF (fr s)) = true := by
    rw [← List.take_append_drop 21 tab.fs, List.all_append, h1, ← List.take_append_drop 21 (tab.fs.drop 21), List.all_append, h2, h3]
    rfl
  unfold chR at h4
  rw [Bool.and_assoc] at h4
  rw [e, e2, h5, Bool.and_assoc, Bool.and_assoc, h4]
  rfl
theorem join7 {α β : Type} {x : Option α} {f1 : α → Bool} {f2 : α → β} {g : α → AlM} {c1 c2 c3 c4 : α → Bool} {h : α → List (List Int)} {b : β} {v : List (List Int)} (a1 : x.map f1 = some true) (a2 : x.map f2 = some b) (a3 : x.map c1 = some true) (a4 : x.map c2 = some true) (a5 : x.map c3 = some true) (a6 : x.map c4 = some true) (a7 : x.map h = some v) (eg : ∀ s, c1 s = true → c2 s = true → c3 s = true → c4 s = true → h s = v → g s = (true, v)) : x.map (fun s => (f1 s, f2 s, g s)) = some (true, b, (true, v)) := by
  cases x with
  | none => cases a1
  | some s =>
    have b1 : f1 s = true := Option.some.inj a1
    have b2 : f2 s = b := Option.some.inj a2
    have b3 := eg s (Option.some.inj a3) (Option.some.inj a4) (Option.some.inj a5) (Option.some.inj a6) (Option.some.inj a7)
    show some (f1 s, f2 s, g s) = _
    rw [b1, b2, b3]
def Qx {β : Type} (f : SharedT → β) (b : β) (w : World) : Prop := ∀ os : OsState, (HandSHeadRun.endF (HandSHeadRun.stepQ (HandSHeadRun.denQ HandSHeadRun.tabQ) R.prog w) 4000 R.prog w os).map f = some b
theorem runF1 (w : World) : Qx (fun s => HandSHeadRun.looksF R.prog (boot_heap ((w.withFollow "special-get-raises" false)).params) s.abs) (true) (w.withFollow "special-get-raises" false) := by
  intro os
  kernel_rfl
theorem runF2 (w : World) : Qx (fun s => HandSHeadRun.seenQ qv loose (importedModules R.prog.main.body) (fun s => xlAt qv [] s && recOk R.toRowW.records s) s.abs) (openGood qv loose) (w.withFollow "special-get-raises" false) := by
  intro os
  kernel_rfl
theorem runF3 (w : World) : Qx (fun s => (tab.fs.take 21).all (chF (fr s))) (true) (w.withFollow "special-get-raises" false) := by
  intro os
  kernel_rfl
theorem runF4 (w : World) : Qx (fun s => ((tab.fs.drop 21).take 21).all (chF (fr s))) (true) (w.withFollow "special-get-raises" false) := by
  intro os
  kernel_rfl
theorem runF5 (w : World) : Qx (fun s => ((tab.fs.drop 21).drop 21).all (chF (fr s))) (true) (w.withFollow "special-get-raises" false) := by
  intro os
  kernel_rfl
theorem runF6 (w : World) : Qx (fun s => chR (fr s)) (true) (w.withFollow "special-get-raises" false) := by
  intro os
  kernel_rfl
theorem runF7 (w : World) : Qx (fun s => tab.ds.map fun p => hshOf (fr s) p.1) (hsV (w.withFollow "special-get-raises" false)) (w.withFollow "special-get-raises" false) := by
  intro os
  kernel_rfl
theorem runF (w : World) : HandSHeadRun.RunEq R qv hk ob 4000 loose (w.withFollow "special-get-raises" false) := fun os => join7 (runF1 w os) (runF2 w os) (runF3 w os) (runF4 w os) (runF5 w os) (runF6 w os) (runF7 w os) (fun _ h1 h2 h3 h4 h5 => ob_parts h1 h2 h3 h4 h5)
theorem runT1 (w : World) : Qx (fun s => HandSHeadRun.looksF R.prog (boot_heap ((w.withFollow "special-get-raises" true)).params) s.abs) (true) (w.withFollow "special-get-raises" true) := by
  intro os
  kernel_rfl
theorem runT2 (w : World) : Qx (fun s => HandSHeadRun.seenQ qv loose (importedModules R.prog.main.body) (fun s => xlAt qv [] s && recOk R.toRowW.records s) s.abs) (openGood qv loose) (w.withFollow "special-get-raises" true) := by
  intro os
  kernel_rfl
theorem runT3 (w : World) : Qx (fun s => (tab.fs.take 21).all (chF (fr s))) (true) (w.withFollow "special-get-raises" true) := by
  intro os
  kernel_rfl
theorem runT4 (w : World) : Qx (fun s => ((tab.fs.drop 21).take 21).all (chF (fr s))) (true) (w.withFollow "special-get-raises" true) := by
  intro os
  kernel_rfl
theorem runT5 (w : World) : Qx (fun s => ((tab.fs.drop 21).drop 21).all (chF (fr s))) (true) (w.withFollow "special-get-raises" true) := by
  intro os
  kernel_rfl
theorem runT6 (w : World) : Qx (fun s => chR (fr s)) (true) (w.withFollow "special-get-raises" true) := by
  intro os
  kernel_rfl
theorem runT7 (w : World) : Qx (fun s => tab.ds.map fun p => hshOf (fr s) p.1) (hsV (w.withFollow "special-get-raises" true)) (w.withFollow "special-get-raises" true) := by
  intro os
  kernel_rfl
theorem runT (w : World) : HandSHeadRun.RunEq R qv hk ob 4000 loose (w.withFollow "special-get-raises" true) := fun os => join7 (runT1 w os) (runT2 w os) (runT3 w os) (runT4 w os) (runT5 w os) (runT6 w os) (runT7 w os) (fun _ h1 h2 h3 h4 h5 => ob_parts h1 h2 h3 h4 h5)
theorem run_top (w : World) : HandSHeadRun.RunEq R qv hk ob 4000 loose w := PySem.W.byRow2 "special-get-raises" (P := fun w => HandSHeadRun.RunEq R qv hk ob 4000 loose w) runF runT w
end Mini
set_option Elab.async false
set_option linter.all false
set_option maxRecDepth 100000
set_option maxHeartbeats 0
/- the end. Own work. -/
namespace Mini
open PySem PySem.Spec PyProof.Rows L2
theorem facts {w : World} {K : PySem.W.Frag} {h : PySem.Heap} {mg : PySem.Str → Option Value} {P : Program} (X : K.In h) (G : h.Ns mainGlobals mg) (e : obsM tab K = valM tab w) :
    ∃ fd : FuncData, (∀ (s : Shared) (u : Value), BindsTo s fd ⟨[u], []⟩ [("script", u)]) ∧ mg "law" = some (.ref (tab.fa K i_law)) ∧ ∀ base : PySem.Heap, FnOk P w K mg base CX0 60 (tab.fa K i_law) fd ["script"] (spO (K, w) (run tab.defs 60 i_law)) := by
  have M := modAt_of X G e
  obtain ⟨fd, F, hb⟩ := run_top_ok (P := P) M 59 i_law f_law d_law
  have hn : (tab.nm i_law).take f_law.ar = (["script"] : List PySem.Str) := by rfl
  rw [hn] at F hb
  refine ⟨fd, fun s u => .of_eq (hb [u] rfl), ?_, F⟩
  exact (M.funs "law" i_law (by decide +kernel)).2
theorem ref_of_some {a b : Nat} (h : some (Value.ref a) = some (Value.ref b)) : a = b := by
  injection h with h
  injection h
end Mini
open PySem PySem.W PySem.Calls PyProof.Rows
theorem PySem.Challenge.cw_microwright_k78_whole_steps_of_sources_holds : PySem.Challenge.rw_microwright_k78_whole_steps_of_sources.Holds := by
  w_on; o_law
  refine HandSHeadRun.head_any (r := Mini.R) (q := Mini.qv) (H := Mini.hk) (ob := Mini.ob) (M := 4000) (loose := Mini.loose) (d := HandSHeadRun.topDef Mini.R.prog 94) (kwd := []) Mini.ob_eq
    (by kernel_rfl) (fun s => by kernel_rfl) Mini.run_top (by kernel_rfl) (by kernel_rfl) (by kernel_rfl) (by rfl) (by first | assumption | decide +kernel) (by decide +kernel) ⟨rfl, rfl, rfl, rfl, rfl, by decide +kernel⟩ ?hw ?hc
  case hw => w_witness2
  case hc =>
    refine L2.walk_ofE (l := PySem.Challenge.rw_microwright_k78_whole_steps_of_sources) (n := 63) (k := 60) (x := "script") (CX := L2.CX0) rfl (by decide) (by kernel_rfl) ⟨rfl, by decide, by decide⟩ ?F (fun _ _ _ _ z => z)
    intro w mg fa h Y G hmg0
    obtain ⟨K, KX, c⟩ := Y
    have hmg : mg ("law" : PySem.Str) = some (.ref fa) := by
      have e : (HandSHeadRun.topDef Mini.R.prog 94).name = ("law" : PySem.Str) := by kernel_rfl
      rw [← e]
      exact hmg0
    obtain ⟨fd, hb, hl, hF⟩ := Mini.facts (P := PySem.Challenge.rw_microwright_k78_whole_steps_of_sources.prog) (w := w) KX G c
    have ea : fa = Mini.tab.fa K Mini.i_law := by
      exact Mini.ref_of_some (hmg.symm.trans hl)
    rw [ea]
    exact ⟨K, fd, _, KX, hb, fun H a ns hle hO hS => Mini.law_sp hO hS (by rw [Mini.LINE_eq]; omega) (Mini.r_law (by omega) ns (by rw [Mini.LINE_eq]; omega)), fun base _ _ => hF base⟩
