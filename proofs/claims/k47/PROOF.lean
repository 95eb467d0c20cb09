import PyProof.Rows.All
import Wide.All
import OpenK.AllK
import Wide.FinOn
import KE.KDictKeyed
import HandS.ForMost
import HandS.Flow
import HandS.IsInst
import HandS.Deep
import HandS.Conv
import HandS.More
import HandS.Style
import HandS.TupAny
import KE.DataFind
import HandS.Set
import HandS.SetFor
import HandS.TupSets
import PyProof.Rows.SortStr
import HandS.SortRule
import KE.DatumOrd
import HandS.Iter
import KE.KDictWalk
import KE.GoesEnum
import KE.GoesMore
import HandS.NoneIn
import HandS.Comp
import HandS.DictComp
import HandS.Words
import HandS.Defaults
import PySem.Challenge.RW_leasefiles_k47_whole_histories_by_trying
import HandS.Head0
import HandS.Head1
import HandS.Head2
import HandS.HeadEnd
import HandS.HeadHook1
import HandS.HeadHook2
set_option Elab.async false
set_option linter.all false
set_option maxRecDepth 100000
/-! Ev, part A: pure data, the store, a small language and its evaluator. -/
namespace Ev
open PySem

/-- data: tuples are values, lists and dicts stand in a store -/
inductive D where
  | non | bl (b : Bool) | int (i : Int) | str (x : Str) | ty (n : String)
  | ref (n : Nat)
  | tup (ds : List D) | rol (ds : List D)
deriving Inhabited

namespace D
mutual
def beq : D → D → Bool
  | .non, b => match b with | .non => true | _ => false
  | .bl a, b => match b with | .bl c => decide (a = c) | _ => false
  | .int a, b => match b with | .int c => decide (a = c) | _ => false
  | .str a, b => match b with | .str c => decide (a = c) | _ => false
  | .ty a, b => match b with | .ty c => decide (a = c) | _ => false
  | .ref a, b => match b with | .ref c => decide (a = c) | _ => false
  | .tup a, b => match b with | .tup c => beqs a c | _ => false
  | .rol a, b => match b with | .rol c => beqs a c | _ => false
def beqs : List D → List D → Bool
  | [], b => match b with | [] => true | _ => false
  | x :: xs, b => match b with | y :: ys => beq x y && beqs xs ys | [] => false
end
mutual
theorem beq_self : ∀ a : D, beq a a = true
  | .non => rfl
  | .bl a => by simp [beq]
  | .int a => by simp [beq]
  | .str a => by simp [beq]
  | .ty a => by simp [beq]
  | .ref a => by simp [beq]
  | .tup a => by simp [beq, beqs_self a]
  | .rol a => by simp [beq, beqs_self a]
theorem beqs_self : ∀ a : List D, beqs a a = true
  | [] => rfl
  | x :: xs => by simp [beqs, beq_self x, beqs_self xs]
end
mutual
theorem eq_of_beq : ∀ a b : D, beq a b = true → a = b
  | .non, b, h => by cases b <;> first | rfl | simp [beq] at h
  | .bl a, b, h => by cases b <;> simp [beq] at h; rw [h]
  | .int a, b, h => by cases b <;> simp [beq] at h; rw [h]
  | .str a, b, h => by cases b <;> simp [beq] at h; rw [h]
  | .ty a, b, h => by cases b <;> simp [beq] at h; rw [h]
  | .ref a, b, h => by cases b <;> simp [beq] at h; rw [h]
  | .tup a, b, h => by cases b <;> simp [beq] at h; rw [eq_of_beqs _ _ h]
  | .rol a, b, h => by cases b <;> simp [beq] at h; rw [eq_of_beqs _ _ h]
theorem eq_of_beqs : ∀ a b : List D, beqs a b = true → a = b
  | [], b, h => by cases b <;> first | rfl | simp [beqs] at h
  | x :: xs, b, h => by
    cases b with
    | nil => simp [beqs] at h
    | cons y ys =>
      simp [beqs] at h
      rw [eq_of_beq x y h.1, eq_of_beqs xs ys h.2]
end
end D
instance : DecidableEq D := fun a b => if h : D.beq a b = true then isTrue (D.eq_of_beq a b h) else isFalse fun e => h (e ▸ D.beq_self a)

/-- a mutable object; a dict may be locked (while it is walked) -/
inductive Ob where
  | lst (xs : List D)
  | dic (kvs : List (D × D)) (lk : Bool)
deriving DecidableEq, Inhabited

abbrev Store := List Ob
abbrev Env := List (Option D)
inductive R (α : Type) where
  | ok (a : α) (S : Store)
  | bad
@[inline] def R.bind {α β : Type} (x : R α) (f : α → Store → R β) : R β := match x with
  | .ok a S => f a S
  | .bad => .bad
@[simp] theorem R.bind_ok {α β : Type} (a : α) (S : Store) (f : α → Store → R β) : (R.ok a S).bind f = f a S := rfl
@[simp] theorem R.bind_bad {α β : Type} (f : α → Store → R β) : (R.bad : R α).bind f = .bad := rfl
/-- an answer that leaves the store -/
def R.of {α : Type} (o : Option α) (S : Store) : R α := match o with
  | some a => .ok a S
  | none => .bad
@[simp] theorem R.of_some {α : Type} (a : α) (S : Store) : R.of (some a) S = .ok a S := rfl
@[simp] theorem R.of_none {α : Type} (S : Store) : R.of (none : Option α) S = .bad := rfl

/-- the longest list, tuple or text that is let -/
def lim : Nat := 1000000

/-! ### values -/
def seqOf (S : Store) : D → Option (List D)
  | .tup ds => some ds
  | .rol ds => some ds
  | .ref n => match S[n]? with
    | some (.lst xs) => some xs
    | _ => none
  | _ => none
def lstOf (S : Store) : D → Option (Nat × List D)
  | .ref n => match S[n]? with
    | some (.lst xs) => some (n, xs)
    | _ => none
  | _ => none
def dicOf (S : Store) : D → Option (Nat × List (D × D) × Bool)
  | .ref n => match S[n]? with
    | some (.dic kvs lk) => some (n, kvs, lk)
    | _ => none
  | _ => none
def tru (S : Store) : D → Option Bool
  | .non => some false
  | .bl b => some b
  | .int i => some (i != 0)
  | .str x => if x.length ≤ lim then some (decide (x.length ≠ 0)) else none
  | .ty _ => none
  | d => (seqOf S d).map fun xs => !xs.isEmpty
def optAll {α : Type} : List (Option α) → Option (List α)
  | [] => some []
  | none :: _ => none
  | some a :: r => match optAll r with
    | some l => some (a :: l)
    | none => none
/-- as the kit's data, lists looked up; n bounds the depth -/
def toPy (S : Store) : Nat → D → Option PyData
  | _, .non => some .none
  | _, .bl b => some (.bool b)
  | _, .int i => some (.int i)
  | _, .str x => if PyData.strOk x = true then some (.str x) else none
  | n + 1, .tup ds => (optAll (ds.map (toPy S n))).map .tuple
  | n + 1, .rol ds => (optAll (ds.map (toPy S n))).map .list
  | n + 1, .ref m => match S[m]? with
    | some (.lst xs) => (optAll (xs.map (toPy S n))).map .list
    | _ => none
  | _, _ => none
def eqD (S : Store) (a b : D) : Option Bool := match toPy S 60 a, toPy S 60 b with
  | some x, some y => some (PyData.eqv x y)
  | _, _ => none
def inD (S : Store) (a b : D) : Option Bool := match toPy S 60 a, (seqOf S b).bind fun xs => optAll (xs.map (toPy S 60)) with
  | some x, some ys => some (ys.any fun y => PyData.eqv y x)
  | _, _ => none
def isD : D → D → Option Bool
  | a, .non => some (decide (a = .non))
  | .bl a, .bl b => some (decide (a = b))
  | _, _ => none
def ltD : D → D → Option Bool
  | .int i, .int j => some (decide (i < j))
  | .str x, .str y => some (decide (x.cps.toList < y.cps.toList))
  | _, _ => none
def leD : D → D → Option Bool
  | .int i, .int j => some (decide (i ≤ j))
  | .str x, .str y => some (!decide (y.cps.toList < x.cps.toList))
  | _, _ => none
def cmpD (op : CmpOp) (a b : D) (S : Store) : Option Bool := match op with
  | .Eq => eqD S a b
  | .NotEq => (eqD S a b).map (!·)
  | .Lt => ltD a b
  | .LtE => leD a b
  | .Gt => ltD b a
  | .GtE => leD b a
  | .Is => isD a b
  | .IsNot => (isD a b).map (!·)
  | .In => inD S a b
  | .NotIn => (inD S a b).map (!·)

/-! ### operators -/
def addD (a b : D) (S : Store) : R D := match a, b with
  | .int i, .int j => .ok (.int (i + j)) S
  | .str x, .str y => if x.length + y.length ≤ lim then .ok (.str (x ++ y)) S else .bad
  | .tup xs, .tup ys => if xs.length + ys.length ≤ lim then .ok (.tup (xs ++ ys)) S else .bad
  | .ref m, .ref n => match S[m]?, S[n]? with
    | some (.lst xs), some (.lst ys) => if xs.length + ys.length ≤ lim then .ok (.ref S.length) (S ++ [.lst (xs ++ ys)]) else .bad
    | _, _ => .bad
  | _, _ => .bad
def subD (a b : D) (S : Store) : R D := match a, b with
  | .int i, .int j => .ok (.int (i - j)) S
  | _, _ => .bad
def mulD (a b : D) (S : Store) : R D := match a, b with
  | .int i, .int j => if (-(2 ^ 64) < i ∧ i < 2 ^ 64) ∨ (-(2 ^ 64) < j ∧ j < 2 ^ 64) then .ok (.int (i * j)) S else .bad
  | _, _ => .bad
def divD (a b : D) (S : Store) : R D := match a, b with
  | .int i, .int j => if 0 < j ∧ j < 1073741824 then .ok (.int (i / j)) S else .bad
  | _, _ => .bad
def modD (a b : D) (S : Store) : R D := match a, b with
  | .int i, .int j => if 0 < j then .ok (.int (i % j)) S else .bad
  | _, _ => .bad
def powD (a b : D) (S : Store) : R D := match a, b with
  | .int i, .int j => if 0 ≤ j ∧ j ≤ 1000000 ∧ i.natAbs < 2 ^ 64 then .ok (.int (i ^ j.toNat)) S else .bad
  | _, _ => .bad
def binD (op : Operator) (a b : D) (S : Store) : R D := match op with
  | .Add => addD a b S
  | .Sub => subD a b S
  | .Mult => mulD a b S
  | .FloorDiv => divD a b S
  | .Mod => modD a b S
  | .Pow => powD a b S
  | _ => .bad
def negD : D → Option D
  | .int i => some (.int (-i))
  | _ => none

/-! ### places, slices -/
def ixN (n : Nat) (i : Int) : Option Nat := if 0 ≤ i then (if i < n then some i.toNat else none) else if -(n : Int) ≤ i then some (i + n).toNat else none
/-- the key of a dict: a whole number or a text; or a tuple of such, None, and tuples -/
def leafK : D → Bool
  | .int _ => true
  | .str _ => true
  | _ => false
mutual
def nestK : Nat → D → Bool
  | _, .non => true
  | _, .int _ => true
  | _, .str _ => true
  | n, .tup ds => match n with
    | 0 => false
    | n + 1 => nestKs n ds
  | _, _ => false
def nestKs : Nat → List D → Bool
  | _, [] => true
  | n, d :: ds => nestK n d && nestKs n ds
end
def tupK (d : D) : Bool := match d with
  | .tup _ => nestK 8 d
  | _ => false
/-- k may be asked of, or stored in, a dict of these entries -/
def keyOk (kvs : List (D × D)) (k : D) : Bool := (leafK k && kvs.all fun p => leafK p.1) || (tupK k && kvs.all fun p => tupK p.1)
def lookK (kvs : List (D × D)) (k : D) : Option D := (kvs.find? fun p => decide (p.1 = k)).map (·.2)
def putK : List (D × D) → D → D → List (D × D)
  | [], k, v => [(k, v)]
  | p :: r, k, v => if p.1 = k then (p.1, v) :: r else p :: putK r k v
def ixD (a b : D) (S : Store) : R D := match seqOf S a with
  | some xs => (match b with
    | .int i => (match (ixN xs.length i).bind fun j => xs[j]? with
      | some d => .ok d S
      | none => .bad)
    | _ => .bad)
  | none => (match dicOf S a with
    | some (_, kvs, _) => if keyOk kvs b = true then R.of (lookK kvs b) S else .bad
    | none => .bad)
/-- the bound of a slice, within 0 .. n -/
def sIx (n d : Nat) : Option Int → Nat
  | none => d
  | some v => (if v < 0 then max (v + (n : Int)) 0 else min v (n : Int)).toNat
def cut {α : Type} (xs : List α) (lo hi : Option Int) : List α := (xs.drop (sIx xs.length 0 lo)).take (sIx xs.length xs.length hi - sIx xs.length 0 lo)
def slD (a : D) (lo hi : Option Int) (S : Store) : R D := match a with
  | .tup xs => .ok (.tup (cut xs lo hi)) S
  | .rol xs => .ok (.ref S.length) (S ++ [.lst (cut xs lo hi)])
  | .ref n => match S[n]? with
    | some (.lst xs) => .ok (.ref S.length) (S ++ [.lst (cut xs lo hi)])
    | _ => .bad
  | _ => .bad
def revD (a : D) (S : Store) : R D := match a with
  | .tup xs => .ok (.tup xs.reverse) S
  | .ref n => match S[n]? with
    | some (.lst xs) => .ok (.ref S.length) (S ++ [.lst xs.reverse])
    | _ => .bad
  | _ => .bad

/-! ### built-in functions -/
inductive Pr where
  | abs | all | any | int | isinst | len | listOf | tupleOf | max | min | sorted | lenSet | sortedSet | listRange
deriving DecidableEq
def tyOf (S : Store) : D → Option String
  | .non => some "NoneType"
  | .bl _ => some "bool"
  | .int _ => some "int"
  | .str _ => some "str"
  | .ty _ => none
  | .tup _ => some "tuple"
  | .rol _ => some "list"
  | .ref n => match S[n]? with
    | some (.lst _) => some "list"
    | some (.dic [] _) => some "dict"
    | _ => none
/-- the built-in types that may be asked for -/
def tyAsk (n : String) : Bool := n == "int" || n == "bool" || n == "str" || n == "tuple" || n == "list" || n == "dict"
def isInst (t n : String) : Bool := t == n || (t == "bool" && n == "int")
def boolOf : D → Option Bool
  | .bl b => some b
  | _ => none
def intOf : D → Option Int
  | .int i => some i
  | _ => none
def strOf : D → Option Str
  | .str x => some x
  | _ => none
/-- a pair of whole numbers -/
def pairOf : D → Option (Int × Int)
  | .tup [.int i, .int j] => some (i, j)
  | _ => none
def pairLt (p q : Int × Int) : Bool := decide (p.1 < q.1 ∨ (p.1 = q.1 ∧ p.2 < q.2))
def pairLe (p q : Int × Int) : Bool := decide (p.1 < q.1 ∨ (p.1 = q.1 ∧ p.2 ≤ q.2))
def ofPair (p : Int × Int) : D := .tup [.int p.1, .int p.2]
def best {α : Type} (lt : α → α → Bool) : α → List α → α
  | a, [] => a
  | a, b :: r => best lt (if lt a b then b else a) r
def strLe (x y : Str) : Bool := decide (x.cps.toList ≤ y.cps.toList)
def rangeD (lo hi : Int) : List D := (List.range (hi - lo).toNat).map fun i => .int (lo + (i : Nat))
def rangeOk (lo hi : Int) : Bool := decide (-1000000 ≤ lo) && decide (lo ≤ 1000000) && decide (-1000000 ≤ hi) && decide (hi ≤ 1000000)
/-- the first ones of equal items -/
def firsts {α : Type} [DecidableEq α] : List α → List α
  | [] => []
  | a :: r => a :: (firsts r).filter fun b => decide (b ≠ a)
def pAbs (args : List D) (S : Store) : R D := match args with
  | [.int i] => .ok (.int (if i < 0 then -i else i)) S
  | _ => .bad
def pInt (args : List D) (S : Store) : R D := match args with
  | [.int i] => .ok (.int i) S
  | [.bl b] => .ok (.int (if b then 1 else 0)) S
  | _ => .bad
def pAll (args : List D) (S : Store) : R D := match args with
  | [d] => match (lstOf S d).bind fun p => optAll (p.2.map boolOf) with
    | some bs => .ok (.bl (bs.all id)) S
    | none => .bad
  | _ => .bad
def pAny (args : List D) (S : Store) : R D := match args with
  | [d] => match (lstOf S d).bind fun p => optAll (p.2.map boolOf) with
    | some bs => .ok (.bl (bs.any id)) S
    | none => .bad
  | _ => .bad
def pIsi (args : List D) (S : Store) : R D := match args with
  | [d, .ty n] => match tyOf S d with
    | some t => if tyAsk n = true then .ok (.bl (isInst t n)) S else .bad
    | none => .bad
  | _ => .bad
def lenOf (S : Store) (d : D) : Option Nat := match d with
  | .str x => if x.length ≤ lim then some x.length else none
  | d => match seqOf S d with
    | some xs => some xs.length
    | none => (dicOf S d).map fun p => p.2.1.length
def pLen (args : List D) (S : Store) : R D := match args with
  | [d] => match lenOf S d with
    | some n => .ok (.int (n : Nat)) S
    | none => .bad
  | _ => .bad
def pList (args : List D) (S : Store) : R D := match args with
  | [d] => match seqOf S d with
    | some xs => .ok (.ref S.length) (S ++ [.lst xs])
    | none => .bad
  | _ => .bad
def pTuple (args : List D) (S : Store) : R D := match args with
  | [.tup xs] => .ok (.tup xs) S
  | [d] => match lstOf S d with
    | some (_, xs) => .ok (.tup xs) S
    | _ => .bad
  | _ => .bad
/-- the first ones of the greatest of pairs -/
def bestP (lt : Int × Int → Int × Int → Bool) (S : Store) (d : D) : Option D := match lstOf S d with
  | some (_, x :: xs) => match pairOf x, optAll (xs.map pairOf) with
    | some p, some ps => some (ofPair (best lt p ps))
    | _, _ => none
  | _ => none
def pMax (args : List D) (S : Store) : R D := match args with
  | [.int i, .int j] => .ok (.int (if j > i then j else i)) S
  | [d] => R.of (bestP pairLt S d) S
  | _ => .bad
def pMin (args : List D) (S : Store) : R D := match args with
  | [.int i, .int j] => .ok (.int (if j < i then j else i)) S
  | [d] => R.of (bestP (fun a b => pairLt b a) S d) S
  | _ => .bad
def sortOf (S : Store) (d : D) : Option (List D) := match lstOf S d with
  | some (_, xs) => (optAll (xs.map pairOf)).map fun ps => (ps.mergeSort pairLe).map ofPair
  | none => match dicOf S d with
    | some (_, kvs, _) => (optAll (kvs.map fun p => strOf p.1)).bind fun ks => if ks.length < 64 then some ((ks.mergeSort strLe).map .str) else none
    | none => none
def pSorted (args : List D) (S : Store) : R D := match args with
  | [d] => match sortOf S d with
    | some xs => .ok (.ref S.length) (S ++ [.lst xs])
    | none => .bad
  | _ => .bad
def pLenSet (args : List D) (S : Store) : R D := match args with
  | [d] => match (lstOf S d).bind fun p => optAll (p.2.map intOf) with
    | some is => if is.length < 4000 then .ok (.int ((firsts is).length : Nat)) S else .bad
    | none => .bad
  | _ => .bad
def pSortedSet (args : List D) (S : Store) : R D := match args with
  | [d] => match (lstOf S d).bind fun p => optAll (p.2.map strOf) with
    | some ks => if ks.length < 64 then .ok (.ref S.length) (S ++ [.lst (((firsts ks).mergeSort strLe).map .str)]) else .bad
    | none => .bad
  | _ => .bad
def pListRange (args : List D) (S : Store) : R D := match args with
  | [.int lo, .int hi] => if rangeOk lo hi = true then .ok (.ref S.length) (S ++ [.lst (rangeD lo hi)]) else .bad
  | _ => .bad
def primD (p : Pr) (args : List D) (S : Store) : R D := match p with
  | .abs => pAbs args S
  | .all => pAll args S
  | .any => pAny args S
  | .int => pInt args S
  | .isinst => pIsi args S
  | .len => pLen args S
  | .listOf => pList args S
  | .tupleOf => pTuple args S
  | .max => pMax args S
  | .min => pMin args S
  | .sorted => pSorted args S
  | .lenSet => pLenSet args S
  | .sortedSet => pSortedSet args S
  | .listRange => pListRange args S

/-! ### methods -/
inductive Mt where
  | append | extend | get | pop | remove | setdefault
deriving DecidableEq
/-- the place of the first equal one -/
def findEq (x : PyData) (ys : List PyData) : Option Nat := ys.findIdx? fun y => PyData.eqv y x
/-- the receiver is of the method's type -/
def recvOk (m : Mt) (o : D) (S : Store) : Bool := match m with
  | .append | .extend | .pop | .remove => (lstOf S o).isSome
  | .get | .setdefault => (dicOf S o).isSome
def mAppend (o : D) (args : List D) (S : Store) : R D := match lstOf S o, args with
  | some (n, xs), [x] => if xs.length < lim then .ok .non (S.set n (.lst (xs ++ [x]))) else .bad
  | _, _ => .bad
def mExtend (o : D) (args : List D) (S : Store) : R D := match lstOf S o, args with
  | some (n, xs), [y] => match lstOf S y with
    | some (_, ys) => if xs.length + ys.length ≤ lim then .ok .non (S.set n (.lst (xs ++ ys))) else .bad
    | none => .bad
  | _, _ => .bad
def mPop (o : D) (args : List D) (S : Store) : R D := match lstOf S o, args with
  | some (n, xs), [.int i] => match ixN xs.length i with
    | some j => match xs[j]? with
      | some d => if xs.length ≤ lim then .ok d (S.set n (.lst (xs.eraseIdx j))) else .bad
      | none => .bad
    | none => .bad
  | _, _ => .bad
def mRemove (o : D) (args : List D) (S : Store) : R D := match lstOf S o, args with
  | some (n, xs), [x] => match toPy S 60 x, optAll (xs.map (toPy S 60)) with
    | some y, some ys => match findEq y ys with
      | some j => .ok .non (S.set n (.lst (xs.eraseIdx j)))
      | none => .bad
    | _, _ => .bad
  | _, _ => .bad
def mGet (o : D) (args : List D) (S : Store) : R D := match dicOf S o, args with
  | some (_, kvs, _), [k] => if keyOk kvs k = true then .ok ((lookK kvs k).getD .non) S else .bad
  | some (_, kvs, _), [k, x] => if keyOk kvs k = true then .ok ((lookK kvs k).getD x) S else .bad
  | _, _ => .bad
def mSetdefault (o : D) (args : List D) (S : Store) : R D := match dicOf S o, args with
  | some (n, kvs, false), [k, x] => if keyOk kvs k = true ∧ tupK k = true ∧ kvs.length < lim then (match lookK kvs k with
      | some d => .ok d S
      | none => .ok x (S.set n (.dic (kvs ++ [(k, x)]) false))) else .bad
  | _, _ => .bad
def methD (m : Mt) (o : D) (args : List D) (S : Store) : R D := match m with
  | .append => mAppend o args S
  | .extend => mExtend o args S
  | .get => mGet o args S
  | .pop => mPop o args S
  | .remove => mRemove o args S
  | .setdefault => mSetdefault o args S

/-! ### the language -/
inductive Tg where
  | name (i : Nat)
  | tup (is : List Nat)
mutual
inductive E where
  | lit (d : D)
  | var (i : Nat)
  | con (x : Str)
  | and (a b : E) | or (a b : E) | not (a : E) | neg (a : E)
  | bin (op : Operator) (a b : E)
  | cmp (op : CmpOp) (a b : E)
  | chain (op op' : CmpOp) (a b c : E)
  | ite (t a b : E)
  | tup (es : List E) | lst (es : List E) | dic
  | ix (a b : E) | sl (a : E) (lo hi : Option E) | rev (a : E)
  | call (f : Str) (es : List E)
  | prim (p : Pr) (es : List E)
  | meth (m : Mt) (o : E) (es : List E)
  | lc (own : List Nat) (tg : Tg) (src : Src) (cond : Option E) (elt : E)
  | dc (own : List Nat) (tg : Tg) (src : Src) (key val : E)
inductive Src where
  | val (e : E)
  | keys (i : Nat)
  | range (lo hi : E)
  | enum (e : E)
  | items (i : Nat)
end
mutual
inductive Sm where
  | expr (e : E)
  | set (i : Nat) (e : E)
  | par (is : List Nat) (es : List E)
  | unpack (is : List Nat) (e : E)
  | setIx (o i v : E)
  | ret (e : E) | retN
  | ifs (t : E) (a b : Sms)
  | for (tg : Tg) (src : Src) (body : Sms)
  | while (t : E) (body : Sms)
  | brk | cont | pass | never
inductive Sms where
  | nil
  | cons (s : Sm) (r : Sms)
end

abbrev Call := Str → List D → Store → R D
/-- what a loop walks: the items; the lists that must stay as they are -/
structure It where
  items : List D
  chk : List (Nat × List D)
def chkOk (S : Store) (c : List (Nat × List D)) : Bool := c.all fun p => decide (S[p.1]? = some (.lst p.2))
/-- a dict is locked while it is walked -/
abbrev Lk := Option (Nat × List (D × D))
def lk (l : Lk) (S : Store) : Store := match l with
  | some (n, kvs) => S.set n (.dic kvs true)
  | none => S
def unlk (l : Lk) (S : Store) : Store := match l with
  | some (n, kvs) => S.set n (.dic kvs false)
  | none => S
def setAll : Env → List Nat → List D → Env
  | δ, i :: is, d :: ds => setAll (δ.set i (some d)) is ds
  | δ, _, _ => δ
def Tg.put (tg : Tg) (d : D) (δ : Env) : Option Env := match tg with
  | .name i => some (δ.set i (some d))
  | .tup is => match d with
    | .tup ds => if ds.length = is.length then some (setAll δ is ds) else none
    | _ => none
def wipe (δ : Env) : List Nat → Env
  | [] => δ
  | v :: vs => (wipe δ vs).set v none
/-- the items of a value that is walked -/
def itOf (d : D) (S : Store) : Option It := match d with
  | .str x => some ⟨x.cps.toList.map fun c => .str ⟨#[c]⟩, []⟩
  | .tup ds => some ⟨ds, []⟩
  | .rol ds => some ⟨ds, []⟩
  | .ref n => match S[n]? with
    | some (.lst xs) => some ⟨xs, [(n, xs)]⟩
    | _ => none
  | _ => none
/-- a name's value that is walked: a dict too, locked meanwhile -/
def keysOf (d : D) (S : Store) : Option It := match dicOf S d with
  | some (_, kvs, true) => some ⟨kvs.map (·.1), []⟩
  | some (_, _, false) => none
  | none => itOf d S
def enumD (ds : List D) : List D := ds.zipIdx.map fun p => .tup [.int (p.2 : Nat), p.1]
def enumOf (d : D) (S : Store) : Option It := match d with
  | .tup ds => some ⟨enumD ds, []⟩
  | .ref n => match S[n]? with
    | some (.lst xs) => some ⟨enumD xs, [(n, xs)]⟩
    | _ => none
  | _ => none
def itemsOf (d : D) (S : Store) : Option It := match dicOf S d with
  | some (_, kvs, true) => some ⟨kvs.map fun p => .tup [p.1, p.2], []⟩
  | _ => none
def lockAt (i : Nat) (δ : Env) (S : Store) : Lk := match δ[i]? with
  | some (some d) => match dicOf S d with
    | some (n, kvs, false) => some (n, kvs)
    | _ => none
  | _ => none
def lockOf (src : Src) (δ : Env) (S : Store) : Lk := match src with
  | .keys i => lockAt i δ S
  | .items i => lockAt i δ S
  | _ => none
/-- the turns of a list comprehension: the new list stands at n -/
def lcLoop (n : Nat) (chk : List (Nat × List D)) (step : D → Store → R (Option D)) : List D → List D → Store → R Unit
  | [], acc, S => if chkOk S chk = true ∧ S[n]? = some (.lst acc) then .ok () S else .bad
  | x :: r, acc, S => if chkOk S chk = true ∧ S[n]? = some (.lst acc) then
      (match step x S with
      | .ok none S' => lcLoop n chk step r acc S'
      | .ok (some d) S' => if S'[n]? = some (.lst acc) ∧ acc.length < lim then lcLoop n chk step r (acc ++ [d]) (S'.set n (.lst (acc ++ [d]))) else .bad
      | .bad => .bad) else .bad
def dcLoop (n : Nat) (chk : List (Nat × List D)) (step : D → Store → R (D × D)) : List D → List (D × D) → Store → R Unit
  | [], acc, S => if chkOk S chk = true ∧ S[n]? = some (.dic acc false) then .ok () S else .bad
  | x :: r, acc, S => if chkOk S chk = true ∧ S[n]? = some (.dic acc false) then
      (match step x S with
      | .ok (k, v) S' => if S'[n]? = some (.dic acc false) ∧ acc.length < lim ∧ keyOk acc k = true then dcLoop n chk step r (putK acc k v) (S'.set n (.dic (putK acc k v) false)) else .bad
      | .bad => .bad) else .bad
inductive Out where
  | nx (δ : Env) | rt (d : D) | bk (δ : Env) | ct (δ : Env)
def forLoop (chk : List (Nat × List D)) (step : D → Env → Store → R Out) : List D → Env → Store → R Out
  | [], δ, S => if chkOk S chk = true then .ok (.nx δ) S else .bad
  | x :: r, δ, S => if chkOk S chk = true then
      (match step x δ S with
      | .ok (.nx δ') S' => forLoop chk step r δ' S'
      | .ok (.ct δ') S' => forLoop chk step r δ' S'
      | .ok (.bk δ') S' => .ok (.nx δ') S'
      | .ok (.rt d) S' => .ok (.rt d) S'
      | .bad => .bad) else .bad
def whileLoop (test : Env → Store → R Bool) (step : Env → Store → R Out) : Nat → Env → Store → R Out
  | 0, _, _ => .bad
  | n + 1, δ, S => (test δ S).bind fun b S1 => if b = true then
      (match step δ S1 with
      | .ok (.nx δ') S' => whileLoop test step n δ' S'
      | .ok (.ct δ') S' => whileLoop test step n δ' S'
      | .ok (.bk δ') S' => .ok (.nx δ') S'
      | .ok (.rt d) S' => .ok (.rt d) S'
      | .bad => .bad) else .ok (.nx δ) S1

structure Ctx where
  call : Call
  con : Str → Option D
  W : Nat

mutual
def evE (c : Ctx) : E → Env → Store → R D
  | .lit d, _, S => .ok d S
  | .var i, δ, S => match δ[i]? with
    | some (some d) => .ok d S
    | _ => .bad
  | .con x, _, S => R.of (c.con x) S
  | .and a b, δ, S => (evE c a δ S).bind fun d S1 => match tru S1 d with
    | some true => evE c b δ S1
    | some false => .ok d S1
    | none => .bad
  | .or a b, δ, S => (evE c a δ S).bind fun d S1 => match tru S1 d with
    | some true => .ok d S1
    | some false => evE c b δ S1
    | none => .bad
  | .not a, δ, S => (evE c a δ S).bind fun d S1 => match tru S1 d with
    | some k => .ok (.bl (!k)) S1
    | none => .bad
  | .neg a, δ, S => (evE c a δ S).bind fun d S1 => R.of (negD d) S1
  | .bin op a b, δ, S => (evE c a δ S).bind fun x S1 => (evE c b δ S1).bind fun y S2 => binD op x y S2
  | .cmp op a b, δ, S => (evE c a δ S).bind fun x S1 => (evE c b δ S1).bind fun y S2 => match cmpD op x y S2 with
    | some k => .ok (.bl k) S2
    | none => .bad
  | .chain op op' a b e, δ, S => (evE c a δ S).bind fun x S1 => (evE c b δ S1).bind fun y S2 => match cmpD op x y S2 with
    | some true => (evE c e δ S2).bind fun z S3 => (match cmpD op' y z S3 with
      | some k => .ok (.bl k) S3
      | none => .bad)
    | some false => .ok (.bl false) S2
    | none => .bad
  | .ite t a b, δ, S => (evE c t δ S).bind fun d S1 => match tru S1 d with
    | some true => evE c a δ S1
    | some false => evE c b δ S1
    | none => .bad
  | .tup es, δ, S => (evEs c es δ S).bind fun ds S1 => if ds.length ≤ lim then .ok (.tup ds) S1 else .bad
  | .lst es, δ, S => (evEs c es δ S).bind fun ds S1 => if ds.length ≤ lim then .ok (.ref S1.length) (S1 ++ [.lst ds]) else .bad
  | .dic, _, S => .ok (.ref S.length) (S ++ [.dic [] false])
  | .ix a b, δ, S => (evE c a δ S).bind fun x S1 => (evE c b δ S1).bind fun y S2 => ixD x y S2
  | .sl a lo hi, δ, S => (evE c a δ S).bind fun x S1 => (evO c lo δ S1).bind fun l S2 => (evO c hi δ S2).bind fun h S3 => slD x l h S3
  | .rev a, δ, S => (evE c a δ S).bind fun x S1 => revD x S1
  | .call f es, δ, S => (evEs c es δ S).bind fun ds S1 => c.call f ds S1
  | .prim p es, δ, S => (evEs c es δ S).bind fun ds S1 => primD p ds S1
  | .meth m o es, δ, S => (evE c o δ S).bind fun x S1 => if recvOk m x S1 = true then (evEs c es δ S1).bind fun ds S2 => methD m x ds S2 else .bad
  | .lc own tg src cond elt, δ, S => (evSrc c src δ (lk (lockOf src δ S) S)).bind fun it S1 =>
      (lcLoop S1.length it.chk (fun x S => match tg.put x (wipe δ own) with
        | some δ' => (match cond with
          | none => (evE c elt δ' S).bind fun d S' => .ok (some d) S'
          | some t => (evE c t δ' S).bind fun d S' => match tru S' d with
            | some true => (evE c elt δ' S').bind fun d S' => .ok (some d) S'
            | some false => .ok none S'
            | none => .bad)
        | none => .bad) it.items [] (S1 ++ [.lst []])).bind fun _ S2 => .ok (.ref S1.length) (unlk (lockOf src δ S) S2)
  | .dc own tg src key val, δ, S => (evSrc c src δ (lk (lockOf src δ S) S)).bind fun it S1 =>
      (dcLoop S1.length it.chk (fun x S => match tg.put x (wipe δ own) with
        | some δ' => (evE c key δ' S).bind fun k S' => (evE c val δ' S').bind fun v S'' => .ok (k, v) S''
        | none => .bad) it.items [] (S1 ++ [.dic [] false])).bind fun _ S2 => .ok (.ref S1.length) (unlk (lockOf src δ S) S2)
def evEs (c : Ctx) : List E → Env → Store → R (List D)
  | [], _, S => .ok [] S
  | e :: es, δ, S => (evE c e δ S).bind fun d S1 => (evEs c es δ S1).bind fun ds S2 => .ok (d :: ds) S2
def evO (c : Ctx) : Option E → Env → Store → R (Option Int)
  | none, _, S => .ok none S
  | some e, δ, S => (evE c e δ S).bind fun d S1 => match d with
    | .int i => .ok (some i) S1
    | _ => .bad
def evSrc (c : Ctx) : Src → Env → Store → R It
  | .val e, δ, S => (evE c e δ S).bind fun d S1 => R.of (itOf d S1) S1
  | .keys i, δ, S => match δ[i]? with
    | some (some d) => R.of (keysOf d S) S
    | _ => .bad
  | .range lo hi, δ, S => (evE c lo δ S).bind fun x S1 => (evE c hi δ S1).bind fun y S2 => match x, y with
    | .int i, .int j => if rangeOk i j = true then .ok ⟨rangeD i j, []⟩ S2 else .bad
    | _, _ => .bad
  | .enum e, δ, S => (evE c e δ S).bind fun d S1 => R.of (enumOf d S1) S1
  | .items i, δ, S => match δ[i]? with
    | some (some d) => R.of (itemsOf d S) S
    | _ => .bad
end
/-- a test -/
def evT (c : Ctx) (e : E) (δ : Env) (S : Store) : R Bool := (evE c e δ S).bind fun d S1 => R.of (tru S1 d) S1
def setIxD (o i v : D) (S : Store) : R Unit := match o with
  | .ref n => (match S[n]? with
    | some (.lst xs) => (match i with
      | .int k => (match ixN xs.length k with
        | some j => .ok () (S.set n (.lst (xs.set j v)))
        | none => .bad)
      | _ => .bad)
    | some (.dic kvs false) => if keyOk kvs i = true ∧ kvs.length < lim then .ok () (S.set n (.dic (putK kvs i v) false)) else .bad
    | _ => .bad)
  | _ => .bad
mutual
def evS (c : Ctx) : Sm → Env → Store → R Out
  | .expr e, δ, S => (evE c e δ S).bind fun _ S1 => .ok (.nx δ) S1
  | .set i e, δ, S => (evE c e δ S).bind fun d S1 => .ok (.nx (δ.set i (some d))) S1
  | .par is es, δ, S => (evEs c es δ S).bind fun ds S1 => if ds.length = is.length then .ok (.nx (setAll δ is ds)) S1 else .bad
  | .unpack is e, δ, S => (evE c e δ S).bind fun d S1 => match seqOf S1 d with
    | some ds => if ds.length = is.length then .ok (.nx (setAll δ is ds)) S1 else .bad
    | none => .bad
  | .setIx o i v, δ, S => (evE c v δ S).bind fun z S1 => (evE c o δ S1).bind fun x S2 => (evE c i δ S2).bind fun y S3 => (setIxD x y z S3).bind fun _ S4 => .ok (.nx δ) S4
  | .ret e, δ, S => (evE c e δ S).bind fun d S1 => .ok (.rt d) S1
  | .retN, _, S => .ok (.rt .non) S
  | .ifs t a b, δ, S => (evT c t δ S).bind fun k S1 => if k = true then evSs c a δ S1 else evSs c b δ S1
  | .for tg src body, δ, S => (evSrc c src δ (lk (lockOf src δ S) S)).bind fun it S1 =>
      (forLoop it.chk (fun x δ S => match tg.put x δ with
        | some δ' => evSs c body δ' S
        | none => .bad) it.items δ S1).bind fun o S2 => .ok o (unlk (lockOf src δ S) S2)
  | .while t body, δ, S => whileLoop (fun δ S => evT c t δ S) (fun δ S => evSs c body δ S) c.W δ S
  | .brk, δ, S => .ok (.bk δ) S
  | .cont, δ, S => .ok (.ct δ) S
  | .pass, δ, S => .ok (.nx δ) S
  | .never, _, _ => .bad
def evSs (c : Ctx) : Sms → Env → Store → R Out
  | .nil, δ, S => .ok (.nx δ) S
  | .cons s r, δ, S => match evS c s δ S with
    | .ok (.nx δ') S' => evSs c r δ' S'
    | o => o
end

/-! ### a program -/
structure Fn where
  ps : Nat
  n : Nat
  body : Sms
def startEnv (n : Nat) (ds : List D) : Env := ds.map some ++ List.replicate (n - ds.length) none
/-- a call, at most k calls deep -/
def callN (fns : Str → Option Fn) (con : Str → Option D) (W : Nat) : Nat → Call
  | 0 => fun _ _ _ => .bad
  | k + 1 => fun f ds S => match fns f with
    | some F => if ds.length = F.ps then
        (match evSs ⟨callN fns con W k, con, W⟩ F.body (startEnv F.n ds) S with
        | .ok (.rt d) S' => .ok d S'
        | .ok (.nx _) S' => .ok .non S'
        | _ => .bad) else .bad
    | none => .bad
end Ev
set_option Elab.async false
set_option linter.all false
set_option maxRecDepth 100000
set_option maxHeartbeats 1000000
/-! Ev, part B: how data, stores and environments lie in the layer's abstract heap. -/
namespace Ev
open PySem PySem.Spec PyProof.Rows L2

/-! ### data in a heap -/
/-- a list that is never written: a locked one, or one of the text's own -/
def SqR (K : PySem.W.Frag) (H : Hp) (a : Addr) (vs : List V) : Prop := (∃ o, H a = some (.frz o (.lst vs))) ∨
  ∃ (o : Obj) (its : Array Value) (n : Nat), K.lookup a = some o ∧ o.cls = .type "list" ∧ o.dict = none ∧ o.data = .seq its n ∧ its.size ≤ sizeLine ∧ Vals vs its.toList
theorem SqR.sq {K : PySem.W.Frag} {H : Hp} {a : Addr} {vs : List V} (h : SqR K H a vs) : SqL K H a vs := by
  rcases h with h | h
  · exact .inl (.inr h)
  · exact .inr h
mutual
inductive RelD (K : PySem.W.Frag) (μ : List Addr) (H : Hp) : D → V → Prop
  | non : RelD K μ H .non .non
  | bl (b : Bool) : RelD K μ H (.bl b) (.bl b)
  | int (i : Int) : RelD K μ H (.int i) (.int i)
  | str (x : Str) : RelD K μ H (.str x) (.str x)
  | ty (n : String) : RelD K μ H (.ty n) (.ty n)
  | ref {n : Nat} {a : Addr} : μ[n]? = some a → RelD K μ H (.ref n) (.ref a)
  | tup {ds : List D} {vs : List V} {a : Addr} : SqT K H a vs → RelDs K μ H ds vs → RelD K μ H (.tup ds) (.ref a)
  | rol {ds : List D} {vs : List V} {a : Addr} : SqR K H a vs → RelDs K μ H ds vs → RelD K μ H (.rol ds) (.ref a)
inductive RelDs (K : PySem.W.Frag) (μ : List Addr) (H : Hp) : List D → List V → Prop
  | nil : RelDs K μ H [] []
  | cons {d : D} {v : V} {ds : List D} {vs : List V} : RelD K μ H d v → RelDs K μ H ds vs → RelDs K μ H (d :: ds) (v :: vs)
end
/-- what is never written stays -/
structure Grow (H H' : Hp) : Prop where
  tup : ∀ a xs, H a = some (.tup xs) → H' a = some (.tup xs)
  frz : ∀ a o u, H a = some (.frz o u) → H' a = some (.frz o u)
/-- .. as far as data leans on it -/
structure Keep (H H' : Hp) : Prop where
  tup : ∀ a xs, H a = some (.tup xs) → H' a = some (.tup xs)
  ftup : ∀ a o xs, H a = some (.frz o (.tup xs)) → H' a = some (.frz o (.tup xs))
  flst : ∀ a o xs, H a = some (.frz o (.lst xs)) → H' a = some (.frz o (.lst xs))
theorem Grow.keep {H H' : Hp} (g : Grow H H') : Keep H H' := ⟨g.tup, fun a o xs => g.frz a o _, fun a o xs => g.frz a o _⟩
theorem Grow.refl {H : Hp} : Grow H H := ⟨fun _ _ h => h, fun _ _ _ h => h⟩
theorem Grow.trans {H H1 H2 : Hp} (a : Grow H H1) (b : Grow H1 H2) : Grow H H2 := ⟨fun c xs h => b.tup c xs (a.tup c xs h), fun c o u h => b.frz c o u (a.frz c o u h)⟩
def Ext (μ μ' : List Addr) : Prop := ∃ r, μ' = μ ++ r
theorem Ext.refl {μ : List Addr} : Ext μ μ := ⟨[], by simp⟩
theorem Ext.trans {μ μ1 μ2 : List Addr} (a : Ext μ μ1) (b : Ext μ1 μ2) : Ext μ μ2 := by
  obtain ⟨r, rfl⟩ := a
  obtain ⟨r', rfl⟩ := b
  exact ⟨r ++ r', by simp⟩
theorem Ext.snoc {μ : List Addr} {p : Addr} : Ext μ (μ ++ [p]) := ⟨[p], rfl⟩
theorem Ext.get {μ μ' : List Addr} (e : Ext μ μ') {n : Nat} {a : Addr} (h : μ[n]? = some a) : μ'[n]? = some a := by
  obtain ⟨r, rfl⟩ := e
  rw [List.getElem?_append_left (List.getElem?_eq_some_iff.mp h).1]
  exact h
section
variable {K : PySem.W.Frag} {μ μ' : List Addr} {H H' : Hp}
theorem sqT_keep (g : Keep H H') {a : Addr} {vs : List V} (h : SqT K H a vs) : SqT K H' a vs := by
  rcases h with (h | ⟨o, h⟩) | h
  · exact .inl (.inl (g.tup _ _ h))
  · exact .inl (.inr ⟨o, g.ftup _ _ _ h⟩)
  · exact .inr h
theorem sqR_keep (g : Keep H H') {a : Addr} {vs : List V} (h : SqR K H a vs) : SqR K H' a vs := by
  rcases h with ⟨o, h⟩ | h
  · exact .inl ⟨o, g.flst _ _ _ h⟩
  · exact .inr h
mutual
theorem RelD.keep (e : Ext μ μ') (g : Keep H H') : ∀ {d : D} {v : V}, RelD K μ H d v → RelD K μ' H' d v
  | _, _, .non => .non
  | _, _, .bl b => .bl b
  | _, _, .int i => .int i
  | _, _, .str x => .str x
  | _, _, .ty n => .ty n
  | _, _, .ref h => .ref (e.get h)
  | _, _, .tup h r => .tup (sqT_keep g h) (RelDs.keep e g r)
  | _, _, .rol h r => .rol (sqR_keep g h) (RelDs.keep e g r)
theorem RelDs.keep (e : Ext μ μ') (g : Keep H H') : ∀ {ds : List D} {vs : List V}, RelDs K μ H ds vs → RelDs K μ' H' ds vs
  | _, _, .nil => .nil
  | _, _, .cons h r => .cons (RelD.keep e g h) (RelDs.keep e g r)
end
theorem RelDs.length : ∀ {ds : List D} {vs : List V}, RelDs K μ H ds vs → ds.length = vs.length
  | _, _, .nil => rfl
  | _, _, .cons _ r => by simp [RelDs.length r]
theorem RelDs.get : ∀ {ds : List D} {vs : List V} {i : Nat} {d : D}, RelDs K μ H ds vs → ds[i]? = some d → ∃ v, vs[i]? = some v ∧ RelD K μ H d v
  | _, _, _, _, .nil, e => by simp at e
  | _, _, 0, _, .cons h _, e => by simp at e; subst e; exact ⟨_, rfl, h⟩
  | _, _, i + 1, d, .cons _ r, e => by
    obtain ⟨v, h1, h2⟩ := RelDs.get (i := i) (d := d) r (by simpa using e)
    exact ⟨v, by simpa using h1, h2⟩
theorem RelDs.get' {ds : List D} {vs : List V} {i : Nat} {v : V} (r : RelDs K μ H ds vs) (e : vs[i]? = some v) : ∃ d, ds[i]? = some d ∧ RelD K μ H d v := by
  obtain ⟨h, e1⟩ := List.getElem?_eq_some_iff.mp e
  have hd : i < ds.length := by rw [r.length]; exact h
  obtain ⟨v', h1, h2⟩ := r.get (List.getElem?_eq_getElem hd)
  rw [e] at h1
  cases h1
  exact ⟨_, List.getElem?_eq_getElem hd, h2⟩
theorem RelDs.append : ∀ {ds es : List D} {vs us : List V}, RelDs K μ H ds vs → RelDs K μ H es us → RelDs K μ H (ds ++ es) (vs ++ us)
  | _, _, _, _, .nil, s => s
  | _, _, _, _, .cons h r, s => .cons h (RelDs.append r s)
theorem RelDs.one {d : D} {v : V} (h : RelD K μ H d v) : RelDs K μ H [d] [v] := .cons h .nil
theorem RelDs.drop : ∀ {ds : List D} {vs : List V} (n : Nat), RelDs K μ H ds vs → RelDs K μ H (ds.drop n) (vs.drop n)
  | _, _, 0, r => r
  | _, _, _ + 1, .nil => .nil
  | _, _, n + 1, .cons _ r => RelDs.drop n r
theorem RelDs.take : ∀ {ds : List D} {vs : List V} (n : Nat), RelDs K μ H ds vs → RelDs K μ H (ds.take n) (vs.take n)
  | _, _, 0, _ => .nil
  | _, _, _ + 1, .nil => .nil
  | _, _, n + 1, .cons h r => .cons h (RelDs.take n r)
theorem RelDs.set {d : D} {v : V} (h : RelD K μ H d v) : ∀ {ds : List D} {vs : List V} (i : Nat), RelDs K μ H ds vs → RelDs K μ H (ds.set i d) (vs.set i v)
  | _, _, _, .nil => .nil
  | _, _, 0, .cons _ r => .cons h r
  | _, _, i + 1, .cons h' r => .cons h' (RelDs.set h i r)
theorem RelDs.erase : ∀ {ds : List D} {vs : List V} (i : Nat), RelDs K μ H ds vs → RelDs K μ H (ds.eraseIdx i) (vs.eraseIdx i)
  | _, _, _, .nil => .nil
  | _, _, 0, .cons _ r => r
  | _, _, i + 1, .cons h r => .cons h (RelDs.erase i r)
theorem RelDs.reverse {ds : List D} {vs : List V} (r : RelDs K μ H ds vs) : RelDs K μ H ds.reverse vs.reverse := by
  induction ds generalizing vs with
  | nil => cases r; exact .nil
  | cons d ds ih =>
    cases r with
    | cons h r =>
      rw [List.reverse_cons, List.reverse_cons]
      exact (ih r).append (.one h)
theorem RelDs.ints : ∀ (is : List Int), RelDs K μ H (is.map .int) (is.map .int)
  | [] => .nil
  | i :: is => .cons (.int i) (RelDs.ints is)
theorem RelDs.strs : ∀ (is : List Str), RelDs K μ H (is.map .str) (is.map .str)
  | [] => .nil
  | i :: is => .cons (.str i) (RelDs.strs is)
theorem RelDs.of_bools : ∀ {ds : List D} {vs : List V} {bs : List Bool}, RelDs K μ H ds vs → optAll (ds.map boolOf) = some bs → vs = bs.map .bl
  | [], _, bs, r, e => by cases r; simp [optAll] at e; subst e; rfl
  | d :: ds, _, bs, r, e => by
    cases r with
    | cons h r =>
      cases h <;> simp [boolOf, optAll] at e
      rename_i b
      cases q : optAll (ds.map boolOf) with
      | none => simp [q] at e
      | some l =>
        simp [q] at e
        subst e
        simp [RelDs.of_bools r q]
theorem RelDs.of_ints : ∀ {ds : List D} {vs : List V} {bs : List Int}, RelDs K μ H ds vs → optAll (ds.map intOf) = some bs → vs = bs.map .int
  | [], _, bs, r, e => by cases r; simp [optAll] at e; subst e; rfl
  | d :: ds, _, bs, r, e => by
    cases r with
    | cons h r =>
      cases h <;> simp [intOf, optAll] at e
      cases q : optAll (ds.map intOf) with
      | none => simp [q] at e
      | some l =>
        simp [q] at e
        subst e
        simp [RelDs.of_ints r q]
theorem RelDs.of_strs : ∀ {ds : List D} {vs : List V} {bs : List Str}, RelDs K μ H ds vs → optAll (ds.map strOf) = some bs → vs = bs.map .str
  | [], _, bs, r, e => by cases r; simp [optAll] at e; subst e; rfl
  | d :: ds, _, bs, r, e => by
    cases r with
    | cons h r =>
      cases h <;> simp [strOf, optAll] at e
      cases q : optAll (ds.map strOf) with
      | none => simp [q] at e
      | some l =>
        simp [q] at e
        subst e
        simp [RelDs.of_strs r q]
end

/-! ### keys of dicts -/
def leafKey : D → Option Key
  | .int i => some (.inl i)
  | .str x => some (.inr x)
  | _ => none
mutual
def nkey : D → NestedKey
  | .int i => .num i
  | .str x => .text x
  | .tup ds => .tup (nkeys ds)
  | _ => .none
def nkeys : List D → List NestedKey
  | [] => []
  | d :: ds => nkey d :: nkeys ds
end
abbrev Row := NestedKey × Addr × V
/-- a dict of tuple keys, as the object at a -/
def NDict (P : Program) (w : World) (a : Addr) (rows : List Row) (h : Heap) : Prop :=
  rows.length ≤ sizeLine ∧ (a == sysModules) = false ∧ (rows.map (·.1)).Nodup ∧ ∃ (o : Obj) (es : Array DictEntry) (ep : Nat) (xs : List (NestedKey × Addr × Value)), h.get? a = some o ∧ o.ExactDict ∧ o.data = .dict es ep ∧
    es.toList = xs.map (entryOfKey (nestedKind P w)) ∧ Paired (fun (r : Row) (x : NestedKey × Addr × Value) => r.1 = x.1 ∧ r.2.1 = x.2.1 ∧ RelV r.2.2 x.2.2) rows xs
/-- what a dict's entries are in the layer's words -/
inductive DU (P : Program) (w : World) (K : PySem.W.Frag) (μ : List Addr) (H : Hp) (a : Addr) (kvs : List (D × D)) : HO → Prop
  | leaf {ws : List (Key × V)} : kvs.length ≤ lim → Paired (fun (p : D × D) (q : Key × V) => leafKey p.1 = some q.1 ∧ RelD K μ H p.2 q.2) kvs ws → DU P w K μ H a kvs (.dK ws)
  | nest {rows : List Row} : kvs ≠ [] → kvs.length ≤ lim → Paired (fun (p : D × D) (r : Row) => tupK p.1 = true ∧ nkey p.1 = r.1 ∧ RelD K μ H p.1 (.ref r.2.1) ∧ RelD K μ H p.2 r.2.2) kvs rows → DU P w K μ H a kvs (.ext (NDict P w a rows))

/-! ### a store in a heap -/
/-- the object at a -/
inductive ObOk (P : Program) (w : World) (K : PySem.W.Frag) (μ : List Addr) (H : Hp) (a : Addr) : Ob → Prop
  | lst {xs : List D} {vs : List V} : H a = some (.lst vs) → RelDs K μ H xs vs → ObOk P w K μ H a (.lst xs)
  | dic {kvs : List (D × D)} {u : HO} : H a = some u → DU P w K μ H a kvs u → ObOk P w K μ H a (.dic kvs false)
  | lock {kvs : List (D × D)} {o : Obj} {u : HO} : H a = some (.frz o u) → DU P w K μ H a kvs u → ObOk P w K μ H a (.dic kvs true)
structure StOk (P : Program) (w : World) (K : PySem.W.Frag) (μ : List Addr) (S : Store) (H : Hp) : Prop where
  len : μ.length = S.length
  nd : μ.Nodup
  at_ : ∀ (n : Nat) (ob : Ob), S[n]? = some ob → ∃ a, μ[n]? = some a ∧ ObOk P w K μ H a ob
structure EnvOk (K : PySem.W.Frag) (μ : List Addr) (H : Hp) (δ : Env) (σ : L2.St) : Prop where
  len : δ.length = σ.length
  at_ : ∀ (i : Nat) (d : D), δ[i]? = some (some d) → ∃ v, σ[i]? = some (some v) ∧ RelD K μ H d v
section
variable {P : Program} {w : World} {K : PySem.W.Frag} {μ μ' : List Addr} {H H' : Hp} {S : Store} {a : Addr}
theorem Paired.imp {α β : Type} {F G : α → β → Prop} (f : ∀ x y, F x y → G x y) : ∀ {l : List α} {m : List β}, Paired F l m → Paired G l m
  | _, _, .nil => .nil
  | _, _, .cons h t => .cons (f _ _ h) (Paired.imp f t)
theorem DU.keep (e : Ext μ μ') (g : Keep H H') {kvs : List (D × D)} {u : HO} (h : DU P w K μ H a kvs u) : DU P w K μ' H' a kvs u := by
  cases h with
  | leaf hl p => exact .leaf hl (Paired.imp (fun _ _ h => ⟨h.1, h.2.keep e g⟩) p)
  | nest hn hl p => exact .nest hn hl (Paired.imp (fun _ _ h => ⟨h.1, h.2.1, h.2.2.1.keep e g, h.2.2.2.keep e g⟩) p)
theorem ObOk.keep (e : Ext μ μ') (g : Keep H H') (hs : H' a = H a) {ob : Ob} (h : ObOk P w K μ H a ob) : ObOk P w K μ' H' a ob := by
  cases h with
  | lst h r => exact .lst (hs.trans h) (r.keep e g)
  | dic h r => exact .dic (hs.trans h) (r.keep e g)
  | lock h r => exact .lock (hs.trans h) (r.keep e g)
theorem ObOk.some {ob : Ob} (h : ObOk P w K μ H a ob) : ∃ u, H a = some u := by
  cases h with
  | lst h _ => exact ⟨_, h⟩
  | dic h _ => exact ⟨_, h⟩
  | lock h _ => exact ⟨_, h⟩
theorem StOk.get (s : StOk P w K μ S H) {n : Nat} {ob : Ob} (h : S[n]? = some ob) {a : Addr} (ha : μ[n]? = some a) : ObOk P w K μ H a ob := by
  obtain ⟨b, hb, ok⟩ := s.at_ n ob h
  rw [ha] at hb
  cases hb
  exact ok
theorem StOk.addr (s : StOk P w K μ S H) {n : Nat} {a : Addr} (ha : μ[n]? = some a) : ∃ u, H a = some u := by
  have hn : n < S.length := by rw [← s.len]; exact (List.getElem?_eq_some_iff.mp ha).1
  exact (s.get (List.getElem?_eq_getElem hn) ha).some
theorem StOk.fresh (s : StOk P w K μ S H) {p : Addr} (hp : H p = none) : p ∉ μ := fun hm => by
  obtain ⟨n, hn⟩ := List.getElem?_of_mem hm
  obtain ⟨u, hu⟩ := s.addr hn
  rw [hp] at hu
  cases hu
theorem grow_new {p : Addr} {o : HO} (hp : H p = none) : Grow H (upd H p o) :=
  ⟨fun b xs h => by rw [upd_ne (ne_of_none h hp)]; exact h, fun b ob u h => by rw [upd_ne (ne_of_none h hp)]; exact h⟩
/-- a new object -/
theorem StOk.push (s : StOk P w K μ S H) {p : Addr} {o : HO} {ob : Ob} (hp : H p = none) (ok : ObOk P w K (μ ++ [p]) (upd H p o) p ob) : StOk P w K (μ ++ [p]) (S ++ [ob]) (upd H p o) where
  len := by simp [s.len]
  nd := by
    rw [List.nodup_append]
    refine ⟨s.nd, by simp, fun x hx y hy => ?_⟩
    rw [List.mem_singleton] at hy
    rw [hy]
    exact fun e => s.fresh hp (e ▸ hx)
  at_ := fun n b h => by
    by_cases hn : n < S.length
    · rw [List.getElem?_append_left hn] at h
      obtain ⟨c, hc, okc⟩ := s.at_ n b h
      refine ⟨c, Ext.snoc.get hc, okc.keep Ext.snoc (grow_new hp).keep ?_⟩
      obtain ⟨u, hu⟩ := okc.some
      exact upd_ne (ne_of_none hu hp)
    · rw [List.getElem?_append_right (Nat.le_of_not_lt hn)] at h
      have e0 : n - S.length = 0 := by
        have := (List.getElem?_eq_some_iff.mp h).1
        simp at this
        omega
      rw [e0] at h
      cases h
      refine ⟨p, ?_, ok⟩
      rw [List.getElem?_append_right (by rw [s.len]; omega), s.len, e0]
      rfl
/-- tuples and other untracked things are made -/
theorem StOk.more (s : StOk P w K μ S H) {p : Addr} {o : HO} (hp : H p = none) : StOk P w K μ S (upd H p o) where
  len := s.len
  nd := s.nd
  at_ := fun n b h => by
    obtain ⟨c, hc, okc⟩ := s.at_ n b h
    refine ⟨c, hc, okc.keep Ext.refl (grow_new hp).keep ?_⟩
    obtain ⟨u, hu⟩ := okc.some
    exact upd_ne (ne_of_none hu hp)
/-- what stands at a place may be written -/
def Wr : HO → Prop
  | .lst _ => True
  | .dK _ => True
  | .ext _ => True
  | _ => False
theorem grow_wr {p : Addr} {u o : HO} (hp : H p = some u) (hw : Wr u) : Grow H (upd H p o) :=
  ⟨fun b xs h => by
    rw [upd_ne (fun e => by subst e; rw [hp] at h; cases h; exact hw)]
    exact h, fun b ob v h => by
    rw [upd_ne (fun e => by subst e; rw [hp] at h; cases h; exact hw)]
    exact h⟩
/-- an object is written -/
theorem StOk.put (s : StOk P w K μ S H) {n : Nat} {p : Addr} {u o : HO} {ob : Ob} (hn : μ[n]? = some p) (hp : H p = some u) (hw : Wr u) (ok : ObOk P w K μ (upd H p o) p ob) : StOk P w K μ (S.set n ob) (upd H p o) where
  len := by simp [s.len]
  nd := s.nd
  at_ := fun m b h => by
    by_cases e : n = m
    · subst e
      have hl : n < S.length := by rw [← s.len]; exact (List.getElem?_eq_some_iff.mp hn).1
      rw [List.getElem?_set_self hl] at h
      cases h
      exact ⟨p, hn, ok⟩
    · rw [List.getElem?_set_ne e] at h
      obtain ⟨c, hc, okc⟩ := s.at_ m b h
      refine ⟨c, hc, okc.keep Ext.refl (grow_wr hp hw).keep (upd_ne fun z => e ?_)⟩
      obtain ⟨h1, e1⟩ := List.getElem?_eq_some_iff.mp hn
      obtain ⟨h2, e2⟩ := List.getElem?_eq_some_iff.mp hc
      exact (List.getElem_inj s.nd).mp (e1.trans (z.symm.trans e2.symm))
theorem EnvOk.keep (e : Ext μ μ') (g : Keep H H') {δ : Env} {σ : L2.St} (h : EnvOk K μ H δ σ) : EnvOk K μ' H' δ σ :=
  ⟨h.len, fun i d hd => let ⟨v, h1, h2⟩ := h.at_ i d hd; ⟨v, h1, h2.keep e g⟩⟩
theorem EnvOk.set {δ : Env} {σ : L2.St} (h : EnvOk K μ H δ σ) {d : D} {v : V} (r : RelD K μ H d v) (i : Nat) : EnvOk K μ H (δ.set i (some d)) (σ.set i (some v)) := by
  refine ⟨by simp [h.len], fun j e hj => ?_⟩
  by_cases ij : i = j
  · subst ij
    by_cases hl : i < δ.length
    · rw [List.getElem?_set_self hl] at hj
      cases hj
      exact ⟨v, List.getElem?_set_self (by rw [← h.len]; exact hl), r⟩
    · rw [List.getElem?_eq_none (by simpa using hl)] at hj
      cases hj
  · rw [List.getElem?_set_ne ij] at hj ⊢
    exact h.at_ j e hj
theorem EnvOk.setNone {δ : Env} {σ : L2.St} (h : EnvOk K μ H δ σ) (i : Nat) : EnvOk K μ H (δ.set i none) (σ.set i none) := by
  refine ⟨by simp [h.len], fun j e hj => ?_⟩
  by_cases ij : i = j
  · subst ij
    by_cases hl : i < δ.length
    · rw [List.getElem?_set_self hl] at hj
      cases hj
    · rw [List.getElem?_eq_none (by simpa using hl)] at hj
      cases hj
  · rw [List.getElem?_set_ne ij] at hj ⊢
    exact h.at_ j e hj
theorem EnvOk.wipe {δ : Env} {σ : L2.St} (h : EnvOk K μ H δ σ) : ∀ vs : List Nat, EnvOk K μ H (Ev.wipe δ vs) (L2.wipe σ vs)
  | [] => h
  | v :: vs => (EnvOk.wipe h vs).setNone v
end

/-! ### readings by the evaluator -/
section
variable (P : Program) (w : World) (K : PySem.W.Frag)
/-- what a value's end asks -/
def Cont (μ : List Addr) (H : Hp) (S : Store) (d : D) (Q : VK) : Prop := ∀ (v : V) (H' : Hp) (μ' : List Addr), Ext μ μ' → Grow H H' → StOk P w K μ' S H' → RelD K μ' H' d v → Q v H'
def Conts (μ : List Addr) (H : Hp) (S : Store) (ds : List D) (Q : List V → Hp → Prop) : Prop := ∀ (vs : List V) (H' : Hp) (μ' : List Addr), Ext μ μ' → Grow H H' → StOk P w K μ' S H' → RelDs K μ' H' ds vs → Q vs H'
def tD (f : Env → Store → R D) : TE := fun σ H Q => ∃ μ δ S d S', StOk P w K μ S H ∧ EnvOk K μ H δ σ ∧ f δ S = .ok d S' ∧ Cont P w K μ H S' d Q
def tDs (f : Env → Store → R (List D)) : TA := fun σ H Q => ∃ μ δ S ds S', StOk P w K μ S H ∧ EnvOk K μ H δ σ ∧ f δ S = .ok ds S' ∧ Conts P w K μ H S' ds Q
def tB (f : Env → Store → R Bool) : TT := fun σ H Q => ∃ μ δ S k S', StOk P w K μ S H ∧ EnvOk K μ H δ σ ∧ f δ S = .ok k S' ∧
  ∀ (H' : Hp) (μ' : List Addr), Ext μ μ' → Grow H H' → StOk P w K μ' S' H' → Q k H'
def r2D (f : D → D → Store → R D) : R2 := fun x y H Q => ∃ μ S a b d S', StOk P w K μ S H ∧ RelD K μ H a x ∧ RelD K μ H b y ∧ f a b S = .ok d S' ∧ Cont P w K μ H S' d Q
def r1D (f : D → Store → R D) : V → Hp → VK → Prop := fun x H Q => ∃ μ S a d S', StOk P w K μ S H ∧ RelD K μ H a x ∧ f a S = .ok d S' ∧ Cont P w K μ H S' d Q
def rnD (f : List D → Store → R D) : List V → Hp → VK → Prop := fun xs H Q => ∃ μ S as d S', StOk P w K μ S H ∧ RelDs K μ H as xs ∧ f as S = .ok d S' ∧ Cont P w K μ H S' d Q
end
section
variable {P : Program} {w : World} {K : PySem.W.Frag} {μ : List Addr} {H : Hp} {S : Store} {d : D} {Q : VK}
theorem Cont.here (k : Cont P w K μ H S d Q) (s : StOk P w K μ S H) {v : V} (r : RelD K μ H d v) : Q v H := k v H μ Ext.refl Grow.refl s r
theorem Cont.trans {μ' : List Addr} {H' : Hp} (k : Cont P w K μ H S d Q) (e : Ext μ μ') (g : Grow H H') : Cont P w K μ' H' S d Q := fun v H2 μ2 e2 g2 => k v H2 μ2 (e.trans e2) (g.trans g2)
/-- a new list -/
theorem Cont.newLst {xs : List D} {vs : List V} (k : Cont P w K μ H (S ++ [.lst xs]) (.ref S.length) Q) (s : StOk P w K μ S H) (r : RelDs K μ H xs vs) {p : Addr} (hp : H p = none) : Q (.ref p) (upd H p (.lst vs)) := by
  have r' : RelDs K (μ ++ [p]) (upd H p (.lst vs)) xs vs := r.keep Ext.snoc (grow_new hp).keep
  refine k _ _ _ Ext.snoc (grow_new hp) (s.push hp (.lst upd_same r')) (.ref ?_)
  rw [List.getElem?_append_right (by rw [s.len]; omega), s.len]
  simp
/-- a new tuple -/
theorem Cont.newTup {xs : List D} {vs : List V} (k : Cont P w K μ H S (.tup xs) Q) (s : StOk P w K μ S H) (r : RelDs K μ H xs vs) {p : Addr} (hp : H p = none) : Q (.ref p) (upd H p (.tup vs)) :=
  k _ _ _ Ext.refl (grow_new hp) (s.more hp) (.tup (SqT.of upd_same) (r.keep Ext.refl (grow_new hp).keep))
end
end Ev
set_option Elab.async false
set_option linter.all false
set_option maxRecDepth 100000
set_option maxHeartbeats 1000000
/-! Ev, part C: the operators of data are those of the layer. -/
namespace Ev
open PySem PySem.Spec PyProof.Rows L2

theorem lim_line {n : Nat} (h : n ≤ lim) : n ≤ sizeLine := by
  have e : lim = 1000000 := rfl
  rw [sizeLine_eq]
  omega
theorem lim_lt {n : Nat} (h : n < lim) : n < sizeLine := by
  have e : lim = 1000000 := rfl
  rw [sizeLine_eq]
  omega
section
variable {P : Program} {w : World} {K : PySem.W.Frag} {μ : List Addr} {S : Store} {H : Hp}
theorem StOk.lstAt (s : StOk P w K μ S H) {n : Nat} {x : V} {xs : List D} (r : RelD K μ H (.ref n) x) (h : S[n]? = some (.lst xs)) : ∃ a vs, x = .ref a ∧ H a = some (.lst vs) ∧ RelDs K μ H xs vs ∧ μ[n]? = some a := by
  cases r with
  | ref ha =>
    cases s.get h ha with
    | lst h1 h2 => exact ⟨_, _, rfl, h1, h2, ha⟩
theorem StOk.seqAt (s : StOk P w K μ S H) {d : D} {x : V} {xs : List D} (r : RelD K μ H d x) (h : seqOf S d = some xs) : ∃ a vs, x = .ref a ∧ (SqL K H a vs ∨ SqT K H a vs) ∧ RelDs K μ H xs vs := by
  cases d with
  | tup ds =>
    cases h
    cases r with
    | tup h1 h2 => exact ⟨_, _, rfl, .inr h1, h2⟩
  | rol ds =>
    cases h
    cases r with
    | rol h1 h2 => exact ⟨_, _, rfl, .inl h1.sq, h2⟩
  | ref n =>
    simp only [seqOf] at h
    split at h
    · cases h
      rename_i e
      obtain ⟨a, vs, rfl, h1, h2, _⟩ := s.lstAt r e
      exact ⟨a, vs, rfl, .inl (SqL.of h1), h2⟩
    · cases h
  | _ => cases h
theorem StOk.dicAt (s : StOk P w K μ S H) {n : Nat} {x : V} {kvs : List (D × D)} {lk : Bool} (r : RelD K μ H (.ref n) x) (h : S[n]? = some (.dic kvs lk)) : ∃ a u, x = .ref a ∧ Rd H a u ∧ DU P w K μ H a kvs u ∧ μ[n]? = some a ∧ (lk = false → H a = some u) := by
  cases r with
  | ref ha =>
    cases s.get h ha with
    | dic h1 h2 => exact ⟨_, _, rfl, .inl h1, h2, ha, fun _ => h1⟩
    | lock h1 h2 => exact ⟨_, _, rfl, .inr ⟨_, h1⟩, h2, ha, fun e => by cases e⟩
end
section
variable {X : Cx}
/-! ### arithmetic -/
theorem add_ok : OpR X (binaryOp .Add) (r2D X.prog X.w X.K addD) := by
  intro pins s σ H x y v u Q I rx ry h
  obtain ⟨μ, S, a, b, d, S', so, ra, rb, hf, k⟩ := h
  unfold addD at hf
  split at hf
  · cases hf
    cases ra
    cases rb
    exact op_add pins s σ H _ _ v u Q I rx ry ⟨_, _, rfl, rfl, k.here so (.int _)⟩
  · split at hf
    · rename_i hl
      cases hf
      cases ra
      cases rb
      exact op_add_str pins s σ H _ _ v u Q I rx ry ⟨_, _, rfl, rfl, lim_line hl, k.here so (.str _)⟩
    · cases hf
  · split at hf
    · rename_i hl
      cases hf
      cases ra with
      | tup h1 h2 =>
        cases rb with
        | tup h3 h4 =>
          refine op_catA pins s σ H _ _ v u Q I rx ry ⟨_, _, _, _, rfl, rfl, h1, h3, by rw [← h2.length, ← h4.length]; exact lim_line hl, fun e => ?_, fun _ e => ?_, fun _ _ p hp => ?_⟩
          · subst e
            cases h2
            exact k.here so (.tup h3 (by simpa using h4))
          · subst e
            cases h4
            exact k.here so (.tup h1 (by simpa using h2))
          · exact k.newTup so (h2.append h4) hp
    · cases hf
  · split at hf
    · rename_i e1 e2
      split at hf
      · rename_i hl
        cases hf
        obtain ⟨a, vs, rfl, h1, h2, _⟩ := so.lstAt ra e1
        obtain ⟨b, us, rfl, h3, h4, _⟩ := so.lstAt rb e2
        exact op_cat pins s σ H _ _ v u Q I rx ry ⟨_, _, _, _, rfl, rfl, h1, h3, by rw [← h2.length, ← h4.length]; exact lim_line hl, fun p hp => k.newLst so (h2.append h4) hp⟩
      · cases hf
    · cases hf
  · cases hf
theorem sub_ok : OpR X (binaryOp .Sub) (r2D X.prog X.w X.K subD) := by
  intro pins s σ H x y v u Q I rx ry h
  obtain ⟨μ, S, a, b, d, S', so, ra, rb, hf, k⟩ := h
  unfold subD at hf
  split at hf
  · cases hf
    cases ra
    cases rb
    exact op_sub pins s σ H _ _ v u Q I rx ry ⟨_, _, rfl, rfl, k.here so (.int _)⟩
  · cases hf
theorem mul_ok : OpR X (binaryOp .Mult) (r2D X.prog X.w X.K mulD) := by
  intro pins s σ H x y v u Q I rx ry h
  obtain ⟨μ, S, a, b, d, S', so, ra, rb, hf, k⟩ := h
  unfold mulD at hf
  split at hf
  · split at hf
    · rename_i hc
      cases hf
      cases ra
      cases rb
      exact op_mul pins s σ H _ _ v u Q I rx ry ⟨_, _, rfl, rfl, hc, k.here so (.int _)⟩
    · cases hf
  · cases hf
theorem div_ok : OpR X (binaryOp .FloorDiv) (r2D X.prog X.w X.K divD) := by
  intro pins s σ H x y v u Q I rx ry h
  obtain ⟨μ, S, a, b, d, S', so, ra, rb, hf, k⟩ := h
  unfold divD at hf
  split at hf
  · split at hf
    · rename_i hc
      cases hf
      cases ra
      cases rb
      exact op_fdiv pins s σ H _ _ v u Q I rx ry ⟨_, _, rfl, rfl, hc, k.here so (.int _)⟩
    · cases hf
  · cases hf
theorem mod_ok : OpR X (binaryOp .Mod) (r2D X.prog X.w X.K modD) := by
  intro pins s σ H x y v u Q I rx ry h
  obtain ⟨μ, S, a, b, d, S', so, ra, rb, hf, k⟩ := h
  unfold modD at hf
  split at hf
  · split at hf
    · rename_i hc
      cases hf
      cases ra
      cases rb
      exact op_mod pins s σ H _ _ v u Q I rx ry ⟨_, _, rfl, rfl, hc, k.here so (.int _)⟩
    · cases hf
  · cases hf
theorem pow_ok : OpR X (binaryOp .Pow) (r2D X.prog X.w X.K powD) := by
  intro pins s σ H x y v u Q I rx ry h
  obtain ⟨μ, S, a, b, d, S', so, ra, rb, hf, k⟩ := h
  unfold powD at hf
  split at hf
  · split at hf
    · rename_i hc
      cases hf
      cases ra
      cases rb
      exact op_pow pins s σ H _ _ v u Q I rx ry ⟨_, _, rfl, rfl, hc, k.here so (.int _)⟩
    · cases hf
  · cases hf
theorem bin_ok (op : Operator) : OpR X (binaryOp op) (r2D X.prog X.w X.K (binD op)) := by
  cases op with
  | Add => exact add_ok
  | Sub => exact sub_ok
  | Mult => exact mul_ok
  | FloorDiv => exact div_ok
  | Mod => exact mod_ok
  | Pow => exact pow_ok
  | _ =>
    intro pins s σ H x y v u Q I rx ry h
    obtain ⟨μ, S, a, b, d, S', so, ra, rb, hf, k⟩ := h
    cases hf
theorem neg_ok : UnR X (unaryOp .USub) (r1D X.prog X.w X.K fun d S => R.of (negD d) S) := by
  intro pins s σ H x v Q I rx h
  obtain ⟨μ, S, a, d, S', so, ra, hf, k⟩ := h
  cases ra <;> cases hf
  exact un_neg pins s σ H _ v Q I rx ⟨_, rfl, k.here so (.int _)⟩

/-! ### data as the kit's data -/
theorem optAll_some {α : Type} : ∀ {l : List (Option α)} {m : List α}, optAll l = some m → l = m.map some
  | [], m, h => by simp [optAll] at h; subst h; rfl
  | none :: _, _, h => by simp [optAll] at h
  | some a :: r, m, h => by
    unfold optAll at h
    cases q : optAll r with
    | none => simp [q] at h
    | some l =>
      simp [q] at h
      subst h
      simp [optAll_some q]
section
variable {P : Program} {w : World} {K : PySem.W.Frag} {μ : List Addr} {S : Store} {H : Hp}
def PyOk (n : Nat) (p : PyData) : Prop := p.canLay0 = true ∧ p.depth ≤ n
theorem canLay_all : ∀ {ps : List PyData} {n : Nat}, (∀ p ∈ ps, PyOk n p) → PyData.canLayAll0 ps = true ∧ PyData.depthAll ps ≤ n
  | [], _, _ => ⟨rfl, Nat.zero_le _⟩
  | p :: ps, n, h => by
    obtain ⟨h1, h2⟩ := h p List.mem_cons_self
    obtain ⟨h3, h4⟩ := canLay_all fun q hq => h q (List.mem_cons_of_mem _ hq)
    refine ⟨?_, ?_⟩
    · show (p.canLay0 && PyData.canLayAll0 ps) = true
      rw [h1, h3] <;> rfl
    · show max p.depth (PyData.depthAll ps) ≤ n
      exact Nat.max_le.mpr ⟨h2, h4⟩
theorem dpAll_of {n : Nat} (ih : ∀ (d : D) (v : V) (p : PyData), toPy S n d = some p → RelD K μ H d v → Dp K H v p ∧ PyOk n p) : ∀ {ds : List D} {vs : List V} {ps : List PyData}, ds.map (toPy S n) = ps.map some → RelDs K μ H ds vs → DpAll K H vs ps ∧ ∀ p ∈ ps, PyOk n p
  | [], vs, ps, e, r => by
    cases r
    have : ps = [] := by cases ps <;> simp at e <;> rfl
    subst this
    exact ⟨.nil, fun p hp => absurd hp (by simp)⟩
  | d :: ds, vs, ps, e, r => by
    cases r with
    | cons r1 r2 =>
      cases ps with
      | nil => simp at e
      | cons p ps =>
        simp only [List.map_cons, List.cons.injEq] at e
        obtain ⟨h1, h2⟩ := ih d _ p e.1 r1
        obtain ⟨h3, h4⟩ := dpAll_of ih e.2 r2
        refine ⟨.cons h1 h3, fun q hq => ?_⟩
        rcases List.mem_cons.mp hq with rfl | hq
        · exact h2
        · exact h4 q hq
theorem dp_of (so : StOk P w K μ S H) : ∀ (n : Nat) (d : D) (v : V) (p : PyData), toPy S n d = some p → RelD K μ H d v → Dp K H v p ∧ PyOk n p
  | n, .non, v, p, h, r => by
    unfold toPy at h
    cases h
    cases r
    exact ⟨.non, rfl, Nat.zero_le _⟩
  | n, .bl b, v, p, h, r => by
    unfold toPy at h
    cases h
    cases r
    exact ⟨.bl b, rfl, Nat.zero_le _⟩
  | n, .int b, v, p, h, r => by
    unfold toPy at h
    cases h
    cases r
    exact ⟨.int b, rfl, Nat.zero_le _⟩
  | n, .str x, v, p, h, r => by
    unfold toPy at h
    split at h
    · rename_i hx
      cases h
      cases r
      exact ⟨.str x, hx, Nat.zero_le _⟩
    · cases h
  | 0, .tup ds, v, p, h, r => by simp [toPy] at h
  | 0, .rol ds, v, p, h, r => by simp [toPy] at h
  | 0, .ref m, v, p, h, r => by simp [toPy] at h
  | n, .ty x, v, p, h, r => by cases n <;> simp [toPy] at h
  | n + 1, .tup ds, v, p, h, r => by
    unfold toPy at h
    cases q : optAll (ds.map (toPy S n)) with
    | none => rw [q] at h; cases h
    | some ps =>
      rw [q] at h
      cases h
      cases r with
      | tup h1 h2 =>
        obtain ⟨h3, h4⟩ := dpAll_of (dp_of so n) (optAll_some q) h2
        obtain ⟨h5, h6⟩ := canLay_all h4
        exact ⟨.tup h1 h3, h5, by show PyData.depthAll ps + 1 ≤ n + 1; omega⟩
  | n + 1, .rol ds, v, p, h, r => by
    unfold toPy at h
    cases q : optAll (ds.map (toPy S n)) with
    | none => rw [q] at h; cases h
    | some ps =>
      rw [q] at h
      cases h
      cases r with
      | rol h1 h2 =>
        obtain ⟨h3, h4⟩ := dpAll_of (dp_of so n) (optAll_some q) h2
        obtain ⟨h5, h6⟩ := canLay_all h4
        exact ⟨.lst h1.sq h3, h5, by show PyData.depthAll ps + 1 ≤ n + 1; omega⟩
  | n + 1, .ref m, v, p, h, r => by
    unfold toPy at h
    split at h
    · rename_i xs e
      cases q : optAll (xs.map (toPy S n)) with
      | none => rw [q] at h; cases h
      | some ps =>
        rw [q] at h
        cases h
        obtain ⟨a, vs, rfl, h1, h2, _⟩ := so.lstAt r e
        obtain ⟨h3, h4⟩ := dpAll_of (dp_of so n) (optAll_some q) h2
        obtain ⟨h5, h6⟩ := canLay_all h4
        exact ⟨.lst (SqL.of h1) h3, h5, by show PyData.depthAll ps + 1 ≤ n + 1; omega⟩
    · cases h
theorem PyOk.shaped {n : Nat} {p : PyData} (h : PyOk n p) (hn : n ≤ 64) : SeqAt.shaped p = true := by
  show (p.canLay0 && decide (p.depth ≤ 64)) = true
  rw [h.1, decide_eq_true (Nat.le_trans h.2 hn)] <;> rfl
end

/-! ### comparisons -/
/-- a comparison, as a value -/
def cmpR (op : CmpOp) (a b : D) (S : Store) : R D := match cmpD op a b S with
  | some k => .ok (.bl k) S
  | none => .bad
theorem cmpR_some {op : CmpOp} {a b d : D} {S S' : Store} (h : cmpR op a b S = .ok d S') : ∃ k, cmpD op a b S = some k ∧ d = .bl k ∧ S = S' := by
  unfold cmpR at h
  split at h
  · rename_i k e
    cases h
    exact ⟨k, e, rfl, rfl⟩
  · cases h
theorem eqD_some {S : Store} {a b : D} {k : Bool} (h : eqD S a b = some k) : ∃ x y, toPy S 60 a = some x ∧ toPy S 60 b = some y ∧ k = PyData.eqv x y := by
  unfold eqD at h
  split at h
  · rename_i x y h1 h2
    cases h
    exact ⟨x, y, h1, h2, rfl⟩
  · cases h
theorem inD_some {S : Store} {a b : D} {k : Bool} (h : inD S a b = some k) : ∃ (x : PyData) (xs : List D) (ys : List PyData), toPy S 60 a = some x ∧ seqOf S b = some xs ∧ xs.map (toPy S 60) = ys.map some ∧ k = ys.any fun y => PyData.eqv y x := by
  unfold inD at h
  split at h
  · rename_i x ys h1 h2
    cases h
    cases q : seqOf S b with
    | none => rw [q] at h2; cases h2
    | some xs =>
      rw [q] at h2
      exact ⟨x, xs, ys, h1, rfl, optAll_some h2, rfl⟩
  · cases h
theorem cmp_ok (op : CmpOp) (hr : Room 0 X.A) : OpR X (compareOp op) (r2D X.prog X.w X.K (cmpR op)) := by
  intro pins s σ H x y v u Q I rx ry h
  obtain ⟨μ, S, a, b, d, S', so, ra, rb, hf, k⟩ := h
  obtain ⟨c, hc, rfl, rfl⟩ := cmpR_some hf
  have hu64 := hr.units
  have hu65 : X.A.units + 65 < cLine := by have := hr.un; omega
  have fin : Q (.bl c) H := k.here so (.bl c)
  have eqs : ∀ {c' : Bool}, eqD S a b = some c' → ∃ d e, Dp X.K H x d ∧ Dp X.K H y e ∧ SeqAt.shaped d = true ∧ SeqAt.shaped e = true ∧ c' = PyData.eqv d e := fun hc => by
    obtain ⟨p, q, h1, h2, h3⟩ := eqD_some hc
    obtain ⟨d1, o1⟩ := dp_of so _ _ _ _ h1 ra
    obtain ⟨d2, o2⟩ := dp_of so _ _ _ _ h2 rb
    exact ⟨p, q, d1, d2, o1.shaped (by decide), o2.shaped (by decide), h3⟩
  have lts : ∀ {a b : D} {x y : V} {c' : Bool}, RelD X.K μ H a x → RelD X.K μ H b y → ltD a b = some c' → (∃ i j, x = .int i ∧ y = .int j ∧ c' = decide (i < j)) ∨ ∃ i j : Str, x = .str i ∧ y = .str j ∧ c' = decide (i.cps.toList < j.cps.toList) := fun ra rb hc => by
    cases ra <;> cases rb <;> cases hc
    · exact .inl ⟨_, _, rfl, rfl, rfl⟩
    · exact .inr ⟨_, _, rfl, rfl, rfl⟩
  have les : ∀ {a b : D} {x y : V} {c' : Bool}, RelD X.K μ H a x → RelD X.K μ H b y → leD a b = some c' → (∃ i j, x = .int i ∧ y = .int j ∧ c' = decide (i ≤ j)) ∨ ∃ i j : Str, x = .str i ∧ y = .str j ∧ c' = !decide (j.cps.toList < i.cps.toList) := fun ra rb hc => by
    cases ra <;> cases rb <;> cases hc
    · exact .inl ⟨_, _, rfl, rfl, rfl⟩
    · exact .inr ⟨_, _, rfl, rfl, rfl⟩
  have ins : ∀ {c' : Bool}, inD S a b = some c' → ∃ d ds, Dp X.K H x d ∧ (Dp X.K H y (.list ds) ∨ Dp X.K H y (.tuple ds)) ∧ SeqAt.shaped d = true ∧ SeqAt.shaped (.list ds) = true ∧ SeqAt.shaped (.tuple ds) = true ∧ c' = ds.any fun z => PyData.eqv z d := fun hc => by
    obtain ⟨p, xs, ys, h1, h2, h3, h4⟩ := inD_some hc
    obtain ⟨d1, o1⟩ := dp_of so _ _ _ _ h1 ra
    obtain ⟨a', vs, rfl, hs, rs⟩ := so.seqAt rb h2
    obtain ⟨d2, o2⟩ := dpAll_of (dp_of so 60) h3 rs
    obtain ⟨h5, h6⟩ := canLay_all o2
    have okl : PyOk 61 (.list ys) := ⟨h5, by show PyData.depthAll ys + 1 ≤ 61; omega⟩
    have okt : PyOk 61 (.tuple ys) := ⟨h5, by show PyData.depthAll ys + 1 ≤ 61; omega⟩
    refine ⟨p, ys, d1, ?_, o1.shaped (by decide), okl.shaped (by decide), okt.shaped (by decide), h4⟩
    rcases hs with hs | hs
    · exact .inl (.lst hs d2)
    · exact .inr (.tup hs d2)
  cases op with
  | Eq =>
    obtain ⟨p, q, h1, h2, h3, h4, rfl⟩ := eqs hc
    exact op_eqD hu64 pins s σ H x y v u Q I rx ry ⟨p, q, h1, h2, h3, h4, fin⟩
  | NotEq =>
    simp only [cmpD, Option.map_eq_some_iff] at hc
    obtain ⟨c', hc, rfl⟩ := hc
    obtain ⟨p, q, h1, h2, h3, h4, rfl⟩ := eqs hc
    exact op_neD hu64 pins s σ H x y v u Q I rx ry ⟨p, q, h1, h2, h3, h4, fin⟩
  | Lt =>
    rcases lts ra rb hc with ⟨i, j, rfl, rfl, rfl⟩ | ⟨i, j, rfl, rfl, rfl⟩
    · exact op_lt pins s σ H _ _ v u Q I rx ry ⟨i, j, rfl, rfl, fin⟩
    · exact op_lt_str pins s σ H _ _ v u Q I rx ry ⟨i, j, rfl, rfl, fin⟩
  | LtE =>
    rcases les ra rb hc with ⟨i, j, rfl, rfl, rfl⟩ | ⟨i, j, rfl, rfl, rfl⟩
    · exact op_le pins s σ H _ _ v u Q I rx ry ⟨i, j, rfl, rfl, fin⟩
    · exact op_le_str pins s σ H _ _ v u Q I rx ry ⟨i, j, rfl, rfl, fin⟩
  | Gt =>
    rcases lts rb ra hc with ⟨i, j, rfl, rfl, rfl⟩ | ⟨i, j, rfl, rfl, rfl⟩
    · exact op_gt pins s σ H _ _ v u Q I rx ry ⟨j, i, rfl, rfl, fin⟩
    · exact op_gt_str pins s σ H _ _ v u Q I rx ry ⟨j, i, rfl, rfl, fin⟩
  | GtE =>
    rcases les rb ra hc with ⟨i, j, rfl, rfl, rfl⟩ | ⟨i, j, rfl, rfl, rfl⟩
    · exact op_ge pins s σ H _ _ v u Q I rx ry ⟨j, i, rfl, rfl, fin⟩
    · exact op_ge_str pins s σ H _ _ v u Q I rx ry ⟨j, i, rfl, rfl, fin⟩
  | Is =>
    have hc : isD a b = some c := hc
    cases rb with
    | non =>
      cases ra <;> cases hc <;> exact op_isN pins s σ H _ _ v u Q I rx ry ⟨rfl, fin⟩
    | bl j =>
      cases ra <;> cases hc
      exact op_isBl pins s σ H _ _ v u Q I rx ry ⟨_, _, rfl, rfl, fin⟩
    | _ => cases ra <;> cases hc
  | IsNot =>
    simp only [cmpD, Option.map_eq_some_iff] at hc
    obtain ⟨c', hc, rfl⟩ := hc
    cases rb with
    | non =>
      cases ra <;> cases hc <;> exact op_notN pins s σ H _ _ v u Q I rx ry ⟨rfl, fin⟩
    | bl j =>
      cases ra <;> cases hc
      exact op_notBl pins s σ H _ _ v u Q I rx ry ⟨_, _, rfl, rfl, fin⟩
    | _ => cases ra <;> cases hc
  | In =>
    obtain ⟨p, ds, h1, h2, h3, h4, h5, rfl⟩ := ins hc
    rcases h2 with h2 | h2
    · exact op_inD hu65 pins s σ H x y v u Q I rx ry ⟨p, ds, h1, h2, h3, h4, fin⟩
    · obtain ⟨as, r1⟩ := Dp.reads I p x v h1 rx
      obtain ⟨bs, r2⟩ := Dp.reads I (.tuple ds) y u h2 ry
      exact SeqAt.in_tuple_reads r2 r1 (SeqAt.canLay_of_shaped h5) (SeqAt.canLay_of_shaped h3) (room_in_shaped h3 hu65) ⟨.bl _, H, I, rfl, fin⟩
  | NotIn =>
    simp only [cmpD, Option.map_eq_some_iff] at hc
    obtain ⟨c', hc, rfl⟩ := hc
    obtain ⟨p, ds, h1, h2, h3, h4, h5, rfl⟩ := ins hc
    rcases h2 with h2 | h2
    · exact op_notInD hu65 pins s σ H x y v u Q I rx ry ⟨p, ds, h1, h2, h3, h4, fin⟩
    · obtain ⟨as, r1⟩ := Dp.reads I p x v h1 rx
      obtain ⟨bs, r2⟩ := Dp.reads I (.tuple ds) y u h2 ry
      exact SeqAt.notIn_tuple_reads r2 r1 (SeqAt.canLay_of_shaped h5) (SeqAt.canLay_of_shaped h3) (room_in_shaped h3 hu65) ⟨.bl _, H, I, rfl, fin⟩
end
end Ev
set_option Elab.async false
set_option linter.all false
set_option maxRecDepth 100000
set_option maxHeartbeats 1000000
/-! Ev, part D: dicts whose keys are tuples, nested ones too. -/
namespace Ev
open PySem PySem.Spec PyProof.Rows L2

/-! ### keys -/
mutual
theorem nkey_inj : ∀ (n m : Nat) (a b : D), nestK n a = true → nestK m b = true → nkey a = nkey b → a = b
  | n, m, .non, b, ha, hb, e => by
    cases b <;> simp [nestK, nkey] at hb e
    rfl
  | n, m, .int i, b, ha, hb, e => by
    cases b <;> simp [nestK, nkey] at hb e
    rw [e]
  | n, m, .str i, b, ha, hb, e => by
    cases b <;> simp [nestK, nkey] at hb e
    rw [e]
  | n, m, .tup ds, b, ha, hb, e => by
    cases b <;> simp [nestK, nkey] at hb e
    cases n <;> simp [nestK] at ha
    cases m <;> simp at hb
    rw [nkeys_inj _ _ _ _ ha hb e]
  | n, m, .bl _, b, ha, hb, e => by cases n <;> simp [nestK] at ha
  | n, m, .ty _, b, ha, hb, e => by cases n <;> simp [nestK] at ha
  | n, m, .ref _, b, ha, hb, e => by cases n <;> simp [nestK] at ha
  | n, m, .rol _, b, ha, hb, e => by cases n <;> simp [nestK] at ha
theorem nkeys_inj : ∀ (n m : Nat) (a b : List D), nestKs n a = true → nestKs m b = true → nkeys a = nkeys b → a = b
  | n, m, [], b, ha, hb, e => by
    cases b <;> simp [nkeys] at e
    rfl
  | n, m, x :: xs, b, ha, hb, e => by
    cases b with
    | nil => simp [nkeys] at e
    | cons y ys =>
      simp [nestKs] at ha hb
      simp [nkeys] at e
      rw [nkey_inj n m x y ha.1 hb.1 e.1, nkeys_inj n m xs ys ha.2 hb.2 e.2]
end
theorem tupK_tup {d : D} (h : tupK d = true) : nestK 8 d = true := by
  cases d <;> simp [tupK] at h
  exact h
theorem nkey_inj8 {a b : D} (ha : tupK a = true) (hb : tupK b = true) (e : nkey a = nkey b) : a = b := nkey_inj 8 8 a b (tupK_tup ha) (tupK_tup hb) e
section
variable {X : Cx} {pins : List (Addr × Obj)} {σ : L2.St} {H : Hp} {s : Shared} {μ : List Addr}
mutual
theorem nest_is (I : Inv X pins σ H s) : ∀ (n : Nat) (d : D) (v : V) (u : Value), nestK n d = true → RelD X.K μ H d v → RelV v u → NestedIs s.heap (nkey d) u ∧ (nkey d).depth ≤ n
  | n, .non, v, u, h, r, rv => by
    cases r
    cases rv
    exact ⟨.none, Nat.zero_le _⟩
  | n, .int i, v, u, h, r, rv => by
    cases r
    obtain ⟨t, rfl⟩ := rv
    exact ⟨.int i t, Nat.zero_le _⟩
  | n, .str i, v, u, h, r, rv => by
    cases r
    obtain ⟨t, rfl⟩ := rv
    exact ⟨.text i t, Nat.zero_le _⟩
  | n, .tup ds, v, u, h, r, rv => by
    cases n <;> simp [nestK] at h
    rename_i n
    cases r with
    | tup h1 h2 =>
      cases rv
      obtain ⟨its, r3, ⟨o, ho, hc, m, hd⟩, _⟩ := I.tuple h1
      obtain ⟨h4, h5⟩ := nest_all I n ds _ its h h2 r3
      refine ⟨.tup ho hc hd (by simpa using h4), ?_⟩
      show NestedKey.depthAll (nkeys ds) + 1 ≤ n + 1
      omega
  | n, .bl _, v, u, h, r, rv => by cases n <;> simp [nestK] at h
  | n, .ty _, v, u, h, r, rv => by cases n <;> simp [nestK] at h
  | n, .ref _, v, u, h, r, rv => by cases n <;> simp [nestK] at h
  | n, .rol _, v, u, h, r, rv => by cases n <;> simp [nestK] at h
theorem nest_all (I : Inv X pins σ H s) : ∀ (n : Nat) (ds : List D) (vs : List V) (us : List Value), nestKs n ds = true → RelDs X.K μ H ds vs → Vals vs us → NestedAll s.heap (nkeys ds) us ∧ NestedKey.depthAll (nkeys ds) ≤ n
  | n, [], vs, us, h, r, rv => by
    cases r
    cases rv
    exact ⟨.nil, Nat.zero_le _⟩
  | n, d :: ds, vs, us, h, r, rv => by
    simp [nestKs] at h
    cases r with
    | cons r1 r2 =>
      cases rv with
      | cons q1 q2 =>
        obtain ⟨h1, h2⟩ := nest_is I n d _ _ h.1 r1 q1
        obtain ⟨h3, h4⟩ := nest_all I n ds _ _ h.2 r2 q2
        refine ⟨.cons h1 h3, ?_⟩
        show max (NestedKey.depth (nkey d)) (NestedKey.depthAll (nkeys ds)) ≤ n
        exact Nat.max_le.mpr ⟨h2, h4⟩
end
/-- the tuple d is such a key -/
theorem key_is (I : Inv X pins σ H s) {d : D} {a : Addr} (h : tupK d = true) (r : RelD X.K μ H d (.ref a)) : (nestedKind X.prog X.w).is s.heap (nkey d) a := nest_is I 8 d (.ref a) (.ref a) (tupK_tup h) r rfl

/-! ### a dict's rows -/
/-- an entry and its row in the kit's words -/
def ER (K : PySem.W.Frag) (μ : List Addr) (H : Hp) (p : D × D) (x : NestedKey × Addr × Value) : Prop :=
  tupK p.1 = true ∧ nkey p.1 = x.1 ∧ RelD K μ H p.1 (.ref x.2.1) ∧ ∃ v, RelD K μ H p.2 v ∧ RelV v x.2.2
theorem er_of {kvs : List (D × D)} {rows : List Row} {xs : List (NestedKey × Addr × Value)} (p : Paired (fun (p : D × D) (r : Row) => tupK p.1 = true ∧ nkey p.1 = r.1 ∧ RelD X.K μ H p.1 (.ref r.2.1) ∧ RelD X.K μ H p.2 r.2.2) kvs rows)
    (q : Paired (fun (r : Row) (x : NestedKey × Addr × Value) => r.1 = x.1 ∧ r.2.1 = x.2.1 ∧ RelV r.2.2 x.2.2) rows xs) : Paired (ER X.K μ H) kvs xs := by
  induction p generalizing xs with
  | nil => cases q; exact .nil
  | cons h t ih =>
    cases q with
    | cons h' t' =>
      refine .cons ⟨h.1, h.2.1.trans h'.1, ?_, _, h.2.2.2, h'.2.2⟩ (ih t')
      rw [← h'.2.1]
      exact h.2.2.1
/-- .. and back: the rows -/
theorem rows_of {kvs : List (D × D)} {xs : List (NestedKey × Addr × Value)} (p : Paired (ER X.K μ H) kvs xs) : ∃ rows : List Row, Paired (fun (p : D × D) (r : Row) => tupK p.1 = true ∧ nkey p.1 = r.1 ∧ RelD X.K μ H p.1 (.ref r.2.1) ∧ RelD X.K μ H p.2 r.2.2) kvs rows ∧
    Paired (fun (r : Row) (x : NestedKey × Addr × Value) => r.1 = x.1 ∧ r.2.1 = x.2.1 ∧ RelV r.2.2 x.2.2) rows xs := by
  induction p with
  | nil => exact ⟨[], .nil, .nil⟩
  | cons h t ih =>
    obtain ⟨rows, h1, h2⟩ := ih
    obtain ⟨a, b, c, v, d, e⟩ := h
    exact ⟨(_, _, v) :: rows, .cons ⟨a, b, c, d⟩ h1, .cons ⟨rfl, rfl, e⟩ h2⟩
theorem rows_keys {rows : List Row} {xs : List (NestedKey × Addr × Value)} (q : Paired (fun (r : Row) (x : NestedKey × Addr × Value) => r.1 = x.1 ∧ r.2.1 = x.2.1 ∧ RelV r.2.2 x.2.2) rows xs) : rows.map (·.1) = xs.map (·.1) := by
  induction q with
  | nil => rfl
  | cons h t ih => simp [h.1, ih]
/-- the dict at d in the kit's words -/
theorem nd_dict (I : Inv X pins σ H s) {d : Addr} {kvs : List (D × D)} {rows : List Row} (h : Rd H d (.ext (NDict X.prog X.w d rows)))
    (p : Paired (fun (p : D × D) (r : Row) => tupK p.1 = true ∧ nkey p.1 = r.1 ∧ RelD X.K μ H p.1 (.ref r.2.1) ∧ RelD X.K μ H p.2 r.2.2) kvs rows) :
    ∃ xs, s.heap.DictOfH (nestedKind X.prog X.w) d xs ∧ Paired (ER X.K μ H) kvs xs ∧ (d == sysModules) = false ∧ xs.length ≤ sizeLine := by
  obtain ⟨⟨hz, hd, hn, o, es, ep, xs, ho, hx, hdt, he, q⟩, _⟩ := (show ObjOk X.prog X.w H s.heap d (.ext (NDict X.prog X.w d rows)) from h.ok I.hok)
  have er := er_of p q
  refine ⟨xs, ⟨o, es, ep, ho, hx, hdt, he, fun x hxm => ?_, by rw [← rows_keys q]; exact hn⟩, er, hd, by rw [← Paired.length q]; exact hz⟩
  have key : ∀ {kvs : List (D × D)} {xs : List (NestedKey × Addr × Value)}, Paired (ER X.K μ H) kvs xs → ∀ x ∈ xs, (nestedKind X.prog X.w).is s.heap x.1 x.2.1 := by
    intro kvs xs er
    induction er with
    | nil => exact fun x hx => absurd hx (by simp)
    | cons h t ih =>
      intro x hx
      rcases List.mem_cons.mp hx with rfl | hx
      · rw [← h.2.1]
        exact key_is I h.1 h.2.2.1
      · exact ih x hx
  exact key er x hxm
/-- a dict in the kit's words, as the layer's object -/
theorem nd_new {P : Program} {w : World} {H' : Hp} {h' : Heap} {d : Addr} {rows : List Row} {xs : List (NestedKey × Addr × Value)} (hz : rows.length ≤ sizeLine) (hd : (d == sysModules) = false) (hx : h'.DictOfH (nestedKind P w) d xs)
    (q : Paired (fun (r : Row) (x : NestedKey × Addr × Value) => r.1 = x.1 ∧ r.2.1 = x.2.1 ∧ RelV r.2.2 x.2.2) rows xs) : ObjOk P w H' h' d (.ext (NDict P w d rows)) := by
  obtain ⟨o, es, ep, ho, hx, hdt, he, _, hn⟩ := hx
  refine ⟨⟨hz, hd, by rw [rows_keys q]; exact hn, o, es, ep, xs, ho, hx, hdt, he, q⟩, ⟨o, ho⟩, fun h1 h2 f k => ?_⟩
  obtain ⟨z1, z2, z3, o', es', ep', xs', ho', r⟩ := f
  exact ⟨z1, z2, z3, o', es', ep', xs', k _ ho', r⟩

/-! ### look-ups, stores -/
theorem look_er {k : D} (hk : tupK k = true) : ∀ {kvs : List (D × D)} {xs : List (NestedKey × Addr × Value)}, Paired (ER X.K μ H) kvs xs →
    (∀ d, lookK kvs k = some d → ∃ p, atKey xs (nkey k) = some p ∧ ∃ v, RelD X.K μ H d v ∧ RelV v p.2) ∧ (lookK kvs k = none → atKey xs (nkey k) = none) := by
  intro kvs xs er
  induction er with
  | nil => exact ⟨fun d h => by simp [lookK] at h, fun _ => rfl⟩
  | @cons p x kvs xs h t ih =>
    obtain ⟨h1, h2, h3, v, h4, h5⟩ := h
    by_cases e : p.1 = k
    · have e2 : x.1 = nkey k := by rw [← h2, e]
      refine ⟨fun d hd => ?_, fun hd => ?_⟩
      · simp [lookK, e] at hd
        subst hd
        exact ⟨x.2, by simp [atKey, e2], v, h4, h5⟩
      · simp [lookK, e] at hd
    · have e2 : ¬ x.1 = nkey k := fun z => e (nkey_inj8 h1 hk (h2.trans z))
      have a1 : lookK (p :: kvs) k = lookK kvs k := by simp [lookK, e]
      have a2 : atKey (x :: xs) (nkey k) = atKey xs (nkey k) := by simp [atKey, e2]
      rw [a1, a2]
      exact ih
theorem put_er {k d : D} {a : Addr} {v : V} {u : Value} (hk : tupK k = true) (ra : RelD X.K μ H k (.ref a)) (rd : RelD X.K μ H d v) (rv : RelV v u) {kvs : List (D × D)} {xs : List (NestedKey × Addr × Value)} (er : Paired (ER X.K μ H) kvs xs) (hn : (xs.map (·.1)).Nodup) :
    Paired (ER X.K μ H) (putK kvs k d) (storedH xs (nkey k) a u) := by
  induction er with
  | nil => exact .cons ⟨hk, rfl, ra, v, rd, rv⟩ .nil
  | @cons p x kvs xs h t ih =>
    obtain ⟨h1, h2, h3, v', h4, h5⟩ := h
    have hn' : x.1 ∉ xs.map (·.1) ∧ (xs.map (·.1)).Nodup := List.nodup_cons.mp hn
    by_cases e : p.1 = k
    · have e2 : x.1 = nkey k := by rw [← h2, e]
      have hs : storedH (x :: xs) (nkey k) a u = (x.1, x.2.1, u) :: xs := by
        rw [storedH_old (p := x.2) (by simp [atKey, e2])]
        simp only [List.map_cons, putAt, e2, if_true]
        rw [map_putAt_of_not_mem _ _ _ (by rw [← e2]; exact hn'.1)]
      rw [hs]
      simp only [putK, e, if_true]
      exact .cons ⟨hk, by rw [← e]; exact h2, by rw [← e]; exact h3, v, rd, rv⟩ t
    · have e2 : ¬ x.1 = nkey k := fun z => e (nkey_inj8 h1 hk (h2.trans z))
      have hs : storedH (x :: xs) (nkey k) a u = x :: storedH xs (nkey k) a u := by
        have a2 : atKey (x :: xs) (nkey k) = atKey xs (nkey k) := by simp [atKey, e2]
        unfold storedH
        rw [a2]
        split
        · simp [putAt, e2]
        · rfl
      rw [hs]
      simp only [putK, e, if_false]
      exact .cons ⟨h1, h2, h3, v', h4, h5⟩ (ih hn'.2)
theorem putK_len {kvs : List (D × D)} {k d : D} : (putK kvs k d).length ≤ kvs.length + 1 ∧ (putK kvs k d) ≠ [] := by
  induction kvs with
  | nil => exact ⟨by simp [putK], by simp [putK]⟩
  | cons p r ih =>
    unfold putK
    split
    · exact ⟨by simp, by simp⟩
    · exact ⟨by simp; exact ih.1, by simp⟩
theorem ER.keep {μ' : List Addr} {H' : Hp} (e : Ext μ μ') (g : Keep H H') {p : D × D} {x : NestedKey × Addr × Value} (h : ER X.K μ H p x) : ER X.K μ' H' p x :=
  ⟨h.1, h.2.1, h.2.2.1.keep e g, let ⟨v, a, b⟩ := h.2.2.2; ⟨v, a.keep e g, b⟩⟩

/-! ### any dict, by data -/
/-- how a dict with tuple keys (or an empty one) stands -/
theorem DU.nested (I : Inv X pins σ H s) {d : Addr} {kvs : List (D × D)} {u : HO} {k : D} (hk : tupK k = true) (ok : keyOk kvs k = true) (hu : Rd H d u) (r : DU X.prog X.w X.K μ H d kvs u) :
    ∃ xs, s.heap.DictOfH (nestedKind X.prog X.w) d xs ∧ Paired (ER X.K μ H) kvs xs ∧ (d == sysModules) = false ∧ xs.length ≤ sizeLine := by
  cases r with
  | nest hn hl p => exact nd_dict I hu p
  | leaf hl p =>
    rename_i ws
    have hkv : kvs = [] := by
      cases kvs with
      | nil => rfl
      | cons q qs =>
        cases p with
        | cons h t =>
          exfalso
          have nl : leafK k = false := by cases k <;> simp [tupK] at hk <;> rfl
          simp only [keyOk, nl, Bool.false_and, Bool.false_or, List.all_cons, Bool.and_eq_true] at ok
          have h2 := ok.2.1
          have h3 := h.1
          cases e : q.1 <;> rw [e] at h2 h3 <;> simp [tupK, leafKey] at h2 h3
    subst hkv
    cases p
    obtain ⟨hz, hd, vs, rel, o, es, ep, ho, hx, hdt, _, pr, _⟩ := dk_rd I.hok hu
    cases rel
    have hes : es.toList = [] := by
      cases q : es.toList with
      | nil => rfl
      | cons a b => rw [q] at pr; cases pr
    exact ⟨[], ⟨o, es, ep, ho, hx, hdt, by rw [hes]; rfl, fun x hx => absurd hx (by simp), List.nodup_nil⟩, .nil, hd, Nat.zero_le _⟩
/-- the object behind a store -/
theorem nd_put {d : Addr} {kvs : List (D × D)} {u0 : HO} {h' : Heap} {tk : Nat} {xs : List (NestedKey × Addr × Value)} (I : Inv X pins σ H s) (hu : H d = some u0) (hw : Wr u0) (hd : (d == sysModules) = false) (hz : xs.length ≤ lim)
    (hx : h'.DictOfH (nestedKind X.prog X.w) d xs) (hs : Heap.SameBut d s.heap h') (er : Paired (ER X.K μ H) kvs xs) (hne : kvs ≠ []) :
    ∃ u, Inv X pins σ (upd H d u) { s with heap := h', toks := tk } ∧ DU X.prog X.w X.K μ (upd H d u) d kvs u := by
  obtain ⟨rows, h1, h2⟩ := rows_of er
  refine ⟨.ext (NDict X.prog X.w d rows), ?_, .nest hne (by rw [Paired.length er]; exact hz) (Paired.imp (fun _ _ h => ⟨h.1, h.2.1, h.2.2.1.keep Ext.refl (grow_wr hu hw).keep, h.2.2.2.keep Ext.refl (grow_wr hu hw).keep⟩) h1)⟩
  have mu : Mut (H d) := by
    rw [hu]
    cases u0 <;> first | exact True.intro | exact hw.elim
  obtain ⟨q, es, ep, hq, _⟩ := id hx
  exact d_write I mu hs ⟨q, hq⟩ (nd_new (by rw [Paired.length h2]; exact lim_line hz) hd hx h2)
end
end Ev
set_option Elab.async false
set_option linter.all false
set_option maxRecDepth 100000
set_option maxHeartbeats 1000000
/-! Ev, part E: truth, places, slices, stores. -/
namespace Ev
open PySem PySem.Spec PyProof.Rows L2

/-! ### dicts with whole numbers or texts as keys -/
section
variable {K : PySem.W.Frag} {μ : List Addr} {H : Hp}
def LR (K : PySem.W.Frag) (μ : List Addr) (H : Hp) (p : D × D) (q : Key × V) : Prop := leafKey p.1 = some q.1 ∧ RelD K μ H p.2 q.2
theorem leafKey_inj {a b : D} {k : Key} (ha : leafKey a = some k) (hb : leafKey b = some k) : a = b := by
  cases a <;> simp [leafKey] at ha <;> cases b <;> simp [leafKey] at hb <;> subst ha <;> cases hb <;> rfl
theorem leafKey_V {a : D} {v : V} {k : Key} (h : leafKey a = some k) (r : RelD K μ H a v) : v = kV k := by
  cases r <;> simp [leafKey] at h <;> subst h <;> rfl
theorem leafKey_of {a : D} (h : leafK a = true) : ∃ k, leafKey a = some k := by
  cases a <;> simp [leafK] at h <;> exact ⟨_, rfl⟩
theorem leaf_look {k : D} {k' : Key} (hk : leafKey k = some k') {kvs : List (D × D)} {ws : List (Key × V)} (p : Paired (LR K μ H) kvs ws) :
    (∀ d, lookK kvs k = some d → ∃ v, valV ws k' = some v ∧ RelD K μ H d v) ∧ (lookK kvs k = none → valV ws k' = none) := by
  induction p with
  | nil => exact ⟨fun d h => by simp [lookK] at h, fun _ => rfl⟩
  | @cons p q kvs ws h t ih =>
    by_cases e : p.1 = k
    · have e2 : q.1 = k' := by
        have := h.1
        rw [e, hk] at this
        exact (Option.some.inj this).symm
      refine ⟨fun d hd => ?_, fun hd => ?_⟩
      · simp [lookK, e] at hd
        subst hd
        exact ⟨q.2, valV_pos e2, h.2⟩
      · simp [lookK, e] at hd
    · have e2 : ¬ q.1 = k' := fun z => e (leafKey_inj h.1 (by rw [z]; exact hk))
      have a1 : lookK (p :: kvs) k = lookK kvs k := by simp [lookK, e]
      rw [a1, valV_neg e2]
      exact ih
theorem valV_none_map {k : Key} {v : V} : ∀ {ws : List (Key × V)}, k ∉ ws.map (·.1) → ws.map (fun kv => if kv.1 = k then (kv.1, v) else kv) = ws
  | [], _ => rfl
  | p :: r, h => by
    rw [List.map_cons, List.mem_cons, not_or] at h
    rw [List.map_cons, if_neg (fun e => h.1 e.symm), valV_none_map h.2]
theorem leaf_put {k d : D} {k' : Key} {v : V} (hk : leafKey k = some k') (rd : RelD K μ H d v) {kvs : List (D × D)} {ws : List (Key × V)} (p : Paired (LR K μ H) kvs ws) (hn : (ws.map (·.1)).Nodup) : Paired (LR K μ H) (putK kvs k d) (L2.putK ws k' v) := by
  induction p with
  | nil => exact .cons ⟨hk, rd⟩ .nil
  | @cons p q kvs ws h t ih =>
    have hn' : q.1 ∉ ws.map (·.1) ∧ (ws.map (·.1)).Nodup := List.nodup_cons.mp hn
    by_cases e : p.1 = k
    · have e2 : q.1 = k' := by
        have := h.1
        rw [e, hk] at this
        exact (Option.some.inj this).symm
      have hs : L2.putK (q :: ws) k' v = (q.1, v) :: ws := by
        unfold L2.putK
        rw [if_pos (by simp [e2]), List.map_cons, if_pos e2, valV_none_map (by rw [← e2]; exact hn'.1)]
      rw [hs]
      simp only [putK, e, if_true]
      exact .cons ⟨by rw [← e]; exact h.1, rd⟩ t
    · have e2 : ¬ q.1 = k' := fun z => e (leafKey_inj h.1 (by rw [z]; exact hk))
      have hs : L2.putK (q :: ws) k' v = q :: L2.putK ws k' v := by
        unfold L2.putK
        have a1 : ((q :: ws).any fun kv => decide (kv.1 = k')) = ws.any fun kv => decide (kv.1 = k') := by simp [e2]
        rw [a1]
        split
        · rw [List.map_cons, if_neg e2]
        · rfl
      rw [hs]
      simp only [putK, e, if_false]
      exact .cons h (ih hn'.2)
end

section
variable {X : Cx}
/-! ### truth -/
theorem tru_of {μ : List Addr} {S : Store} {H : Hp} {d : D} {x : V} {k : Bool} (so : StOk X.prog X.w X.K μ S H) (h : tru S d = some k) (r : RelD X.K μ H d x) : TruV X.K x H k := by
  have emp : ∀ {ds : List D} {vs : List V}, RelDs X.K μ H ds vs → (!vs.isEmpty) = !ds.isEmpty := fun r => by cases r <;> rfl
  cases d with
  | non =>
    cases r
    cases h
    exact rfl
  | bl b =>
    cases r
    cases h
    exact rfl
  | int i =>
    cases r
    cases h
    exact rfl
  | str z =>
    cases r
    simp only [tru] at h
    split at h
    · rename_i hl
      cases h
      refine ⟨lim_line hl, ?_⟩
      rw [Bool.eq_iff_iff]
      simp
    · cases h
  | ty n => cases h
  | _ =>
    simp only [tru, Option.map_eq_some_iff] at h
    obtain ⟨xs, h, rfl⟩ := h
    obtain ⟨a, vs, rfl, hs, rs⟩ := so.seqAt r h
    rcases hs with hs | hs
    · exact .inl ⟨vs, hs, (emp rs).symm⟩
    · exact .inr (.inl ⟨vs, hs, (emp rs).symm⟩)

/-! ### places -/
theorem ixN_eq (n : Nat) (i : Int) : Ev.ixN n i = L2.ixN n i := rfl
theorem ix_ok (hr : Room 0 X.A) : IxR X (r2D X.prog X.w X.K ixD) := by
  intro value slice pins s σ H x y v u Q I rx ry h hs
  obtain ⟨μ, S, a, b, d, S', so, ra, rb, hf, k⟩ := h
  have hu := hr.units
  unfold ixD at hf
  split at hf
  · rename_i xs hq
    split at hf
    case h_2 => cases hf
    rename_i i
    cases rb
    obtain ⟨p, vs, rfl, hsq, rs⟩ := so.seqAt ra hq
    split at hf
    · rename_i d' hd
      cases hf
      obtain ⟨j, hj, hx⟩ := Option.bind_eq_some_iff.mp hd
      obtain ⟨z, hz, rz⟩ := rs.get hx
      have hat : atI vs i = some z := by
        unfold atI
        rw [← rs.length, ← ixN_eq, hj]
        exact hz
      rcases hsq with hsq | hsq
      · exact ix_list value slice pins s σ H _ _ v u Q I rx ry ⟨p, vs, i, z, rfl, rfl, hsq, hat, k.here so rz⟩ hs
      · exact ix_tup value slice pins s σ H _ _ v u Q I rx ry ⟨p, vs, i, z, rfl, rfl, hsq, hat, k.here so rz⟩ hs
    · cases hf
  · rename_i hn
    split at hf
    case h_2 => cases hf
    rename_i n kvs lk hd
    split at hf
    · rename_i ok
      cases hl : lookK kvs b with
      | none => rw [hl] at hf; cases hf
      | some d' =>
        rw [hl] at hf
        cases hf
        have hd' : ∃ m, a = .ref m ∧ S[m]? = some (.dic kvs lk) := by
          unfold dicOf at hd
          split at hd
          · split at hd
            · rename_i m _ _ _ e
              cases hd
              exact ⟨_, rfl, e⟩
            · cases hd
          · cases hd
        obtain ⟨m, rfl, hS⟩ := hd'
        obtain ⟨p, u0, rfl, hrd, du, hm, _⟩ := so.dicAt ra hS
        cases (show v = Value.ref p from rx)
        rcases Bool.or_eq_true_iff.mp ok with ok' | ok'
        · obtain ⟨lk1, lk2⟩ := Bool.and_eq_true_iff.mp ok'
          obtain ⟨k', hk'⟩ := leafKey_of lk1
          cases du with
          | @leaf ws hz pr =>
            obtain ⟨z, hz, rz⟩ := (leaf_look hk' pr).1 _ hl
            have ey := leafKey_V hk' rb
            subst ey
            have g : DGet H p (kV k') (some z) := .inl ⟨ws, k', hrd, rfl, hz.symm⟩
            exact tail_any (dict_typeIs I g) PySem.F.slot_dict_getitem.lookup (d_getItem (by omega) I g ry fun w' s3 I3 rw' => ⟨z, H, I3, rw', k.here so rz⟩) hs
          | nest hn hz pr =>
            cases kvs with
            | nil => exact absurd rfl hn
            | cons q qs =>
              cases pr with
              | cons h t =>
                have h1 := h.1
                rw [List.all_cons, Bool.and_eq_true] at lk2
                have h2 := lk2.1
                exfalso
                cases e : q.1 <;> rw [e] at h1 h2 <;> simp [tupK, leafK] at h1 h2
        · obtain ⟨tk1, _⟩ := Bool.and_eq_true_iff.mp ok'
          obtain ⟨xs, hx, er, hsys, hlen⟩ := DU.nested I tk1 ok hrd du
          obtain ⟨pp, hp, z, rz, rv⟩ := (look_er tk1 er).1 _ hl
          have hb : ∃ c, y = .ref c := by
            cases b <;> simp [tupK] at tk1
            cases rb
            exact ⟨_, rfl⟩
          obtain ⟨c, rfl⟩ := hb
          cases (show u = Value.ref c from ry)
          exact tail_any hx.typeIs PySem.F.slot_dict_getitem.lookup (wpAny_getItem_heap (by show X.A.units + 1 + 8 < cLine; omega) (key_is I tk1 rb) hx hp ⟨z, H, I.tok _, rv, k.here so rz⟩) hs
    · cases hf

/-! ### slices -/
theorem sIx_eq (n d : Nat) (o : Option Int) : Ev.sIx n d o = HT.sIx n d o := by
  cases o with
  | none => rfl
  | some v =>
    show (if v < 0 then max (v + (n : Int)) 0 else min v (n : Int)).toNat = if v < 0 then (v + (n : Int)).toNat else min v.toNat n
    split <;> omega
theorem cut_rel {K : PySem.W.Frag} {μ : List Addr} {H : Hp} {ds : List D} {vs : List V} (r : RelDs K μ H ds vs) (lo hi : Option Int) : RelDs K μ H (cut ds lo hi) (cutV vs lo hi) := by
  unfold cut cutV
  rw [sIx_eq, sIx_eq, r.length]
  exact (r.drop _).take _
theorem cut_all {ds : List D} {lo hi : Option Int} (h : HT.sIx ds.length 0 lo = 0 ∧ HT.sIx ds.length ds.length hi = ds.length) : cut ds lo hi = ds := by
  unfold cut
  rw [sIx_eq, sIx_eq, h.1, h.2]
  simp
def r3D (P : Program) (w : World) (K : PySem.W.Frag) (f : D → Option Int → Option Int → Store → R D) : V → Option Int → Option Int → Hp → VK → Prop := fun x lo hi H Q => ∃ μ S a d S', StOk P w K μ S H ∧ RelD K μ H a x ∧ f a lo hi S = .ok d S' ∧ Cont P w K μ H S' d Q
theorem sl_ok : SlR X (r3D X.prog X.w X.K slD) := by
  intro pins s σ H x v vl vu lo hi sl Q I rx hs pl pu h
  obtain ⟨μ, S, a, d, S', so, ra, hf, k⟩ := h
  unfold slD at hf
  split at hf
  · cases hf
    cases ra with
    | tup h1 h2 =>
      refine sl_tupA pins s σ H _ v vl vu lo hi sl Q I rx hs pl pu ⟨_, _, rfl, h1, fun hw => ?_, fun _ p hp => k.newTup so (cut_rel h2 lo hi) hp⟩
      rw [← h2.length] at hw
      rw [cut_all hw] at k
      exact k.here so (.tup h1 h2)
  · cases hf
    cases ra with
    | rol h1 h2 => exact sl_list pins s σ H _ v vl vu lo hi sl Q I rx hs pl pu ⟨_, _, rfl, h1.sq, fun p hp => k.newLst so (cut_rel h2 lo hi) hp⟩
  · split at hf
    · rename_i e
      cases hf
      obtain ⟨p, vs, rfl, h1, h2, _⟩ := so.lstAt ra e
      exact sl_list pins s σ H _ v vl vu lo hi sl Q I rx hs pl pu ⟨_, _, rfl, SqL.of h1, fun p hp => k.newLst so (cut_rel h2 lo hi) hp⟩
    · cases hf
  · cases hf

/-! ### stores -/
/-- o[i] = v by data -/
def rSetD (P : Program) (w : World) (K : PySem.W.Frag) : TSet := fun o i v H Q => ∃ μ S a b c S', StOk P w K μ S H ∧ RelD K μ H a o ∧ RelD K μ H b i ∧ RelD K μ H c v ∧ setIxD a b c S = .ok () S' ∧
  ∀ (H' : Hp) (μ' : List Addr), Ext μ μ' → Grow H H' → StOk P w K μ' S' H' → Q H'
theorem set_ok (hr : Room 0 X.A) : PSet X (rSetD X.prog X.w X.K) := by
  intro pins s σ H o i v ov iv u Q I ro ri rv h
  obtain ⟨μ, S, a, b, c, S', so, ra, rb, rc, hf, k⟩ := h
  have hu := hr.units
  unfold setIxD at hf
  split at hf
  · split at hf
    · rename_i n xs e
      split at hf
      case h_2 => cases hf
      rename_i i'
      split at hf
      · rename_i j hj
        cases hf
        cases rb
        obtain ⟨p, vs, rfl, h1, h2, hm⟩ := so.lstAt ra e
        refine set_list pins s σ H _ _ v ov iv u Q I ro ri rv ⟨p, vs, i', j, rfl, rfl, h1, by rw [← h2.length, ← ixN_eq]; exact hj, k _ μ Ext.refl (grow_wr h1 True.intro) (so.put hm h1 True.intro (.lst upd_same ?_))⟩
        exact (RelDs.set rc j h2).keep Ext.refl (grow_wr h1 True.intro).keep
      · cases hf
    · rename_i n kvs e
      split at hf
      · rename_i hc
        obtain ⟨ok, hlen⟩ := hc
        cases hf
        obtain ⟨p, u0, rfl, hrd, du, hm, h1⟩ := so.dicAt ra e
        have h1 := h1 rfl
        cases (show ov = Value.ref p from ro)
        rcases Bool.or_eq_true_iff.mp ok with ok' | ok'
        · obtain ⟨lk1, lk2⟩ := Bool.and_eq_true_iff.mp ok'
          obtain ⟨k', hk'⟩ := leafKey_of lk1
          cases du with
          | @leaf ws hz pr =>
            have ey := leafKey_V hk' rb
            subst ey
            have hwl : ws.length < sizeLine := by rw [← Paired.length pr]; exact lim_lt hlen
            refine d_setItem (by omega) I (DPut.k h1 hwl) ri rv fun s4 I4 => ⟨_, I4, k _ μ Ext.refl (grow_wr h1 True.intro) (so.put hm h1 True.intro (.dic upd_same (.leaf ?_ ?_)))⟩
            · have := (putK_len (kvs := kvs) (k := b) (d := c)).1
              omega
            · have hnd : (ws.map (·.1)).Nodup := by
                obtain ⟨_, _, vs, rel, _, _, _, _, _, _, _, _, hn⟩ := dk_of I.hok h1
                rw [rel.keys]
                exact hn
              exact Paired.imp (fun _ _ h => ⟨h.1, h.2.keep Ext.refl (grow_wr h1 True.intro).keep⟩) (leaf_put hk' rc pr hnd)
          | nest hn hz pr =>
            exfalso
            cases kvs with
            | nil => exact absurd rfl hn
            | cons q qs =>
              cases pr with
              | cons h t =>
                have h1 := h.1
                rw [List.all_cons, Bool.and_eq_true] at lk2
                have h2 := lk2.1
                cases e : q.1 <;> rw [e] at h1 h2 <;> simp [tupK, leafK] at h1 h2
        · obtain ⟨tk1, _⟩ := Bool.and_eq_true_iff.mp ok'
          obtain ⟨xs, hx, er, hsys, hlen2⟩ := DU.nested I tk1 ok hrd du
          have hb : ∃ c, i = .ref c := by
            cases b <;> simp [tupK] at tk1
            cases rb
            exact ⟨_, rfl⟩
          obtain ⟨kc, rfl⟩ := hb
          cases (show iv = Value.ref kc from ri)
          have hw : Wr u0 := by cases du <;> exact True.intro
          have er2 := put_er tk1 rb rc rv er (by obtain ⟨_, _, _, _, _, _, _, _, hn⟩ := hx; exact hn)
          refine wpAny_setItem_heap (hsz := hlen2) (by show X.A.units + 1 + 8 < cLine; omega) (key_is I tk1 rb) hx fun h' hx' hs => ?_
          have hl3 := (putK_len (kvs := kvs) (k := b) (d := c))
          have hl4 := Paired.length er2
          have hl5 := Paired.length er
          obtain ⟨u1, I1, du1⟩ := nd_put (tk := s.toks + (nestedKind X.prog X.w).draws (nkey b)) I h1 hw hsys (by omega) hx' hs er2 hl3.2
          exact ⟨_, I1, k _ μ Ext.refl (grow_wr h1 hw) (so.put hm h1 hw (.dic upd_same du1))⟩
      · cases hf
    · cases hf
  · cases hf
end
end Ev
set_option Elab.async false
set_option linter.all false
set_option maxRecDepth 100000
set_option maxHeartbeats 4000000
/-! Ev, sets: len(set(xs)), sorted(set(xs)), xs a list of whole numbers or of texts. -/
namespace Ev
open PySem PySem.Spec PyProof.Rows L2

/-- the key that a value is -/
def kOf : Value → Option Key
  | .int i _ => some (.inl i)
  | .str x _ => some (.inr x)
  | _ => none
def kAt (e : Int × Value) : Key := (kOf e.2).getD (.inl 0)
def GoodK (w : World) (e : Int × Value) : Prop := ∃ k, kOf e.2 = some k ∧ e.1 = keyH w k
theorem kOf_is {k : Key} {v : Value} : keyIs k v = true ↔ kOf v = some k := by
  constructor
  · intro h
    rcases keyIs_shape h with ⟨i, t, rfl, rfl⟩ | ⟨x, t, rfl, rfl⟩ <;> rfl
  · intro h
    cases v <;> simp [kOf] at h <;> subst h
    · exact keyIs_int _ _
    · exact keyIs_str _ _
theorem kOf_scan {k : Key} {v : Value} (h : kOf v = some k) : v.scannable = true := by
  cases v <;> simp [kOf] at h <;> rfl
def memK (j : Key) (l : List Key) : Bool := l.any fun x => decide (x = j)
theorem memK_iff {j : Key} {l : List Key} : memK j l = true ↔ j ∈ l := by simp [memK]
/-- the set of keys at a -/
def SetX (w : World) (h : Heap) (a : Addr) (S : Key → Bool) (n : Nat) : Prop :=
  ∃ o es ep t, h.get? a = some o ∧ o.ExactSet ∧ o.data = .set es ep t ∧ (∀ e ∈ es.toList, GoodK w e) ∧ (es.toList.map kAt).Nodup ∧ (∀ k, S k = true ↔ k ∈ es.toList.map kAt) ∧
    es.size < scanBound ∧ t.fits es.size = true ∧ es.size = n ∧ Ris t.place.toList ∧ (w.params.followText "set-order" = true ∨ t.led = true)
section
variable {P : Program} {w : World} {h h' : Heap} {a : Addr} {S : Key → Bool} {n : Nat}
theorem SetX.at (R : SetX w h a S n) (k : ∀ o, h.get? a = some o → h'.get? a = some o) : SetX w h' a S n := by
  obtain ⟨o, es, ep, t, ho, r⟩ := R
  exact ⟨o, es, ep, t, k o ho, r⟩
theorem SetX.congr {S' : Key → Bool} (R : SetX w h a S n) (e : ∀ k, S' k = S k) : SetX w h a S' n := by
  have q : S' = S := funext e
  rw [q]; exact R
theorem goodK_elems {l : List (Int × Value)} (g : ∀ e ∈ l, GoodK w e) : ElemsOf (mixKind P w) l := fun e he => by
  obtain ⟨k, h1, h2⟩ := g e he
  exact ⟨⟨k, kOf_is.2 h1, h2⟩, kOf_scan h1⟩
theorem goodK_is {e : Int × Value} (g : GoodK w e) (k : Key) : (mixKind P w).is k e.2 = true ↔ kAt e = k := by
  obtain ⟨k0, h1, _⟩ := g
  rw [mixKind_is, kOf_is]
  unfold kAt
  rw [h1]
  simp
theorem goodK_mem {l : List (Int × Value)} (g : ∀ e ∈ l, GoodK w e) (k : Key) : k ∈ l.map kAt ↔ ∃ e ∈ l, (mixKind P w).is k e.2 = true := by
  rw [List.mem_map]
  constructor
  · rintro ⟨e, he, q⟩
    exact ⟨e, he, (goodK_is (g e he) k).2 q⟩
  · rintro ⟨e, he, q⟩
    exact ⟨e, he, (goodK_is (g e he) k).1 q⟩
end
section
variable {P : Program} {w : World} {A : Around} {E : Value → Shared → Prop} {s : Shared} {a : Addr} {S : Key → Bool} {n : Nat}
theorem setX_add_tail {g : Bool → Sem Unit} (hg : ∀ (b : Bool) (s₁ : Shared) (Q' : Unit → Shared → Prop), Q' () s₁ → wpAny (model P w) A (g b) Q' E s₁)
    {o : Obj} {es : Array (Int × Value)} {ep : Nat} {t : SetTable} (ho : s.heap.get? a = some o) (hex : o.ExactSet) (hd : o.data = .set es ep t)
    {es1 : Array (Int × Value)} {t2 : SetTable} {S' : Key → Bool} (g1 : ∀ e ∈ es1.toList, GoodK w e) (nd1 : (es1.toList.map kAt).Nodup) (m1 : ∀ k, S' k = true ↔ k ∈ es1.toList.map kAt)
    (hb1 : es1.size < scanBound) (hf2 : t2.fits es1.size = true) (hr : Ris t2.place.toList) (hl : w.params.followText "set-order" = true ∨ t2.led = true) {wasDummy : Bool} {R : Option Bool → Shared → Prop}
    (hR : ∀ h', Heap.SameBut a s.heap h' → SetX w h' a S' es1.size → R (some true) { s with heap := h' }) :
    wpAny (model P w) A (do
        storeSet a es1 t2
        if (!wasDummy && t2.tooFull) = true then do
            g (relayAll t2 es1 (SetTable.grown es1.size)).2.2
            storeSet a (relayAll t2 es1 (SetTable.grown es1.size)).1 (relayAll t2 es1 (SetTable.grown es1.size)).2.1
            pure (some true)
          else pure (some true)) R E s := by
  refine wpAny_bind (wpAny_storeSet_of ho hd ?_ (fits_of_scanBound hb1))
  have ho1 := store_at (es' := es1) (t' := t2) ho hd
  have sb1 := Heap.SameBut.update s.heap a (Obj.putSet es1 t2)
  split
  · have pm := relayAll_perm t2 es1 (SetTable.grown es1.size)
    have hf3 := relayAll_fits t2 es1 (SetTable.grown es1.size)
    have hr3 := relayAll_ris t2 es1 (SetTable.grown es1.size)
    have hl3 := relayAll_led t2 es1 (SetTable.grown es1.size)
    generalize relayAll t2 es1 (SetTable.grown es1.size) = Z at pm hf3 hr3 hl3 ⊢
    obtain ⟨es2, t3, gave⟩ := Z
    dsimp only at pm hf3 hr3 hl3 ⊢
    have hsz : es2.size = es1.size := by rw [← Array.length_toList, pm.length_eq, Array.length_toList]
    have hb2 : es2.size < scanBound := by rw [hsz]; exact hb1
    refine wpAny_bind (hg _ _ _ ?_)
    refine wpAny_bind (wpAny_storeSet_of ho1 rfl ?_ (fits_of_scanBound hb2))
    have ho2 := store_at (es' := es2) (t' := t3) ho1 rfl
    refine wpAny_pure (hR _ (sb1.trans (Heap.SameBut.update _ a _)) ?_)
    exact ⟨_, es2, _, t3, ho2, hex, rfl, fun e he => g1 e (pm.mem_iff.mp he), (pm.map kAt).nodup_iff.mpr nd1, fun k => (m1 k).trans (pm.map kAt).mem_iff.symm, hb2, hf3, hsz, hr3,
      hl.imp id fun z => by rw [hl3]; exact z⟩
  · exact wpAny_pure (hR _ sb1 ⟨_, es1, _, t2, ho1, hex, rfl, g1, nd1, m1, hb1, hf2, rfl, hr, hl⟩)

theorem setX_add_hashed {k : Key} {v : Value} (hv : kOf v = some k) {Q : Bool → Shared → Prop} (R : SetX w s.heap a S n) (room : n + 1 < scanBound)
    (hQ : ∀ h', Heap.SameBut a s.heap h' → SetX w h' a (fun j => S j || decide (j = k)) (if S k = true then n else n + 1) → Q (!S k) { s with heap := h' }) :
    wpAny (model P w) A (setAddHashed a v ((mixKind P w).hash k)) Q E s := by
  obtain ⟨o, es, ep, t, ho, hex, hd, g, nd, hm, hb, hf, hn, hr, hl⟩ := R
  have hkey : (mixKind P w).is k v = true := kOf_is.2 hv
  have hsc : v.scannable = true := kOf_scan hv
  have hel : ElemsOf (mixKind P w) es.toList := goodK_elems g
  unfold setAddHashed setAddHashedIn
  refine wpAny_holding (wpAny_bind (wpAny_setState_of ho hd hf ?_))
  dsimp only
  rw [byScan_of hsc hb hel]
  simp only [↓reduceIte]
  unfold setAddByScan
  refine wpAny_bind ?_
  refine wpAny_bind (wpAny_rule ?_)
  refine wpAny_bind (wpAny_setScan_of hkey ho hd hf hel ?_)
  cases hfi : List.findIdx? (fun e => (mixKind P w).is k e.2) es.toList with
  | some j =>
    dsimp only
    obtain ⟨hj, pj, _⟩ := List.findIdx?_eq_some_iff_getElem.mp hfi
    have hSk : S k = true := (hm k).2 ((goodK_mem (P := P) (w := w) g k).2 ⟨es.toList[j], List.getElem_mem hj, pj⟩)
    refine wpAny_pure (wpAny_pure ?_)
    have q := hQ s.heap (Heap.SameBut.refl a s.heap) ⟨o, es, ep, t, ho, hex, hd, g, nd, fun i => by
      rw [Bool.or_eq_true, decide_eq_true_eq, ← hm i]
      exact ⟨fun z => z.elim id (fun e => e ▸ hSk), .inl⟩, hb, hf, by rw [if_pos hSk]; exact hn, hr, hl⟩
    rw [hSk] at q
    exact q
  | none =>
    dsimp only
    have hnk : k ∉ es.toList.map kAt := fun z => by
      obtain ⟨e, he, q⟩ := (goodK_mem (P := P) (w := w) g k).1 z
      have c := List.findIdx?_eq_none_iff.mp hfi e he
      rw [q] at c
      cases c
    have hSk : S k = false := by
      cases q : S k with
      | false => rfl
      | true => exact absurd ((hm k).1 q) hnk
    have hgw : ∀ (b : Bool) {s₁ : Shared} {Q' : Unit → Shared → Prop}, Q' () s₁ → wpAny (model P w) A (match b with | true => rule "set.scan.the-table-gave-way" | false => pure ()) Q' E s₁ :=
      fun b s₁ Q' q => by cases b <;> first | exact wpAny_pure q | exact wpAny_rule q
    have pm := layNew_perm t es ((mixKind P w).hash k) v
    have hf1 := layNew_fits t es ((mixKind P w).hash k) v
    have hr1 := layNew_ris t es ((mixKind P w).hash k) v hr
    have hl1 := layNew_led t es ((mixKind P w).hash k) v
    generalize layNew t es ((mixKind P w).hash k) v = Z at pm hf1 hr1 hl1 ⊢
    obtain ⟨es1, t1, wasDummy, gave⟩ := Z
    dsimp only at pm hf1 hr1 hl1 ⊢
    rw [Array.toList_push] at pm
    have pc : es1.toList.Perm (((mixKind P w).hash k, v) :: es.toList) := pm.trans (List.perm_append_singleton _ _)
    have hkv : kAt ((mixKind P w).hash k, v) = k := by unfold kAt; rw [hv]; rfl
    have pk : (es1.toList.map kAt).Perm (k :: es.toList.map kAt) := by
      have q := pc.map kAt
      rw [List.map_cons, hkv] at q
      exact q
    have g1 : ∀ e ∈ es1.toList, GoodK w e := fun e he => by
      rcases List.mem_cons.mp (pc.mem_iff.mp he) with z | z
      · rw [z]; exact ⟨k, hv, rfl⟩
      · exact g e z
    have nd1 : (es1.toList.map kAt).Nodup := pk.nodup_iff.mpr (List.nodup_cons.mpr ⟨hnk, nd⟩)
    have m1 : ∀ i, (S i || decide (i = k)) = true ↔ i ∈ es1.toList.map kAt := fun i => by
      rw [Bool.or_eq_true, decide_eq_true_eq, hm i, pk.mem_iff, List.mem_cons]
      exact Or.comm
    have hsz : es1.size = n + 1 := by rw [← Array.length_toList, pc.length_eq, List.length_cons, Array.length_toList, hn]
    have hb1 : es1.size < scanBound := by rw [hsz]; exact room
    have hled : w.params.followText "set-order" = true ∨ t1.led = true := hl.imp id fun z => by rw [hl1]; exact z
    have fin : ∀ h', Heap.SameBut a s.heap h' → SetX w h' a (fun j => S j || decide (j = k)) es1.size → Q true { s with heap := h' } := fun h' sb r => by
      have q := hQ h' sb
      rw [hSk] at q
      rw [hsz] at r
      exact q r
    refine wpAny_bind (hgw _ ?_)
    split
    · refine wpAny_bind ?_
      rw [hashByValue_scannable 8 hsc]
      refine wpAny_pure ?_
      refine setX_add_tail ?_ ho hex hd g1 nd1 m1 hb1 ?_ ?_ ?_ ?_
      · intro b s₁ Q' q; cases b <;> first | exact wpAny_pure q | exact wpAny_rule q
      · first | (split <;> first | exact hf1 | exact SetTable.fits_plain_off hf1) | exact hf1
      · first | (split <;> exact hr1) | exact hr1
      · first | (split <;> exact hled) | exact hled
      · intro h' sb r; dsimp only; exact wpAny_pure (fin h' sb r)
    · refine wpAny_bind (wpAny_pure ?_)
      simp only [↓reduceIte]
      refine setX_add_tail ?_ ho hex hd g1 nd1 m1 hb1 hf1 hr1 hled ?_
      · intro b s₁ Q' q; cases b <;> first | exact wpAny_pure q | exact wpAny_rule q
      · intro h' sb r; dsimp only; exact wpAny_pure (fin h' sb r)
theorem setX_new_at {w : World} {h : Heap} {a : Addr} {ks : List Key} (ho : h.get? a = some { cls := .type "set", dict := none, data := .set #[] 0 (.fresh 0 0 (!w.params.followText "set-order")) }) : SetX w h a (fun j => memK j (ks.take 0)) 0 :=
  ⟨_, #[], 0, _, ho, ⟨rfl, rfl, rfl⟩, rfl, (fun e he => by simp at he), (by simp), (fun k => by simp [memK]), (by decide), (by rfl), rfl, List.Pairwise.nil, by
    show _ ∨ (!w.params.followText "set-order") = true
    cases w.params.followText "set-order"
    · exact .inr rfl
    · exact .inl rfl⟩
end
section
variable {P : Program} {w : World} {A : Around} {E : Value → Shared → Prop} {s : Shared}
theorem setX_update {I : Addr} {fp wr : List Addr} {G : Array GenState → Array GenState → Prop} {n : Nat} {Pv : Nat → Value → Prop} {St : Nat → Shared → Prop} {R : Result → Shared → Prop}
    (W : WalksS P w A.in1 I fp wr G n Pv St) (S : Addr) (hSf : S ∉ fp) (ns : List Key) (hn : n = ns.length) (hb : ns.length + 1 < scanBound) (hval : ∀ i v, Pv i v → ∃ k, ns[i]? = some k ∧ kOf v = some k) :
    ∀ (k i : Nat) (s : Shared), n - i = k → i ≤ n → St i s → (∃ c, c ≤ i ∧ SetX w s.heap S (fun j => memK j (ns.take i)) c) →
      (∀ s' c, Moved (S :: wr) G s s' → c ≤ n → SetX w s'.heap S (fun j => memK j (ns)) c → R (.ok (.ret .none)) s') →
      codeAny (model P w) A (.builtin "set.update.loop" ⟨[.ref S, .ref I], []⟩) R s := by
  have hSw : S ∉ wr := fun h => hSf (W.sub _ h)
  have hsub : ∀ b ∈ wr, b ∈ S :: wr := fun b hb => List.mem_cons_of_mem _ hb
  intro k
  induction k with
  | zero =>
    intro i s hk' hi hst ⟨c, hc, hS⟩ hR
    have hin : i = n := by omega
    subst hin
    refine codeAny_builtin F.entry_set_update_loop ?_
    rw [Around.under_plainId F.plain_set_update_loop _]
    show wpAny _ A.in1 (pyNext (.ref I) >>= _) _ _ s
    refine wpAny_bind (W.done s _ _ hst fun s' hm => ?_)
    show wpAny _ A.in1 (ret Value.none) _ _ s'
    have e : ns.take i = ns := List.take_of_length_le (by omega)
    rw [e] at hS
    exact wpAny_pure (hR s' c (hm.mono hsub) hc (hS.at fun o e => hm.heap S o hSw e))
  | succ k ih =>
    intro i s hk' hi hst ⟨c, hc, hS⟩ hR
    have hlt : i < n := by omega
    refine codeAny_builtin F.entry_set_update_loop ?_
    rw [Around.under_plainId F.plain_set_update_loop _]
    show wpAny _ A.in1 (pyNext (.ref I) >>= _) _ _ s
    refine wpAny_bind (W.item i s _ _ hlt hst fun v s' hP hst' hm => ?_)
    obtain ⟨z, hz, hv⟩ := hval i v hP
    have hS' : SetX w s'.heap S (fun j => memK j (ns.take i)) c := hS.at fun o e => hm.heap S o hSw e
    show wpAny _ A.in1 (holding [v] (setAdd S v) >>= _) _ _ s'
    refine wpAny_bind (wpAny_holding ?_)
    unfold setAdd
    refine wpAny_holding ?_
    refine wpAny_bind ((mixKind P w).pyHash (k := z) (kOf_is.2 hv) ?_)
    refine setX_add_hashed (s := { s' with toks := s'.toks + 1 }) hv hS' (by omega) fun h' hsb hS2 => ?_
    have hS3 : SetX w h' S (fun j => memK j (ns.take (i + 1))) (if memK z (ns.take i) = true then c else c + 1) := hS2.congr fun j => by
      rw [List.take_add_one, hz]
      unfold memK
      rw [List.any_append]
      simp [eq_comm]
    have hc3 : (if memK z (ns.take i) = true then c else c + 1) ≤ i + 1 := by
      split <;> omega
    refine wpAny_pure ⟨plainId_quiet F.plain_set_update_loop _, ih (i + 1) _ (by omega) hlt (W.frame _ s' _ _ hst' (Nat.le_succ _) fun b hb o e => ?_) ⟨_, hc3, hS3⟩ fun s'' c2 hm'' hc'' hS'' => ?_⟩
    · rw [hsb.2 b (fun h : b = S => hSf (by rw [← h]; exact hb))]; exact e
    · refine hR s'' c2 (Moved.trans W.gtrans ((hm.mono hsub).then_heap (Nat.le_succ _) fun b o hb e => ?_) hm'') hc'' hS''
      rw [hsb.2 b (fun h : b = S => hb (by rw [h]; exact List.mem_cons_self))]; exact e

theorem call_set_keys {l : Addr} {items : Array Value} (ks : List Key) {Q : Value → Shared → Prop} (hh : A.handled = none) (hl : s.heap.IsList l items) (hit : items.toList.map kOf = ks.map some) (hb : ks.length + 1 < scanBound)
    (h : ∀ (h' : Heap) (tk c : Nat), SetX w h' s.heap.objs.size (fun j => memK j (ks)) c → c ≤ ks.length → (∀ b o, s.heap.get? b = some o → h'.get? b = some o) → Q (.ref s.heap.objs.size) { s with heap := h', toks := tk }) :
    wpAny (model P w) A (call (.type "set") [.ref l]) Q E s := by
  have hisz : items.size = ks.length := by
    have q := congrArg List.length hit
    rw [List.length_map, List.length_map, Array.length_toList] at q
    exact q
  obtain ⟨c, tl, hmro⟩ := F.called_set.mro
  have hmade := F.called_set.made
  have hsub := F.called_set.sub
  refine wpAny_call (codeAny_of_tree ?_)
  show wpAny _ _ (callAny (.type "set") _) _ _ _
  refine wpAny_pure ⟨Code.quiet_builtin _ (by decide +kernel), codeAny_builtin F.entry_type_call ?_⟩
  rw [Around.under_plain (weight_type_call_type "set" [.ref l] []) rfl]
  have h1 := F.called_set.notType
  have h2 := F.called_set.canCreate
  have hct := F.typeCall_set_1 (.ref l)
  repeat (any_goals (first | assumption | wp_step))
  refine codeAny_mono (code_set_led1 (.ref l) (E := E) (Q₁ := fun obj s₁ => obj = .ref s.heap.objs.size ∧ s₁ = { s with heap := s.heap.push { cls := .type "set", dict := none, data := .set #[] 0 (.fresh 0 0 (!w.params.followText "set-order")) } }) ⟨rfl, rfl⟩) fun r s₁ hr => ?_
  cases r with
  | error e => exact hr
  | ok fl =>
    cases fl with
    | ret obj =>
      obtain ⟨rfl, rfl⟩ := hr
      have hS : (s.heap.push { cls := .type "set", dict := none, data := .set #[] 0 (.fresh 0 0 (!w.params.followText "set-order")) }).get? s.heap.objs.size = some { cls := .type "set", dict := none, data := .set #[] 0 (.fresh 0 0 (!w.params.followText "set-order")) } := Heap.get?_push_size _ rfl
      have hT : Shared.TypeIs { s with heap := s.heap.push { cls := .type "set", dict := none, data := .set #[] 0 (.fresh 0 0 (!w.params.followText "set-order")) } } (.ref s.heap.objs.size) "set" := ⟨_, hS, rfl⟩
      have hli := F.called_set.init.lookup
      have hbi := F.called_set.init.bind (.ref s.heap.objs.size)
      repeat (any_goals (first | assumption | wp_step))
      refine codeAny_mono (codeAny_call_builtin (R := wants (fun r s₂ => r = .none ∧ ∃ h' tk c, s₂ = { s with heap := h', toks := tk } ∧ SetX w h' s.heap.objs.size (fun j => memK j (ks)) c ∧ c ≤ ks.length ∧
          (∀ b o, s.heap.get? b = some o → h'.get? b = some o)) E) F.called_set.init.plain F.entry_set_init (check_set_init_1 hT ?_)) fun r₂ s₂ hr₂ => ?_
      · obtain ⟨ol, hol, hcl, nl, hdl⟩ := hl
        obtain ⟨ocls, odict, odata, oslots⟩ := ol
        simp only at hcl hdl
        subst hcl; subst hdl
        have hol' : (s.heap.push { cls := .type "set", dict := none, data := .set #[] 0 (.fresh 0 0 (!w.params.followText "set-order")) }).get? l = some { cls := .type "list", dict := odict, data := .seq items nl, slots := oslots } := Heap.get?_push_of_some _ hol
        have hsls := F.sub_list_set
        have hslf := F.sub_list_frozenset
        have hne : (Value.type "list" == Value.type "dict") = false := by decide
        have hl1 : (s.heap.push { cls := .type "set", dict := none, data := .set #[] 0 (.fresh 0 0 (!w.params.followText "set-order")) }).IsList l items := ⟨_, hol', rfl, nl, rfl⟩
        unfold Builtin.«set.__init__» noKeywords Builtin.Frozenset.updateFrom
        generalize hPI : pyIter = PI
        wp_walk
        subst hPI
        refine wpAny_pyIter_list hl1 ?_
        refine wpAny_bind (wpAny_runValue ?_)
        have hlS : l < s.heap.objs.size := Heap.lt_size hol
        have hh3 : A.in1.in1.in1.handled = none := by simp [hh]
        have hneI : l ≠ (s.heap.push { cls := .type "set", dict := none, data := .set #[] 0 (.fresh 0 0 (!w.params.followText "set-order")) }).objs.size := by
          rw [Heap.size_push]; exact Nat.ne_of_lt (Nat.lt_succ_of_lt hlS)
        have hSf : s.heap.objs.size ∉ [(s.heap.push { cls := .type "set", dict := none, data := .set #[] 0 (.fresh 0 0 (!w.params.followText "set-order")) }).objs.size, l] := by
          rw [Heap.size_push]; simp only [List.mem_cons, List.mem_singleton, List.not_mem_nil, or_false, not_or]
          exact ⟨Nat.ne_of_lt (Nat.lt_succ_self _), Nat.ne_of_gt hlS⟩
        have hval : ∀ (i : Nat) (v : Value), items[i]? = some v → ∃ k, ks[i]? = some k ∧ kOf v = some k := fun i v hv => by
          have q : items.toList[i]? = some v := by rw [Array.getElem?_toList]; exact hv
          have q2 := congrArg (fun (l : List (Option Key)) => l[i]?) hit
          simp only [List.getElem?_map, q, Option.map_some] at q2
          cases hq : ks[i]? with
          | none => rw [hq] at q2; cases q2
          | some k =>
            rw [hq] at q2
            exact ⟨k, rfl, Option.some.inj q2⟩
        refine setX_update ((Walks.list hh3 _ l hneI items).toS) s.heap.objs.size
          hSf ks hisz hb hval (items.size - 0) 0 _ (by omega) (Nat.zero_le _)
          ⟨⟨_, Heap.get?_push_size _ rfl, rfl, rfl⟩, (hl1.push _)⟩ ?hS0 ?hR
        case hS0 =>
          have hget : ((s.heap.push { cls := .type "set", dict := none, data := .set #[] 0 (.fresh 0 0 (!w.params.followText "set-order")) }).push { cls := .type "list_iterator", data := .fields #[.ref l, .int 0 0] }).get? s.heap.objs.size
              = some { cls := .type "set", dict := none, data := .set #[] 0 (.fresh 0 0 (!w.params.followText "set-order")) } := Heap.get?_push_of_some _ hS
          exact ⟨0, Nat.le_refl 0, setX_new_at hget⟩
        case hR =>
          intro s' c' hm hc' hS'
          obtain ⟨h', g2, d', tk', os'⟩ := s'
          have eg : g2 = s.gens := hm.gens
          have ed : d' = s.drawn := hm.drawn
          have eo : os' = s.os := hm.os
          subst eg; subst ed; subst eo
          show wpAny _ _ _ _ _ _
          refine wpAny_pure ?_
          show wpAny _ _ (ret Value.none) _ _ _
          rw [hisz] at hc'
          refine wpAny_pure ⟨rfl, h', tk', c', rfl, hS', hc', fun b o e => ?_⟩
          have hb0 : b < s.heap.objs.size := Heap.lt_size e
          have hb1 : b ≠ s.heap.objs.size := Nat.ne_of_lt hb0
          have hb2 : b ≠ (s.heap.push { cls := .type "set", dict := none, data := .set #[] 0 (.fresh 0 0 (!w.params.followText "set-order")) }).objs.size := by
            rw [Heap.size_push]; exact Nat.ne_of_lt (Nat.lt_succ_of_lt hb0)
          exact hm.heap b o (by simp only [List.mem_cons, List.mem_singleton, List.not_mem_nil, or_false, not_or]; exact ⟨hb1, hb2⟩) (Heap.get?_push_of_some _ (Heap.get?_push_of_some _ e))
      · cases r₂ with
        | error e => exact hr₂
        | ok fl₂ =>
          cases fl₂ with
          | ret r =>
            obtain ⟨rfl, h', tk, c', rfl, hS', hc', hk'⟩ := hr₂
            repeat (any_goals (first | assumption | wp_step))
            exact h _ _ _ hS' hc' hk'
          | _ => exact hr₂.elim
    | _ => exact hr.elim
/-- the members' number is that of the first ones -/
theorem setX_len {h : Heap} {a : Addr} {ks : List Key} {c : Nat} (R : SetX w h a (fun j => memK j (ks)) c) {l : List Key} (hl : l.Nodup) (hm : ∀ k, k ∈ l ↔ k ∈ ks) : c = l.length := by
  obtain ⟨o, es, ep, t, ho, hex, hd, g, nd, hm2, hb, hf, hn, hr, hl2⟩ := R
  have p : (es.toList.map kAt).Perm l := (List.perm_ext_iff_of_nodup nd hl).mpr fun k => by
    rw [← hm2 k, memK_iff, hm k]
  have e := p.length_eq
  rw [List.length_map, Array.length_toList, hn] at e
  exact e
/-- sorted(set), all of it texts -/
theorem setX_sorted {a : Addr} {xs : List Str} {n : Nat} {Q : Value → Shared → Prop} (R : SetX w s.heap a (fun j => memK j (xs.map Sum.inr)) n) (hh : A.handled = none) (h64 : n < 64)
    (hQ : ∀ s' p (out : Array Value) (c : Nat) (ys : List Str), (∀ b o, s.heap.get? b = some o → s'.heap.get? b = some o) → s'.gens = s.gens → s'.os = s.os → s.heap.objs.size ≤ p →
      s'.heap.get? p = some (seqObj "list" out c) → StrsAre out.toList ys → sortedS ys = true → ys.Nodup → (∀ k, k ∈ ys ↔ k ∈ xs) → Q (.ref p) s') :
    wpAny (model P w) A (call (.builtin "sorted") [.ref a]) Q E s := by
  obtain ⟨o, es, ep, t, ho, hex, hd, g, nd, hm, hb, hf, hn, hr, hl⟩ := R
  refine Calls.call_function_entry kind_sorted plain_sorted entry_sorted (args_sorted1 _) ?_
  unfold Builtin.«sorted»
  refine wpAny_bind (m := checkCount "sorted" 1 1 _) (wpAny_pure ?_)
  refine wpAny_bind (collect_set (A := A.in1) hh ⟨o, ho, hex.1, hd⟩ hf hb hr hl fun s1 vs k1 hz g1 o1 pm => ?_)
  have hvl : vs.length = n := by rw [pm.length_eq, List.length_map, Array.length_toList]; exact hn
  have hall : ∀ v ∈ vs, ∃ x tk, v = Value.str x tk := fun v hv => by
    obtain ⟨e, he, q⟩ := List.mem_map.mp (pm.mem_iff.mp hv)
    obtain ⟨k, h1, _⟩ := g e he
    have h2 := (hm k).mpr (List.mem_map.mpr ⟨e, he, by unfold kAt; rw [h1]; rfl⟩)
    rw [memK_iff] at h2
    obtain ⟨x, _, rfl⟩ := List.mem_map.mp h2
    rw [← q]
    revert h1
    cases e.2 <;> intro h1 <;> simp [kOf] at h1
    exact ⟨_, _, rfl⟩
  have hS : StrsAre vs (vs.map PyProof.Rows.strOf) := strsAre_map vs hall
  have pk : ((vs.map PyProof.Rows.strOf).map (Sum.inr : Str → Key)).Perm (es.toList.map kAt) := by
    have q := pm.map (fun v => (kOf v).getD (Sum.inl 0))
    rw [List.map_map] at q
    have e1 : (vs.map fun v => (kOf v).getD (Sum.inl 0)) = (vs.map PyProof.Rows.strOf).map (Sum.inr : Str → Key) := by
      rw [List.map_map]
      refine List.map_congr_left fun v hv => ?_
      obtain ⟨x, tk, rfl⟩ := hall v hv
      rfl
    rw [e1] at q
    exact q
  refine wpAny_bind (wpAny_newList ?_ (by rw [hvl, sizeLine_eq]; omega))
  have hoL : (s1.heap.push (seqObj "list" vs.toArray 0)).get? s1.heap.objs.size = some (seqObj "list" vs.toArray 0) := Heap.get?_push_size _ rfl
  refine wpAny_bind (wpAny_holding (wpAny_call_entry slot_list_sort ⟨_, hoL, rfl⟩ entry_list_sort (list_sort_treeK strKind_oneLt hoL hS.keysOf (fun v₁ v₂ rest e => keyKind_strs (by rw [← e]; exact hS)) (by rw [hvl]; exact h64) fun st' hp hs => ⟨_, rfl, ?_⟩) (args_list_sort _)))
  obtain ⟨ys, a1, a2, a3⟩ := sorted_out_str hS hp hs
  obtain ⟨c, hc⟩ := sortedHeap_at (vs := vs) (out := (arrOf st').map (·.2)) hoL
  have pn : (ys.map (Sum.inr : Str → Key)).Perm (es.toList.map kAt) := (a2.map _).trans pk
  have nd2 : (ys.map (Sum.inr : Str → Key)).Nodup := pn.nodup_iff.mpr nd
  refine wpAny_pure ⟨_, rfl, hQ _ s1.heap.objs.size _ c ys (fun b u e => ?_) g1 o1 hz hc a1 a3 (List.Pairwise.of_map _ (fun _ _ hne e => hne (congrArg _ e)) nd2) (fun k => ?_)⟩
  · have q := k1 b u e
    have hlt := Heap.lt_size q
    show (sortedHeap (s1.heap.push (seqObj "list" vs.toArray 0)) s1.heap.objs.size vs _).get? b = some u
    rw [sortedHeap_old (Nat.ne_of_lt hlt) (by rw [size_push']; exact Nat.lt_succ_of_lt hlt)]
    exact Heap.get?_push_of_some _ q
  · have q := (pn.mem_iff (a := Sum.inr k)).trans (hm (Sum.inr k)).symm
    rw [memK_iff] at q
    simpa using q
end
end Ev
set_option Elab.async false
set_option linter.all false
set_option maxRecDepth 100000
set_option maxHeartbeats 2000000
/-! Ev, part F: the built-in functions. -/
namespace Ev
open PySem PySem.Spec PyProof.Rows L2

/-! ### sorted lists -/
theorem perm_sorted_eq {α : Type} {le : α → α → Bool} (anti : ∀ a b, le a b = true → le b a = true → a = b) : ∀ {l m : List α}, l.Perm m → l.Pairwise (fun a b => le a b = true) → m.Pairwise (fun a b => le a b = true) → l = m
  | [], m, p, _, _ => (List.Perm.eq_nil p.symm).symm
  | x :: l, [], p, _, _ => absurd p.length_eq (by simp)
  | x :: l, y :: m, p, hl, hm => by
    have e : x = y := by
      rcases List.mem_cons.mp (p.mem_iff.mp List.mem_cons_self) with e | hx
      · exact e
      · rcases List.mem_cons.mp (p.mem_iff.mpr List.mem_cons_self) with e | hy
        · exact e.symm
        · exact anti _ _ ((List.pairwise_cons.mp hl).1 _ hy) ((List.pairwise_cons.mp hm).1 _ hx)
    subst e
    rw [perm_sorted_eq anti p.cons_inv (List.pairwise_cons.mp hl).2 (List.pairwise_cons.mp hm).2]
theorem strLe_lt {x y : Str} : strLe x y = true ↔ ¬ y.cps.toList < x.cps.toList := by
  unfold strLe
  rw [decide_eq_true_eq]
  exact Iff.rfl
theorem str_ext {x y : Str} (h : x.cps.toList = y.cps.toList) : x = y := by
  obtain ⟨a⟩ := x
  obtain ⟨b⟩ := y
  have : a = b := Array.toList_inj.mp h
  rw [this]
theorem strLe_anti (x y : Str) (h1 : strLe x y = true) (h2 : strLe y x = true) : x = y := by
  unfold strLe at h1 h2
  rw [decide_eq_true_eq] at h1 h2
  exact str_ext (List.le_antisymm h1 h2)
theorem strLe_trans (x y z : Str) (h1 : strLe x y = true) (h2 : strLe y z = true) : strLe x z = true := by
  unfold strLe at *
  rw [decide_eq_true_eq] at *
  exact List.le_trans h1 h2
theorem strLe_total (x y : Str) : (strLe x y || strLe y x) = true := by
  unfold strLe
  rw [Bool.or_eq_true, decide_eq_true_eq, decide_eq_true_eq]
  exact List.le_total _ _
theorem risingS_le : ∀ {p : Str} {l : List Str}, risingS p l = true → (p :: l).Pairwise (fun a b => strLe a b = true)
  | p, [], _ => List.pairwise_singleton _ _
  | p, x :: r, h => by
    unfold risingS at h
    rw [Bool.and_eq_true, Bool.not_eq_true', ltCps_eq, decide_eq_false_iff_not] at h
    have ih := risingS_le h.2
    have hp : strLe p x = true := strLe_lt.mpr h.1
    refine List.pairwise_cons.mpr ⟨fun y hy => ?_, ih⟩
    rcases List.mem_cons.mp hy with rfl | hy
    · exact hp
    · exact strLe_trans _ _ _ hp ((List.pairwise_cons.mp ih).1 y hy)
theorem sortedS_le {l : List Str} (h : sortedS l = true) : l.Pairwise (fun a b => strLe a b = true) := by
  cases l with
  | nil => exact .nil
  | cons p r => exact risingS_le h
theorem sortedS_merge {l m : List Str} (h : sortedS l = true) (p : l.Perm m) : l = m.mergeSort strLe :=
  perm_sorted_eq strLe_anti (p.trans (List.mergeSort_perm _ _).symm) (sortedS_le h) (List.pairwise_mergeSort strLe_trans strLe_total _)
theorem pairLe_iff {p q : Int × Int} : pairLe p q = true ↔ p.1 < q.1 ∨ (p.1 = q.1 ∧ p.2 ≤ q.2) := by
  unfold pairLe
  rw [decide_eq_true_eq]
theorem pairLe_anti (p q : Int × Int) (h1 : pairLe p q = true) (h2 : pairLe q p = true) : p = q := by
  rw [pairLe_iff] at h1 h2
  refine Prod.ext ?_ ?_ <;> omega
theorem pairLe_trans (p q r : Int × Int) (h1 : pairLe p q = true) (h2 : pairLe q r = true) : pairLe p r = true := by
  rw [pairLe_iff] at *
  omega
theorem pairLe_total (p q : Int × Int) : (pairLe p q || pairLe q p) = true := by
  rw [Bool.or_eq_true, pairLe_iff, pairLe_iff]
  omega
theorem srtd_merge {l m : List (Int × Int)} (h : SrtO.Srtd SrtO.lexB l) (p : l.Perm m) : l = m.mergeSort pairLe :=
  perm_sorted_eq pairLe_anti (p.trans (List.mergeSort_perm _ _).symm) (List.Pairwise.imp (fun {a b} z => by
    rw [pairLe_iff]
    have z := SrtO.lexB_no.mp z
    omega) h) (List.pairwise_mergeSort pairLe_trans pairLe_total _)
theorem nodup_firsts {α : Type} [DecidableEq α] : ∀ l : List α, (firsts l).Nodup ∧ ∀ x, x ∈ firsts l ↔ x ∈ l
  | [] => ⟨.nil, fun x => Iff.rfl⟩
  | a :: r => by
    obtain ⟨h1, h2⟩ := nodup_firsts r
    refine ⟨List.nodup_cons.mpr ⟨fun h => ?_, h1.filter _⟩, fun x => ?_⟩
    · have := (List.mem_filter.mp h).2
      simp at this
    · unfold firsts
      rw [List.mem_cons, List.mem_filter, h2, List.mem_cons]
      by_cases e : x = a <;> simp [e]
/-! ### pairs in a heap -/
theorem pairOf_some {d : D} {p : Int × Int} (h : pairOf d = some p) : d = ofPair p := by
  unfold pairOf at h
  split at h
  · cases h
    rfl
  · cases h
section
variable {X : Cx} {pins : List (Addr × Obj)} {σ : L2.St} {H : Hp} {s : Shared} {μ : List Addr} {S : Store}
theorem pair_is (I : Inv X pins σ H s) {p : Int × Int} {x : V} (r : RelD X.K μ H (ofPair p) x) : ∃ t o t1 t2 n, x = .ref t ∧ s.heap.get? t = some o ∧ o.cls = .type "tuple" ∧ o.data = .seq #[.int p.1 t1, .int p.2 t2] n := by
  cases r with
  | tup h1 h2 =>
    rename_i vs t
    cases h2 with
    | cons a1 a2 =>
      cases a2 with
      | cons b1 b2 =>
        cases b2
        cases a1
        cases b1
        obtain ⟨its, r2, ⟨o, ho, hc, n, hd⟩, _⟩ := I.tuple h1
        obtain ⟨u1, u2, rfl, ⟨t1, rfl⟩, ⟨t2, rfl⟩⟩ := vals2 r2
        exact ⟨t, o, t1, t2, n, rfl, ho, hc, hd⟩
theorem pair_holds (I : Inv X pins σ H s) {p : Int × Int} {x : V} {v : Value} (r : RelD X.K μ H (ofPair p) x) (rv : RelV x v) : PySem.W.Holds s.heap v p := by
  obtain ⟨t, o, t1, t2, n, rfl, ho, hc, hd⟩ := pair_is I r
  cases rv
  exact PySem.W.holds_pair ⟨o, ho, hc, n, hd⟩ (PySem.W.holds_int _ _) (PySem.W.holds_int _ _)
theorem pairs_hold (I : Inv X pins σ H s) : ∀ {ds : List D} {ps : List (Int × Int)} {xs : List V} {vs : List Value}, optAll (ds.map pairOf) = some ps → RelDs X.K μ H ds xs → Vals xs vs → PySem.W.HoldAll s.heap vs ps := by
  intro ds ps xs vs h r rv
  replace h := optAll_some h
  induction ds generalizing ps xs vs with
  | nil =>
    cases r
    cases rv
    cases ps
    · exact PySem.W.HoldAll.nil
    · simp at h
  | cons d ds ih =>
    cases r with
    | cons r1 r2 =>
      cases rv with
      | cons v1 v2 =>
        cases ps with
        | nil => simp at h
        | cons p ps =>
          simp only [List.map_cons, List.cons.injEq] at h
          rw [pairOf_some h.1] at r1
          exact PySem.W.HoldAll.cons (pair_holds I r1 v1) (ih r2 v2 h.2)
theorem pairs_eq : ∀ {ds : List D} {ps : List (Int × Int)}, optAll (ds.map pairOf) = some ps → ds = ps.map ofPair := by
  intro ds ps h
  replace h := optAll_some h
  induction ds generalizing ps with
  | nil => cases ps <;> simp at h; rfl
  | cons d ds ih =>
    cases ps with
    | nil => simp at h
    | cons p ps =>
      simp only [List.map_cons, List.cons.injEq] at h
      rw [List.map_cons, ← ih h.2, pairOf_some h.1]
theorem plain_pair (p : Int × Int) : (PySem.W.Datum.toD p : PyData).canLay0 = true := by
  obtain ⟨a, b⟩ := p
  rfl
theorem holds_uniq {h : Heap} {v : Value} {p q : Int × Int} (a : PySem.W.Holds h v p) (b : PySem.W.Holds h v q) : p = q := by
  obtain ⟨as, ra⟩ := a
  obtain ⟨bs, rb⟩ := b
  have e := PySem.SeqAt.Reads.unique _ _ v as bs (plain_pair p) ra rb
  obtain ⟨p1, p2⟩ := p
  obtain ⟨q1, q2⟩ := q
  simp [PySem.W.Datum.toD] at e
  rw [e.1, e.2]
theorem best_min (p : Int × Int) : ∀ ps : List (Int × Int), PySem.W.minOf p ps = best (fun a b => pairLt b a) p ps := by
  intro ps
  induction ps generalizing p with
  | nil => rfl
  | cons q r ih =>
    show PySem.W.minOf _ r = _
    rw [ih]
    have e : (PySem.W.DatumOrd.lt q p = true) = (pairLt q p = true) := by
      show ((if q.1 = p.1 then decide (q.2 < p.2) else decide (q.1 < p.1)) = true) = _
      unfold pairLt
      rw [decide_eq_true_eq]
      split <;> simp only [decide_eq_true_eq, eq_iff_iff] <;> omega
    simp only [e, best]
theorem best_max (p : Int × Int) : ∀ ps : List (Int × Int), PySem.W.maxOf p ps = best pairLt p ps := by
  intro ps
  induction ps generalizing p with
  | nil => rfl
  | cons q r ih =>
    show PySem.W.maxOf _ r = _
    rw [ih]
    have e : (PySem.W.DatumOrd.lt p q = true) = (pairLt p q = true) := by
      show ((if p.1 = q.1 then decide (p.2 < q.2) else decide (p.1 < q.1)) = true) = _
      unfold pairLt
      rw [decide_eq_true_eq]
      split <;> simp only [decide_eq_true_eq, eq_iff_iff] <;> omega
    simp only [e, best]
end

/-! ### types -/
section
variable {K : PySem.W.Frag} {μ : List Addr} {P : Program} {w : World} {S : Store} {H : Hp}
theorem sqT_ty {a : Addr} {vs : List V} (h : SqT K H a vs) : TyX K H (.ref a) (.type "tuple") := by
  rcases h with (h | ⟨o, h⟩) | ⟨o, its, n, h1, h2, _⟩
  · exact .base (.tup h)
  · exact .fTuple h
  · exact .kTuple h1 h2
theorem tyX_of (so : StOk P w K μ S H) {d : D} {x : V} {t : String} (r : RelD K μ H d x) (h : tyOf S d = some t) : TyX K H x (.type t) := by
  cases d with
  | non => cases h; cases r; exact .base .non
  | bl b => cases h; cases r; exact .base (.bl b)
  | int b => cases h; cases r; exact .base (.int b)
  | str b => cases h; cases r; exact .base (.str b)
  | ty b => cases h
  | tup ds =>
    cases h
    cases r with
    | tup h1 h2 => exact sqT_ty h1
  | rol ds =>
    cases h
    cases r with
    | rol h1 h2 =>
      rcases h1 with ⟨o, h⟩ | ⟨o, its, n, h1, h2, _⟩
      · exact .base (.frz h)
      · exact .kList h1 h2
  | ref n =>
    simp only [tyOf] at h
    split at h
    · cases h
      rename_i e
      obtain ⟨a, vs, rfl, h1, _⟩ := so.lstAt r e
      exact .base (.lst h1)
    · cases h
      rename_i lk e
      obtain ⟨a, u, rfl, h1, du, _⟩ := so.dicAt r e
      cases du with
      | nest hn => exact absurd rfl hn
      | leaf _ p =>
        rcases h1 with h1 | ⟨o, h1⟩
        · exact .base (.dK h1)
        · exact .fDict h1
    · cases h
theorem kit_is {t n : String} (ht : t = "NoneType" ∨ t = "bool" ∨ t = "int" ∨ t = "str" ∨ t = "tuple" ∨ t = "list" ∨ t = "dict") (hn : tyAsk n = true) : PySem.W.kitOne K (.type t) (.type n) = some (isInst t n) := by
  refine kit_ty ?_
  simp only [tyAsk, Bool.or_eq_true, beq_iff_eq] at hn
  rcases ht with rfl | rfl | rfl | rfl | rfl | rfl | rfl <;> rcases hn with ((((rfl | rfl) | rfl) | rfl) | rfl) | rfl <;> decide +kernel
theorem tyOf_in {d : D} {t : String} (h : tyOf S d = some t) : t = "NoneType" ∨ t = "bool" ∨ t = "int" ∨ t = "str" ∨ t = "tuple" ∨ t = "list" ∨ t = "dict" := by
  cases d with
  | ty b => cases h
  | ref n =>
    simp only [tyOf] at h
    split at h
    · cases h; simp
    · cases h; simp
    · cases h
  | _ => cases h; simp
end

/-! ### the calls -/
section
variable {X : Cx}
theorem rd1 {K : PySem.W.Frag} {μ : List Addr} {H : Hp} {d : D} {xs : List V} (r : RelDs K μ H [d] xs) : ∃ x, xs = [x] ∧ RelD K μ H d x := by
  cases r with
  | cons a b => cases b; exact ⟨_, rfl, a⟩
theorem rd2 {K : PySem.W.Frag} {μ : List Addr} {H : Hp} {d e : D} {xs : List V} (r : RelDs K μ H [d, e] xs) : ∃ x y, xs = [x, y] ∧ RelD K μ H d x ∧ RelD K μ H e y := by
  cases r with
  | cons a b =>
    obtain ⟨y, rfl, h⟩ := rd1 b
    exact ⟨_, y, rfl, a, h⟩
abbrev PrR (X : Cx) (p : Pr) := rnD X.prog X.w X.K (primD p)
theorem abs_ok : CallR X (.builtin "abs") (PrR X .abs) := by
  intro pins s σ H xs us Q I r h
  obtain ⟨μ, S, as, d, S', so, rs, hf, k⟩ := h
  replace hf : pAbs as S = .ok d S' := hf
  unfold pAbs at hf
  split at hf
  · cases hf
    obtain ⟨x, rfl, rx⟩ := rd1 rs
    cases rx
    exact call_abs pins s σ H _ us Q I r ⟨_, rfl, k.here so (.int _)⟩
  · cases hf
theorem int_ok : CallR X (.type "int") (PrR X .int) := by
  intro pins s σ H xs us Q I r h
  obtain ⟨μ, S, as, d, S', so, rs, hf, k⟩ := h
  replace hf : pInt as S = .ok d S' := hf
  unfold pInt at hf
  split at hf
  · cases hf
    obtain ⟨x, rfl, rx⟩ := rd1 rs
    cases rx
    exact call_int1 pins s σ H _ us Q I r (.inl ⟨_, rfl, k.here so (.int _)⟩)
  · cases hf
    obtain ⟨x, rfl, rx⟩ := rd1 rs
    cases rx
    exact call_int1 pins s σ H _ us Q I r (.inr ⟨_, rfl, k.here so (.int _)⟩)
  · cases hf
theorem lstOf_at {P : Program} {w : World} {K : PySem.W.Frag} {μ : List Addr} {S : Store} {H : Hp} (so : StOk P w K μ S H) {d : D} {x : V} {n : Nat} {xs : List D} (r : RelD K μ H d x) (h : lstOf S d = some (n, xs)) :
    ∃ a vs, x = .ref a ∧ H a = some (.lst vs) ∧ RelDs K μ H xs vs ∧ μ[n]? = some a ∧ d = .ref n ∧ S[n]? = some (.lst xs) := by
  cases d with
  | ref m =>
    simp only [lstOf] at h
    split at h
    · rename_i e
      cases h
      obtain ⟨a, vs, h1, h2, h3, h4⟩ := so.lstAt r e
      exact ⟨a, vs, h1, h2, h3, h4, rfl, e⟩
    · cases h
  | _ => cases h
theorem dicOf_at {S : Store} {d : D} {n : Nat} {kvs : List (D × D)} {lk : Bool} (h : dicOf S d = some (n, kvs, lk)) : d = .ref n ∧ S[n]? = some (.dic kvs lk) := by
  cases d with
  | ref m =>
    simp only [dicOf] at h
    split at h
    · rename_i e
      cases h
      exact ⟨rfl, e⟩
    · cases h
  | _ => cases h
theorem all_ok (hc : X.calm = true) : CallR X (.builtin "all") (PrR X .all) := by
  intro pins s σ H xs us Q I r h
  obtain ⟨μ, S, as, d, S', so, rs, hf, k⟩ := h
  replace hf : pAll as S = .ok d S' := hf
  unfold pAll at hf
  split at hf
  · split at hf
    · rename_i bs e
      cases hf
      obtain ⟨⟨n, ys⟩, e1, e2⟩ := Option.bind_eq_some_iff.mp e
      obtain ⟨x, rfl, rx⟩ := rd1 rs
      obtain ⟨a, vs, rfl, h1, h2, _⟩ := lstOf_at so rx e1
      have ev := RelDs.of_bools h2 e2
      subst ev
      exact cr_all hc pins s σ H _ us Q I r ⟨a, bs, rfl, SqL.of h1, k.here so (.bl _)⟩
    · cases hf
  · cases hf
theorem any_ok (hc : X.calm = true) : CallR X (.builtin "any") (PrR X .any) := by
  intro pins s σ H xs us Q I r h
  obtain ⟨μ, S, as, d, S', so, rs, hf, k⟩ := h
  replace hf : pAny as S = .ok d S' := hf
  unfold pAny at hf
  split at hf
  · split at hf
    · rename_i bs e
      cases hf
      obtain ⟨⟨n, ys⟩, e1, e2⟩ := Option.bind_eq_some_iff.mp e
      obtain ⟨x, rfl, rx⟩ := rd1 rs
      obtain ⟨a, vs, rfl, h1, h2, _⟩ := lstOf_at so rx e1
      have ev := RelDs.of_bools h2 e2
      subst ev
      exact cr_any hc pins s σ H _ us Q I r ⟨a, bs, rfl, SqL.of h1, k.here so (.bl _)⟩
    · cases hf
  · cases hf
theorem isi_ok : CallR X (.builtin "isinstance") (PrR X .isinst) := by
  intro pins s σ H xs us Q I r h
  obtain ⟨μ, S, as, d, S', so, rs, hf, k⟩ := h
  replace hf : pIsi as S = .ok d S' := hf
  unfold pIsi at hf
  split at hf
  · split at hf
    · rename_i e
      split at hf
      · rename_i hn
        cases hf
        obtain ⟨x, y, rfl, rx, ry⟩ := rd2 rs
        cases ry
        exact call_isi pins s σ H _ us Q I r ⟨x, _, _, _, _, rfl, .ty _, tyX_of so rx e, kit_is (tyOf_in e) hn, k.here so (.bl _)⟩
      · cases hf
    · cases hf
  · cases hf
theorem len_ok (hr : Room 0 X.A) : CallR X (.builtin "len") (PrR X .len) := by
  intro pins s σ H xs us Q I r h
  obtain ⟨μ, S, as, d, S', so, rs, hf, k⟩ := h
  replace hf : pLen as S = .ok d S' := hf
  unfold pLen at hf
  split at hf
  · split at hf
    · rename_i d0 n e
      cases hf
      obtain ⟨x, rfl, rx⟩ := rd1 rs
      have fin : Q (.int n) H := k.here so (.int _)
      unfold lenOf at e
      split at e
      · split at e
        · rename_i hl
          cases e
          cases rx
          exact call_len_str pins s σ H _ us Q I r ⟨_, rfl, lim_line hl, fin⟩
        · cases e
      · split at e
        · rename_i ys e1
          cases e
          obtain ⟨a, vs, rfl, h1, h2⟩ := so.seqAt rx e1
          rw [h2.length] at fin
          exact call_len_seq pins s σ H _ us Q I r ⟨a, vs, rfl, h1, fin⟩
        · obtain ⟨⟨m, kvs, lk⟩, e1, e2⟩ := Option.map_eq_some_iff.mp e
          simp only at e2
          obtain ⟨rfl, e3⟩ := dicOf_at e1
          obtain ⟨a, u, rfl, hrd, du, _⟩ := so.dicAt rx e3
          obtain ⟨u', rfl, ru⟩ := vals1 r
          cases ru
          subst e2
          cases du with
          | leaf hl p =>
            rw [Paired.length p] at fin
            exact d_len I hrd fun t s' I' => ⟨.int _, H, I', ⟨_, rfl⟩, fin⟩
          | nest hn hl p =>
            obtain ⟨ys, hx, er, hsys, hlen⟩ := nd_dict I hrd p
            rw [Paired.length er] at fin
            have hz := line63
            refine call_len_slot (n := ys.length) hx.typeIs PySem.F.slot_dict_len (fun Q' hq => PySem.len_keyed hsys ⟨ys, hx, rfl⟩ (by rw [show (PySem.pairsH ys).length = ys.length from PySem.pairsH_length ys]; exact hq)) (by omega) (by omega) ⟨.int _, H, I.tok _, ⟨_, rfl⟩, fin⟩
    · cases hf
  · cases hf
theorem list_ok : CallR X (.type "list") (PrR X .listOf) := by
  intro pins s σ H xs us Q I r h
  obtain ⟨μ, S, as, d, S', so, rs, hf, k⟩ := h
  replace hf : pList as S = .ok d S' := hf
  unfold pList at hf
  split at hf
  · split at hf
    · rename_i ys e
      cases hf
      obtain ⟨x, rfl, rx⟩ := rd1 rs
      obtain ⟨a, vs, rfl, h1, h2⟩ := so.seqAt rx e
      exact call_list_of pins s σ H _ us Q I r ⟨a, vs, rfl, h1, fun p hp => k.newLst so h2 hp⟩
    · cases hf
  · cases hf
theorem tuple_ok : CallR X (.type "tuple") (PrR X .tupleOf) := by
  intro pins s σ H xs us Q I r h
  obtain ⟨μ, S, as, d, S', so, rs, hf, k⟩ := h
  replace hf : pTuple as S = .ok d S' := hf
  unfold pTuple at hf
  split at hf
  · cases hf
    obtain ⟨x, rfl, rx⟩ := rd1 rs
    cases rx with
    | tup h1 h2 => exact call_tuple_of pins s σ H _ us Q I r ⟨_, _, rfl, .inr ⟨h1, k.here so (.tup h1 h2)⟩⟩
  · split at hf
    · rename_i n ys e
      cases hf
      obtain ⟨x, rfl, rx⟩ := rd1 rs
      obtain ⟨a, vs, rfl, h1, h2, _⟩ := lstOf_at so rx e
      exact call_tuple_of pins s σ H _ us Q I r ⟨a, vs, rfl, .inl ⟨SqL.of h1, fun p hp => k.newTup so h2 hp⟩⟩
    · cases hf
  · cases hf
/-- the item that is found -/
theorem best_at {pins : List (Addr × Obj)} {σ : L2.St} {H : Hp} {s : Shared} {μ : List Addr} {S : Store} (I : Inv X pins σ H s) (so : StOk X.prog X.w X.K μ S H) {ys : List D} {vs : List V} {its : List Value} {ps : List (Int × Int)} (e : optAll (ys.map pairOf) = some ps) (r : RelDs X.K μ H ys vs) (rv : Vals vs its)
    {i : Nat} {v : Value} (hv : its[i]? = some v) {h' : Heap} {p : Int × Int} (hk : ∀ b o, s.heap.get? b = some o → h'.get? b = some o) (hp : PySem.W.Holds h' v p) : ∃ x, RelV x v ∧ RelD X.K μ H (ofPair p) x := by
  have hl := rv.length
  obtain ⟨h1, e1⟩ := List.getElem?_eq_some_iff.mp hv
  obtain ⟨u, hu, ru⟩ := rv.get (List.getElem?_eq_getElem (i := i) (l := vs) (by omega))
  rw [hv] at hu
  cases hu
  obtain ⟨d, hd, rd⟩ := r.get' (List.getElem?_eq_getElem (i := i) (l := vs) (by omega))
  rw [pairs_eq e, List.getElem?_map] at hd
  obtain ⟨q, hq, rfl⟩ := Option.map_eq_some_iff.mp hd
  have ho := PySem.W.Holds.keeps hk (pair_holds I rd ru)
  have := holds_uniq hp ho
  subst this
  exact ⟨_, ru, rd⟩
theorem bestP_some {lt : Int × Int → Int × Int → Bool} {S : Store} {d e : D} (h : bestP lt S d = some e) : ∃ n x xs p ps, lstOf S d = some (n, x :: xs) ∧ optAll ((x :: xs).map pairOf) = some (p :: ps) ∧ e = ofPair (best lt p ps) := by
  unfold bestP at h
  split at h
  · rename_i n x xs e1
    split at h
    · rename_i p ps e2 e3
      cases h
      exact ⟨n, x, xs, p, ps, e1, by rw [List.map_cons, e2]; unfold optAll; rw [e3], rfl⟩
    · cases h
  · cases h
theorem max_ok (hc : X.calm = true) (hr : Room 0 X.A) : CallR X (.builtin "max") (PrR X .max) := by
  intro pins s σ H xs us Q I r h
  obtain ⟨μ, S, as, d, S', so, rs, hf, k⟩ := h
  replace hf : pMax as S = .ok d S' := hf
  have hu := hr.units
  unfold pMax at hf
  split at hf
  · cases hf
    obtain ⟨x, y, rfl, rx, ry⟩ := rd2 rs
    cases rx
    cases ry
    exact call_max2 hc pins s σ H _ us Q I r ⟨_, _, rfl, k.here so (.int _)⟩
  · rename_i d0
    cases hb : bestP pairLt S d0 with
    | none => rw [hb] at hf; cases hf
    | some e =>
      rw [hb] at hf
      cases hf
      obtain ⟨n, y, ys, p, ps, e1, e2, rfl⟩ := bestP_some hb
      obtain ⟨x, rfl, rx⟩ := rd1 rs
      obtain ⟨a, vs, rfl, h1, h2, _⟩ := lstOf_at so rx e1
      obtain ⟨u, rfl, ru⟩ := vals1 r
      cases ru
      obtain ⟨its, rv, pl, hz⟩ := I.list (SqL.of h1)
      refine PySem.W.max_list_datum (I.ok.hd hc) pl.isList (x := p) (xs := ps) (by simpa using pairs_hold I e2 h2 rv) (by show X.A.units + 1 + 1 < cLine; omega) fun i v h' tk hv hp hk => ?_
      rw [best_max] at hp
      obtain ⟨z, rz, rd⟩ := best_at I so e2 h2 rv (i := i) (v := v) (by simpa using hv) hk hp
      exact ⟨z, H, I.kept hk, rz, k.here so rd⟩
  · cases hf
theorem min_ok (hc : X.calm = true) (hr : Room 0 X.A) : CallR X (.builtin "min") (PrR X .min) := by
  intro pins s σ H xs us Q I r h
  obtain ⟨μ, S, as, d, S', so, rs, hf, k⟩ := h
  replace hf : pMin as S = .ok d S' := hf
  have hu := hr.units
  unfold pMin at hf
  split at hf
  · cases hf
    obtain ⟨x, y, rfl, rx, ry⟩ := rd2 rs
    cases rx
    cases ry
    exact call_min2 hc pins s σ H _ us Q I r ⟨_, _, rfl, k.here so (.int _)⟩
  · rename_i d0
    cases hb : bestP (fun a b => pairLt b a) S d0 with
    | none => rw [hb] at hf; cases hf
    | some e =>
      rw [hb] at hf
      cases hf
      obtain ⟨n, y, ys, p, ps, e1, e2, rfl⟩ := bestP_some hb
      obtain ⟨x, rfl, rx⟩ := rd1 rs
      obtain ⟨a, vs, rfl, h1, h2, _⟩ := lstOf_at so rx e1
      obtain ⟨u, rfl, ru⟩ := vals1 r
      cases ru
      obtain ⟨its, rv, pl, hz⟩ := I.list (SqL.of h1)
      refine PySem.W.min_list_datum (I.ok.hd hc) pl.isList (x := p) (xs := ps) (by simpa using pairs_hold I e2 h2 rv) (by show X.A.units + 1 + 1 < cLine; omega) fun i v h' tk hv hp hk => ?_
      rw [best_min] at hp
      obtain ⟨z, rz, rd⟩ := best_at I so e2 h2 rv (i := i) (v := v) (by simpa using hv) hk hp
      exact ⟨z, H, I.kept hk, rz, k.here so rd⟩
  · cases hf
/-- the key of a value, read off the heap -/
def pKey (h : Heap) (v : Value) : Int × Int := match v with
  | .ref t => match h.get? t with
    | some o => match o.data with
      | .seq its _ => match its.toList with
        | [.int i _, .int j _] => (i, j)
        | _ => (0, 0)
      | _ => (0, 0)
    | none => (0, 0)
  | _ => (0, 0)
theorem sorted_ok (hc : X.calm = true) : CallR X (.builtin "sorted") (PrR X .sorted) := by
  intro pins s σ H xs us Q I r h
  obtain ⟨μ, S, as, d, S', so, rs, hf, k⟩ := h
  replace hf : pSorted as S = .ok d S' := hf
  unfold pSorted at hf
  split at hf
  · rename_i d0
    split at hf
    · rename_i zs e
      cases hf
      obtain ⟨x, rfl, rx⟩ := rd1 rs
      unfold sortOf at e
      split at e
      · rename_i n ys e1
        obtain ⟨ps, e2, rfl⟩ := Option.map_eq_some_iff.mp e
        obtain ⟨a, vs, rfl, h1, h2, _⟩ := lstOf_at so rx e1
        obtain ⟨u, rfl, ru⟩ := vals1 r
        cases ru
        obtain ⟨its, rv, pl, hz⟩ := I.list (SqL.of h1)
        let key : Value → Int × Int := pKey s.heap
        have hkey : ∀ {p : Int × Int} {x : V} {v : Value}, RelD X.K μ H (ofPair p) x → RelV x v → Srt.IsPair s.heap v (key v).1 (key v).2 ∧ key v = p ∧ ∃ t, v = .ref t := fun {p x v} rp rv => by
          obtain ⟨t, o, t1, t2, n, rfl, ho, hc, hd⟩ := pair_is I rp
          cases rv
          have e : key (.ref t) = p := by
            show pKey s.heap (.ref t) = p
            unfold pKey
            simp only [ho, hd]
          rw [e]
          exact ⟨⟨t, o, t1, t2, n, rfl, ho, hc, hd⟩, rfl, t, rfl⟩
        have hall : ∀ v ∈ its, ∃ p x, RelD X.K μ H (ofPair p) x ∧ RelV x v ∧ Srt.IsPair s.heap v (key v).1 (key v).2 ∧ key v = p ∧ ∃ t, v = .ref t := fun v hv => by
          obtain ⟨i, hi⟩ := List.getElem?_of_mem hv
          obtain ⟨hi', _⟩ := List.getElem?_eq_some_iff.mp hi
          have hl := rv.length
          obtain ⟨u, hu, ru⟩ := rv.get (List.getElem?_eq_getElem (i := i) (l := vs) (by omega))
          rw [hi] at hu
          cases hu
          obtain ⟨d, hd, rd⟩ := h2.get' (List.getElem?_eq_getElem (i := i) (l := vs) (by omega))
          rw [pairs_eq e2, List.getElem?_map] at hd
          obtain ⟨q, hq, rfl⟩ := Option.map_eq_some_iff.mp hd
          obtain ⟨a1, a2, a3⟩ := hkey rd ru
          exact ⟨q, _, rd, ru, a1, a2, a3⟩
        have hps : its.map key = ps := by
          have go : ∀ {ds : List D} {ps : List (Int × Int)} {vs : List V} {its : List Value}, ds = ps.map ofPair → RelDs X.K μ H ds vs → Vals vs its → its.map key = ps := by
            intro ds ps vs its e r rv
            induction ps generalizing ds vs its with
            | nil => subst e; cases r; cases rv; rfl
            | cons p ps ih =>
              subst e
              cases r with
              | cons r1 r2 =>
                cases rv with
                | cons v1 v2 => rw [List.map_cons, ih rfl r2 v2, (hkey r1 v1).2.1]
          exact go (pairs_eq e2) h2 rv
        refine SrtO.sorted_pairsO (k := key) pl.isList (by rw [← rv.length]; exact hz) (fun v hv => let ⟨p, x, _, _, q, _⟩ := hall v hv; q) fun h' dd out g1 g2 kp hd hn => ?_
        have pm : (out.map key).Perm ps := by rw [← hps]; exact g2.perm.map key
        have eo : out.map key = ps.mergeSort pairLe := srtd_merge (List.pairwise_map.mpr g1) pm
        have ho : ∀ u ∈ out, ∃ p x, RelD X.K μ H (ofPair p) x ∧ RelV x u ∧ Srt.IsPair s.heap u (key u).1 (key u).2 ∧ key u = p ∧ ∃ t, u = .ref t := fun u hu => hall u (g2.perm.mem_iff.mp hu)
        have href : ∀ u ∈ out, ∃ a, u = Value.ref a := fun u hu => let ⟨_, _, _, _, _, _, q⟩ := ho u hu; q
        have rel : RelDs X.K μ H ((out.map key).map ofPair) (out.map backV) := by
          clear eo pm hn g1 g2
          induction out with
          | nil => exact .nil
          | cons u r ih =>
            refine .cons ?_ (ih (fun u hu => ho u (List.mem_cons_of_mem _ hu)) fun u hu => href u (List.mem_cons_of_mem _ hu))
            obtain ⟨p, x, rd, ru, _, rfl, t, rfl⟩ := ho u List.mem_cons_self
            obtain ⟨t2, o, t1, t2', n, rfl, _⟩ := pair_is I rd
            cases ru
            exact rd
        rw [eo] at rel
        obtain ⟨n', hn⟩ := hn
        refine ⟨.ref dd, upd H dd (.lst (out.map backV)), I.laid (t' := s.toks) kp hd ⟨?_, out, n', vals_back href, hn⟩, rfl, k.newLst so rel (I.hok.fresh hd)⟩
        rw [List.length_map, g2.len, ← rv.length]
        exact hz
      · split at e
        · rename_i n kvs lk e1
          obtain ⟨ks, e2, e3⟩ := Option.bind_eq_some_iff.mp e
          split at e3
          · rename_i h64
            cases e3
            obtain ⟨rfl, e4⟩ := dicOf_at e1
            obtain ⟨a, u, rfl, hrd, du, hma, hmb⟩ := so.dicAt rx e4
            replace e2 := optAll_some e2
            cases du with
            | @leaf ws hl p =>
              have hk : ws.map (·.1) = ks.map Sum.inr := by
                clear hrd e1 e4 hl h64 e k so hma hmb
                revert ks
                induction p with
                | nil => intro ks e2; cases ks <;> simp at e2; rfl
                | cons h t ih =>
                  intro ks e2
                  cases ks with
                  | nil => simp at e2
                  | cons c ks =>
                    simp only [List.map_cons, List.cons.injEq] at e2
                    rw [List.map_cons, List.map_cons, ih ks e2.2]
                    have h1 := h.1
                    have h2 := e2.1
                    rename_i q _ _ _
                    cases eq : q.1 <;> rw [eq] at h1 h2 <;> simp [strOf, leafKey] at h1 h2
                    rw [← h1, h2]
              refine call_sortedD hc pins s σ H _ us Q I r ⟨a, ws, ks, rfl, hrd, hk, h64, fun ys p pm hs hp => ?_⟩
              rw [sortedS_merge hs pm]
              exact k.newLst so (RelDs.strs _) hp
            | nest hn hl p =>
              exfalso
              cases kvs with
              | nil => exact absurd rfl hn
              | cons q qs =>
                cases p with
                | cons h t =>
                  cases ks with
                  | nil => simp at e2
                  | cons c ks =>
                    simp only [List.map_cons, List.cons.injEq] at e2
                    have h1 := h.1
                    have h2 := e2.1
                    cases eq : q.1 <;> rw [eq] at h1 h2 <;> simp [strOf, tupK] at h1 h2
          · cases e3
        · cases e
    · cases hf
  · cases hf
end
end Ev
set_option Elab.async false
set_option linter.all false
set_option maxRecDepth 100000
set_option maxHeartbeats 2000000
/-! Ev, part G: special forms, methods. -/
namespace Ev
open PySem PySem.Spec PyProof.Rows L2
section
variable {X : Cx}
/-! ### len(set(xs)), sorted(set(xs)) -/
theorem keys_ints : ∀ {ns : List Int} {us : List Value}, Vals (ns.map V.int) us → us.map kOf = (ns.map (Sum.inl : Int → Key)).map some
  | [], _, r => by cases r; rfl
  | n :: ns, _, r => by
    cases r with
    | cons a b =>
      obtain ⟨t, rfl⟩ := a
      rw [List.map_cons, keys_ints b]
      rfl
theorem keys_strs : ∀ {ns : List Str} {us : List Value}, Vals (ns.map V.str) us → us.map kOf = (ns.map (Sum.inr : Str → Key)).map some
  | [], _, r => by cases r; rfl
  | n :: ns, _, r => by
    cases r with
    | cons a b =>
      obtain ⟨t, rfl⟩ := a
      rw [List.map_cons, keys_strs b]
      rfl
theorem nodup_inl {l : List Int} (h : l.Nodup) : (l.map (Sum.inl : Int → Key)).Nodup := List.Pairwise.map _ (fun _ _ h e => h (Sum.inl.inj e)) h
theorem nodup_inr {l : List Str} (h : l.Nodup) : (l.map (Sum.inr : Str → Key)).Nodup := List.Pairwise.map _ (fun _ _ h e => h (Sum.inr.inj e)) h
def tThenD (P : Program) (w : World) (K : PySem.W.Frag) (ta : TE) (f : D → Store → R D) : TE := fun σ H Q => ta σ H fun x H1 => r1D P w K f x H1 Q
theorem pe_lenSet {a : Expr} {ta : TE} {p p2 q pos : Pos} (hc : X.calm = true) (hg : Gl X "len") (hm : X.mg "len" = none) (hg2 : Gl X "set") (hm2 : X.mg "set" = none) (ha : PE X a ta)
    (na : starEach [a] X.env = (false, eval a X.env) :: starEach [] X.env) : PE X (.Call (.Name "len" p) [.Call (.Name "set" p2) [a] [] q] [] pos) (tThenD X.prog X.w X.K ta fun d S => pLenSet [d] S) := by
  refine ⟨fun pins s σ H Q I h => ?_⟩
  refine Call_ (ld_blt I hg hm PySem.boot_len ?_)
  refine PyProof.Rows.callWith_builtin1 (PyProof.Rows.args_cons ?_ rfl) rfl rfl
  refine Call_ (ld_blt I hg2 hm2 PyProof.Rows.boot_set ?_)
  refine PyProof.Rows.callWith_type1 (PyProof.Rows.args_cons (thn (ha.run pins s σ H _ I h) fun v s1 ⟨x, H1, I1, r1, q1⟩ => PyProof.Rows.args_nil ?_) na) na rfl
  obtain ⟨μ, S, a, d, S', so, ra, hf, k⟩ := q1
  unfold pLenSet at hf
  simp only at hf
  split at hf
  · rename_i is e
    obtain ⟨⟨n, ys⟩, e1, e2⟩ := Option.bind_eq_some_iff.mp e
    split at hf
    · rename_i hl
      cases hf
      obtain ⟨l, vs, rfl, h1, h2, _⟩ := lstOf_at so ra e1
      have ev := RelDs.of_ints h2 e2
      subst ev
      cases r1
      obtain ⟨its, r, pl, hz⟩ := I1.list (SqL.of h1)
      refine call_set_keys (is.map Sum.inl) (I1.ok.hd hc) pl.isList (by simpa using keys_ints r) (by rw [List.length_map]; unfold scanBound; omega) fun h' tk c hS hcl hk => ?_
      have hlen := setX_len hS (nodup_inl (nodup_firsts is).1) fun k => by
        rw [List.mem_map, List.mem_map]
        simp only [(nodup_firsts is).2]
      rw [List.length_map] at hlen
      refine PyProof.Rows.args_nil ?_
      obtain ⟨o, es, ep, t, ho, hex, hd, _, _, _, _, hfi, hn, _⟩ := hS
      have I2 : Inv X pins σ H1 { s1 with heap := h', toks := tk } := I1.kept hk
      have hcl' : c ≤ is.length := by simpa using hcl
      exact call_len_set ho hex hd hfi (by rw [hn]; omega) ⟨.int (firsts is).length, H1, I2.tok _, ⟨_, by rw [hn, hlen]⟩, k.here so (.int _)⟩
    · cases hf
  · cases hf
theorem pe_sortedSet {a : Expr} {ta : TE} {p p2 q pos : Pos} (hc : X.calm = true) (hg : Gl X "sorted") (hm : X.mg "sorted" = none) (hg2 : Gl X "set") (hm2 : X.mg "set" = none) (ha : PE X a ta)
    (na : starEach [a] X.env = (false, eval a X.env) :: starEach [] X.env) : PE X (.Call (.Name "sorted" p) [.Call (.Name "set" p2) [a] [] q] [] pos) (tThenD X.prog X.w X.K ta fun d S => pSortedSet [d] S) := by
  refine ⟨fun pins s σ H Q I h => ?_⟩
  refine Call_ (ld_blt I hg hm PyProof.Rows.boot_sorted ?_)
  refine PyProof.Rows.callWith_builtin1 (PyProof.Rows.args_cons ?_ rfl) rfl rfl
  refine Call_ (ld_blt I hg2 hm2 PyProof.Rows.boot_set ?_)
  refine PyProof.Rows.callWith_type1 (PyProof.Rows.args_cons (thn (ha.run pins s σ H _ I h) fun v s1 ⟨x, H1, I1, r1, q1⟩ => PyProof.Rows.args_nil ?_) na) na rfl
  obtain ⟨μ, S, a, d, S', so, ra, hf, k⟩ := q1
  unfold pSortedSet at hf
  simp only at hf
  split at hf
  · rename_i ks e
    obtain ⟨⟨n, ys⟩, e1, e2⟩ := Option.bind_eq_some_iff.mp e
    split at hf
    · rename_i hl
      cases hf
      obtain ⟨l, vs, rfl, h1, h2, _⟩ := lstOf_at so ra e1
      have ev := RelDs.of_strs h2 e2
      subst ev
      cases r1
      obtain ⟨its, r, pl, hz⟩ := I1.list (SqL.of h1)
      refine call_set_keys (ks.map Sum.inr) (I1.ok.hd hc) pl.isList (by simpa using keys_strs r) (by rw [List.length_map]; unfold scanBound; omega) fun h' tk c hS hcl hk => ?_
      refine PyProof.Rows.args_nil ?_
      have I2 : Inv X pins σ H1 { s1 with heap := h', toks := tk } := I1.kept hk
      have hcl' : c ≤ ks.length := by simpa using hcl
      refine setX_sorted (s := { s1 with heap := h', toks := tk }) (xs := ks) hS (I1.ok.hd hc) (by omega) fun s2 p out c2 zs hk2 hg2 ho2 hp hpo hstr hsrt hnd hmem => ?_
      have pm : zs.Perm (firsts ks) := (List.perm_ext_iff_of_nodup hnd (nodup_firsts ks).1).mpr fun k => by rw [hmem, (nodup_firsts ks).2]
      have ez := sortedS_merge hsrt pm
      have hz2 : (zs.map V.str).length ≤ sizeLine := by
        rw [List.length_map, pm.length_eq]
        have : (firsts ks).length ≤ ks.length := by
          rw [← List.length_map (f := (Sum.inr : Str → Key)), ← setX_len hS (nodup_inr (nodup_firsts ks).1) fun k => by
            rw [List.mem_map, List.mem_map]
            simp only [(nodup_firsts ks).2]]
          exact hcl'
        rw [sizeLine_eq]
        omega
      have hn : H1 p = none := I2.hok.fresh hp
      have I3 : Inv X pins σ (upd H1 p (.lst (zs.map V.str))) s2 := I2.call' (ch := []) ho2 (Un.laid hk2 hp hn) (I2.hok.laid hk2 hp (show ObjOk X.prog X.w _ _ _ (.lst (zs.map V.str)) from ⟨hz2, out.toList, c2, vals_of_strs hstr, by rw [Array.toArray_toList]; exact hpo⟩)) (by rw [hg2]; exact I2.bare) fun b hb => absurd hb (by simp)
      refine ⟨.ref p, _, I3, rfl, ?_⟩
      rw [ez]
      exact k.newLst so (RelDs.strs _) hn
    · cases hf
  · cases hf
/-! ### list(range(..)) -/
theorem rgV_rel {K : PySem.W.Frag} {μ : List Addr} {H : Hp} (i j : Int) : RelDs K μ H (rangeD i j) (rgV i j) := by
  unfold rangeD rgV
  induction List.range (j - i).toNat with
  | nil => exact .nil
  | cons a r ih => exact .cons (.int _) ih
theorem rangeOk_is {i j : Int} (h : rangeOk i j = true) : -1000000 ≤ i ∧ i ≤ 1000000 ∧ -1000000 ≤ j ∧ j ≤ 1000000 := by
  unfold rangeOk at h
  simp only [Bool.and_eq_true, decide_eq_true_eq] at h
  omega
theorem rg_ok {i j : Int} (h : rangeOk i j = true) : RgOk i j := by
  have := rangeOk_is h
  refine ⟨?_, ?_, ?_, ?_, ?_⟩ <;> omega
def tRg (P : Program) (w : World) (K : PySem.W.Frag) (f : Env → Store → R (D × D)) : L2.St → Hp → (Int → Int → Hp → Prop) → Prop := fun σ H Q => ∃ μ δ S i j S', StOk P w K μ S H ∧ EnvOk K μ H δ σ ∧ f δ S = .ok (.int i, .int j) S' ∧
  ∀ (H' : Hp) (μ' : List Addr), Ext μ μ' → Grow H H' → StOk P w K μ' S' H' → Q i j H'

/-! ### methods -/
def rmD (P : Program) (w : World) (K : PySem.W.Frag) (f : D → List D → Store → R D) : V → List V → Hp → VK → Prop := fun x xs H Q => ∃ μ S a as d S', StOk P w K μ S H ∧ RelD K μ H a x ∧ RelDs K μ H as xs ∧ f a as S = .ok d S' ∧ Cont P w K μ H S' d Q
abbrev MeR (X : Cx) (m : Mt) := rmD X.prog X.w X.K (methD m)
theorem append_ok : MtR X "list.append" (MeR X .append) := by
  intro pins s σ H x xs v us Q I rx rs h
  obtain ⟨μ, S, a, as, d, S', so, ra, ras, hf, k⟩ := h
  replace hf : mAppend a as S = .ok d S' := hf
  unfold mAppend at hf
  split at hf
  · rename_i n ys y e1
    split at hf
    · rename_i hl
      cases hf
      obtain ⟨l, vs, rfl, h1, h2, hm, rfl, _⟩ := lstOf_at so ra e1
      obtain ⟨z, rfl, rz⟩ := rd1 ras
      refine mt_append pins s σ H _ _ v us Q I rx rs ⟨l, vs, z, rfl, rfl, h1, by rw [← h2.length]; exact lim_lt hl, ?_⟩
      exact k _ _ _ Ext.refl (grow_wr h1 True.intro) (so.put hm h1 True.intro (.lst upd_same ((h2.append (.one rz)).keep Ext.refl (grow_wr h1 True.intro).keep))) .non
    · cases hf
  · cases hf
theorem extend_ok : MtR X "list.extend" (MeR X .extend) := by
  intro pins s σ H x xs v us Q I rx rs h
  obtain ⟨μ, S, a, as, d, S', so, ra, ras, hf, k⟩ := h
  replace hf : mExtend a as S = .ok d S' := hf
  unfold mExtend at hf
  split at hf
  · rename_i n ys y e1
    split at hf
    · rename_i n2 ys2 e2
      split at hf
      · rename_i hl
        cases hf
        obtain ⟨l, vs, rfl, h1, h2, hm, rfl, _⟩ := lstOf_at so ra e1
        obtain ⟨z, rfl, rz⟩ := rd1 ras
        obtain ⟨l2, vs2, rfl, g1, g2, _⟩ := lstOf_at so rz e2
        refine mt_extend pins s σ H _ _ v us Q I rx rs ⟨l, l2, vs, vs2, rfl, rfl, h1, g1, by rw [← h2.length, ← g2.length]; exact lim_line hl, ?_⟩
        exact k _ _ _ Ext.refl (grow_wr h1 True.intro) (so.put hm h1 True.intro (.lst upd_same ((h2.append g2).keep Ext.refl (grow_wr h1 True.intro).keep))) .non
      · cases hf
    · cases hf
  · cases hf
theorem pop_ok : MtR X "list.pop" (MeR X .pop) := by
  intro pins s σ H x xs v us Q I rx rs h
  obtain ⟨μ, S, a, as, d, S', so, ra, ras, hf, k⟩ := h
  replace hf : mPop a as S = .ok d S' := hf
  unfold mPop at hf
  split at hf
  · rename_i n ys i e1
    split at hf
    · rename_i j hj
      split at hf
      · rename_i y hy
        split at hf
        · rename_i hl
          cases hf
          obtain ⟨l, vs, rfl, h1, h2, hm, rfl, _⟩ := lstOf_at so ra e1
          obtain ⟨z, rfl, rz⟩ := rd1 ras
          cases rz
          obtain ⟨w, hw, rw'⟩ := h2.get hy
          have hll := lim_line hl
          rw [sizeLine_eq] at hll
          have hsi : seqIndex? i vs.length = some j := by
            rw [← h2.length]
            unfold Ev.ixN at hj
            unfold seqIndex?
            split at hj
            · split at hj
              · cases hj
                rename_i h0 h3
                first
                  | (simp only [h0, h3]; done)
                  | (split <;> first | omega | (simp; omega) | skip)
              · cases hj
            · split at hj
              · cases hj
                split <;> first | omega | (simp; omega) | skip
              · cases hj
          have hb : -(2 ^ 63) ≤ i ∧ i < 2 ^ 63 := by
            unfold Ev.ixN at hj
            split at hj
            · split at hj
              · constructor <;> omega
              · cases hj
            · split at hj
              · constructor <;> omega
              · cases hj
          refine mt_popAt pins s σ H _ _ v us Q I rx rs ⟨l, vs, i, j, w, rfl, rfl, h1, hb.1, hb.2, hsi, hw, ?_⟩
          exact k _ _ _ Ext.refl (grow_wr h1 True.intro) (so.put hm h1 True.intro (.lst upd_same ((h2.erase j).keep Ext.refl (grow_wr h1 True.intro).keep))) (rw'.keep Ext.refl (grow_wr h1 True.intro).keep)
        · cases hf
      · cases hf
    · cases hf
  · cases hf
end
end Ev
set_option Elab.async false
set_option linter.all false
set_option maxRecDepth 100000
set_option maxHeartbeats 2000000
/-! Ev, part H: methods: remove, get, setdefault; the call of a method. -/
namespace Ev
open PySem PySem.Spec PyProof.Rows L2
theorem plainAll_of {ps : List PyData} (h : ∀ p ∈ ps, p.plain = true) : PyData.plainAll ps = true := by
  induction ps with
  | nil => rfl
  | cons p ps ih =>
    show (p.plain && PyData.plainAll ps) = true
    rw [h p List.mem_cons_self, ih fun q hq => h q (List.mem_cons_of_mem _ hq)]
    rfl
theorem toPy_all {S : Store} {n : Nat} {ds : List D} {ps : List PyData} (ih : ∀ (d : D) (p : PyData), toPy S n d = some p → p.plain = true) (h : ds.map (toPy S n) = ps.map some) : ∀ p ∈ ps, p.plain = true := by
  induction ds generalizing ps with
  | nil => cases ps <;> simp at h; exact fun p hp => absurd hp (by simp)
  | cons d ds ih2 =>
    cases ps with
    | nil => simp at h
    | cons q ps =>
      simp only [List.map_cons, List.cons.injEq] at h
      intro p hp
      rcases List.mem_cons.mp hp with rfl | hp
      · exact ih _ _ h.1
      · exact ih2 h.2 p hp
theorem toPy_plain {S : Store} : ∀ (n : Nat) (d : D) (p : PyData), toPy S n d = some p → p.plain = true
  | n, .non, p, h => by unfold toPy at h; cases h; rfl
  | n, .bl b, p, h => by unfold toPy at h; cases h; rfl
  | n, .int b, p, h => by unfold toPy at h; cases h; rfl
  | n, .str x, p, h => by
    unfold toPy at h
    split at h
    · cases h; rfl
    · cases h
  | 0, .tup ds, p, h => by simp [toPy] at h
  | 0, .rol ds, p, h => by simp [toPy] at h
  | 0, .ref m, p, h => by simp [toPy] at h
  | n, .ty x, p, h => by cases n <;> simp [toPy] at h
  | n + 1, .tup ds, p, h => by
    unfold toPy at h
    cases q : optAll (ds.map (toPy S n)) with
    | none => rw [q] at h; cases h
    | some ps =>
      rw [q] at h
      cases h
      exact plainAll_of (toPy_all (toPy_plain n) (optAll_some q))
  | n + 1, .rol ds, p, h => by
    unfold toPy at h
    cases q : optAll (ds.map (toPy S n)) with
    | none => rw [q] at h; cases h
    | some ps =>
      rw [q] at h
      cases h
      exact plainAll_of (toPy_all (toPy_plain n) (optAll_some q))
  | n + 1, .ref m, p, h => by
    unfold toPy at h
    split at h
    · rename_i xs e
      cases q : optAll (xs.map (toPy S n)) with
      | none => rw [q] at h; cases h
      | some ps =>
        rw [q] at h
        cases h
        exact plainAll_of (toPy_all (toPy_plain n) (optAll_some q))
    · cases h
section
variable {X : Cx}
theorem remove_ok (hr : Room 0 X.A) : MtR X "list.remove" (MeR X .remove) := by
  intro pins s σ H x xs v us Q I rx rs h
  obtain ⟨μ, S, a, as, d, S', so, ra, ras, hf, k⟩ := h
  replace hf : mRemove a as S = .ok d S' := hf
  have hu := hr.units
  have hu2 := hr.un
  unfold mRemove at hf
  split at hf
  · rename_i n ys y e1
    split at hf
    · rename_i py pys h1 h2
      split at hf
      · rename_i j hj
        cases hf
        obtain ⟨l, vs, rfl, g1, g2, hm, rfl, _⟩ := lstOf_at so ra e1
        obtain ⟨z, rfl, rz⟩ := rd1 ras
        obtain ⟨u, rfl, ru⟩ := vals1 rs
        cases (show v = Value.ref l from rx)
        obtain ⟨hz, its, c, rv, hl, ho⟩ := I.lstM g1
        obtain ⟨p1, o1⟩ := dp_of so _ _ _ _ h1 rz
        obtain ⟨p2, o2⟩ := dpAll_of (dp_of so 60) (optAll_some h2) g2
        obtain ⟨as1, r1⟩ := Dp.reads I _ _ u p1 ru
        obtain ⟨as2, r2⟩ := Dp.readsAll I _ _ its p2 rv
        have hd1 := o1.2
        refine PySem.SeqAt.remove_list_data (j := j) ⟨_, ho, rfl, c, rfl⟩ (by simpa using r2) r1 (plainAll_of (toPy_all (toPy_plain 60) (optAll_some h2))) (toPy_plain _ _ _ h1)
          (by have := Nat.min_le_right (PyData.depthAll pys) py.depth; omega) hj (by rw [List.size_toArray]; omega) ?_
        have I2 : Inv X pins σ (upd H l (.lst (vs.eraseIdx j))) { s with heap := s.heap.update l (Obj.mapSeq fun ys => ys.eraseIdxIfInBounds j) } := I.lset (t' := s.toks) (its' := its.eraseIdx j) g1 ho (by show its.toArray.eraseIdxIfInBounds j = _; rw [List.eraseIdxIfInBounds_toArray]) (rv.eraseIdx j) (by have := len_erase vs j; omega)
        exact ⟨.non, _, I2, rfl, k _ _ _ Ext.refl (grow_wr g1 True.intro) (so.put hm g1 True.intro (.lst upd_same ((g2.erase j).keep Ext.refl (grow_wr g1 True.intro).keep))) .non⟩
      · cases hf
    · cases hf
  · cases hf
/-- a dict asked for a key -/
theorem look_dict {pins : List (Addr × Obj)} {σ : L2.St} {H : Hp} {s : Shared} {μ : List Addr} {a : Addr} {kvs : List (D × D)} {u : HO} {kd : D} {y : V} (I : Inv X pins σ H s) (hrd : Rd H a u) (du : DU X.prog X.w X.K μ H a kvs u) (ok : keyOk kvs kd = true) (ry : RelD X.K μ H kd y) :
    (∃ o : Option V, DGet H a y o ∧ (∀ d, lookK kvs kd = some d → ∃ z, o = some z ∧ RelD X.K μ H d z) ∧ (lookK kvs kd = none → o = none)) ∨
    (∃ (b : Addr) (xs : List (NestedKey × Addr × Value)), y = .ref b ∧ tupK kd = true ∧ (a == sysModules) = false ∧ xs.length ≤ sizeLine ∧ s.heap.DictOfH (nestedKind X.prog X.w) a xs ∧ (nestedKind X.prog X.w).is s.heap (nkey kd) b ∧ Paired (ER X.K μ H) kvs xs ∧
      (∀ d, lookK kvs kd = some d → ∃ p, atKey xs (nkey kd) = some p ∧ ∃ z, RelD X.K μ H d z ∧ RelV z p.2) ∧ (lookK kvs kd = none → atKey xs (nkey kd) = none)) := by
  rcases Bool.or_eq_true_iff.mp ok with ok' | ok'
  · obtain ⟨lk1, lk2⟩ := Bool.and_eq_true_iff.mp ok'
    obtain ⟨k', hk'⟩ := leafKey_of lk1
    cases du with
    | @leaf ws hz pr =>
      have ey := leafKey_V hk' ry
      subst ey
      exact .inl ⟨valV ws k', .inl ⟨ws, k', hrd, rfl, rfl⟩, (leaf_look hk' pr).1, (leaf_look hk' pr).2⟩
    | nest hn hz pr =>
      exfalso
      cases kvs with
      | nil => exact absurd rfl hn
      | cons q qs =>
        cases pr with
        | cons h t =>
          have h1 := h.1
          rw [List.all_cons, Bool.and_eq_true] at lk2
          have h2 := lk2.1
          cases e : q.1 <;> rw [e] at h1 h2 <;> simp [tupK, leafK] at h1 h2
  · obtain ⟨tk1, _⟩ := Bool.and_eq_true_iff.mp ok'
    obtain ⟨xs, hx, er, hsys, hlen⟩ := DU.nested I tk1 ok hrd du
    have hb : ∃ c, y = .ref c := by
      cases kd <;> simp [tupK] at tk1
      cases ry
      exact ⟨_, rfl⟩
    obtain ⟨c, rfl⟩ := hb
    exact .inr ⟨c, xs, rfl, tk1, hsys, hlen, hx, key_is I tk1 ry, er, (look_er tk1 er).1, (look_er tk1 er).2⟩
theorem get_ok (hr : Room 0 X.A) : MtR X "dict.get" (MeR X .get) := by
  intro pins s σ H x xs v us Q I rx rs h
  obtain ⟨μ, S, a, as, d, S', so, ra, ras, hf, k⟩ := h
  replace hf : mGet a as S = .ok d S' := hf
  have hu := hr.units
  have hroom : (nestedKind X.prog X.w).room X.A.in1 := by show X.A.units + 1 + 8 < cLine; omega
  unfold mGet at hf
  split at hf
  · rename_i n kvs lk kd e1
    split at hf
    · rename_i ok
      cases hf
      obtain ⟨rfl, e2⟩ := dicOf_at e1
      obtain ⟨p, u, rfl, hrd, du, _⟩ := so.dicAt ra e2
      obtain ⟨y, rfl, ry⟩ := rd1 ras
      obtain ⟨u1, rfl, ru⟩ := vals1 rs
      cases (show v = Value.ref p from rx)
      rcases look_dict I hrd du ok ry with ⟨o, g, h1, h2⟩ | ⟨b, zs, rfl, tk1, hsys, _, hx, hkey, er, h1, h2⟩
      · refine d_get1 (by omega) I g ru fun w' s' I' rw' => ⟨_, H, I', rw', ?_⟩
        cases q : lookK kvs kd with
        | none => rw [h2 q]; rw [q] at k; exact k.here so .non
        | some d =>
          obtain ⟨z, rfl, rz⟩ := h1 d q
          rw [q] at k
          exact k.here so rz
      · cases ru
        refine call_meetsIn PySem.F.slot_dict_get hx.typeIs PySem.F.entry_dict_get (PySem.F.args_dict_get_2 _ _) (meetsH_dict_get (nestedKind X.prog X.w) p b hsys) ⟨hroom, nkey kd, zs, hkey, hx, ?_⟩
        cases q : lookK kvs kd with
        | none =>
          rw [h2 q]
          rw [q] at k
          exact ⟨.non, H, I.tok _, rfl, k.here so .non⟩
        | some d =>
          obtain ⟨pp, e, z, rz, rv⟩ := h1 d q
          rw [e]
          rw [q] at k
          exact ⟨z, H, I.tok _, rv, k.here so rz⟩
    · cases hf
  · rename_i n kvs lk kd dd e1
    split at hf
    · rename_i ok
      cases hf
      obtain ⟨rfl, e2⟩ := dicOf_at e1
      obtain ⟨p, u, rfl, hrd, du, _⟩ := so.dicAt ra e2
      obtain ⟨y, y2, rfl, ry, ry2⟩ := rd2 ras
      obtain ⟨u1, u2, rfl, ru, ru2⟩ := vals2 rs
      cases (show v = Value.ref p from rx)
      rcases look_dict I hrd du ok ry with ⟨o, g, h1, h2⟩ | ⟨b, zs, rfl, tk1, hsys, _, hx, hkey, er, h1, h2⟩
      · refine d_get2 (by omega) I g ru ru2 fun w' s' I' rw' => ⟨_, H, I', rw', ?_⟩
        cases q : lookK kvs kd with
        | none => rw [h2 q]; rw [q] at k; exact k.here so ry2
        | some d =>
          obtain ⟨z, rfl, rz⟩ := h1 d q
          rw [q] at k
          exact k.here so rz
      · cases ru
        refine call_meetsIn PySem.F.slot_dict_get hx.typeIs PySem.F.entry_dict_get (PySem.F.args_dict_get_3 _ _ _) (meetsH_dict_get_default (nestedKind X.prog X.w) p b hsys u2) ⟨hroom, nkey kd, zs, hkey, hx, ?_⟩
        cases q : lookK kvs kd with
        | none =>
          rw [h2 q]
          rw [q] at k
          exact ⟨y2, H, I.tok _, ru2, k.here so ry2⟩
        | some d =>
          obtain ⟨pp, e, z, rz, rv⟩ := h1 d q
          rw [e]
          rw [q] at k
          exact ⟨z, H, I.tok _, rv, k.here so rz⟩
    · cases hf
  · cases hf
theorem putK_new {kvs : List (D × D)} {k d : D} (h : lookK kvs k = none) : putK kvs k d = kvs ++ [(k, d)] := by
  induction kvs with
  | nil => rfl
  | cons p r ih =>
    by_cases e : p.1 = k
    · simp [lookK, e] at h
    · have h' : lookK r k = none := by simpa [lookK, e] using h
      simp [putK, e, ih h']
theorem setdefault_ok (hr : Room 0 X.A) : MtR X "dict.setdefault" (MeR X .setdefault) := by
  intro pins s σ H x xs v us Q I rx rs h
  obtain ⟨μ, S, a, as, d, S', so, ra, ras, hf, k⟩ := h
  replace hf : mSetdefault a as S = .ok d S' := hf
  have hu := hr.units
  have hroom : (nestedKind X.prog X.w).room X.A.in1 := by show X.A.units + 1 + 8 < cLine; omega
  unfold mSetdefault at hf
  split at hf
  · rename_i n kvs kd dd e1
    split at hf
    · rename_i hc
      obtain ⟨ok, tk1, hlen⟩ := hc
      obtain ⟨rfl, e2⟩ := dicOf_at e1
      obtain ⟨p, u, rfl, hrd, du, hm, h1⟩ := so.dicAt ra e2
      have h1 := h1 rfl
      obtain ⟨y, y2, rfl, ry, ry2⟩ := rd2 ras
      obtain ⟨u1, u2, rfl, ru, ru2⟩ := vals2 rs
      cases (show v = Value.ref p from rx)
      obtain ⟨zs, hx, er, hsys, hlen2⟩ := DU.nested I tk1 ok hrd du
      have hb : ∃ c, y = .ref c := by
        cases kd <;> simp [tupK] at tk1
        cases ry
        exact ⟨_, rfl⟩
      obtain ⟨c, rfl⟩ := hb
      cases (show u1 = Value.ref c from ru)
      have hw : Wr u := by cases du <;> exact True.intro
      refine call_setdefault_heap (hsz := hlen2) hroom (key_is I tk1 ry) hsys hx (fun pp hpp => ?_) (fun hn h' hx' hs => ?_)
      · cases q : lookK kvs kd with
        | none => rw [(look_er tk1 er).2 q] at hpp; cases hpp
        | some d0 =>
          rw [q] at hf
          cases hf
          obtain ⟨pp2, e, z, rz, rv⟩ := (look_er tk1 er).1 _ q
          rw [hpp] at e
          cases e
          exact ⟨z, H, I.tok _, rv, k.here so rz⟩
      · cases q : lookK kvs kd with
        | some d0 =>
          obtain ⟨pp2, e, _⟩ := (look_er tk1 er).1 d0 q
          rw [hn] at e
          cases e
        | none =>
          rw [q] at hf
          cases hf
          have er2 := put_er tk1 ry ry2 ru2 er (by obtain ⟨_, _, _, _, _, _, _, _, hn⟩ := hx; exact hn)
          have hl3 := (putK_len (kvs := kvs) (k := kd) (d := d))
          have hl4 := Paired.length er2
          obtain ⟨u9, I1, du1⟩ := nd_put (tk := s.toks + (nestedKind X.prog X.w).draws (nkey kd)) I h1 hw hsys (by omega) hx' hs er2 hl3.2
          rw [putK_new q] at du1
          exact ⟨y2, _, I1, ru2, k _ _ _ Ext.refl (grow_wr h1 hw) (so.put hm h1 hw (.dic upd_same du1)) (ry2.keep Ext.refl (grow_wr h1 hw).keep)⟩
    · cases hf
  · cases hf

/-! ### the call of a method -/
def Mt.name : Mt → Str
  | .append => "append" | .extend => "extend" | .get => "get" | .pop => "pop" | .remove => "remove" | .setdefault => "setdefault"
def Mt.id : Mt → String
  | .append => "list.append" | .extend => "list.extend" | .get => "dict.get" | .pop => "list.pop" | .remove => "list.remove" | .setdefault => "dict.setdefault"
theorem meth_ok (hr : Room 0 X.A) (m : Mt) : MtR X m.id (MeR X m) := by
  cases m
  · exact append_ok
  · exact extend_ok
  · exact get_ok hr
  · exact pop_ok
  · exact remove_ok hr
  · exact setdefault_ok hr
/-- the receiver's type -/
theorem recv_is {pins : List (Addr × Obj)} {σ : L2.St} {H : Hp} {s : Shared} {μ : List Addr} {S : Store} {m : Mt} {a : D} {x : V} {v : Value} (I : Inv X pins σ H s) (so : StOk X.prog X.w X.K μ S H) (ra : RelD X.K μ H a x) (rx : RelV x v) (h : recvOk m a S = true) :
    ∃ T, PlainAttrs T ∧ Slot T m.name m.id ∧ typeOf (.builtin m.id) = pure (.type "method_descriptor") ∧ s.TypeIs v T ∧ ∀ b, v = .ref b → ∃ ob, s.heap.get? b = some ob ∧ ob.dict = none := by
  have lst : (lstOf S a).isSome = true → s.TypeIs v "list" ∧ ∀ b, v = .ref b → ∃ ob, s.heap.get? b = some ob ∧ ob.dict = none := fun h => by
    cases q : lstOf S a with
    | none => rw [q] at h; cases h
    | some p =>
      obtain ⟨l, vs, rfl, h1, _⟩ := lstOf_at so ra (n := p.1) (xs := p.2) q
      cases (show v = Value.ref l from rx)
      obtain ⟨_, its, c, _, _, ho⟩ := I.lstM h1
      exact ⟨⟨_, ho, rfl⟩, fun b e => by cases e; exact ⟨_, ho, rfl⟩⟩
  have dic : (dicOf S a).isSome = true → s.TypeIs v "dict" ∧ ∀ b, v = .ref b → ∃ ob, s.heap.get? b = some ob ∧ ob.dict = none := fun h => by
    cases q : dicOf S a with
    | none => rw [q] at h; cases h
    | some p =>
      obtain ⟨rfl, e2⟩ := dicOf_at (n := p.1) (kvs := p.2.1) (lk := p.2.2) q
      obtain ⟨l, u, rfl, hrd, du, _⟩ := so.dicAt ra e2
      cases (show v = Value.ref l from rx)
      have z : ∃ o, s.heap.get? l = some o ∧ o.ExactDict := by
        cases du with
        | leaf hl p =>
          obtain ⟨_, _, _, _, o, _, _, ho, hx, _⟩ := dk_rd I.hok hrd
          exact ⟨o, ho, hx⟩
        | nest hn hl p =>
          obtain ⟨ys, ⟨o, _, _, ho, hx, _⟩, _⟩ := nd_dict I hrd p
          exact ⟨o, ho, hx⟩
      obtain ⟨o, ho, hx⟩ := z
      exact ⟨⟨o, ho, hx.1⟩, fun b e => by cases e; exact ⟨o, ho, hx.2.1⟩⟩
  cases m
  · exact ⟨"list", PySem.F.plainAttrs_list, PySem.F.slot_list_append, PySem.F.type_list_append, lst h⟩
  · exact ⟨"list", PySem.F.plainAttrs_list, PySem.F.slot_list_extend, PySem.F.type_list_extend, lst h⟩
  · exact ⟨"dict", PySem.F.plainAttrs_dict, PySem.F.slot_dict_get, PySem.F.type_dict_get, dic h⟩
  · exact ⟨"list", PySem.F.plainAttrs_list, PySem.F.slot_list_pop, PySem.F.type_list_pop, lst h⟩
  · exact ⟨"list", PySem.F.plainAttrs_list, PySem.F.slot_list_remove, PySem.F.type_list_remove, lst h⟩
  · exact ⟨"dict", PySem.F.plainAttrs_dict, PySem.F.slot_dict_setdefault, PySem.F.type_dict_setdefault, dic h⟩
/-- o.m(e, ..) -/
theorem pe_methD {o e : Expr} {es : List Expr} {m : Mt} {apos cpos : Pos} {fo : Env → Store → R D} {fs : Env → Store → R (List D)} (hr : Room 0 X.A) (ho : PE X o (tD X.prog X.w X.K fo)) (ha : PA X (e :: es) (tDs X.prog X.w X.K fs))
    (hbase : attributeBase o m.name X.env (eval o X.env) = eval o X.env)
    (hfew : ((backTo cpos (starEach (e :: es) X.env)).all (fun x => !x.1) && (backToKw cpos (keywordEach [] X.env)).all (fun x => x.1.isSome)
      && decide ((e :: es).length + ([] : List Keyword).length + (if ([] : List Keyword).isEmpty then 0 else 1) < 30)) = true)
    (hline : (apos.endLine == cpos.line) = true) (hs : starEach (e :: es) X.env = (false, eval e X.env) :: starEach es X.env) (hplain : (backTo cpos (starEach es X.env)).any (·.1) = false) :
    PE X (.Call (.Attribute o m.name apos) (e :: es) [] cpos) (tD X.prog X.w X.K fun δ S => (fo δ S).bind fun x S1 => if recvOk m x S1 = true then (fs δ S1).bind fun ds S2 => methD m x ds S2 else .bad) := by
  refine ⟨fun pins s σ H Q I h => ?_⟩
  obtain ⟨μ, δ, S, d, S', so, eo, hf, k⟩ := h
  dsimp only at hf
  cases h1 : fo δ S with
  | bad => rw [h1] at hf; cases hf
  | ok x S1 =>
    rw [h1, R.bind_ok] at hf
    split at hf
    · rename_i hrec
      cases h2 : fs δ S1 with
      | bad => rw [h2] at hf; cases hf
      | ok ds S2 =>
        rw [h2, R.bind_ok] at hf
        refine wpAny_Call_method_late hbase hfew hline rfl (thn (ho.run pins s σ H (fun v H1 => ∃ μ1, Ext μ μ1 ∧ Grow H H1 ∧ StOk X.prog X.w X.K μ1 S1 H1 ∧ RelD X.K μ1 H1 x v) I ⟨μ, δ, S, x, S1, so, eo, h1, fun v H1 μ1 a b c d => ⟨μ1, a, b, c, d⟩⟩) fun v s1 ⟨z, H1, I1, rz, μ1, x1, g1, so1, rd1⟩ => ?_)
        obtain ⟨T, pa, slot, hty, hT, hd⟩ := recv_is I1 so1 rd1 rz hrec
        refine ⟨T, m.id, pa, slot, hty, hT, hd, ?_⟩
        have hA := ha.run cpos pins s1 σ H1 (fun vs H2 => ∃ μ2, Ext μ1 μ2 ∧ Grow H1 H2 ∧ StOk X.prog X.w X.K μ2 S2 H2 ∧ RelDs X.K μ2 H2 ds vs) I1 ⟨μ1, δ, S1, ds, S2, so1, eo.keep x1 g1.keep, h2, fun vs H2 μ2 a b c d => ⟨μ2, a, b, c, d⟩⟩
        rw [hs] at hA ⊢
        refine Calls.callWith_builtin (by show (false || (backTo cpos (starEach es X.env)).any (·.1)) = false; rw [hplain] <;> rfl) (Calls.evalArgs_plain ?_)
        refine thn hA fun us s2 ⟨vs, H2, I2, r2, μ2, x2, g2, so2, rds⟩ => ?_
        exact meth_ok hr m pins s2 σ H2 z vs v us Q I2 rz r2 ⟨μ2, S2, x, ds, d, S', so2, rd1.keep x2 g2.keep, rds, hf, k.trans (x1.trans x2) (g1.trans g2)⟩
    · cases hf
end
end Ev
set_option Elab.async false
set_option linter.all false
set_option maxRecDepth 100000
set_option maxHeartbeats 2000000
/-! Ev, part I: expressions. -/
namespace Ev
open PySem PySem.Spec PyProof.Rows L2

/-! ### t[::-1] -/
section
variable {prog : Program} {w : World} {A : Around} {E : Value → Shared → Prop} {s : Shared}
theorem fm_congr {α β : Type} {f g : α → Option β} : ∀ {l : List α}, (∀ x ∈ l, f x = g x) → l.filterMap f = l.filterMap g
  | [], _ => rfl
  | a :: r, h => by
    rw [List.filterMap_cons, List.filterMap_cons, h a List.mem_cons_self, fm_congr fun x hx => h x (List.mem_cons_of_mem _ hx)]
theorem adjust_rev (n : Nat) : Builtin.Slice.sliceAdjust none none (-1) (n : Int) = ((n : Int) - 1, -1) := by
  have h1 : (-1 : Int) < 0 := by omega
  unfold Builtin.Slice.sliceAdjust
  simp only [h1, if_true]
theorem places_rev (n : Nat) : Builtin.Slice.slicePlaces ((n : Int) - 1) (-1) (-1) = n := by
  unfold Builtin.Slice.slicePlaces
  have h1 : ¬ ((-1 : Int) > 0) := by omega
  simp only [h1, if_false]
  split <;> first | omega | (rw [show (- -1 : Int) = 1 by decide, Int.ediv_one]; omega)
theorem range_rev : ∀ n : Nat, (List.range n).map (fun m => n - 1 - m) = (List.range n).reverse := fun n => by
  refine List.ext_getElem (by simp) fun i h1 h2 => ?_
  simp
theorem pick_rev (xs : Array Value) : ((List.range xs.size).filterMap fun (m : Nat) => xs[((xs.size : Int) - 1 + (m : Int) * (-1)).toNat]?).toArray = xs.toList.reverse.toArray := by
  have e : ∀ m ∈ List.range xs.size, xs[((xs.size : Int) - 1 + (m : Int) * (-1)).toNat]? = xs[xs.size - 1 - m]? := fun m hm => by
    have hm := List.mem_range.mp hm
    have : ((xs.size : Int) - 1 + (m : Int) * (-1)).toNat = xs.size - 1 - m := by omega
    rw [this]
  rw [fm_congr e]
  have e2 : (List.range xs.size).filterMap (fun m => xs[xs.size - 1 - m]?) = ((List.range xs.size).map fun m => xs.size - 1 - m).filterMap fun m => xs[m]? := by rw [List.filterMap_map]; rfl
  rw [e2, range_rev, List.filterMap_reverse]
  congr 2
  refine List.ext_getElem? fun i => ?_
  have e3 : (List.range xs.size).filterMap (fun m => xs[m]?) = (List.range xs.size).map fun m => xs.getD m Value.none := by
    have : ∀ m ∈ List.range xs.size, xs[m]? = some (xs.getD m Value.none) := fun m hm => by
      have hm := List.mem_range.mp hm
      rw [Array.getElem?_eq_getElem hm]
      simp [Array.getD, hm]
    rw [fm_congr this]
    simp
  rw [e3, List.getElem?_map]
  by_cases h : i < xs.size
  · simp [h, Array.getD]
  · rw [List.getElem?_eq_none (by simpa using h), List.getElem?_eq_none (by simpa using h)]
    rfl
theorem getItem_tuple_rev {t sl : Addr} {items : Array Value} {vl vu vs : Value} {Q : Value → Shared → Prop} (ht : IsTup s.heap t items) (hs : s.heap.IsSliceOf sl vl vu vs) (pl : IsPart vl none) (pu : IsPart vu none) (ps : IsPart vs (some (-1)))
    (h : Q (.ref s.heap.objs.size) { s with heap := s.heap.push { cls := .type "tuple", data := .seq items.toList.reverse.toArray } })
    (hsz : items.size ≤ sizeLine) : wpAny (model prog w) A (getItem (.ref t) (.ref sl)) Q E s := by
  obtain ⟨os, hos, hcs, hds⟩ := id hs
  have hTs : s.TypeIs (.ref sl) "slice" := ⟨os, hos, hcs⟩
  unfold getItem
  try with_reducible refine wpAny_holding ?_
  first | refine wpAny_bind (wpAny_pure ?_) | skip
  refine wpAny_bind (wpAny_sequenceKey ht.typeIs (by decide) ?_)
  refine wpAny_bind (wpAny_callSpecial?_slot (name := Str.ofString "__getitem__") ht.typeIs PyProof.Rows.slot_tuple_getitem
    (wpAny_call_entry PyProof.Rows.slot_tuple_getitem ht.typeIs entry_tuple_getitem ?_ (args_tuple_getitem _ _)))
  show wpAny _ _ (Builtin.Tuple.tupleItemsOf (.ref t) >>= _) _ _ s
  refine wpAny_bind (tupleItemsOf_ ht ?_)
  refine wpAny_bind (wpAny_typeOf hTs ?_)
  rw [if_pos (by decide)]
  have happ : ∀ {Q : Int × Int × Nat → Shared → Prop}, Q ((items.size : Int) - 1, -1, items.size) s → wpAny (model prog w) A.in1 (Builtin.Slice.sliceApplied (.ref sl) (pure (items.size : Int))) Q E s := fun {Q} h => by
    unfold Builtin.Slice.sliceApplied Builtin.Slice.sliceFields
    refine wpAny_bind (wpAny_bind (wpAny_field hos hds (x := vl) rfl (wpAny_bind (wpAny_field hos hds (x := vu) rfl (wpAny_bind (wpAny_field hos hds (x := vs) rfl (wpAny_pure ?_)))))))
    refine wpAny_bind (HT.slicePart_ ps ?_)
    show wpAny _ _ (if ((-1 : Int) == 0) = true then _ else _) _ _ s
    rw [if_neg (by decide)]
    refine wpAny_bind (HT.slicePart_ pl (wpAny_bind (HT.slicePart_ pu (wpAny_bind (wpAny_pure ?_)))))
    show wpAny _ _ (match Builtin.Slice.sliceAdjust none none (-1) (items.size : Int) with | (lo, hi) => pure (lo, (-1 : Int), Builtin.Slice.slicePlaces lo hi (-1))) _ _ s
    rw [adjust_rev]
    show wpAny _ _ (pure ((items.size : Int) - 1, (-1 : Int), Builtin.Slice.slicePlaces ((items.size : Int) - 1) (-1) (-1))) _ _ s
    rw [places_rev]
    exact wpAny_pure h
  refine wpAny_bind (happ ?_)
  have hno : ¬ ((((items.size : Int) - 1) == 0 && (-1 : Int) == 1 && items.size == items.size) = true) := by
    intro q
    rw [Bool.and_eq_true, Bool.and_eq_true] at q
    exact absurd q.1.2 (by decide)
  show wpAny _ _ (if ((((items.size : Int) - 1) == 0 && (-1 : Int) == 1 && items.size == items.size) = true) then _ else _) _ _ s
  rw [if_neg hno, pick_rev]
  have htake : sizeOk (.seq items.toList.reverse.toArray) := by
    show items.toList.reverse.toArray.size ≤ sizeLine
    rw [List.size_toArray, List.length_reverse, Array.length_toList]
    exact hsz
  first
    | exact wpAny_bind (m := Builtin.Tuple.tupleExact _) (wpAny_newObj_type (wpAny_pure ⟨_, rfl, wpAny_pure h⟩) htake)
    | exact wpAny_bind (m := Builtin.Tuple.tupleExact _) (wpAny_newObj_type (wpAny_bind (wpAny_pure (wpAny_pure ⟨_, rfl, wpAny_pure h⟩))) htake)
    | exact wpAny_bind (wpAny_bind (m := Builtin.Tuple.tupleExact _) (wpAny_newObj_type (wpAny_pure (wpAny_pure ⟨_, rfl, wpAny_pure h⟩)) htake))
    | exact wpAny_bind (wpAny_bind (m := Builtin.Tuple.tupleExact _) (wpAny_newObj_type (wpAny_pure ⟨_, rfl, wpAny_pure h⟩) htake))
end
section
variable {X : Cx}
theorem pe_rev {e : Expr} {te : TE} {kk : Nat} {p1 p2 p3 pos : Pos} (he : PE X e te) : PE X (.Subscript e (.Slice none none (some (.UnaryOp .USub (.Constant (.int 1) kk p1) p2)) p3) pos) (tThenD X.prog X.w X.K te revD) := by
  refine ⟨fun pins s σ H Q I h => ?_⟩
  refine Subscript_ (thn (he.run pins s σ H _ I h) fun v s1 ⟨x, H1, I1, r1, q1⟩ => ?_)
  obtain ⟨μ, S, a, d, S', so, ra, hf, k⟩ := q1
  have hst : PO X (some (.UnaryOp .USub (.Constant (.int 1) kk p1) p2)) (tPart (tUn (rU fun i => .int (-i)) (tC (.int 1)))) := po_some (pe_un un_neg pe_int)
  refine wpAny_Slice (thn (po_none.run pins s1 σ H1 (fun o H2 => o = none ∧ H2 = H1) I1 ⟨rfl, rfl⟩) fun vl s2 ⟨l, H2, I2, pl, el, e2⟩ => ?_)
  subst el e2
  refine thn (po_none.run pins s2 σ H2 (fun o H3 => o = none ∧ H3 = H2) I2 ⟨rfl, rfl⟩) fun vu s3 ⟨u, H3, I3, pu, eu, e3⟩ => ?_
  subst eu e3
  refine thn (hst.run pins s3 σ H3 (fun o H4 => o = some (-1) ∧ H4 = H3) I3 ⟨1, rfl, -1, rfl, rfl, rfl⟩) fun vs s4 ⟨o, H4, I4, ps, eo, e4⟩ => ?_
  subst eo e4
  have I5 : Inv X pins σ H4 { s4 with heap := s4.heap.push { cls := .type "slice", data := .fields #[vl, vu, vs] } } := I4.kept (t' := s4.toks) fun b ob q => Heap.get?_push_of_some _ q
  show wpAny (model X.prog X.w) X.A (subscriptTail e (.Slice none none (some (.UnaryOp .USub (.Constant (.int 1) kk p1) p2)) p3) v (.ref s4.heap.objs.size)) (EP X pins σ Q) X.xe { s4 with heap := s4.heap.push { cls := .type "slice", data := .fields #[vl, vu, vs] } }
  unfold revD at hf
  split at hf
  · cases hf
    cases ra with
    | tup h1 h2 =>
      cases r1
      obtain ⟨its, r, ht, hz⟩ := I5.tuple h1
      have hlen := r.length
      refine tail_any (ops := [.ref _, .ref s4.heap.objs.size]) ht.typeIs (PyProof.Rows.slot_tuple_getitem.lookup) ?_ (by with_unfolding_all rfl)
      refine getItem_tuple_rev ht (Heap.IsSliceOf.new _ vl vu vs) pl pu ps ?_ (by rw [List.size_toArray]; omega)
      rename_i vs2 _ a2
      refine ⟨.ref _, _, I5.laid (t' := s4.toks) (o := .tup vs2.reverse) (fun b ob q => Heap.get?_push_of_some _ q) (Nat.le_refl _) ?_, rfl, k.newTup so h2.reverse (I5.hok.fresh (Nat.le_refl _))⟩
      exact ⟨by rw [List.length_reverse]; exact hz, _, r.reverse, IsTup.new _ _⟩
  · split at hf
    · rename_i e
      cases hf
      obtain ⟨a, xs, rfl, h1, h2, _⟩ := so.lstAt ra e
      cases r1
      obtain ⟨its, r, ht, hz⟩ := I5.list (SqL.of h1)
      have hlen := r.length
      refine tail_any (ops := [.ref a, .ref s4.heap.objs.size]) ht.isList.typeIs (PySem.slot_list_getitem.lookup) ?_ (by with_unfolding_all rfl)
      refine wpAny_getItem_list_slice ht.isList (Heap.IsSliceOf.new _ vl vu vs) pl pu ps (by decide) ?_ (by rw [List.size_toArray]; omega)
      rw [PySem.W.krv_pick]
      refine ⟨.ref _, _, I5.laid (t' := s4.toks) (o := .lst xs.reverse) (fun b ob q => Heap.get?_push_of_some _ q) (Nat.le_refl _) ?_, rfl, k.newLst so h2.reverse (I5.hok.fresh (Nat.le_refl _))⟩
      exact ⟨by rw [List.length_reverse]; exact hz, _, 0, r.reverse, Heap.get?_push_size _ rfl⟩
    · cases hf
  · cases hf
end
end Ev
set_option Elab.async false
set_option linter.all false
set_option maxRecDepth 100000
set_option maxHeartbeats 2000000
/-! Ev, part J: the rules of expressions and tests, by the evaluator. -/
namespace Ev
open PySem PySem.Spec PyProof.Rows L2
theorem _root_.L2.PE.of {X : Cx} {e : Expr} {t t' : TE} (h : PE X e t) (i : ∀ σ H Q, t' σ H Q → t σ H Q) : PE X e t' := ⟨fun pins s σ H Q I q => h.run pins s σ H Q I (i σ H Q q)⟩
theorem _root_.L2.PT.of {X : Cx} {e : Expr} {t t' : TT} (h : PT X e t) (i : ∀ σ H Q, t' σ H Q → t σ H Q) : PT X e t' := ⟨fun pins s σ H Q I q => h.run pins s σ H Q I (i σ H Q q)⟩
theorem _root_.L2.PW.of {X : Cx} {e : Expr} {t t' : TT} (h : PW X e t) (i : ∀ σ H Q, t' σ H Q → t σ H Q) : PW X e t' := ⟨fun wh pins s σ H Q I q => h.run wh pins s σ H Q I (i σ H Q q)⟩
theorem _root_.L2.PA.of {X : Cx} {e : List Expr} {t t' : TA} (h : PA X e t) (i : ∀ σ H Q, t' σ H Q → t σ H Q) : PA X e t' := ⟨fun pos pins s σ H Q I q => h.run pos pins s σ H Q I (i σ H Q q)⟩
theorem _root_.L2.PO.of {X : Cx} {e : Option Expr} {t t' : TO} (h : PO X e t) (i : ∀ σ H Q, t' σ H Q → t σ H Q) : PO X e t' := ⟨fun pins s σ H Q I q => h.run pins s σ H Q I (i σ H Q q)⟩
theorem R.bind_some {α β : Type} {x : R α} {f : α → Store → R β} {b : β} {S' : Store} (h : x.bind f = .ok b S') : ∃ a S1, x = .ok a S1 ∧ f a S1 = .ok b S' := by
  cases x with
  | bad => cases h
  | ok a S => exact ⟨a, S, rfl, h⟩
theorem R.of_ok {α : Type} {o : Option α} {S S' : Store} {a : α} (h : R.of o S = .ok a S') : o = some a ∧ S = S' := by
  cases o with
  | none => cases h
  | some b => cases h; exact ⟨rfl, rfl⟩
section
variable {X : Cx}
abbrev TD (X : Cx) := tD X.prog X.w X.K
abbrev TDs (X : Cx) := tDs X.prog X.w X.K
abbrev TB (X : Cx) := Ev.tB X.prog X.w X.K
def tOd (P : Program) (w : World) (K : PySem.W.Frag) (f : Env → Store → R (Option Int)) : TO := fun σ H Q => ∃ μ δ S o S', StOk P w K μ S H ∧ EnvOk K μ H δ σ ∧ f δ S = .ok o S' ∧
  ∀ (H' : Hp) (μ' : List Addr), Ext μ μ' → Grow H H' → StOk P w K μ' S' H' → Q o H'
abbrev TOd (X : Cx) := tOd X.prog X.w X.K

/-! ### values -/
theorem pd_c {e : Expr} {d : D} {v : V} (h : PE X e (tC v)) (r : ∀ μ H, RelD X.K μ H d v) : PE X e (TD X fun _ S => .ok d S) :=
  h.of fun σ H Q ⟨μ, δ, S, d', S', so, eo, hf, k⟩ => by
    cases hf
    exact k.here so (r _ _)
theorem pd_var {i : Nat} {e : Expr} (h : PE X e (tVar i)) : PE X e (TD X fun δ S => match δ[i]? with
    | some (some d) => .ok d S
    | _ => .bad) :=
  h.of fun σ H Q ⟨μ, δ, S, d', S', so, eo, hf, k⟩ => by
    dsimp only at hf
    split at hf
    · rename_i d0 e
      cases hf
      obtain ⟨v, h1, h2⟩ := eo.at_ i _ e
      exact ⟨v, h1, k.here so h2⟩
    · cases hf
variable {a b c : Expr} {es rest : List Expr} {fa fb fc : Env → Store → R D} {pos : Pos}
/-- two in a row -/
theorem pd_op {op : Operator} (ha : PE X a (TD X fa)) (hb : PE X b (TD X fb)) : PE X (.BinOp a op b pos) (TD X fun δ S => (fa δ S).bind fun x S1 => (fb δ S1).bind fun y S2 => binD op x y S2) :=
  (pe_op (bin_ok op) ha hb).of fun σ H Q ⟨μ, δ, S, d, S', so, eo, hf, k⟩ => by
    dsimp only at hf
    obtain ⟨x, S1, h1, hf⟩ := R.bind_some hf
    obtain ⟨y, S2, h2, hf⟩ := R.bind_some hf
    exact ⟨μ, δ, S, x, S1, so, eo, h1, fun v H1 μ1 e1 g1 so1 r1 => ⟨μ1, δ, S1, y, S2, so1, eo.keep e1 g1.keep, h2, fun u H2 μ2 e2 g2 so2 r2 =>
      ⟨μ2, S2, x, y, d, S', so2, r1.keep e2 g2.keep, r2, hf, k.trans (e1.trans e2) (g1.trans g2)⟩⟩⟩
theorem pd_neg (ha : PE X a (TD X fa)) : PE X (.UnaryOp .USub a pos) (TD X fun δ S => (fa δ S).bind fun x S1 => R.of (negD x) S1) :=
  (pe_un neg_ok ha).of fun σ H Q ⟨μ, δ, S, d, S', so, eo, hf, k⟩ => by
    dsimp only at hf
    obtain ⟨x, S1, h1, hf⟩ := R.bind_some hf
    exact ⟨μ, δ, S, x, S1, so, eo, h1, fun v H1 μ1 e1 g1 so1 r1 => ⟨μ1, S1, x, d, S', so1, r1, hf, k.trans e1 g1⟩⟩
theorem cmpR_of {op : CmpOp} {x y d : D} {S S' : Store} (h : (match cmpD op x y S with
    | some k => R.ok (D.bl k) S
    | none => R.bad) = R.ok d S') : cmpR op x y S = .ok d S' := h
theorem pd_cmp {op : CmpOp} (hr : Room 0 X.A) (hm : behindInMarks op b = false) (ha : PE X a (TD X fa)) (hb : PE X b (TD X fb)) :
    PE X (.Compare a [op] [b] pos) (TD X fun δ S => (fa δ S).bind fun x S1 => (fb δ S1).bind fun y S2 => match cmpD op x y S2 with
      | some k => R.ok (D.bl k) S2
      | none => .bad) :=
  (pe_cmpR (cmp_ok op hr) ha hb hm).of fun σ H Q ⟨μ, δ, S, d, S', so, eo, hf, k⟩ => by
    dsimp only at hf
    obtain ⟨x, S1, h1, hf⟩ := R.bind_some hf
    obtain ⟨y, S2, h2, hf⟩ := R.bind_some hf
    exact ⟨μ, δ, S, x, S1, so, eo, h1, fun v H1 μ1 e1 g1 so1 r1 => ⟨μ1, δ, S1, y, S2, so1, eo.keep e1 g1.keep, h2, fun u H2 μ2 e2 g2 so2 r2 =>
      ⟨μ2, S2, x, y, d, S', so2, r1.keep e2 g2.keep, r2, cmpR_of hf, k.trans (e1.trans e2) (g1.trans g2)⟩⟩⟩
/-- a comparison as a test -/
theorem pt_cmpD {op : CmpOp} (hr : Room 0 X.A) (hm : behindInMarks op b = false) (ha : PE X a (TD X fa)) (hb : PE X b (TD X fb)) :
    PT X (.Compare a [op] [b] pos) (TB X fun δ S => ((fa δ S).bind fun x S1 => (fb δ S1).bind fun y S2 => match cmpD op x y S2 with
      | some k => R.ok (D.bl k) S2
      | none => R.bad).bind fun d S1 => R.of (tru S1 d) S1) :=
  (pt_cmpR (cmp_ok op hr) ha hb hm).of fun σ H Q ⟨μ, δ, S, kk, S', so, eo, hf, k⟩ => by
    dsimp only at hf
    obtain ⟨dd, S9, hfa, ht0⟩ := R.bind_some hf
    obtain ⟨x, S1, h1, hfb⟩ := R.bind_some hfa
    obtain ⟨y, S2, h2, hfc⟩ := R.bind_some hfb
    obtain ⟨ht, es⟩ := R.of_ok ht0
    rw [← es] at k
    refine ⟨μ, δ, S, x, S1, so, eo, h1, fun v H1 μ1 e1 g1 so1 r1 => ⟨μ1, δ, S1, y, S2, so1, eo.keep e1 g1.keep, h2, fun u H2 μ2 e2 g2 so2 r2 =>
      ⟨μ2, S2, x, y, dd, S9, so2, r1.keep e2 g2.keep, r2, cmpR_of hfc, fun z H3 μ3 e3 g3 so3 r3 => ?_⟩⟩⟩
    obtain ⟨c, _, e9, _⟩ := cmpR_some (cmpR_of hfc)
    rw [e9] at ht r3
    cases ht
    cases r3
    exact ⟨_, rfl, k H3 μ3 (e1.trans (e2.trans e3)) (g1.trans (g2.trans g3)) so3⟩
def chainD (op op' : CmpOp) (fc : Env → Store → R D) (δ : Env) (x y : D) (S2 : Store) : R D := match cmpD op x y S2 with
  | some true => (fc δ S2).bind fun z S3 => (match cmpD op' y z S3 with
    | some k => .ok (.bl k) S3
    | none => .bad)
  | some false => .ok (.bl false) S2
  | none => .bad
theorem chain_red {op op' : CmpOp} (hr : Room 0 X.A) {σ : L2.St} {H : Hp} {Q : VK} (q : TD X (fun δ S => (fa δ S).bind fun x S1 => (fb δ S1).bind fun y S2 => chainD op op' fc δ x y S2) σ H Q) :
    tChain (r2D X.prog X.w X.K (cmpR op)) (r2D X.prog X.w X.K (cmpR op')) (TD X fa) (TD X fb) (TD X fc) σ H Q := by
  obtain ⟨μ, δ, S, d, S', so, eo, hf, k⟩ := q
  dsimp only at hf
  obtain ⟨x, S1, h1, hf⟩ := R.bind_some hf
  obtain ⟨y, S2, h2, hf⟩ := R.bind_some hf
  unfold chainD at hf
  have fin : ∀ (c : Bool), cmpD op x y S2 = some c → (if c = true then (fc δ S2).bind fun z S3 => cmpR op' y z S3 else .ok (.bl false) S2) = .ok d S' →
      tChain (r2D X.prog X.w X.K (cmpR op)) (r2D X.prog X.w X.K (cmpR op')) (TD X fa) (TD X fb) (TD X fc) σ H Q := fun c hc hf => by
    refine ⟨μ, δ, S, x, S1, so, eo, h1, fun v H1 μ1 e1 g1 so1 r1 => ⟨μ1, δ, S1, y, S2, so1, eo.keep e1 g1.keep, h2, fun u H2 μ2 e2 g2 so2 r2 =>
      ⟨μ2, S2, x, y, .bl c, S2, so2, r1.keep e2 g2.keep, r2, by unfold cmpR; rw [hc], fun z H3 μ3 e3 g3 so3 r3 => ?_⟩⟩⟩
    cases r3
    refine ⟨c, rfl, ?_⟩
    cases c with
    | true =>
      rw [if_pos rfl] at hf ⊢
      obtain ⟨z, S3, h3, hf⟩ := R.bind_some hf
      exact ⟨μ3, δ, S2, z, S3, so3, eo.keep (e1.trans (e2.trans e3)) (g1.trans (g2.trans g3)).keep, h3, fun w H4 μ4 e4 g4 so4 r4 =>
        ⟨μ4, S3, y, z, d, S', so4, r2.keep (e3.trans e4) (g3.trans g4).keep, r4, hf, k.trans (e1.trans (e2.trans (e3.trans e4))) (g1.trans (g2.trans (g3.trans g4)))⟩⟩
    | false =>
      rw [if_neg (by decide)] at hf ⊢
      cases hf
      exact (k.trans (e1.trans (e2.trans e3)) (g1.trans (g2.trans g3))).here so3 (.bl _)
  split at hf
  · rename_i hc
    exact fin true hc (by rw [if_pos rfl]; exact hf)
  · rename_i hc
    exact fin false hc (by rw [if_neg (by decide)]; exact hf)
  · cases hf
theorem pd_chain {op op' : CmpOp} (hr : Room 0 X.A) (hm : lastMarks [op, op'] [b, c] = false) (ha : PE X a (TD X fa)) (hb : PE X b (TD X fb)) (hc : PE X c (TD X fc)) :
    PE X (.Compare a [op, op'] [b, c] pos) (TD X fun δ S => (fa δ S).bind fun x S1 => (fb δ S1).bind fun y S2 => chainD op op' fc δ x y S2) :=
  (pe_chain (cmp_ok op hr) (cmp_ok op' hr) ha hb hc hm).of fun σ H Q q => chain_red hr q
theorem chain_bl {op op' : CmpOp} {δ : Env} {x y d : D} {S2 S' : Store} (h : chainD op op' fc δ x y S2 = .ok d S') : ∃ k, d = .bl k := by
  unfold chainD at h
  split at h
  · obtain ⟨z, S3, _, h⟩ := R.bind_some h
    split at h
    · cases h; exact ⟨_, rfl⟩
    · cases h
  · cases h; exact ⟨_, rfl⟩
  · cases h
theorem pt_chainD {op op' : CmpOp} (hr : Room 0 X.A) (hm : lastMarks [op, op'] [b, c] = false) (ha : PE X a (TD X fa)) (hb : PE X b (TD X fb)) (hc : PE X c (TD X fc)) :
    PT X (.Compare a [op, op'] [b, c] pos) (TB X fun δ S => ((fa δ S).bind fun x S1 => (fb δ S1).bind fun y S2 => chainD op op' fc δ x y S2).bind fun d S1 => R.of (tru S1 d) S1) :=
  (pt_chain (cmp_ok op hr) (cmp_ok op' hr) ha hb hc hm).of fun σ H Q ⟨μ, δ, S, kk, S', so, eo, hf, k⟩ => by
    dsimp only at hf
    obtain ⟨dd, S9, hfa, ht0⟩ := R.bind_some hf
    obtain ⟨ht, es⟩ := R.of_ok ht0
    rw [← es] at k
    refine chain_red hr ⟨μ, δ, S, dd, S9, so, eo, hfa, fun v H3 μ3 e3 g3 so3 r3 => ?_⟩
    obtain ⟨x, S1, _, hfb⟩ := R.bind_some hfa
    obtain ⟨y, S2, _, hfc⟩ := R.bind_some hfb
    obtain ⟨c, e9⟩ := chain_bl hfc
    rw [e9] at ht r3
    cases ht
    cases r3
    exact ⟨_, rfl, k H3 μ3 e3 g3 so3⟩
/-! ### and, or, not, if -/
theorem pd_and (ha : PE X a (TD X fa)) (hb : PE X (.BoolOp .And (b :: rest) pos) (TD X fb)) : PE X (.BoolOp .And (a :: b :: rest) pos) (TD X fun δ S => (fa δ S).bind fun d S1 => match tru S1 d with
    | some true => fb δ S1
    | some false => .ok d S1
    | none => .bad) :=
  (pe_andT ha hb).of fun σ H Q ⟨μ, δ, S, d, S', so, eo, hf, k⟩ => by
    dsimp only at hf
    obtain ⟨x, S1, h1, hf⟩ := R.bind_some hf
    refine ⟨μ, δ, S, x, S1, so, eo, h1, fun v H1 μ1 e1 g1 so1 r1 => ?_⟩
    split at hf
    · rename_i ht
      exact ⟨true, tru_of so1 ht r1, by rw [if_pos rfl]; exact ⟨μ1, δ, S1, d, S', so1, eo.keep e1 g1.keep, hf, k.trans e1 g1⟩⟩
    · rename_i ht
      cases hf
      exact ⟨false, tru_of so1 ht r1, by rw [if_neg (by decide)]; exact k v H1 μ1 e1 g1 so1 r1⟩
    · cases hf
theorem pd_or (ha : PE X a (TD X fa)) (hb : PE X (.BoolOp .Or (b :: rest) pos) (TD X fb)) : PE X (.BoolOp .Or (a :: b :: rest) pos) (TD X fun δ S => (fa δ S).bind fun d S1 => match tru S1 d with
    | some true => .ok d S1
    | some false => fb δ S1
    | none => .bad) :=
  (pe_orT ha hb).of fun σ H Q ⟨μ, δ, S, d, S', so, eo, hf, k⟩ => by
    dsimp only at hf
    obtain ⟨x, S1, h1, hf⟩ := R.bind_some hf
    refine ⟨μ, δ, S, x, S1, so, eo, h1, fun v H1 μ1 e1 g1 so1 r1 => ?_⟩
    split at hf
    · rename_i ht
      cases hf
      exact ⟨true, tru_of so1 ht r1, by rw [if_pos rfl]; exact k v H1 μ1 e1 g1 so1 r1⟩
    · rename_i ht
      exact ⟨false, tru_of so1 ht r1, by rw [if_neg (by decide)]; exact ⟨μ1, δ, S1, d, S', so1, eo.keep e1 g1.keep, hf, k.trans e1 g1⟩⟩
    · cases hf
theorem pd_not (ha : PE X a (TD X fa)) : PE X (.UnaryOp .Not a pos) (TD X fun δ S => (fa δ S).bind fun d S1 => match tru S1 d with
    | some k => R.ok (D.bl (!k)) S1
    | none => R.bad) :=
  (pe_notT ha).of fun σ H Q ⟨μ, δ, S, d, S', so, eo, hf, k⟩ => by
    dsimp only at hf
    obtain ⟨x, S1, h1, hf⟩ := R.bind_some hf
    refine ⟨μ, δ, S, x, S1, so, eo, h1, fun v H1 μ1 e1 g1 so1 r1 => ?_⟩
    split at hf
    · rename_i kk ht
      cases hf
      exact ⟨kk, tru_of so1 ht r1, k _ H1 μ1 e1 g1 so1 (.bl _)⟩
    · cases hf
/-- a value's test -/
def tvD (f : Env → Store → R D) : Env → Store → R Bool := fun δ S => (f δ S).bind fun d S1 => R.of (tru S1 d) S1
theorem pt_truD (ha : PE X a (TD X fa)) (he : ∀ whole, isTrue a X.env whole = (do let v ← whole; standAt a.pos; holding [v] (truthy v))) : PT X a (TB X (tvD fa)) :=
  (pt_truth ha he).of fun σ H Q ⟨μ, δ, S, kk, S', so, eo, hf, k⟩ => by
    obtain ⟨x, S1, h1, hf⟩ := R.bind_some hf
    obtain ⟨ht, rfl⟩ := R.of_ok hf
    exact ⟨μ, δ, S, x, S1, so, eo, h1, fun v H1 μ1 e1 g1 so1 r1 => ⟨kk, tru_of so1 ht r1, k H1 μ1 e1 g1 so1⟩⟩
theorem pt_notD (ha : PT X a (TB X (tvD fa))) : PT X (.UnaryOp .Not a pos) (TB X (tvD fun δ S => (fa δ S).bind fun d S1 => match tru S1 d with
    | some k => R.ok (D.bl (!k)) S1
    | none => R.bad)) :=
  (pt_not ha).of fun σ H Q ⟨μ, δ, S, kk, S', so, eo, hf, k⟩ => by
    obtain ⟨y, S2, hfa, ht2⟩ := R.bind_some hf
    dsimp only at hfa
    obtain ⟨x, S1, h1, hfb⟩ := R.bind_some hfa
    clear hf hfa
    split at hfb
    · rename_i k0 ht
      cases hfb
      obtain ⟨ht2, rfl⟩ := R.of_ok ht2
      cases ht2
      exact ⟨μ, δ, S, k0, _, so, eo, by unfold tvD; rw [h1, R.bind_ok, ht]; rfl, fun H' μ' e' g' so' => k H' μ' e' g' so'⟩
    · cases hfb
theorem pw_andD (ha : PT X a (TB X (tvD fa))) (hb : PW X (.BoolOp .And (b :: rest) pos) (TB X (tvD fb))) : PW X (.BoolOp .And (a :: b :: rest) pos) (TB X (tvD fun δ S => (fa δ S).bind fun d S1 => match tru S1 d with
    | some true => fb δ S1
    | some false => .ok d S1
    | none => .bad)) :=
  (pw_and ha hb).of fun σ H Q ⟨μ, δ, S, kk, S', so, eo, hf, k⟩ => by
    obtain ⟨y, S2, hfa, ht2⟩ := R.bind_some hf
    dsimp only at hfa
    obtain ⟨x, S1, h1, hfb⟩ := R.bind_some hfa
    clear hf hfa
    split at hfb
    · rename_i ht
      refine ⟨μ, δ, S, true, S1, so, eo, by unfold tvD; rw [h1, R.bind_ok, ht]; rfl, fun H' μ' e' g' so' => ?_⟩
      dsimp only
      rw [if_pos rfl]
      exact ⟨μ', δ, S1, kk, S', so', eo.keep e' g'.keep, by unfold tvD; rw [hfb]; exact ht2, fun H2 μ2 e2 g2 so2 => k H2 μ2 (e'.trans e2) (g'.trans g2) so2⟩
    · rename_i ht
      cases hfb
      obtain ⟨ht2, rfl⟩ := R.of_ok ht2
      rw [ht] at ht2
      cases ht2
      refine ⟨μ, δ, S, false, _, so, eo, by unfold tvD; rw [h1, R.bind_ok, ht]; rfl, fun H' μ' e' g' so' => ?_⟩
      dsimp only
      rw [if_neg (by decide)]
      exact k H' μ' e' g' so'
    · cases hfb
theorem pw_orD (ha : PT X a (TB X (tvD fa))) (hb : PW X (.BoolOp .Or (b :: rest) pos) (TB X (tvD fb))) : PW X (.BoolOp .Or (a :: b :: rest) pos) (TB X (tvD fun δ S => (fa δ S).bind fun d S1 => match tru S1 d with
    | some true => .ok d S1
    | some false => fb δ S1
    | none => .bad)) :=
  (pw_or ha hb).of fun σ H Q ⟨μ, δ, S, kk, S', so, eo, hf, k⟩ => by
    obtain ⟨y, S2, hfa, ht2⟩ := R.bind_some hf
    dsimp only at hfa
    obtain ⟨x, S1, h1, hfb⟩ := R.bind_some hfa
    clear hf hfa
    split at hfb
    · rename_i ht
      cases hfb
      obtain ⟨ht2, rfl⟩ := R.of_ok ht2
      rw [ht] at ht2
      cases ht2
      refine ⟨μ, δ, S, true, _, so, eo, by unfold tvD; rw [h1, R.bind_ok, ht]; rfl, fun H' μ' e' g' so' => ?_⟩
      dsimp only
      rw [if_pos rfl]
      exact k H' μ' e' g' so'
    · rename_i ht
      refine ⟨μ, δ, S, false, S1, so, eo, by unfold tvD; rw [h1, R.bind_ok, ht]; rfl, fun H' μ' e' g' so' => ?_⟩
      dsimp only
      rw [if_neg (by decide)]
      exact ⟨μ', δ, S1, kk, S', so', eo.keep e' g'.keep, by unfold tvD; rw [hfb]; exact ht2, fun H2 μ2 e2 g2 so2 => k H2 μ2 (e'.trans e2) (g'.trans g2) so2⟩
    · cases hfb
theorem pd_ite (hc : PT X c (TB X (tvD fc))) (ha : PE X a (TD X fa)) (hb : PE X b (TD X fb)) : PE X (.IfExp c a b pos) (TD X fun δ S => (fc δ S).bind fun d S1 => match tru S1 d with
    | some true => fa δ S1
    | some false => fb δ S1
    | none => .bad) :=
  (pe_ifExp hc ha hb).of fun σ H Q ⟨μ, δ, S, d, S', so, eo, hf, k⟩ => by
    dsimp only at hf
    obtain ⟨x, S1, h1, hf⟩ := R.bind_some hf
    split at hf
    · rename_i ht
      refine ⟨μ, δ, S, true, S1, so, eo, by unfold tvD; rw [h1, R.bind_ok, ht]; rfl, fun H' μ' e' g' so' => ?_⟩
      dsimp only
      rw [if_pos rfl]
      exact ⟨μ', δ, S1, d, S', so', eo.keep e' g'.keep, hf, k.trans e' g'⟩
    · rename_i ht
      refine ⟨μ, δ, S, false, S1, so, eo, by unfold tvD; rw [h1, R.bind_ok, ht]; rfl, fun H' μ' e' g' so' => ?_⟩
      dsimp only
      rw [if_neg (by decide)]
      exact ⟨μ', δ, S1, d, S', so', eo.keep e' g'.keep, hf, k.trans e' g'⟩
    · cases hf

/-! ### lists of expressions -/
theorem pda_nil : PA X [] (TDs X fun _ S => .ok [] S) :=
  pa_nil.of fun σ H Q ⟨μ, δ, S, d, S', so, eo, hf, k⟩ => by
    cases hf
    exact k [] H μ Ext.refl Grow.refl so .nil
theorem pda_cons {fs : Env → Store → R (List D)} (ha : PE X a (TD X fa)) (hs : PA X es (TDs X fs)) (hst : starEach (a :: es) X.env = (false, eval a X.env) :: starEach es X.env) :
    PA X (a :: es) (TDs X fun δ S => (fa δ S).bind fun d S1 => (fs δ S1).bind fun ds S2 => .ok (d :: ds) S2) :=
  (pa_cons ha hs hst).of fun σ H Q ⟨μ, δ, S, ds, S', so, eo, hf, k⟩ => by
    dsimp only at hf
    obtain ⟨x, S1, h1, hf⟩ := R.bind_some hf
    obtain ⟨xs, S2, h2, hf⟩ := R.bind_some hf
    cases hf
    exact ⟨μ, δ, S, x, S1, so, eo, h1, fun v H1 μ1 e1 g1 so1 r1 => ⟨μ1, δ, S1, xs, _, so1, eo.keep e1 g1.keep, h2, fun vs H2 μ2 e2 g2 so2 r2 =>
      k (v :: vs) H2 μ2 (e1.trans e2) (g1.trans g2) so2 (.cons (r1.keep e2 g2.keep) r2)⟩⟩
theorem pd_tup {fs : Env → Store → R (List D)} {x1} (hs : PA X es (TDs X fs)) : PE X (.Tuple es x1 pos) (TD X fun δ S => (fs δ S).bind fun ds S1 => if ds.length ≤ lim then .ok (.tup ds) S1 else .bad) :=
  (pe_tup hs).of fun σ H Q ⟨μ, δ, S, d, S', so, eo, hf, k⟩ => by
    dsimp only at hf
    obtain ⟨ds, S1, h1, hf⟩ := R.bind_some hf
    split at hf
    · rename_i hl
      cases hf
      exact ⟨μ, δ, S, ds, _, so, eo, h1, fun vs H1 μ1 e1 g1 so1 r1 => ⟨by rw [← r1.length]; exact lim_line hl, fun p hp => (k.trans e1 g1).newTup so1 r1 hp⟩⟩
    · cases hf
theorem pd_lst {fs : Env → Store → R (List D)} (hs : PA X es (TDs X fs)) : PE X (.List es pos) (TD X fun δ S => (fs δ S).bind fun ds S1 => if ds.length ≤ lim then .ok (.ref S1.length) (S1 ++ [.lst ds]) else .bad) :=
  (pe_lst hs).of fun σ H Q ⟨μ, δ, S, d, S', so, eo, hf, k⟩ => by
    dsimp only at hf
    obtain ⟨ds, S1, h1, hf⟩ := R.bind_some hf
    split at hf
    · rename_i hl
      cases hf
      exact ⟨μ, δ, S, ds, _, so, eo, h1, fun vs H1 μ1 e1 g1 so1 r1 => ⟨by rw [← r1.length]; exact lim_line hl, fun p hp => (k.trans e1 g1).newLst so1 r1 hp⟩⟩
    · cases hf
theorem pd_dic : PE X (.Dict [] [] pos) (TD X fun _ S => .ok (.ref S.length) (S ++ [.dic [] false])) :=
  pe_dnewK.of fun σ H Q ⟨μ, δ, S, d, S', so, eo, hf, k⟩ => by
    cases hf
    intro p hp
    refine k _ _ _ Ext.snoc (grow_new hp) (so.push hp (.dic upd_same (.leaf (Nat.zero_le _) .nil))) (.ref ?_)
    rw [List.getElem?_append_right (by rw [so.len]; omega), so.len]
    simp
/-! ### places, slices -/
theorem pd_ix (hr : Room 0 X.A) (hs : PlainIx b) (ha : PE X a (TD X fa)) (hb : PE X b (TD X fb)) : PE X (.Subscript a b pos) (TD X fun δ S => (fa δ S).bind fun x S1 => (fb δ S1).bind fun y S2 => ixD x y S2) :=
  (pe_ix (ix_ok hr) ha hb hs).of fun σ H Q ⟨μ, δ, S, d, S', so, eo, hf, k⟩ => by
    dsimp only at hf
    obtain ⟨x, S1, h1, hf⟩ := R.bind_some hf
    obtain ⟨y, S2, h2, hf⟩ := R.bind_some hf
    exact ⟨μ, δ, S, x, S1, so, eo, h1, fun v H1 μ1 e1 g1 so1 r1 => ⟨μ1, δ, S1, y, S2, so1, eo.keep e1 g1.keep, h2, fun u H2 μ2 e2 g2 so2 r2 =>
      ⟨μ2, S2, x, y, d, S', so2, r1.keep e2 g2.keep, r2, hf, k.trans (e1.trans e2) (g1.trans g2)⟩⟩⟩
theorem pod_none : PO X none (TOd X fun _ S => .ok none S) :=
  po_none.of fun σ H Q ⟨μ, δ, S, d, S', so, eo, hf, k⟩ => by
    cases hf
    exact k H μ Ext.refl Grow.refl so
theorem pod_some (ha : PE X a (TD X fa)) : PO X (some a) (TOd X fun δ S => (fa δ S).bind fun d S1 => match d with
    | .int i => .ok (some i) S1
    | _ => .bad) :=
  (po_some ha).of fun σ H Q ⟨μ, δ, S, d, S', so, eo, hf, k⟩ => by
    dsimp only at hf
    obtain ⟨x, S1, h1, hf⟩ := R.bind_some hf
    split at hf
    · rename_i i
      cases hf
      exact ⟨μ, δ, S, .int i, _, so, eo, h1, fun v H1 μ1 e1 g1 so1 r1 => by
        cases r1
        exact ⟨_, rfl, k H1 μ1 e1 g1 so1⟩⟩
    · cases hf
theorem pd_sl {lo hi : Option Expr} {p2 : Pos} {fl fh : Env → Store → R (Option Int)} (ha : PE X a (TD X fa)) (hl : PO X lo (TOd X fl)) (hh : PO X hi (TOd X fh)) :
    PE X (.Subscript a (.Slice lo hi none p2) pos) (TD X fun δ S => (fa δ S).bind fun x S1 => (fl δ S1).bind fun l S2 => (fh δ S2).bind fun h S3 => slD x l h S3) :=
  (pe_slice sl_ok ha hl hh).of fun σ H Q ⟨μ, δ, S, d, S', so, eo, hf, k⟩ => by
    dsimp only at hf
    obtain ⟨x, S1, h1, hf⟩ := R.bind_some hf
    obtain ⟨l, S2, h2, hf⟩ := R.bind_some hf
    obtain ⟨h, S3, h3, hf⟩ := R.bind_some hf
    exact ⟨μ, δ, S, x, S1, so, eo, h1, fun v H1 μ1 e1 g1 so1 r1 => ⟨μ1, δ, S1, l, S2, so1, eo.keep e1 g1.keep, h2, fun H2 μ2 e2 g2 so2 =>
      ⟨μ2, δ, S2, h, S3, so2, eo.keep (e1.trans e2) (g1.trans g2).keep, h3, fun H3 μ3 e3 g3 so3 => ⟨μ3, S3, x, d, S', so3, r1.keep (e2.trans e3) (g2.trans g3).keep, hf, k.trans (e1.trans (e2.trans e3)) (g1.trans (g2.trans g3))⟩⟩⟩⟩
theorem pd_then {e : Expr} {g : D → Store → R D} (h : PE X e (tThenD X.prog X.w X.K (TD X fa) g)) : PE X e (TD X fun δ S => (fa δ S).bind g) :=
  h.of fun σ H Q ⟨μ, δ, S, d, S', so, eo, hf, k⟩ => by
    dsimp only at hf
    obtain ⟨x, S1, h1, hf⟩ := R.bind_some hf
    exact ⟨μ, δ, S, x, S1, so, eo, h1, fun v H1 μ1 e1 g1 so1 r1 => ⟨μ1, S1, x, d, S', so1, r1, hf, k.trans e1 g1⟩⟩
/-! ### calls -/
theorem pd_callR {e : Expr} {fs : Env → Store → R (List D)} {g : List D → Store → R D} (h : PE X e (tCB (rnD X.prog X.w X.K g) (TDs X fs))) : PE X e (TD X fun δ S => (fs δ S).bind g) :=
  h.of fun σ H Q ⟨μ, δ, S, d, S', so, eo, hf, k⟩ => by
    dsimp only at hf
    obtain ⟨ds, S1, h1, hf⟩ := R.bind_some hf
    exact ⟨μ, δ, S, ds, S1, so, eo, h1, fun vs H1 μ1 e1 g1 so1 r1 => ⟨μ1, S1, ds, d, S', so1, r1, hf, k.trans e1 g1⟩⟩
end
end Ev
set_option Elab.async false
set_option linter.all false
set_option maxRecDepth 100000
set_option maxHeartbeats 2000000
/-! Ev, part K: what is walked. -/
namespace Ev
open PySem PySem.Spec PyProof.Rows L2

/-! ### a locked dict's rows as pairs -/
inductive RowsOf (P : Program) (w : World) (d : Addr) : HO → List (V × V) → Prop
  | leaf (ws : List (Key × V)) : RowsOf P w d (.dK ws) (ws.map fun p => (kV p.1, p.2))
  | nest (rows : List Row) : RowsOf P w d (.ext (NDict P w d rows)) (rows.map fun r => (.ref r.2.1, r.2.2))
theorem paired_at {α β : Type} {F : α → β → Prop} : ∀ {l : List α} {m : List β}, Paired F l m → ∀ {i : Nat} {a : α}, l[i]? = some a → ∃ b, m[i]? = some b ∧ F a b
  | _, _, .nil, i, a, h => by simp at h
  | _, _, .cons f t, 0, a, h => by simp at h; subst h; exact ⟨_, rfl, f⟩
  | _, _, .cons f t, i + 1, a, h => by
    obtain ⟨b, h1, h2⟩ := paired_at t (i := i) (a := a) (by simpa using h)
    exact ⟨b, by simpa using h1, h2⟩
theorem paired_at' {α β : Type} {F : α → β → Prop} : ∀ {l : List α} {m : List β}, Paired F l m → ∀ {i : Nat} {b : β}, m[i]? = some b → ∃ a, l[i]? = some a ∧ F a b
  | _, _, .nil, i, a, h => by simp at h
  | _, _, .cons f t, 0, a, h => by simp at h; subst h; exact ⟨_, rfl, f⟩
  | _, _, .cons f t, i + 1, a, h => by
    obtain ⟨b, h1, h2⟩ := paired_at' t (i := i) (b := a) (by simpa using h)
    exact ⟨b, by simpa using h1, h2⟩
theorem pairs_at {P : Program} {w : World} : ∀ {es : List DictEntry} {vs : List (Key × Value)}, Pairs (mixKind P w) es vs → ∀ {i : Nat} {e : DictEntry} {q : Key × Value}, es[i]? = some e → vs[i]? = some q → keyIs q.1 e.key = true ∧ e.val = q.2
  | _, _, .nil, i, e, q, h, _ => by simp at h
  | _, _, .cons a b t, 0, e, q, h, h' => by simp at h h'; subst h h'; exact ⟨a, b⟩
  | _, _, .cons a b t, i + 1, e, q, h, h' => pairs_at t (i := i) (by simpa using h) (by simpa using h')
section
variable {X : Cx} {pins : List (Addr × Obj)} {σ : L2.St} {H : Hp} {s : Shared} {d : Addr} {o : Obj} {u : HO} {kv : List (V × V)}
theorem frz_rows (I : Inv X pins σ H s) (h : H d = some (.frz o u)) (r : RowsOf X.prog X.w d u kv) :
    (d == sysModules) = false ∧ s.heap.get? d = some o ∧ o.ExactDict ∧ ∃ (es : Array DictEntry) (ep : Nat), o.data = .dict es ep ∧ es.size = kv.length ∧ ∀ i (hi : i < es.size), ∃ p, kv[i]? = some p ∧ RelV p.1 es[i].key ∧ RelV p.2 es[i].val := by
  cases r with
  | leaf ws =>
    obtain ⟨hd, z, hs, vs, rel, o', es, ep, ho, hx, hdt, _, pr, _⟩ := I.hok d _ h
    rw [hd] at ho
    cases ho
    have l1 := Paired.length rel
    have l2 : es.toList.length = vs.length := pr.length
    rw [Array.length_toList] at l2
    refine ⟨hs, hd, hx, es, ep, hdt, by rw [List.length_map]; omega, fun i hi => ?_⟩
    have l3 : i < ws.length := by omega
    obtain ⟨q, hq, q1, q2⟩ := paired_at rel (List.getElem?_eq_getElem l3)
    refine ⟨(kV ws[i].1, ws[i].2), by rw [List.getElem?_map, List.getElem?_eq_getElem l3]; rfl, ?_⟩
    have he : es.toList[i]? = some es[i] := by rw [Array.getElem?_toList, Array.getElem?_eq_getElem hi]
    obtain ⟨a1, a2⟩ := pairs_at pr he hq
    rw [← q1] at a1
    exact ⟨relV_key a1, by rw [a2]; exact q2⟩
  | nest rows =>
    obtain ⟨hd, ⟨hz, hs, hn, o', es, ep, xs, ho, hx, hdt, he, q⟩, _⟩ := I.hok d _ h
    rw [hd] at ho
    cases ho
    have l1 := Paired.length q
    have l2 := congrArg List.length he
    rw [List.length_map, Array.length_toList] at l2
    refine ⟨hs, hd, hx, es, ep, hdt, by rw [List.length_map]; omega, fun i hi => ?_⟩
    have l3 : i < rows.length := by omega
    obtain ⟨y, hy, q1, q2, q3⟩ := paired_at q (List.getElem?_eq_getElem l3)
    refine ⟨(.ref rows[i].2.1, rows[i].2.2), by rw [List.getElem?_map, List.getElem?_eq_getElem l3]; rfl, ?_⟩
    have he2 : es.toList[i]? = some es[i] := by rw [Array.getElem?_toList, Array.getElem?_eq_getElem hi]
    rw [he, List.getElem?_map, hy] at he2
    have he3 := Option.some.inj he2
    rw [← he3]
    exact ⟨by rw [q2]; rfl, q3⟩
end
/-- the keys of the locked dict -/
def Jk (d : Addr) (o : Obj) (u : HO) (kv : List (V × V)) : L2.It :=
  ⟨fun i H => H d = some (.frz o u) ∧ i < kv.length, fun i H x H' => H' = H ∧ ∃ v, kv[i]? = some (x, v), fun i H => H d = some (.frz o u) ∧ kv.length ≤ i⟩
/-- the pairs, each a new tuple -/
def Ji (d : Addr) (o : Obj) (u : HO) (kv : List (V × V)) : L2.It :=
  ⟨fun i H => H d = some (.frz o u) ∧ i < kv.length, fun i H x H' => ∃ T k v, kv[i]? = some (k, v) ∧ x = .ref T ∧ H T = none ∧ H' = upd H T (.tup [k, v]), fun i H => H d = some (.frz o u) ∧ kv.length ≤ i⟩
section
variable {P : Program} {w : World} {K : PySem.W.Frag} {tg : Expr} {d : Addr} {o : Obj} {u : HO} {kv : List (V × V)} {es : Array DictEntry} {ep : Nat}
theorem turnK (r : RowsOf P w d u kv) (it : Addr) (hod : o.data = .dict es ep) : Turn P w K tg (Jk d o u kv) [it] it (fun i h => h.IsKeyIter it d i kv.length ep) where
  mem := by simp
  obj := fun i h st b hb => by
    have e : b = it := by simpa using hb
    subst e
    obtain ⟨oi, e, c, dd⟩ := st
    exact ⟨oi, e, fun v z => by rw [dd] at z; cases z⟩
  keep := fun i h h' st k => st.at fun oi e => k it (by simp) oi e
  item := by
    intro X hP hw hK hc i pins s σ H E I hf st hg
    subst hP hw hK
    obtain ⟨hd, hi⟩ := hg
    obtain ⟨f0, f1, f2, f3, f4, f5⟩ := hf it (by simp)
    obtain ⟨hs, hgd, hx, es', ep', hdt, hsz, ent⟩ := frz_rows I hd r
    obtain ⟨rfl, rfl⟩ := dict_ep hod hdt
    have hi' : i < es'.size := by omega
    obtain ⟨p, hp, r1, r2⟩ := ent i hi'
    rw [← hsz] at st
    refine wpAny_pyNext_keys_item_raw st ⟨o, hgd, hx, hdt⟩ hi' fun h' st' sb => ?_
    have I1 : Inv X pins σ H { s with heap := h' } := I.turned (t' := s.toks) (fun b ob hb e => (sb.2 b hb).trans e) f0 f1 f3 f4 f5
    obtain ⟨oi, e, c, dd⟩ := id st'
    refine ⟨_, rfl, go_of (s := { s with heap := h' }) e c dd (by decide) ⟨p.1, H, I1, r1, ⟨rfl, p.2, hp⟩, ?_, fun b hb => (hf b hb).1⟩⟩
    rw [← hsz]
    exact st'
  done := by
    intro X hP hw hK hc i pins s σ H E I hf st hg
    subst hP hw hK
    obtain ⟨hd, hi⟩ := hg
    obtain ⟨f0, f1, f2, f3, f4, f5⟩ := hf it (by simp)
    obtain ⟨hs, hgd, hx, es', ep', hdt, hsz, ent⟩ := frz_rows I hd r
    obtain ⟨rfl, rfl⟩ := dict_ep hod hdt
    rw [← hsz] at st
    exact wpAny_pyNext_keys_end_raw (I.ok.hd hc) st ⟨o, hgd, hx, hdt⟩ (by omega) fun h' eb => ⟨rfl, I.turned (t' := s.toks) (fun b ob hb e => eb b ob hb e) f0 f1 f3 f4 f5⟩
  self := fun A i s Q E st h => wpAny_pyIter_keyiter st h
theorem turnI {elts : List Expr} {kk : Nat} {tpos : Pos} (r : RowsOf P w d u kv) (it : Addr) (hod : o.data = .dict es ep) :
    Turn P w K (.Tuple elts kk tpos) (Ji d o u kv) [it] it (fun i h => ∃ ok ov, IsItemIter h it d i kv.length ep ok ov) where
  mem := by simp
  obj := fun i h st b hb => by
    have e : b = it := by simpa using hb
    subst e
    obtain ⟨ok, ov, e⟩ := st
    exact ⟨_, e, fun v z => nomatch z⟩
  keep := fun i h h' st k => let ⟨ok, ov, e⟩ := st; ⟨ok, ov, k it (by simp) _ e⟩
  item := by
    intro X hP hw hK hc i pins s σ H E I hf st hg
    subst hP hw hK
    obtain ⟨hd, hi⟩ := hg
    obtain ⟨hs, hgd, hx, es', ep', hdt, hsz, ent⟩ := frz_rows I hd r
    obtain ⟨rfl, rfl⟩ := dict_ep hod hdt
    have hi' : i < es'.size := by omega
    obtain ⟨p, hp, r1, r2⟩ := ent i hi'
    obtain ⟨ok, ov, he⟩ := st
    have hlt : it < s.heap.objs.size := Heap.lt_size he
    rw [← hsz] at he
    refine wpAny_pyNext_items_item_raw he ⟨o, hgd, hx, hdt⟩ hi' fun h' ho hT hz hk => ?_
    refine ⟨_, rfl, wpAny_letOwnedTupleGo_items (s := { s with heap := h' }) ho fun h'' he' sb => ?_⟩
    have hT2 : h''.get? s.heap.objs.size = some { cls := .type "tuple", data := .seq #[es'[i].key, es'[i].val] } := (sb.2 _ (Nat.ne_of_gt hlt)).trans hT
    have new : ObjOk X.prog X.w (upd H s.heap.objs.size (.tup [p.1, p.2])) h'' s.heap.objs.size (.tup [p.1, p.2]) :=
      ⟨by show 2 ≤ sizeLine; decide, [es'[i].key, es'[i].val], .cons r1 (.cons r2 .nil), ⟨_, hT2, rfl, _, rfl⟩⟩
    have I1 : Inv X pins σ (upd H s.heap.objs.size (.tup [p.1, p.2])) { s with heap := h'' } :=
      I.turnedNew (t' := s.toks) (ch := [it]) (fun b ob hb e => (sb.2 b (by simpa using hb)).trans (hk b ob (by simpa using hb) e)) hf (Nat.le_refl _) new
    refine ⟨.ref s.heap.objs.size, _, I1, rfl, ⟨_, p.1, p.2, hp, rfl, I.hok.fresh (Nat.le_refl _), rfl⟩, ⟨es'[i].key, es'[i].val, ?_⟩, fun b hb => ?_⟩
    · rw [← hsz]; exact he'
    · have e : b = it := by simpa using hb
      rw [e, upd_ne (Nat.ne_of_lt hlt)]
      exact (hf it (by simp)).1
  done := by
    intro X hP hw hK hc i pins s σ H E I hf st hg
    subst hP hw hK
    obtain ⟨hd, hi⟩ := hg
    obtain ⟨f0, f1, f2, f3, f4, f5⟩ := hf it (by simp)
    obtain ⟨hs, hgd, hx, es', ep', hdt, hsz, ent⟩ := frz_rows I hd r
    obtain ⟨rfl, rfl⟩ := dict_ep hod hdt
    obtain ⟨ok, ov, he⟩ := st
    rw [← hsz] at he
    exact wpAny_pyNext_items_end_raw (I.ok.hd hc) he ⟨o, hgd, hx, hdt⟩ (by omega) fun h' eb => ⟨rfl, I.turned (t' := s.toks) (fun b ob hb e => eb b ob hb e) f0 f1 f3 f4 f5⟩
  self := fun A i s Q E st h => let ⟨_, _, e⟩ := st; PySem.W.kcp_self e h
/-! ### enumerate(tuple) -/
def Jte (K : PySem.W.Frag) (a : Addr) : L2.It :=
  ⟨fun i H => ∃ (xs : List V) (x : V), SqT K H a xs ∧ xs[i]? = some x, fun i H v H' => ∃ T x, v = .ref T ∧ H T = none ∧ H' = upd H T (.tup [.int (i : Nat), x]) ∧ ∀ xs, SqT K H a xs → xs[i]? = some x, fun i H => ∃ xs : List V, SqT K H a xs ∧ xs.length = i⟩
theorem turnTE {elts : List Expr} {kk : Nat} {tpos : Pos} (a e it : Addr) :
    Turn P w K (.Tuple elts kk tpos) (Jte K a) [e, it] e (fun i h => (∃ old, IsEnum h e it ((i : Nat) : Int) old) ∧ h.IsTupleIter it a i ∧ e ≠ it ∧ e ≠ a ∧ a ≠ it) where
  mem := by simp
  obj := fun i h st b hb => by
    obtain ⟨⟨old, he⟩, ⟨o, ho, hc, hd⟩, _⟩ := st
    have e' : b = e ∨ b = it := by simpa using hb
    rcases e' with z | z
    · rw [z]; exact ⟨_, he, fun v q => nomatch q⟩
    · rw [z]; exact ⟨o, ho, fun v q => by rw [hd] at q; cases q⟩
  keep := fun i h h' st k => let ⟨⟨old, he⟩, hi, hne⟩ := st; ⟨⟨old, k e (by simp) _ he⟩, hi.at fun o q => k it (by simp) o q, hne⟩
  item := by
    intro X hP hw hK hc i pins s σ H E I hf st hg
    subst hP hw hK
    obtain ⟨⟨old, he⟩, hit, hne, hea, hai⟩ := st
    obtain ⟨xs, x, hq, hx⟩ := hg
    obtain ⟨its, rv, p, hz⟩ := I.tuple hq
    obtain ⟨u, hu, ru⟩ := rv.get hx
    have hel : e < s.heap.objs.size := Heap.lt_size he
    have hil : it < s.heap.objs.size := by obtain ⟨_, q, _⟩ := hit; exact Heap.lt_size q
    have hlt : i < its.toArray.size := by
      rw [List.size_toArray, ← rv.length]
      exact (List.getElem?_eq_some_iff.mp hx).1
    refine wpAny_pyNext_enum_itemC (Draws.tuple (A := X.A.in1) (I.ok.hd hc) it a hai its.toArray) he ⟨hit, p⟩ hlt hne (by simp [hne, hea]) fun x' h' tk hP ho hs' hT hsz hk => ?_
    have hx' : x' = u := by
      have h1 : its.toArray[i]? = some x' := hP
      have h2 : its.toArray[i]? = some u := by simpa using hu
      rw [h1] at h2
      exact Option.some.inj h2
    subst hx'
    refine ⟨_, rfl, wpAny_letOwnedTupleGo_enum (s := { s with heap := h', toks := tk + 1 }) ho fun h'' he' sb => ?_⟩
    have hT2 : h''.get? s.heap.objs.size = some { cls := .type "tuple", data := .seq #[.int i tk, x'] } := (sb.2 _ (Nat.ne_of_gt hel)).trans hT
    have new : ObjOk X.prog X.w (upd H s.heap.objs.size (.tup [.int (i : Nat), x])) h'' s.heap.objs.size (.tup [.int (i : Nat), x]) :=
      ⟨by show 2 ≤ sizeLine; decide, [.int i tk, x'], .cons ⟨_, rfl⟩ (.cons ru .nil), ⟨_, hT2, rfl, _, rfl⟩⟩
    have I1 : Inv X pins σ (upd H s.heap.objs.size (.tup [.int (i : Nat), x])) { s with heap := h'', toks := tk + 1 } :=
      I.turnedNew (ch := [e, it]) (fun b ob hb q => (sb.2 b (fun z => hb (by simp [z]))).trans (hk b ob (fun z => hb (by simp [z])) (fun z => hb (by simp [z])) q)) hf (Nat.le_refl _) new
    refine ⟨.ref s.heap.objs.size, _, I1, rfl, ⟨_, x, rfl, I.hok.fresh (Nat.le_refl _), rfl, fun ys hy => by rw [I.tuple_inj hy hq]; exact hx⟩, ⟨⟨x', ?_⟩, hs'.1.at fun o q => (sb.2 it (Ne.symm hne)).trans q, hne, hea, hai⟩, fun b hb => ?_⟩
    · have e1 : ((i + 1 : Nat) : Int) = (i : Int) + 1 := by omega
      rw [e1]; exact he'
    · have hb' : b < s.heap.objs.size := by
        have e' : b = e ∨ b = it := by simpa using hb
        rcases e' with z | z
        · rw [z]; exact hel
        · rw [z]; exact hil
      rw [upd_ne (Nat.ne_of_lt hb')]
      exact (hf b hb).1
  done := by
    intro X hP hw hK hc i pins s σ H E I hf st hg
    subst hP hw hK
    obtain ⟨⟨old, he⟩, hit, hne, hea, hai⟩ := st
    obtain ⟨xs, hq, hx⟩ := hg
    obtain ⟨its, rv, p, hz⟩ := I.tuple hq
    obtain ⟨f0, f1, f2, f3, f4, f5⟩ := hf it (by simp)
    have hl := rv.length
    have hge : its.toArray.size = i := by rw [List.size_toArray]; omega
    have D := Draws.tuple (prog := X.prog) (w := X.w) (A := X.A.in1) (I.ok.hd hc) it a hai its.toArray
    rw [hge] at D
    exact wpAny_pyNext_enum_endD D he ⟨hit, p⟩ fun h' eb => ⟨rfl, I.turned (t' := s.toks) (fun b o hb q => eb b o hb q) f0 f1 f3 f4 f5⟩
  self := fun A i s Q E st h => let ⟨⟨_, he⟩, _⟩ := st; wpAny_pyIter_enum he h
end
end Ev
set_option Elab.async false
set_option linter.all false
set_option maxRecDepth 100000
set_option maxHeartbeats 2000000
/-! Ev, part L: what is walked, by the evaluator. -/
namespace Ev
open PySem PySem.Spec PyProof.Rows L2
theorem meets_enum1 {v : Value} {o : Obj} {H : Heap → Prop} (B : Begins v o H) :
    Meets (Builtin.«enumerate.__new__» ⟨[.type "enumerate", v], []⟩) (fun _ R s => H s.heap ∧
      R (.ok (.ret (.ref (s.heap.push o).objs.size))) { s with heap := (s.heap.push o).push { cls := .type "enumerate", data := .fields #[.none, .bool false, .ref s.heap.objs.size, rawInt 0, .none, .none] } }) :=
  .of_wp fun prog w A R s h => by
    obtain ⟨hp, g, d, tk, os⟩ := s; obtain ⟨h1, h⟩ := h
    have hsub := sub_enumerate
    have q1 : ∀ {A' : Around} {E : Value → Shared → Prop} {Q : Value → Shared → Prop}, Q (.ref hp.objs.size) ⟨hp.push o, g, d, tk, os⟩ → wpAny (model prog w) A' (pyIter v) Q E ⟨hp, g, d, tk, os⟩ :=
      fun q => B.iter prog w _ _ ⟨hp, g, d, tk, os⟩ _ h1 q
    wp_walk using q1
    refine wpAny_stack_any fun st => wpAny_pure ?_
    split
    · rename_i c _ _ _ _ _
      cases (c == Value.type "enumerate")
      · wp_walk using q1
        exact ⟨_, rfl, h⟩
      · wp_walk using q1
        exact ⟨_, rfl, h⟩
    · wp_walk using q1
      exact ⟨_, rfl, h⟩
section
variable {prog : Program} {w : World} {A : Around} {E : Value → Shared → Prop} {s : Shared}
theorem call_enum1 {v : Value} {o : Obj} {H : Heap → Prop} {Q : Value → Shared → Prop} (B : Begins v o H) (h1 : H s.heap)
    (h : ∀ h', IsEnum h' (s.heap.objs.size + 1) s.heap.objs.size 0 .none → h'.get? s.heap.objs.size = some o → h'.objs.size = s.heap.objs.size + 2 →
      (∀ b o, s.heap.get? b = some o → h'.get? b = some o) → Q (.ref (s.heap.objs.size + 1)) { s with heap := h' }) :
    wpAny (model prog w) A (call (.type "enumerate") [v]) Q E s := by
  refine callType_new F.called_enumerate (by decide) (F.typeCall_enumerate_1 _) (F.newCall_enumerate_1 _) (fun obj => F.args_object_init_2 obj _) F.entry_enumerate_new
    (meets_enum1 B) ⟨h1, ?_⟩
  have hz : (s.heap.push o).objs.size = s.heap.objs.size + 1 := Heap.size_push ..
  show _ ∧ _
  rw [hz]
  have he : IsEnum ((s.heap.push o).push { cls := .type "enumerate", data := .fields #[.none, .bool false, .ref s.heap.objs.size, rawInt 0, .none, .none] }) (s.heap.objs.size + 1) s.heap.objs.size 0 .none := by
    have := Heap.get?_push_size (s.heap.push o) (o := { cls := .type "enumerate", data := .fields #[.none, .bool false, .ref s.heap.objs.size, rawInt 0, .none, .none] }) rfl
    rw [hz] at this; exact this
  refine ⟨⟨_, he, rfl⟩, h _ he (Heap.get?_push_of_some _ (Heap.get?_push_size _ B.free)) (by rw [Heap.size_push, hz]) fun b o x => Heap.get?_push_of_some _ (Heap.get?_push_of_some _ x)⟩
end

/-! ### what the walk of such items is -/
structure WalkOk (P : Program) (w : World) (K : PySem.W.Frag) (J : L2.It) (it : Ev.It) (μ0 : List Addr) (H0 : Hp) : Prop where
  go : ∀ i H μ S, Ext μ0 μ → Grow H0 H → StOk P w K μ S H → chkOk S it.chk = true → i < it.items.length → J.go i H
  stop : ∀ i H μ S, Ext μ0 μ → Grow H0 H → StOk P w K μ S H → chkOk S it.chk = true → i = it.items.length → J.stop i H
  yld : ∀ i H μ S d x H', Ext μ0 μ → Grow H0 H → StOk P w K μ S H → chkOk S it.chk = true → it.items[i]? = some d → J.yld i H x H' → Grow H H' ∧ StOk P w K μ S H' ∧ RelD K μ H' d x
def tI (P : Program) (w : World) (K : PySem.W.Frag) (f : Env → Store → R It) : TI := fun σ H R => ∃ μ δ S it S1, StOk P w K μ S H ∧ EnvOk K μ H δ σ ∧ f δ S = .ok it S1 ∧
  ∀ J H1 μ1, Ext μ μ1 → Grow H H1 → StOk P w K μ1 S1 H1 → WalkOk P w K J it μ1 H1 → R J H1
section
variable {P : Program} {w : World} {K : PySem.W.Frag} {μ0 : List Addr} {H0 : Hp}
theorem chk_one {S : Store} {n : Nat} {xs : List D} (h : chkOk S [(n, xs)] = true) : S[n]? = some (.lst xs) := by
  simp [chkOk] at h
  exact h
theorem get_of_lt {ds : List D} {vs : List V} {μ : List Addr} {H : Hp} (r : RelDs K μ H ds vs) {i : Nat} (h : i < ds.length) : ∃ v, vs[i]? = some v := by
  obtain ⟨v, h1, _⟩ := r.get (List.getElem?_eq_getElem h)
  exact ⟨v, h1⟩
theorem walk_tup {a : Addr} {ds : List D} {vs : List V} (h1 : SqT K H0 a vs) (h2 : RelDs K μ0 H0 ds vs) : WalkOk P w K (Itt K a) ⟨ds, []⟩ μ0 H0 where
  go := fun i H μ S e g so c hi => by
    obtain ⟨v, hv⟩ := get_of_lt h2 hi
    exact ⟨vs, v, sqT_keep g.keep h1, hv⟩
  stop := fun i H μ S e g so c hi => ⟨vs, sqT_keep g.keep h1, by rw [← h2.length]; exact Nat.le_of_eq hi.symm⟩
  yld := fun i H μ S d x H' e g so c hi y => by
    obtain ⟨rfl, hx⟩ := y
    obtain ⟨v, hv, rv⟩ := h2.get hi
    have := hx vs (sqT_keep g.keep h1)
    rw [hv] at this
    cases this
    exact ⟨Grow.refl, so, rv.keep e g.keep⟩
theorem walk_rol {a : Addr} {ds : List D} {vs : List V} (h1 : SqR K H0 a vs) (h2 : RelDs K μ0 H0 ds vs) : WalkOk P w K (Itl K a) ⟨ds, []⟩ μ0 H0 where
  go := fun i H μ S e g so c hi => by
    obtain ⟨v, hv⟩ := get_of_lt h2 hi
    exact ⟨vs, v, (sqR_keep g.keep h1).sq, hv⟩
  stop := fun i H μ S e g so c hi => ⟨vs, (sqR_keep g.keep h1).sq, by rw [← h2.length]; exact Nat.le_of_eq hi.symm⟩
  yld := fun i H μ S d x H' e g so c hi y => by
    obtain ⟨rfl, hx⟩ := y
    obtain ⟨v, hv, rv⟩ := h2.get hi
    have := hx vs (sqR_keep g.keep h1).sq
    rw [hv] at this
    cases this
    exact ⟨Grow.refl, so, rv.keep e g.keep⟩
theorem walk_lst {a : Addr} {n : Nat} {ds : List D} (ha : μ0[n]? = some a) : WalkOk P w K (Itl K a) ⟨ds, [(n, ds)]⟩ μ0 H0 where
  go := fun i H μ S e g so c hi => by
    obtain ⟨b, vs, eb, h1, h2, _⟩ := so.lstAt (.ref (e.get ha)) (chk_one c)
    cases eb
    obtain ⟨v, hv⟩ := get_of_lt h2 hi
    exact ⟨vs, v, SqL.of h1, hv⟩
  stop := fun i H μ S e g so c hi => by
    obtain ⟨b, vs, eb, h1, h2, _⟩ := so.lstAt (.ref (e.get ha)) (chk_one c)
    cases eb
    exact ⟨vs, SqL.of h1, by rw [← h2.length]; exact Nat.le_of_eq hi.symm⟩
  yld := fun i H μ S d x H' e g so c hi y => by
    obtain ⟨b, vs, eb, h1, h2, _⟩ := so.lstAt (.ref (e.get ha)) (chk_one c)
    cases eb
    obtain ⟨rfl, hx⟩ := y
    obtain ⟨v, hv, rv⟩ := h2.get hi
    have := hx vs (SqL.of h1)
    rw [hv] at this
    cases this
    exact ⟨Grow.refl, so, rv⟩
theorem walk_rng {lo hi : Int} : WalkOk P w K (Itr lo (hi - lo).toNat) ⟨rangeD lo hi, []⟩ μ0 H0 where
  go := fun i H μ S e g so c h => by
    unfold rangeD at h
    rw [List.length_map, List.length_range] at h
    exact h
  stop := fun i H μ S e g so c h => by
    unfold rangeD at h
    rw [List.length_map, List.length_range] at h
    exact Nat.le_of_eq h.symm
  yld := fun i H μ S d x H' e g so c h y => by
    obtain ⟨rfl, rfl⟩ := y
    unfold rangeD at h
    rw [List.getElem?_map] at h
    obtain ⟨j, hj, rfl⟩ := Option.map_eq_some_iff.mp h
    have hj2 : j = i := by
      obtain ⟨h1, h2⟩ := List.getElem?_eq_some_iff.mp hj
      simpa using h2.symm
    subst hj2
    exact ⟨Grow.refl, so, .int _⟩
theorem walk_str {x : Str} : WalkOk P w K (Its x) ⟨x.cps.toList.map fun c => .str ⟨#[c]⟩, []⟩ μ0 H0 where
  go := fun i H μ S e g so c h => by
    rw [List.length_map, Array.length_toList] at h
    exact h
  stop := fun i H μ S e g so c h => by
    rw [List.length_map, Array.length_toList] at h
    exact Nat.le_of_eq h.symm
  yld := fun i H μ S d v H' e g so c h y => by
    obtain ⟨rfl, ch, hc, rfl⟩ := y
    rw [List.getElem?_map, Array.getElem?_toList, hc] at h
    cases h
    exact ⟨Grow.refl, so, .str _⟩
theorem enumD_get {ds : List D} {i : Nat} {d : D} (h : (enumD ds)[i]? = some d) : ∃ x, ds[i]? = some x ∧ d = .tup [.int (i : Nat), x] := by
  unfold enumD at h
  rw [List.getElem?_map] at h
  obtain ⟨p, hp, rfl⟩ := Option.map_eq_some_iff.mp h
  rw [List.getElem?_zipIdx] at hp
  obtain ⟨x, hx, rfl⟩ := Option.map_eq_some_iff.mp hp
  exact ⟨x, hx, by simp⟩
theorem enumD_len {ds : List D} : (enumD ds).length = ds.length := by simp [enumD]
theorem pair_new {H : Hp} {μ : List Addr} {S : Store} {T : Addr} {a b : D} {x y : V} (so : StOk P w K μ S H) (hT : H T = none) (ra : RelD K μ H a x) (rb : RelD K μ H b y) :
    Grow H (upd H T (.tup [x, y])) ∧ StOk P w K μ S (upd H T (.tup [x, y])) ∧ RelD K μ (upd H T (.tup [x, y])) (.tup [a, b]) (.ref T) :=
  ⟨grow_new hT, so.more hT, .tup (SqT.of upd_same) (.cons (ra.keep Ext.refl (grow_new hT).keep) (.cons (rb.keep Ext.refl (grow_new hT).keep) .nil))⟩
theorem walk_enumT {a : Addr} {ds : List D} {vs : List V} (h1 : SqT K H0 a vs) (h2 : RelDs K μ0 H0 ds vs) : WalkOk P w K (Jte K a) ⟨enumD ds, []⟩ μ0 H0 where
  go := fun i H μ S e g so c hi => by
    rw [enumD_len] at hi
    obtain ⟨v, hv⟩ := get_of_lt h2 hi
    exact ⟨vs, v, sqT_keep g.keep h1, hv⟩
  stop := fun i H μ S e g so c hi => by
    rw [enumD_len] at hi
    exact ⟨vs, sqT_keep g.keep h1, by rw [← h2.length]; exact hi.symm⟩
  yld := fun i H μ S d x H' e g so c hi y => by
    obtain ⟨T, z, rfl, hT, rfl, hx⟩ := y
    obtain ⟨x0, hi2, rfl⟩ := enumD_get hi
    obtain ⟨v, hv, rv⟩ := h2.get hi2
    have := hx vs (sqT_keep g.keep h1)
    rw [hv] at this
    cases this
    exact pair_new so hT (.int _) (rv.keep e g.keep)
theorem walk_enumL {a : Addr} {n : Nat} {ds : List D} (ha : μ0[n]? = some a) : WalkOk P w K (Ite K a) ⟨enumD ds, [(n, ds)]⟩ μ0 H0 where
  go := fun i H μ S e g so c hi => by
    rw [enumD_len] at hi
    obtain ⟨b, vs, eb, h1, h2, _⟩ := so.lstAt (.ref (e.get ha)) (chk_one c)
    cases eb
    obtain ⟨v, hv⟩ := get_of_lt h2 hi
    exact ⟨vs, v, SqL.of h1, hv⟩
  stop := fun i H μ S e g so c hi => by
    rw [enumD_len] at hi
    obtain ⟨b, vs, eb, h1, h2, _⟩ := so.lstAt (.ref (e.get ha)) (chk_one c)
    cases eb
    exact ⟨vs, SqL.of h1, by rw [← h2.length]; exact Nat.le_of_eq hi.symm⟩
  yld := fun i H μ S d x H' e g so c hi y => by
    obtain ⟨b, vs, eb, h1, h2, _⟩ := so.lstAt (.ref (e.get ha)) (chk_one c)
    cases eb
    obtain ⟨T, z, rfl, hT, rfl, hx⟩ := y
    obtain ⟨x0, hi2, rfl⟩ := enumD_get hi
    obtain ⟨v, hv, rv⟩ := h2.get hi2
    have := hx vs (SqL.of h1)
    rw [hv] at this
    cases this
    exact pair_new so hT (.int _) rv
/-- the pairs of a dict's object and its data -/
theorem rows_rel {μ : List Addr} {H : Hp} {a : Addr} {kvs : List (D × D)} {u : HO} (du : DU P w K μ H a kvs u) : ∃ kv : List (V × V), RowsOf P w a u kv ∧ kv.length = kvs.length ∧ ∀ (i : Nat) (p : D × D), kvs[i]? = some p → ∃ q : V × V, kv[i]? = some q ∧ RelD K μ H p.1 q.1 ∧ RelD K μ H p.2 q.2 := by
  cases du with
  | @leaf ws hl p =>
    refine ⟨_, .leaf ws, by rw [List.length_map, Paired.length p], fun i q hq => ?_⟩
    obtain ⟨r, hr, r1, r2⟩ := paired_at p hq
    refine ⟨(kV r.1, r.2), by rw [List.getElem?_map, hr]; rfl, ?_, r2⟩
    cases e : q.1 <;> rw [e] at r1 <;> simp [leafKey] at r1 <;> rw [← r1]
    · exact .int _
    · exact .str _
  | @nest rows hn hl p =>
    refine ⟨_, .nest rows, by rw [List.length_map, Paired.length p], fun i q hq => ?_⟩
    obtain ⟨r, hr, r1, r2, r3, r4⟩ := paired_at p hq
    exact ⟨(.ref r.2.1, r.2.2), by rw [List.getElem?_map, hr]; rfl, r3, r4⟩
theorem walk_keys {a : Addr} {o : Obj} {u : HO} {kvs : List (D × D)} {kv : List (V × V)} (h : H0 a = some (.frz o u)) (hl : kv.length = kvs.length) (hr : ∀ (i : Nat) (p : D × D), kvs[i]? = some p → ∃ q : V × V, kv[i]? = some q ∧ RelD K μ0 H0 p.1 q.1 ∧ RelD K μ0 H0 p.2 q.2) :
    WalkOk P w K (Jk a o u kv) ⟨kvs.map (·.1), []⟩ μ0 H0 where
  go := fun i H μ S e g so c hi => ⟨g.frz _ _ _ h, by rw [List.length_map] at hi; rw [hl]; exact hi⟩
  stop := fun i H μ S e g so c hi => ⟨g.frz _ _ _ h, by rw [List.length_map] at hi; rw [hl]; exact Nat.le_of_eq hi.symm⟩
  yld := fun i H μ S d x H' e g so c hi y => by
    obtain ⟨rfl, v, hv⟩ := y
    rw [List.getElem?_map] at hi
    obtain ⟨p, hp, rfl⟩ := Option.map_eq_some_iff.mp hi
    obtain ⟨q, hq, r1, r2⟩ := hr i p hp
    rw [hv] at hq
    cases hq
    exact ⟨Grow.refl, so, r1.keep e g.keep⟩
theorem walk_items {a : Addr} {o : Obj} {u : HO} {kvs : List (D × D)} {kv : List (V × V)} (h : H0 a = some (.frz o u)) (hl : kv.length = kvs.length) (hr : ∀ (i : Nat) (p : D × D), kvs[i]? = some p → ∃ q : V × V, kv[i]? = some q ∧ RelD K μ0 H0 p.1 q.1 ∧ RelD K μ0 H0 p.2 q.2) :
    WalkOk P w K (Ji a o u kv) ⟨kvs.map fun p => .tup [p.1, p.2], []⟩ μ0 H0 where
  go := fun i H μ S e g so c hi => ⟨g.frz _ _ _ h, by rw [List.length_map] at hi; rw [hl]; exact hi⟩
  stop := fun i H μ S e g so c hi => ⟨g.frz _ _ _ h, by rw [List.length_map] at hi; rw [hl]; exact Nat.le_of_eq hi.symm⟩
  yld := fun i H μ S d x H' e g so c hi y => by
    obtain ⟨T, k, v, hv, rfl, hT, rfl⟩ := y
    rw [List.getElem?_map] at hi
    obtain ⟨p, hp, rfl⟩ := Option.map_eq_some_iff.mp hi
    obtain ⟨q, hq, r1, r2⟩ := hr i p hp
    rw [hv] at hq
    cases hq
    exact pair_new so hT (r1.keep e g.keep) (r2.keep e g.keep)
end
/-! ### the iterators -/
section
variable {X : Cx} {tg e : Expr} {fa : Env → Store → R D}
abbrev TI' (X : Cx) := tI X.prog X.w X.K
/-- a value's items -/
theorem pi_of (he : PE X e (TD X fa)) {pins : List (Addr × Obj)} {s : Shared} {σ : L2.St} {H : Hp} {R : L2.It → Hp → Prop} (I : Inv X pins σ H s) {μ : List Addr} {δ : Env} {S : Store} {d : D} {it : It} {S1 : Store}
    (so : StOk X.prog X.w X.K μ S H) (eo : EnvOk X.K μ H δ σ) (h1 : fa δ S = .ok d S1) (hi : itOf d S1 = some it)
    (k : ∀ J H1 μ1, Ext μ μ1 → Grow H H1 → StOk X.prog X.w X.K μ1 S1 H1 → WalkOk X.prog X.w X.K J it μ1 H1 → R J H1) :
    wpAny (model X.prog X.w) X.A (eval e X.env) (fun v s1 => wpAny (model X.prog X.w) X.A (pyIter v) (PIE X pins σ tg R) X.xe s1) X.xe s := by
  unfold itOf at hi
  split at hi
  · cases hi
    refine (pi_str he).run pins s σ H R I ⟨μ, δ, S, _, S1, so, eo, h1, fun v H1 μ1 e1 g1 so1 r1 => ?_⟩
    cases r1
    exact ⟨_, rfl, k _ _ _ e1 g1 so1 walk_str⟩
  · cases hi
    refine (pi_tup he).run pins s σ H R I ⟨μ, δ, S, _, S1, so, eo, h1, fun v H1 μ1 e1 g1 so1 r1 => ?_⟩
    cases r1 with
    | tup a1 a2 => exact ⟨_, rfl, ⟨_, a1⟩, k _ _ _ e1 g1 so1 (walk_tup a1 a2)⟩
  · cases hi
    refine (pi_list he).run pins s σ H R I ⟨μ, δ, S, _, S1, so, eo, h1, fun v H1 μ1 e1 g1 so1 r1 => ?_⟩
    cases r1 with
    | rol a1 a2 => exact ⟨_, rfl, ⟨_, a1.sq⟩, k _ _ _ e1 g1 so1 (walk_rol a1 a2)⟩
  · split at hi
    · rename_i e2
      cases hi
      refine (pi_list he).run pins s σ H R I ⟨μ, δ, S, _, S1, so, eo, h1, fun v H1 μ1 e1 g1 so1 r1 => ?_⟩
      obtain ⟨a, vs, rfl, b1, b2, b3⟩ := so1.lstAt r1 e2
      exact ⟨_, rfl, ⟨_, SqL.of b1⟩, k _ _ _ e1 g1 so1 (walk_lst b3)⟩
    · cases hi
  · cases hi
theorem pid_val (he : PE X e (TD X fa)) : PI X tg e (TI' X fun δ S => (fa δ S).bind fun d S1 => R.of (itOf d S1) S1) :=
  ⟨fun pins s σ H R I ⟨μ, δ, S, it, S1, so, eo, hf, k⟩ => by
    obtain ⟨d, S2, h1, hf⟩ := Ev.R.bind_some hf
    obtain ⟨hi, rfl⟩ := Ev.R.of_ok hf
    exact pi_of he I so eo h1 hi k⟩
def getD (δ : Env) (i : Nat) (f : D → Option It) (S : Store) : R It := match δ[i]? with
  | some (some d) => R.of (f d) S
  | _ => .bad
theorem getD_ok {δ : Env} {i : Nat} {f : D → Option It} {S S1 : Store} {it : It} (h : getD δ i f S = .ok it S1) : ∃ d, δ[i]? = some (some d) ∧ f d = some it ∧ S = S1 := by
  unfold getD at h
  split at h
  · obtain ⟨a, b⟩ := Ev.R.of_ok h
    exact ⟨_, by assumption, a, b⟩
  · cases h
theorem pid_keys {i : Nat} (he : PE X e (tVar i)) : PI X tg e (TI' X fun δ S => getD δ i (fun d => keysOf d S) S) :=
  ⟨fun pins s σ H R I ⟨μ, δ, S, it, S1, so, eo, hf, k⟩ => by
    obtain ⟨d, hd, hi, rfl⟩ := getD_ok hf
    unfold keysOf at hi
    split at hi
    · rename_i n kvs e1
      cases hi
      obtain ⟨rfl, e2⟩ := dicOf_at e1
      obtain ⟨v, hv, rv⟩ := eo.at_ i _ hd
      cases rv with
      | ref ha =>
        cases so.get e2 ha with
        | @lock kvs2 o u b1 b2 =>
          obtain ⟨kv, r1, r2, r3⟩ := rows_rel b2
          refine thn (he.run pins s σ H (fun x H1 => x = .ref _ ∧ H1 = H) I ⟨_, hv, rfl, rfl⟩) fun v s1 ⟨x, H1, I1, rx, ex, eH⟩ => ?_
          subst ex eH
          cases (show v = Value.ref _ from rx)
          obtain ⟨hs, hgd, hx, es, ep, hdt, hsz, _⟩ := frz_rows I1 b1 r1
          refine wpAny_pyIter_dict_raw hs ⟨o, hgd, hx, hdt⟩ (pi_one (tk := s1.toks) I1 _ (turnK r1 _ hdt) ⟨_, Heap.get?_push_size _ rfl, rfl, ?_⟩ (k _ _ _ Ext.refl Grow.refl so (walk_keys b1 r2 r3)))
          rw [hsz] <;> rfl
    · cases hi
    · exact pi_of (fa := fun δ S => match δ[i]? with
        | some (some d) => .ok d S
        | _ => .bad) (pd_var he) I so eo (by rw [hd]) hi k⟩
theorem pid_items {i : Nat} {elts : List Expr} {kk : Nat} {tpos apos cpos : Pos} (he : PE X e (tVar i)) (hbase : attributeBase e "items" X.env (eval e X.env) = eval e X.env) (hline : (apos.endLine == cpos.line) = true) :
    PI X (.Tuple elts kk tpos) (.Call (.Attribute e "items" apos) [] [] cpos) (TI' X fun δ S => getD δ i (fun d => itemsOf d S) S) :=
  ⟨fun pins s σ H R I ⟨μ, δ, S, it, S1, so, eo, hf, k⟩ => by
    obtain ⟨d, hd, hi, rfl⟩ := getD_ok hf
    unfold itemsOf at hi
    split at hi
    · rename_i n kvs e1
      cases hi
      obtain ⟨rfl, e2⟩ := dicOf_at e1
      obtain ⟨v, hv, rv⟩ := eo.at_ i _ hd
      cases rv with
      | @ref _ a ha =>
        cases so.get e2 ha with
        | @lock kvs2 o u b1 b2 =>
          obtain ⟨kv, r1, r2, r3⟩ := rows_rel b2
          refine wpAny_Call_method (T := "dict") (id := "dict.items") hbase rfl hline PySem.F.plainAttrs_dict PySem.F.slot_dict_items PySem.F.type_dict_items (thn (he.run pins s σ H (fun x H1 => x = .ref a ∧ H1 = H) I ⟨_, hv, rfl, rfl⟩) fun v s1 ⟨x, H1, I1, rx, ex, eH⟩ => ?_)
          subst ex eH
          cases (show v = Value.ref _ from rx)
          obtain ⟨hs, hgd, hx, es, ep, hdt, hsz, _⟩ := frz_rows I1 b1 r1
          refine ⟨⟨o, hgd, hx.1⟩, fun b q => by cases q; exact ⟨o, hgd, hx.2.1⟩, ?_⟩
          have I2 : Inv X pins σ H1 { s1 with heap := s1.heap.push { cls := .type "dict_items", data := .fields #[.ref a] } } := I1.kept (t' := s1.toks) fun b ob q => Heap.get?_push_of_some _ q
          have fin : wpAny (model X.prog X.w) X.A (pyIter (.ref s1.heap.objs.size)) (PIE X pins σ (.Tuple elts kk tpos) R) X.xe { s1 with heap := s1.heap.push { cls := .type "dict_items", data := .fields #[.ref a] } } := by
            refine wpAny_pyIter_items_raw (d := a) ⟨_, Heap.get?_push_size _ rfl, rfl, rfl⟩ ⟨o, Heap.get?_push_of_some _ hgd, hx, hdt⟩ (pi_one (tk := s1.toks) I2 _ (turnI r1 _ hdt) ⟨.none, .none, ?_⟩ (k _ _ _ Ext.refl Grow.refl so (walk_items b1 r2 r3)))
            rw [hsz]
            exact Heap.get?_push_size _ rfl
          show wpAny _ _ (callWith cpos (.builtin "dict.items") [.ref a] [] []) _ X.xe s1
          exact method_meetsIn PySem.F.slot_dict_items PySem.F.entry_dict_items rfl (PySem.evalArgs_none ⟨rfl, ⟨o, hgd, hx.1⟩, PySem.F.args_dict_items_1 _, _, meets_dict_items_raw a hs, ⟨es, ep, o, hgd, hx, hdt⟩, fin⟩)
    · cases hi⟩
theorem pid_range2 {a b : Expr} {fb : Env → Store → R D} {p pos : Pos} {fs : Env → Store → R (List D)} (hg : Gl X "range") (hm : X.mg "range" = none) (ha : PA X [a, b] (TDs X fs)) (hs : starEach [a, b] X.env = [(false, eval a X.env), (false, eval b X.env)]) (hs2 : starEach [b] X.env = [(false, eval b X.env)])
    (hfs : ∀ δ S ds S1, fs δ S = .ok ds S1 → ∃ x S2 y, fa δ S = .ok x S2 ∧ fb δ S2 = .ok y S1 ∧ ds = [x, y]) (hfs2 : ∀ δ S x S2 y S1, fa δ S = .ok x S2 → fb δ S2 = .ok y S1 → fs δ S = .ok [x, y] S1) :
    PI X tg (.Call (.Name "range" p) [a, b] [] pos) (TI' X fun δ S => (fa δ S).bind fun x S1 => (fb δ S1).bind fun y S2 => match x, y with
      | .int i, .int j => if rangeOk i j = true then .ok ⟨rangeD i j, []⟩ S2 else .bad
      | _, _ => .bad) :=
  ⟨fun pins s σ H R I ⟨μ, δ, S, it, S1, so, eo, hf, k⟩ => by
    obtain ⟨x, S2, h1, hf1⟩ := Ev.R.bind_some hf
    obtain ⟨y, S3, h2, hf2⟩ := Ev.R.bind_some hf1
    clear hf hf1
    split at hf2
    · rename_i i j
      split at hf2
      · rename_i hok
        cases hf2
        refine (pi_range2 hg hm ha hs hs2).run pins s σ H R I ⟨μ, δ, S, _, _, so, eo, hfs2 _ _ _ _ _ _ h1 h2, fun vs H1 μ1 e1 g1 so1 r1 => ?_⟩
        obtain ⟨u, v, rfl, ru, rv⟩ := rd2 r1
        cases ru
        cases rv
        have := rangeOk_is hok
        exact ⟨i, j, rfl, ⟨by omega, by omega, by omega, by omega⟩, k _ _ _ e1 g1 so1 walk_rng⟩
      · cases hf2
    · cases hf2⟩
theorem pid_range1 {a : Expr} {p pos : Pos} (hg : Gl X "range") (hm : X.mg "range" = none) (ha : PA X [a] (TDs X fun δ S => (fa δ S).bind fun d S1 => .ok [d] S1)) (hs : starEach [a] X.env = [(false, eval a X.env)]) :
    PI X tg (.Call (.Name "range" p) [a] [] pos) (TI' X fun δ S => (Ev.R.ok (D.int 0) S).bind fun x S1 => (fa δ S1).bind fun y S2 => match x, y with
      | .int i, .int j => if rangeOk i j = true then .ok ⟨rangeD i j, []⟩ S2 else .bad
      | _, _ => .bad) :=
  ⟨fun pins s σ H R I ⟨μ, δ, S, it, S1, so, eo, hf, k⟩ => by
    dsimp only [Ev.R.bind_ok] at hf
    obtain ⟨y, S3, h2, hf⟩ := Ev.R.bind_some hf
    split at hf
    · rename_i i j e0
      cases e0
      split at hf
      · rename_i hok
        cases hf
        refine (pi_range1 hg hm ha hs).run pins s σ H R I ⟨μ, δ, S, [.int j], _, so, eo, by dsimp only; rw [h2]; rfl, fun vs H1 μ1 e1 g1 so1 r1 => ?_⟩
        obtain ⟨u, rfl, ru⟩ := rd1 r1
        cases ru
        have := rangeOk_is hok
        refine ⟨j, rfl, by omega, by omega, k _ _ _ e1 g1 so1 ?_⟩
        have e9 : (j - 0).toNat = j.toNat := by simp
        rw [← e9]
        exact walk_rng
      · cases hf
    · cases hf⟩
theorem pid_enum {p pos tpos : Pos} {elts : List Expr} {kk : Nat} (hg : Gl X "enumerate") (hm : X.mg "enumerate" = none) (ha : PA X [e] (TDs X fun δ S => (fa δ S).bind fun d S1 => .ok [d] S1)) (hs : starEach [e] X.env = [(false, eval e X.env)]) :
    PI X (.Tuple elts kk tpos) (.Call (.Name "enumerate" p) [e] [] pos) (TI' X fun δ S => (fa δ S).bind fun d S1 => R.of (enumOf d S1) S1) :=
  ⟨fun pins s σ H R I ⟨μ, δ, S, it, S1, so, eo, hf, k⟩ => by
    obtain ⟨d, S2, h1, hf⟩ := Ev.R.bind_some hf
    obtain ⟨hi, rfl⟩ := Ev.R.of_ok hf
    unfold enumOf at hi
    split at hi
    · rename_i ds
      cases hi
      refine Call_ (ld_blt I hg hm boot_enumerate (PyProof.Rows.callWith_type1 (thn (ha.run pos pins s σ H (fun vs H1 => ∃ μ1 v, Ext μ μ1 ∧ Grow H H1 ∧ StOk X.prog X.w X.K μ1 S2 H1 ∧ vs = [v] ∧ RelD X.K μ1 H1 (.tup ds) v) I
        ⟨μ, δ, S, [.tup ds], S2, so, eo, by dsimp only; rw [h1]; rfl, fun vs H1 μ1 e1 g1 so1 r1 => let ⟨v, ev, rv⟩ := rd1 r1; ⟨μ1, v, e1, g1, so1, ev, rv⟩⟩) fun us s1 ⟨vs, H1, I1, r1, μ1, v, e1, g1, so1, ev, rv⟩ => ?_) hs rfl))
      subst ev
      cases rv with
      | @tup _ vs a a1 a2 =>
        obtain ⟨u, rfl, ru⟩ := vals1 r1
        cases ru
        obtain ⟨its, r2, pt, hz⟩ := I1.tuple a1
        refine call_enum1 (begins_tuple a its.toArray) pt fun h' he hit hsz hk => wpAny_pyIter_enum he ?_
        have I2 : Inv X pins σ H1 { s1 with heap := h' } := I1.kept (t' := s1.toks) hk
        obtain ⟨oa, hoa, _⟩ := pt
        have hla : a < s1.heap.objs.size := Heap.lt_size hoa
        refine ⟨s1.heap.objs.size + 1, [s1.heap.objs.size + 1, s1.heap.objs.size], _, _, H1, rfl, I2, turnTE a (s1.heap.objs.size + 1) s1.heap.objs.size, ⟨⟨.none, he⟩, ⟨_, hit, rfl, rfl⟩, Nat.succ_ne_self _, Nat.ne_of_gt (Nat.lt_succ_of_lt hla), Nat.ne_of_lt hla⟩, fun b hb => ?_, k _ _ _ e1 g1 so1 (walk_enumT a1 a2)⟩
        have e' : b = s1.heap.objs.size + 1 ∨ b = s1.heap.objs.size := by simpa using hb
        have hle : s1.heap.objs.size ≤ b := by
          rcases e' with z | z
          · rw [z]; exact Nat.le_add_right _ _
          · rw [z]; exact Nat.le_refl _
        exact I1.fpOk hle (I1.hok.fresh hle)
    · rename_i n
      split at hi
      · rename_i ds e2
        cases hi
        refine (pi_enum hg hm ha hs).run pins s σ H R I ⟨μ, δ, S, [.ref n], S2, so, eo, by dsimp only; rw [h1]; rfl, fun vs H1 μ1 e1 g1 so1 r1 => ?_⟩
        obtain ⟨v, rfl, rv⟩ := rd1 r1
        obtain ⟨a, vs, rfl, b1, b2, b3⟩ := so1.lstAt rv e2
        exact ⟨a, vs, rfl, SqL.of b1, k _ _ _ e1 g1 so1 (walk_enumL b3)⟩
      · cases hi
    · cases hi⟩
end
end Ev
set_option Elab.async false
set_option linter.all false
set_option maxRecDepth 100000
set_option maxHeartbeats 2000000
/-! Ev, part M: statements, by the evaluator. -/
namespace Ev
open PySem PySem.Spec PyProof.Rows L2
theorem _root_.L2.PS.of {X : Cx} {st : Stmt} {t t' : TS} (h : PS X st t) (i : ∀ D σ H, t' D σ H → t D σ H) : PS X st t' := ⟨fun pins s σ H D I q => h.run pins s σ H D I (i D σ H q)⟩
theorem _root_.L2.PSs.of {X : Cx} {st : List Stmt} {t t' : TS} (h : PSs X st t) (i : ∀ D σ H, t' D σ H → t D σ H) : PSs X st t' := ⟨fun pins s σ H D I q => h.run pins s σ H D I (i D σ H q)⟩
theorem _root_.L2.PG.of {X : Cx} {st : Expr} {t t' : TG} (h : PG X st t) (i : ∀ v σ H Q, t' v σ H Q → t v σ H Q) : PG X st t' := ⟨fun pins s σ H v u Q I r q => h.run pins s σ H v u Q I r (i v σ H Q q)⟩
/-- what a statement's end asks -/
def OutOk (P : Program) (w : World) (K : PySem.W.Frag) (μ : List Addr) (H : Hp) (S : Store) (o : Out) (D : Ends) : Prop := match o with
  | .nx δ => ∀ σ' H' μ', Ext μ μ' → Grow H H' → StOk P w K μ' S H' → EnvOk K μ' H' δ σ' → D.nx σ' H'
  | .bk δ => ∀ σ' H' μ', Ext μ μ' → Grow H H' → StOk P w K μ' S H' → EnvOk K μ' H' δ σ' → D.bk σ' H'
  | .ct δ => ∀ σ' H' μ', Ext μ μ' → Grow H H' → StOk P w K μ' S H' → EnvOk K μ' H' δ σ' → D.ct σ' H'
  | .rt d => ∀ v H' μ', Ext μ μ' → Grow H H' → StOk P w K μ' S H' → RelD K μ' H' d v → D.rt v H'
def tS (P : Program) (w : World) (K : PySem.W.Frag) (f : Env → Store → R Out) : TS := fun D σ H => ∃ μ δ S o S', StOk P w K μ S H ∧ EnvOk K μ H δ σ ∧ f δ S = .ok o S' ∧ OutOk P w K μ H S' o D
theorem OutOk.trans {P : Program} {w : World} {K : PySem.W.Frag} {μ μ' : List Addr} {H H' : Hp} {S : Store} {o : Out} {D : Ends} (k : OutOk P w K μ H S o D) (e : Ext μ μ') (g : Grow H H') : OutOk P w K μ' H' S o D := by
  cases o with
  | nx δ => exact fun σ2 H2 μ2 e2 g2 => k σ2 H2 μ2 (e.trans e2) (g.trans g2)
  | bk δ => exact fun σ2 H2 μ2 e2 g2 => k σ2 H2 μ2 (e.trans e2) (g.trans g2)
  | ct δ => exact fun σ2 H2 μ2 e2 g2 => k σ2 H2 μ2 (e.trans e2) (g.trans g2)
  | rt d => exact fun v H2 μ2 e2 g2 => k v H2 μ2 (e.trans e2) (g.trans g2)
section
variable {X : Cx}
abbrev TS' (X : Cx) := tS X.prog X.w X.K
/-! ### targets -/
def Tg.slots : Tg → List Nat
  | .name i => [i]
  | .tup is => is
/-- the same but at these slots -/
def SameAt (is : List Nat) (σ σ' : L2.St) : Prop := σ'.length = σ.length ∧ ∀ j : Nat, j ∉ is → σ'[j]? = σ[j]?
def gD (P : Program) (w : World) (K : PySem.W.Frag) (t : Tg) : TG := fun v σ H Q => ∃ μ δ S d δ', StOk P w K μ S H ∧ EnvOk K μ H δ σ ∧ RelD K μ H d v ∧ t.put d δ = some δ' ∧
  ∀ σ', EnvOk K μ H δ' σ' → SameAt t.slots σ σ' → Q σ' H
abbrev GD (X : Cx) := gD X.prog X.w X.K
theorem gd_name {i : Nat} {e : Expr} (h : PG X e (gName i)) : PG X e (GD X (.name i)) :=
  h.of fun v σ H Q ⟨μ, δ, S, d, δ', so, eo, rd, hf, k⟩ => by
    cases hf
    exact k _ (eo.set rd i) ⟨by simp, fun j hj => List.getElem?_set_ne (fun e => hj (by simp [Tg.slots, e]))⟩
/-- several names -/
def gsD (P : Program) (w : World) (K : PySem.W.Frag) (is : List Nat) : TGs := fun vs σ H Q => ∃ μ δ S ds, StOk P w K μ S H ∧ EnvOk K μ H δ σ ∧ RelDs K μ H ds vs ∧ ds.length = is.length ∧
  ∀ σ', EnvOk K μ H (setAll δ is ds) σ' → SameAt is σ σ' → Q σ' H
theorem _root_.L2.PGs.of {st : List Expr} {t t' : TGs} (h : PGs X st t) (i : ∀ v σ H Q, t' v σ H Q → t v σ H Q) : PGs X st t' := ⟨fun pins s σ H v u Q I r q => h.run pins s σ H v u Q I r (i v σ H Q q)⟩
theorem gds_nil : PGs X [] (gsD X.prog X.w X.K []) :=
  pgs_nil.of fun v σ H Q ⟨μ, δ, S, ds, so, eo, rd, hl, k⟩ => by
    cases ds with
    | nil => cases rd; exact ⟨rfl, k _ eo ⟨rfl, fun _ _ => rfl⟩⟩
    | cons a b => cases hl
theorem gds_cons {i : Nat} {is : List Nat} {e : Expr} {es : List Expr} (h1 : PG X e (gName i)) (h2 : PGs X es (gsD X.prog X.w X.K is)) (hs : (assignEach (e :: es) X.env).map (·.2) = assign e X.env :: (assignEach es X.env).map (·.2)) : PGs X (e :: es) (gsD X.prog X.w X.K (i :: is)) :=
  (pgs_cons h1 h2 hs).of fun v σ H Q ⟨μ, δ, S, ds, so, eo, rd, hl, k⟩ => by
    cases ds with
    | nil => cases hl
    | cons d ds =>
      cases rd with
      | cons r1 r2 => exact ⟨_, _, rfl, μ, _, S, ds, so, eo.set r1 i, r2, by simpa using hl, fun σ' eo' sa => k σ' eo' ⟨by rw [sa.1]; simp, fun j hj => by
          rw [List.mem_cons, not_or] at hj
          rw [sa.2 j hj.2, List.getElem?_set_ne (Ne.symm hj.1)]⟩⟩
theorem gd_tup {es : List Expr} {is : List Nat} {k : Nat} {pos : Pos} (hc : X.calm = true) (h : PGs X es (gsD X.prog X.w X.K is)) (hn : (assignEach es X.env).length = is.length) (hst : (assignEach es X.env).findIdx? (·.1) = none) :
    PG X (.Tuple es k pos) (GD X (.tup is)) :=
  (pg_tup (n := is.length) hc h hn hst).of fun v σ H Q ⟨μ, δ, S, d, δ', so, eo, rd, hf, kk⟩ => by
    cases d with
    | tup ds =>
      simp only [Tg.put] at hf
      split at hf
      · rename_i hl
        cases hf
        cases rd with
        | tup a b => exact ⟨_, _, rfl, a, by rw [← b.length]; exact hl, μ, δ, S, ds, so, eo, b, hl, kk⟩
      · cases hf
    | _ => cases hf
/-! ### small statements -/
variable {e : Expr} {fa : Env → Store → R D} {pos : Pos}
theorem sd_expr (he : PE X e (TD X fa)) (hs : swapsWith e none pos.line X.env = pure false) : PS X (.Expr e pos) (TS' X fun δ S => (fa δ S).bind fun _ S1 => .ok (.nx δ) S1) :=
  (ps_expr he hs).of fun D σ H ⟨μ, δ, S, o, S', so, eo, hf, k⟩ => by
    dsimp only at hf
    obtain ⟨x, S1, h1, hf⟩ := R.bind_some hf
    cases hf
    exact ⟨μ, δ, S, x, _, so, eo, h1, fun v H1 μ1 e1 g1 so1 r1 => k σ H1 μ1 e1 g1 so1 (eo.keep e1 g1.keep)⟩
theorem sd_asg {tg : Expr} {t : Tg} (he : PE X e (TD X fa)) (hg : PG X tg (GD X t)) (hs : swapsWithSole [tg] e pos.line X.env = pure false) (hw : swappedStores [tg] e X.env = pure none) (h1 : (assignEach [tg] X.env).map (·.2) = [assign tg X.env]) :
    PS X (.Assign [tg] e pos) (TS' X fun δ S => (fa δ S).bind fun d S1 => match t.put d δ with
      | some δ' => .ok (.nx δ') S1
      | none => .bad) :=
  (ps_asg he hg hs hw h1).of fun D σ H ⟨μ, δ, S, o, S', so, eo, hf, k⟩ => by
    dsimp only at hf
    obtain ⟨x, S1, h2, hf⟩ := R.bind_some hf
    split at hf
    · rename_i δ' hp
      cases hf
      exact ⟨μ, δ, S, x, _, so, eo, h2, fun v H1 μ1 e1 g1 so1 r1 => ⟨μ1, δ, _, x, δ', so1, eo.keep e1 g1.keep, r1, hp, fun σ' eo' _ => k σ' H1 μ1 e1 g1 so1 eo'⟩⟩
    · cases hf
/-- a list's or a tuple's items to names -/
theorem sd_unpack {es : List Expr} {is : List Nat} {kk : Nat} {tpos : Pos} (hc : X.calm = true) (he : PE X e (TD X fa)) (h : PGs X es (gsD X.prog X.w X.K is)) (hn : (assignEach es X.env).length = is.length) (hst : (assignEach es X.env).findIdx? (·.1) = none)
    (hs : swapsWithSole [.Tuple es kk tpos] e pos.line X.env = pure false) (hw : swappedStores [.Tuple es kk tpos] e X.env = pure none) (h1 : (assignEach [.Tuple es kk tpos] X.env).map (·.2) = [assign (.Tuple es kk tpos) X.env]) :
    PS X (.Assign [.Tuple es kk tpos] e pos) (TS' X fun δ S => (fa δ S).bind fun d S1 => match seqOf S1 d with
      | some ds => if ds.length = is.length then .ok (.nx (setAll δ is ds)) S1 else .bad
      | none => .bad) := by
  refine ⟨fun pins s σ H D I ⟨μ, δ, S, o, S', so, eo, hf, k⟩ => ?_⟩
  dsimp only at hf
  obtain ⟨x, S1, h2, hf⟩ := R.bind_some hf
  split at hf
  · rename_i ds hq
    split at hf
    · rename_i hl
      cases hf
      cases x with
      | tup ds2 =>
        cases hq
        refine (ps_asg he (pg_tup (n := is.length) hc h hn hst) hs hw h1).run pins s σ H D I ⟨μ, δ, S, _, _, so, eo, h2, ?_⟩
        intro v H1 μ1 e1 g1 so1 r1
        cases r1 with
        | tup a b => exact ⟨_, _, rfl, a, by rw [← b.length]; exact hl, μ1, δ, _, _, so1, eo.keep e1 g1.keep, b, hl, fun σ' eo' _ => k σ' H1 μ1 e1 g1 so1 eo'⟩
      | rol ds2 =>
        cases hq
        refine (ps_asg he (pg_unl (n := is.length) hc h hn hst) hs hw h1).run pins s σ H D I ⟨μ, δ, S, _, _, so, eo, h2, ?_⟩
        intro v H1 μ1 e1 g1 so1 r1
        cases r1 with
        | rol a b => exact ⟨_, _, rfl, a.sq, by rw [← b.length]; exact hl, μ1, δ, _, _, so1, eo.keep e1 g1.keep, b, hl, fun σ' eo' _ => k σ' H1 μ1 e1 g1 so1 eo'⟩
      | ref n =>
        simp only [seqOf] at hq
        split at hq
        · rename_i e9
          cases hq
          refine (ps_asg he (pg_unl (n := is.length) hc h hn hst) hs hw h1).run pins s σ H D I ⟨μ, δ, S, _, _, so, eo, h2, ?_⟩
          intro v H1 μ1 e1 g1 so1 r1
          obtain ⟨a, vs, rfl, a1, b1, _⟩ := so1.lstAt r1 e9
          exact ⟨_, _, rfl, SqL.of a1, by rw [← b1.length]; exact hl, μ1, δ, _, _, so1, eo.keep e1 g1.keep, b1, hl, fun σ' eo' _ => k σ' H1 μ1 e1 g1 so1 eo'⟩
        · cases hq
      | _ => cases hq
    · cases hf
  · cases hf
theorem sd_par {st : Stmt} {i j : Nat} {fs : Env → Store → R (List D)} (h : PS X st (tPar i j (TDs X fs))) : PS X st (TS' X fun δ S => (fs δ S).bind fun ds S1 => if ds.length = [i, j].length then .ok (.nx (setAll δ [i, j] ds)) S1 else .bad) :=
  h.of fun D σ H ⟨μ, δ, S, o, S', so, eo, hf, k⟩ => by
    dsimp only at hf
    obtain ⟨ds, S1, h2, hf⟩ := R.bind_some hf
    split at hf
    · rename_i hl
      cases hf
      refine ⟨μ, δ, S, ds, _, so, eo, h2, fun vs H1 μ1 e1 g1 so1 r1 => ?_⟩
      match ds, hl, r1 with
      | [a, b], _, r1 =>
        obtain ⟨x, y, rfl, ra, rb⟩ := rd2 r1
        exact ⟨x, y, rfl, k _ H1 μ1 e1 g1 so1 (((eo.keep e1 g1.keep).set ra i).set rb j)⟩
    · cases hf
theorem sd_par3 {st : Stmt} {i j l : Nat} {fs : Env → Store → R (List D)} (h : PS X st (tPar3 i j l (TDs X fs))) : PS X st (TS' X fun δ S => (fs δ S).bind fun ds S1 => if ds.length = [i, j, l].length then .ok (.nx (setAll δ [i, j, l] ds)) S1 else .bad) :=
  h.of fun D σ H ⟨μ, δ, S, o, S', so, eo, hf, k⟩ => by
    dsimp only at hf
    obtain ⟨ds, S1, h2, hf⟩ := R.bind_some hf
    split at hf
    · rename_i hl
      cases hf
      refine ⟨μ, δ, S, ds, _, so, eo, h2, fun vs H1 μ1 e1 g1 so1 r1 => ?_⟩
      match ds, hl, r1 with
      | [a, b, c], _, .cons ra r2 =>
        obtain ⟨x, y, rfl, rb, rc⟩ := rd2 r2
        exact ⟨_, x, y, rfl, k _ H1 μ1 e1 g1 so1 ((((eo.keep e1 g1.keep).set ra i).set rb j).set rc l)⟩
    · cases hf
theorem sd_setIx {o i v : Expr} {fo fi fv : Env → Store → R D} {p2 : Pos} (hr : Room 0 X.A) (ho : PE X o (TD X fo)) (hi : PE X i (TD X fi)) (hv : PE X v (TD X fv)) (hs : swapsWithSole [.Subscript o i p2] v pos.line X.env = pure false) (hw : swappedStores [.Subscript o i p2] v X.env = pure none)
    (h1 : (assignEach [.Subscript o i p2] X.env).map (·.2) = [assign (.Subscript o i p2) X.env])
    (ha : ∀ v, assign (.Subscript o i p2) X.env v = (do
      let ov ← holding [v] (eval o X.env)
      let iv ← holding [v, ov] (eval i X.env)
      standAt p2
      holding [v, ov, iv] (setItem ov iv v)
      release [v, ov, iv] [])) :
    PS X (.Assign [.Subscript o i p2] v pos) (TS' X fun δ S => (fv δ S).bind fun z S1 => (fo δ S1).bind fun x S2 => (fi δ S2).bind fun y S3 => (setIxD x y z S3).bind fun _ S4 => .ok (.nx δ) S4) :=
  (ps_asg hv (pg_sub ho hi (set_ok hr) ha) hs hw h1).of fun D σ H ⟨μ, δ, S, oo, S', so, eo, hf, k⟩ => by
    dsimp only at hf
    obtain ⟨z, S1, h1, hf⟩ := R.bind_some hf
    obtain ⟨x, S2, h2, hf⟩ := R.bind_some hf
    obtain ⟨y, S3, h3, hf⟩ := R.bind_some hf
    obtain ⟨u, S4, h4, hf⟩ := R.bind_some hf
    cases hf
    exact ⟨μ, δ, S, z, S1, so, eo, h1, fun vz H1 μ1 e1 g1 so1 r1 => ⟨μ1, δ, S1, x, S2, so1, eo.keep e1 g1.keep, h2, fun vx H2 μ2 e2 g2 so2 r2 =>
      ⟨μ2, δ, S2, y, S3, so2, eo.keep (e1.trans e2) (g1.trans g2).keep, h3, fun vy H3 μ3 e3 g3 so3 r3 => ⟨μ3, S3, x, y, z, _, so3, r2.keep e3 g3.keep, r3, r1.keep (e2.trans e3) (g2.trans g3).keep, h4, fun H4 μ4 e4 g4 so4 =>
        k σ H4 μ4 (e1.trans (e2.trans (e3.trans e4))) (g1.trans (g2.trans (g3.trans g4))) so4 (eo.keep (e1.trans (e2.trans (e3.trans e4))) (g1.trans (g2.trans (g3.trans g4))).keep)⟩⟩⟩⟩
theorem sd_ret (he : PE X e (TD X fa)) : PS X (.Return (some e) pos) (TS' X fun δ S => (fa δ S).bind fun d S1 => .ok (.rt d) S1) :=
  (ps_ret he).of fun D σ H ⟨μ, δ, S, o, S', so, eo, hf, k⟩ => by
    dsimp only at hf
    obtain ⟨x, S1, h1, hf⟩ := R.bind_some hf
    cases hf
    exact ⟨μ, δ, S, x, _, so, eo, h1, fun v H1 μ1 e1 g1 so1 r1 => k v H1 μ1 e1 g1 so1 r1⟩
theorem sd_retN : PS X (.Return none pos) (TS' X fun _ S => .ok (.rt .non) S) :=
  ps_retN.of fun D σ H ⟨μ, δ, S, o, S', so, eo, hf, k⟩ => by
    cases hf
    exact k _ H μ Ext.refl Grow.refl so .non
theorem sd_pass : PS X (.Pass pos) (TS' X fun δ S => .ok (.nx δ) S) :=
  ps_pass.of fun D σ H ⟨μ, δ, S, o, S', so, eo, hf, k⟩ => by
    cases hf
    exact k _ H μ Ext.refl Grow.refl so eo
theorem sd_doc {x : Str} {j : Nat} {p2 : Pos} : PS X (.Expr (.Constant (.str x) j pos) p2) (TS' X fun δ S => .ok (.nx δ) S) :=
  ps_doc.of fun D σ H ⟨μ, δ, S, o, S', so, eo, hf, k⟩ => by
    cases hf
    exact k _ H μ Ext.refl Grow.refl so eo
theorem sd_brk : PS X (.Break pos) (TS' X fun δ S => .ok (.bk δ) S) :=
  ps_break.of fun D σ H ⟨μ, δ, S, o, S', so, eo, hf, k⟩ => by
    cases hf
    exact k _ H μ Ext.refl Grow.refl so eo
theorem sd_cont : PS X (.Continue pos) (TS' X fun δ S => .ok (.ct δ) S) :=
  ps_continue.of fun D σ H ⟨μ, δ, S, o, S', so, eo, hf, k⟩ => by
    cases hf
    exact k _ H μ Ext.refl Grow.refl so eo
theorem sd_never {st : Stmt} : PS X st (TS' X fun _ _ => .bad) := ⟨fun _ _ _ _ _ _ ⟨_, _, _, _, _, _, _, hf, _⟩ => by cases hf⟩
theorem sds_nil : PSs X [] (TS' X fun δ S => .ok (.nx δ) S) :=
  pss_nil.of fun D σ H ⟨μ, δ, S, o, S', so, eo, hf, k⟩ => by
    cases hf
    exact k _ H μ Ext.refl Grow.refl so eo
theorem sds_cons {st : Stmt} {rest : List Stmt} {f g : Env → Store → R Out} (h1 : PS X st (TS' X f)) (h2 : PSs X rest (TS' X g)) : PSs X (st :: rest) (TS' X fun δ S => match f δ S with
    | .ok (.nx δ') S' => g δ' S'
    | o => o) :=
  (pss_cons h1 h2).of fun D σ H ⟨μ, δ, S, o, S', so, eo, hf, k⟩ => by
    dsimp only at hf
    cases h : f δ S with
    | bad => rw [h] at hf; cases hf
    | ok o1 S1 =>
      rw [h] at hf
      refine ⟨μ, δ, S, o1, S1, so, eo, h, ?_⟩
      cases o1 with
      | nx δ1 => exact fun σ1 H1 μ1 e1 g1 so1 eo1 => ⟨μ1, δ1, S1, o, S', so1, eo1, hf, k.trans e1 g1⟩
      | rt d => cases hf; exact k
      | bk δ1 => cases hf; exact k
      | ct δ1 => cases hf; exact k
theorem sd_if {c : Expr} {a b : List Stmt} {ft : Env → Store → R Bool} {f g : Env → Store → R Out} (hc : PT X c (TB X ft)) (ha : PSs X a (TS' X f)) (hb : PSs X b (TS' X g)) : PS X (.If c a b pos) (TS' X fun δ S => (ft δ S).bind fun k S1 => if k = true then f δ S1 else g δ S1) :=
  (ps_if hc ha hb).of fun D σ H ⟨μ, δ, S, o, S', so, eo, hf, k⟩ => by
    dsimp only at hf
    obtain ⟨c, S1, h1, hf⟩ := R.bind_some hf
    refine ⟨μ, δ, S, c, S1, so, eo, h1, fun H1 μ1 e1 g1 so1 => ?_⟩
    cases c with
    | true => exact ⟨μ1, δ, S1, o, S', so1, eo.keep e1 g1.keep, hf, k.trans e1 g1⟩
    | false => exact ⟨μ1, δ, S1, o, S', so1, eo.keep e1 g1.keep, hf, k.trans e1 g1⟩
end
end Ev
set_option Elab.async false
set_option linter.all false
set_option maxRecDepth 100000
set_option maxHeartbeats 2000000
/-! Ev, part N: loops, locks, list comprehensions. -/
namespace Ev
open PySem PySem.Spec PyProof.Rows L2
theorem Keep.trans {H H1 H2 : Hp} (a : Keep H H1) (b : Keep H1 H2) : Keep H H2 := ⟨fun c xs h => b.tup c xs (a.tup c xs h), fun c o u h => b.ftup c o u (a.ftup c o u h), fun c o u h => b.flst c o u (a.flst c o u h)⟩
section
variable {X : Cx}
/-! ### for -/
def stepF (t : Tg) (fb : Env → Store → R Out) (x : D) (δ : Env) (S : Store) : R Out := match t.put x δ with
  | some δ' => fb δ' S
  | none => .bad
theorem sd_for {tg iter : Expr} {body : List Stmt} {pos : Pos} {t : Tg} {fs : Env → Store → R It} {fb : Env → Store → R Out} (hp : PassesOwn (model X.prog X.w) X.A X.env X.xe) (hc : X.calm = true) (hi : PI X tg iter (TI' X fs)) (hg : PG X tg (GD X t)) (hb : PSs X body (TS' X fb))
    (hs : ∀ x, foldedSetIterable iter X.env x = pure x) : PS X (.For tg iter body [] pos) (TS' X fun δ S => (fs δ S).bind fun it S1 => forLoop it.chk (stepF t fb) it.items δ S1) :=
  (ps_for hp hc hi hg hb hs).of fun D σ H ⟨μ, δ, S, o, S', so, eo, hf, k⟩ => by
    dsimp only at hf
    obtain ⟨it, S1, h1, hf⟩ := R.bind_some hf
    refine ⟨μ, δ, S, it, S1, so, eo, h1, fun J H1 μ1 e1 g1 so1 wk => ?_⟩
    refine ⟨fun i m σ H => ∃ μ2 δ2 S2, Ext μ1 μ2 ∧ Grow H1 H ∧ StOk X.prog X.w X.K μ2 S2 H ∧ EnvOk X.K μ2 H δ2 σ ∧ i + m = it.items.length ∧ forLoop it.chk (stepF t fb) (it.items.drop i) δ2 S2 = .ok o S',
      ⟨it.items.length, μ1, δ, S1, Ext.refl, Grow.refl, so1, eo.keep e1 g1.keep, by omega, hf⟩, ?_⟩
    rintro i m σ2 H2 ⟨μ2, δ2, S2, e2, g2, so2, eo2, him, hl⟩
    by_cases hlt : i < it.items.length
    · right
      rw [List.drop_eq_getElem_cons hlt] at hl
      unfold forLoop at hl
      split at hl
      case isFalse => cases hl
      rename_i hchk
      refine ⟨wk.go i H2 μ2 S2 e2 g2 so2 hchk hlt, fun σ' H' => ∃ μ3 δ3 S3, Ext μ1 μ3 ∧ Grow H1 H' ∧ StOk X.prog X.w X.K μ3 S3 H' ∧ EnvOk X.K μ3 H' δ3 σ' ∧ forLoop it.chk (stepF t fb) (it.items.drop (i + 1)) δ3 S3 = .ok o S',
        fun σ' H' ⟨μ3, δ3, S3, a, b, c, d, e⟩ => ⟨m - 1, by omega, μ3, δ3, S3, a, b, c, d, by omega, e⟩, fun x H' y => ?_⟩
      obtain ⟨g3, so3, rd⟩ := wk.yld i H2 μ2 S2 _ x H' e2 g2 so2 hchk (List.getElem?_eq_getElem hlt) y
      cases hp2 : t.put it.items[i] δ2 with
      | none =>
        have : stepF t fb it.items[i] δ2 S2 = .bad := by unfold stepF; rw [hp2]
        rw [this] at hl
        cases hl
      | some δ3 =>
        have es : stepF t fb it.items[i] δ2 S2 = fb δ3 S2 := by unfold stepF; rw [hp2]
        rw [es] at hl
        refine ⟨μ2, δ2, S2, it.items[i], δ3, so3, eo2.keep Ext.refl g3.keep, rd, hp2, fun σ3 eo3 _ => ?_⟩
        cases hb2 : fb δ3 S2 with
        | bad => rw [hb2] at hl; cases hl
        | ok o2 S4 =>
          rw [hb2] at hl
          refine ⟨μ2, δ3, S2, o2, S4, so3, eo3, hb2, ?_⟩
          cases o2 with
          | nx δ4 => exact fun σ4 H4 μ4 e4 g4 so4 eo4 => ⟨μ4, δ4, S4, e2.trans e4, g2.trans (g3.trans g4), so4, eo4, hl⟩
          | ct δ4 => exact fun σ4 H4 μ4 e4 g4 so4 eo4 => ⟨μ4, δ4, S4, e2.trans e4, g2.trans (g3.trans g4), so4, eo4, hl⟩
          | bk δ4 =>
            cases hl
            exact fun σ4 H4 μ4 e4 g4 so4 eo4 => k σ4 H4 μ4 (e1.trans (e2.trans e4)) (g1.trans (g2.trans (g3.trans g4))) so4 eo4
          | rt d =>
            cases hl
            exact fun v H4 μ4 e4 g4 so4 r4 => k v H4 μ4 (e1.trans (e2.trans e4)) (g1.trans (g2.trans (g3.trans g4))) so4 r4
    · left
      have hi' : i = it.items.length := by omega
      rw [List.drop_of_length_le (by omega)] at hl
      unfold forLoop at hl
      split at hl
      · rename_i hchk
        cases hl
        exact ⟨wk.stop i H2 μ2 _ e2 g2 so2 hchk hi', k σ2 H2 μ2 (e1.trans e2) (g1.trans g2) so2 eo2⟩
      · cases hl
theorem sd_while {c : Expr} {body : List Stmt} {pos : Pos} {ft : Env → Store → R Bool} {fb : Env → Store → R Out} {n : Nat} (hp : PassesOwn (model X.prog X.w) X.A X.env X.xe) (hc : PT X c (TB X ft)) (hb : PSs X body (TS' X fb)) :
    PS X (.While c body [] pos) (TS' X fun δ S => whileLoop ft fb n δ S) :=
  (ps_while hp hc hb).of fun D σ H ⟨μ, δ, S, o, S', so, eo, hf, k⟩ => by
    dsimp only at hf
    refine ⟨fun m σ2 H2 => ∃ μ2 δ2 S2, Ext μ μ2 ∧ Grow H H2 ∧ StOk X.prog X.w X.K μ2 S2 H2 ∧ EnvOk X.K μ2 H2 δ2 σ2 ∧ whileLoop ft fb m δ2 S2 = .ok o S', ⟨n, μ, δ, S, Ext.refl, Grow.refl, so, eo, hf⟩, ?_⟩
    rintro m σ2 H2 ⟨μ2, δ2, S2, e2, g2, so2, eo2, hl⟩
    cases m with
    | zero => cases hl
    | succ m =>
      unfold whileLoop at hl
      obtain ⟨b, S3, h3, hl⟩ := R.bind_some hl
      refine ⟨μ2, δ2, S2, b, S3, so2, eo2, h3, fun H3 μ3 e3 g3 so3 => ?_⟩
      cases b with
      | false =>
        rw [if_neg (by decide)] at hl
        dsimp only
        rw [if_neg (by decide)]
        cases hl
        exact k σ2 H3 μ3 (e2.trans e3) (g2.trans g3) so3 (eo2.keep e3 g3.keep)
      | true =>
        rw [if_pos rfl] at hl
        dsimp only
        rw [if_pos rfl]
        refine ⟨fun σ' H' => ∃ μ4 δ4 S4, Ext μ μ4 ∧ Grow H H' ∧ StOk X.prog X.w X.K μ4 S4 H' ∧ EnvOk X.K μ4 H' δ4 σ' ∧ whileLoop ft fb m δ4 S4 = .ok o S', fun σ' H' h => ⟨m, Nat.lt_succ_self m, h⟩, ?_⟩
        cases hb2 : fb δ2 S3 with
        | bad => rw [hb2] at hl; cases hl
        | ok o2 S4 =>
          rw [hb2] at hl
          refine ⟨μ3, δ2, S3, o2, S4, so3, eo2.keep e3 g3.keep, hb2, ?_⟩
          cases o2 with
          | nx δ4 => exact fun σ4 H4 μ4 e4 g4 so4 eo4 => ⟨μ4, δ4, S4, e2.trans (e3.trans e4), g2.trans (g3.trans g4), so4, eo4, hl⟩
          | ct δ4 => exact fun σ4 H4 μ4 e4 g4 so4 eo4 => ⟨μ4, δ4, S4, e2.trans (e3.trans e4), g2.trans (g3.trans g4), so4, eo4, hl⟩
          | bk δ4 =>
            cases hl
            exact fun σ4 H4 μ4 e4 g4 so4 eo4 => k σ4 H4 μ4 (e2.trans (e3.trans e4)) (g2.trans (g3.trans g4)) so4 eo4
          | rt d =>
            cases hl
            exact fun v H4 μ4 e4 g4 so4 r4 => k v H4 μ4 (e2.trans (e3.trans e4)) (g2.trans (g3.trans g4)) so4 r4
/-! ### locks -/
theorem du_mut {P : Program} {w : World} {K : PySem.W.Frag} {μ : List Addr} {H : Hp} {a : Addr} {kvs : List (D × D)} {u : HO} (du : DU P w K μ H a kvs u) : Mut (some u) ∧ Wr u ∧ (∀ xs, u ≠ .tup xs) ∧ ∀ xs, u ≠ .lst xs := by
  cases du <;> exact ⟨True.intro, True.intro, fun _ h => (nomatch h), fun _ h => (nomatch h)⟩
/-- the lock is taken -/
theorem lock_on {P : Program} {w : World} {K : PySem.W.Frag} {μ : List Addr} {S : Store} {H : Hp} {n : Nat} {a : Addr} {kvs : List (D × D)} {u : HO} (so : StOk P w K μ S H) (hS : S[n]? = some (.dic kvs false)) (hm : μ[n]? = some a) (h1 : H a = some u) (du : DU P w K μ H a kvs u) (od : Obj) :
    Grow H (upd H a (.frz od u)) ∧ StOk P w K μ (S.set n (.dic kvs true)) (upd H a (.frz od u)) :=
  have g := grow_wr (o := .frz od u) h1 (du_mut du).2.1
  ⟨g, so.put hm h1 (du_mut du).2.1 (.lock upd_same (du.keep Ext.refl g.keep))⟩
/-- .. and given back -/
theorem lock_off {P : Program} {w : World} {K : PySem.W.Frag} {μ μ' : List Addr} {S : Store} {H H' : Hp} {n : Nat} {a : Addr} {kvs : List (D × D)} {u : HO} {od : Obj} (hm : μ[n]? = some a) (h1 : H a = some u) (du : DU P w K μ H a kvs u)
    (e : Ext μ μ') (g : Grow (upd H a (.frz od u)) H') (so : StOk P w K μ' S H') : H' a = some (.frz od u) ∧ Keep H' (upd H' a u) ∧ Grow H (upd H' a u) ∧ StOk P w K μ' (S.set n (.dic kvs false)) (upd H' a u) := by
  obtain ⟨m1, m2, m3, m4⟩ := du_mut du
  have ha : H' a = some (.frz od u) := g.frz _ _ _ upd_same
  have g0 : Grow H (upd H a (.frz od u)) := grow_wr h1 m2
  have kp : Keep H' (upd H' a u) := ⟨fun c xs h => by rw [upd_ne (fun z => by rw [z, ha] at h; cases h)]; exact h, fun c o xs h => by
    rw [upd_ne (fun z => by rw [z, ha] at h; cases h; exact m3 _ rfl)]; exact h, fun c o xs h => by
    rw [upd_ne (fun z => by rw [z, ha] at h; cases h; exact m4 _ rfl)]; exact h⟩
  have gr : Grow H (upd H' a u) := ⟨fun c xs h => by
    have hca : c ≠ a := fun z => by rw [z, h1] at h; cases h; exact m3 _ rfl
    rw [upd_ne hca]
    exact g.tup c xs (g0.tup c xs h), fun c o x h => by
    have hca : c ≠ a := fun z => by rw [z, h1] at h; cases h; exact m2
    rw [upd_ne hca]
    exact g.frz c o x (g0.frz c o x h)⟩
  refine ⟨ha, kp, gr, ?_⟩
  exact {
    len := by simp [so.len]
    nd := so.nd
    at_ := fun m b h => by
      by_cases ee : n = m
      · subst ee
        have hl : n < S.length := by rw [← so.len]; exact (List.getElem?_eq_some_iff.mp (e.get hm)).1
        rw [List.getElem?_set_self hl] at h
        cases h
        exact ⟨a, e.get hm, .dic upd_same (du.keep e gr.keep)⟩
      · rw [List.getElem?_set_ne ee] at h
        obtain ⟨c, hc, okc⟩ := so.at_ m b h
        refine ⟨c, hc, okc.keep Ext.refl kp (upd_ne fun z => ee ?_)⟩
        obtain ⟨q1, r1⟩ := List.getElem?_eq_some_iff.mp (e.get hm)
        obtain ⟨q2, r2⟩ := List.getElem?_eq_some_iff.mp hc
        exact (List.getElem_inj so.nd).mp (r1.trans (z.symm.trans r2.symm)) }
/-- a statement that locks -/
theorem sd_lock {st : Stmt} {f : Env → Store → R Out} {l : Env → Store → Lk} (hl : ∀ δ S n kvs, l δ S = some (n, kvs) → S[n]? = some (.dic kvs false)) (h : PS X st (TS' X f)) : PS X st (TS' X fun δ S => (f δ (lk (l δ S) S)).bind fun o S2 => .ok o (unlk (l δ S) S2)) := by
  refine ⟨fun pins s σ H D I ⟨μ, δ, S, o, S', so, eo, hf, k⟩ => ?_⟩
  dsimp only at hf
  obtain ⟨o2, S2, h2, hf⟩ := R.bind_some hf
  cases hf
  cases ql : l δ S with
  | none =>
    rw [ql] at h2 k
    exact h.run pins s σ H D I ⟨μ, δ, S, _, S2, so, eo, h2, k⟩
  | some p =>
    obtain ⟨n, kvs⟩ := p
    rw [ql] at h2 k
    have hS := hl _ _ _ _ ql
    obtain ⟨a, hm, ok⟩ := so.at_ n _ hS
    cases ok with
    | @dic _ u h1 du =>
      refine (ps_lock h).run pins s σ H D I ⟨a, u, h1, (du_mut du).1, fun od => ?_⟩
      obtain ⟨g0, so0⟩ := lock_on so hS hm h1 du od
      refine ⟨μ, δ, _, _, S2, so0, eo.keep Ext.refl g0.keep, h2, ?_⟩
      cases o with
      | nx δ4 => exact fun σ4 H4 μ4 e4 g4 so4 eo4 =>
        let ⟨a1, a2, a3, a4⟩ := lock_off hm h1 du e4 g4 so4
        ⟨a1, k σ4 _ μ4 e4 a3 a4 (eo4.keep Ext.refl a2)⟩
      | bk δ4 => exact fun σ4 H4 μ4 e4 g4 so4 eo4 =>
        let ⟨a1, a2, a3, a4⟩ := lock_off hm h1 du e4 g4 so4
        ⟨a1, k σ4 _ μ4 e4 a3 a4 (eo4.keep Ext.refl a2)⟩
      | ct δ4 => exact fun σ4 H4 μ4 e4 g4 so4 eo4 =>
        let ⟨a1, a2, a3, a4⟩ := lock_off hm h1 du e4 g4 so4
        ⟨a1, k σ4 _ μ4 e4 a3 a4 (eo4.keep Ext.refl a2)⟩
      | rt d => exact fun v H4 μ4 e4 g4 so4 r4 =>
        let ⟨a1, a2, a3, a4⟩ := lock_off hm h1 du e4 g4 so4
        ⟨a1, k v _ μ4 e4 a3 a4 (r4.keep Ext.refl a2)⟩
theorem pd_lock {e : Expr} {f : Env → Store → R D} {l : Env → Store → Lk} (hl : ∀ δ S n kvs, l δ S = some (n, kvs) → S[n]? = some (.dic kvs false)) (h : PE X e (TD X f)) : PE X e (TD X fun δ S => (f δ (lk (l δ S) S)).bind fun o S2 => .ok o (unlk (l δ S) S2)) := by
  refine ⟨fun pins s σ H Q I ⟨μ, δ, S, o, S', so, eo, hf, k⟩ => ?_⟩
  dsimp only at hf
  obtain ⟨o2, S2, h2, hf⟩ := R.bind_some hf
  cases hf
  cases ql : l δ S with
  | none =>
    rw [ql] at h2 k
    exact h.run pins s σ H Q I ⟨μ, δ, S, _, S2, so, eo, h2, k⟩
  | some p =>
    obtain ⟨n, kvs⟩ := p
    rw [ql] at h2 k
    have hS := hl _ _ _ _ ql
    obtain ⟨a, hm, ok⟩ := so.at_ n _ hS
    cases ok with
    | @dic _ u h1 du =>
      refine (pe_lock h).run pins s σ H Q I ⟨a, u, h1, (du_mut du).1, fun od => ?_⟩
      obtain ⟨g0, so0⟩ := lock_on so hS hm h1 du od
      exact ⟨μ, δ, _, _, S2, so0, eo.keep Ext.refl g0.keep, h2, fun v H4 μ4 e4 g4 so4 r4 =>
        let ⟨a1, a2, a3, a4⟩ := lock_off hm h1 du e4 g4 so4
        ⟨a1, k v _ μ4 e4 a3 a4 (r4.keep Ext.refl a2)⟩⟩
theorem lockAt_free {i : Nat} {δ : Env} {S : Store} {n : Nat} {kvs : List (D × D)} (h : lockAt i δ S = some (n, kvs)) : S[n]? = some (.dic kvs false) := by
  unfold lockAt at h
  split at h
  · split at h
    · rename_i hd
      cases h
      exact (dicOf_at hd).2
    · cases h
  · cases h
theorem lockOf_free {src : Src} {δ : Env} {S : Store} {n : Nat} {kvs : List (D × D)} (h : lockOf src δ S = some (n, kvs)) : S[n]? = some (.dic kvs false) := by
  cases src <;> simp only [lockOf] at h <;> first | exact lockAt_free h | cases h
/-! ### list comprehensions -/
theorem wipe_get {is : List Nat} {σ : L2.St} {j : Nat} : (L2.wipe σ is)[j]? = if j ∈ is then (if j < σ.length then some none else none) else σ[j]? := by
  induction is with
  | nil => simp [L2.wipe]
  | cons v vs ih =>
    unfold L2.wipe
    by_cases e : v = j
    · subst e
      simp only [List.mem_cons, true_or, if_true]
      by_cases hl : v < σ.length
      · rw [List.getElem?_set_self (by rw [wipe_length]; exact hl), if_pos hl]
      · rw [List.getElem?_eq_none (by rw [List.length_set, wipe_length]; omega), if_neg hl]
    · rw [List.getElem?_set_ne e, ih]
      simp only [List.mem_cons, Ne.symm e, false_or]
theorem wipe_same {is vs : List Nat} {σ σ' : L2.St} (h : SameAt is (L2.wipe σ vs) σ') (hs : ∀ i ∈ is, i ∈ vs) : L2.wipe σ' vs = L2.wipe σ vs := by
  apply List.ext_getElem?
  intro j
  have hl : σ'.length = σ.length := by rw [h.1, wipe_length]
  rw [wipe_get, wipe_get, hl]
  by_cases hj : j ∈ vs
  · rw [if_pos hj, if_pos hj]
  · rw [if_neg hj, if_neg hj, h.2 j (fun z => hj (hs j z)), wipe_get, if_neg hj]
def stepC (t : Tg) (vs : List Nat) (δ : Env) (fc : Option (Env → Store → R D)) (fe : Env → Store → R D) (x : D) (S : Store) : R (Option D) := match t.put x (wipe δ vs) with
  | some δ' => (match fc with
    | none => (fe δ' S).bind fun d S' => .ok (some d) S'
    | some ft => (ft δ' S).bind fun d S' => match tru S' d with
      | some true => (fe δ' S').bind fun d S' => .ok (some d) S'
      | some false => .ok none S'
      | none => .bad)
  | none => .bad
/-- the reading of the tests -/
def ttD (P : Program) (w : World) (K : PySem.W.Frag) : Option (Env → Store → R D) → TT
  | none => tYes
  | some ft => Ev.tB P w K (tvD ft)
theorem lc_red {σ : L2.St} {H : Hp} {Q : VK} {t : Tg} {fs : Env → Store → R It} {fc : Option (Env → Store → R D)} {fe : Env → Store → R D} {vs : List Nat} (hv : ∀ i ∈ t.slots, i ∈ vs)
    (q : TD X (fun δ S => (fs δ S).bind fun it S1 => (lcLoop S1.length it.chk (stepC t vs δ fc fe) it.items [] (S1 ++ [.lst []])).bind fun _ S2 => .ok (.ref S1.length) S2) σ H Q) :
    tLc (TI' X fs) (GD X t) (ttD X.prog X.w X.K fc) (TD X fe) vs σ H Q := by
  obtain ⟨μ, δ, S, d, S', so, eo, hf, k⟩ := q
  dsimp only at hf
  obtain ⟨it, S1, h1, hf⟩ := R.bind_some hf
  obtain ⟨u, S9, hl, hf⟩ := R.bind_some hf
  cases hf
  refine ⟨μ, δ, S, it, S1, so, eo, h1, fun J H1 μ1 e1 g1 so1 wk => fun D hD => ?_⟩
  have hlen : μ1.length = S1.length := so1.len
  refine ⟨fun i m H => ∃ μ2 S2 acc, Ext (μ1 ++ [D]) μ2 ∧ Grow H1 H ∧ StOk X.prog X.w X.K μ2 S2 H ∧ i + m = it.items.length ∧ lcLoop S1.length it.chk (stepC t vs δ fc fe) (it.items.drop i) acc S2 = .ok () S',
    ⟨it.items.length, μ1 ++ [D], S1 ++ [Ob.lst []], [], Ext.refl, grow_new hD, so1.push hD (.lst upd_same .nil), by omega, hl⟩, ?_⟩
  rintro i m H2 ⟨μ2, S2, acc, e2, g2, so2, him, hl⟩
  have eD : μ2[S1.length]? = some D := e2.get (by rw [← hlen]; simp)
  have e12 : Ext μ1 μ2 := Ext.snoc.trans e2
  by_cases hlt : i < it.items.length
  · right
    rw [List.drop_eq_getElem_cons hlt] at hl
    unfold lcLoop at hl
    split at hl
    case isFalse => cases hl
    rename_i hchk
    refine ⟨wk.go i H2 μ2 S2 e12 g2 so2 hchk.1 hlt, fun H' => ∃ μ3 S3 acc3, Ext (μ1 ++ [D]) μ3 ∧ Grow H1 H' ∧ StOk X.prog X.w X.K μ3 S3 H' ∧ lcLoop S1.length it.chk (stepC t vs δ fc fe) (it.items.drop (i + 1)) acc3 S3 = .ok () S',
      fun H' ⟨μ3, S3, acc3, a, b, c, d⟩ => ⟨m - 1, by omega, μ3, S3, acc3, a, b, c, by omega, d⟩, fun x H' y => ?_⟩
    obtain ⟨g3, so3, rd⟩ := wk.yld i H2 μ2 S2 _ x H' e12 g2 so2 hchk.1 (List.getElem?_eq_getElem hlt) y
    cases hp2 : t.put it.items[i] (wipe δ vs) with
    | none =>
      have : stepC t vs δ fc fe it.items[i] S2 = .bad := by unfold stepC; rw [hp2]
      rw [this] at hl
      cases hl
    | some δ3 =>
      have eo3 : EnvOk X.K μ2 H' (wipe δ vs) (L2.wipe σ vs) := (eo.keep (e1.trans e12) (g1.trans (g2.trans g3)).keep).wipe vs
      refine ⟨μ2, wipe δ vs, S2, it.items[i], δ3, so3, eo3, rd, hp2, fun σ3 eo4 sa => ⟨wipe_same sa hv, ?_⟩⟩
      -- the element, stored
      have elt : ∀ {S3 : Store} {H3 : Hp} {μ3 : List Addr}, Ext μ2 μ3 → Grow H' H3 → StOk X.prog X.w X.K μ3 S3 H3 → EnvOk X.K μ3 H3 δ3 σ3 → (∀ od S4, (fe δ3 S3).bind (fun d S' => R.ok (some d) S') = .ok od S4 → (match (R.ok od S4 : R (Option Ev.D)) with
          | .ok none S' => lcLoop S1.length it.chk (stepC t vs δ fc fe) (it.items.drop (i + 1)) acc S'
          | .ok (some d) S' => if S'[S1.length]? = some (Ob.lst acc) ∧ acc.length < lim then lcLoop S1.length it.chk (stepC t vs δ fc fe) (it.items.drop (i + 1)) (acc ++ [d]) (S'.set S1.length (Ob.lst (acc ++ [d]))) else R.bad
          | .bad => R.bad) = R.ok () S') → (fe δ3 S3 ≠ .bad) → TD X fe σ3 H3 fun y H4 => ∃ acc', H4 D = some (.lst acc') ∧ acc'.length < sizeLine ∧ ∃ μ3 S3 acc3, Ext (μ1 ++ [D]) μ3 ∧ Grow H1 (upd H4 D (.lst (acc' ++ [y]))) ∧ StOk X.prog X.w X.K μ3 S3 (upd H4 D (.lst (acc' ++ [y]))) ∧ lcLoop S1.length it.chk (stepC t vs δ fc fe) (it.items.drop (i + 1)) acc3 S3 = .ok () S' := by
        intro S3 H3 μ3 e3 gg3 so5 eo5 hnext hne
        cases hfe : fe δ3 S3 with
        | bad => exact absurd hfe hne
        | ok d4 S4 =>
          have hn := hnext (some d4) S4 (by rw [hfe]; rfl)
          dsimp only at hn
          split at hn
          case isFalse => cases hn
          rename_i hc4
          refine ⟨μ3, δ3, S3, d4, S4, so5, eo5, hfe, fun v H4 μ4 e4 g4 so6 r6 => ?_⟩
          obtain ⟨b, vs4, eb, b1, b2, b3⟩ := so6.lstAt (.ref ((e3.trans e4).get eD)) hc4.1
          cases eb
          refine ⟨vs4, b1, by rw [← b2.length]; exact lim_lt hc4.2, μ4, _, acc ++ [d4], e2.trans (e3.trans e4), ?_, so6.put b3 b1 True.intro (.lst upd_same ((b2.append (.one r6)).keep Ext.refl (grow_wr b1 True.intro).keep)), hn⟩
          exact g2.trans (g3.trans (gg3.trans (g4.trans (grow_wr b1 True.intro))))
      cases fc with
      | none =>
        unfold ttD tYes
        dsimp only
        rw [if_pos rfl]
        have es : stepC t vs δ none fe it.items[i] S2 = (fe δ3 S2).bind fun d S' => .ok (some d) S' := by unfold stepC; rw [hp2]
        rw [es] at hl
        refine elt Ext.refl Grow.refl so3 eo4 (fun od S4 ho => by rw [ho] at hl; exact hl) (fun hb => by rw [hb] at hl; cases hl)
      | some ft =>
        have es : stepC t vs δ (some ft) fe it.items[i] S2 = (ft δ3 S2).bind fun d S' => match tru S' d with
          | some true => (fe δ3 S').bind fun d S' => .ok (some d) S'
          | some false => .ok none S'
          | none => .bad := by unfold stepC; rw [hp2]
        rw [es] at hl
        cases hft : ft δ3 S2 with
        | bad => rw [hft] at hl; cases hl
        | ok c S5 =>
          rw [hft, R.bind_ok] at hl
          cases ht : tru S5 c with
          | none => rw [ht] at hl; cases hl
          | some b =>
            rw [ht] at hl
            refine ⟨μ2, δ3, S2, b, S5, so3, eo4, by unfold tvD; rw [hft, R.bind_ok, ht]; rfl, fun H5 μ5 e5 g5 so5 => ?_⟩
            cases b with
            | true =>
              dsimp only
              rw [if_pos rfl]
              exact elt e5 g5 so5 (eo4.keep e5 g5.keep) (fun od S4 ho => by dsimp only at hl; rw [ho] at hl; exact hl) (fun hb => by dsimp only at hl; rw [hb] at hl; cases hl)
            | false =>
              dsimp only
              rw [if_neg (by decide)]
              exact ⟨μ5, S5, acc, e2.trans e5, g2.trans (g3.trans g5), so5, hl⟩
  · left
    have hi' : i = it.items.length := by omega
    rw [List.drop_of_length_le (by omega)] at hl
    unfold lcLoop at hl
    split at hl
    · rename_i hchk
      cases hl
      exact ⟨wk.stop i H2 μ2 _ e12 g2 so2 hchk.1 hi', k _ _ _ (e1.trans e12) (g1.trans g2) so2 (.ref eD)⟩
    · cases hl
end
end Ev
set_option Elab.async false
set_option linter.all false
set_option maxRecDepth 100000
set_option maxHeartbeats 2000000
/-! Ev, part O: dict comprehensions, keys of any kind. -/
namespace Ev
open PySem PySem.Spec PyProof.Rows L2
section
variable {X : Cx}
/-- D[y] = z by data -/
def rDS (P : Program) (w : World) (K : PySem.W.Frag) (D : Addr) : V → V → Hp → (Hp → Prop) → Prop := fun y z H Q => ∃ μ S n acc k v, StOk P w K μ S H ∧ μ[n]? = some D ∧ S[n]? = some (.dic acc false) ∧ RelD K μ H k y ∧ RelD K μ H v z ∧ acc.length < lim ∧ keyOk acc k = true ∧
  ∀ H', Grow H H' → StOk P w K μ (S.set n (.dic (putK acc k v) false)) H' → Q H'
theorem ds_run (hr : Room 0 X.A) {pins : List (Addr × Obj)} {σ : L2.St} {H : Hp} {s : Shared} {E : Value → Shared → Prop} {D : Addr} {y z : V} {u r : Value} {Q : Hp → Prop} (I : Inv X pins σ H s) (ry : RelV y u) (rz : RelV z r) (h : rDS X.prog X.w X.K D y z H Q) :
    wpAny (model X.prog X.w) X.A (dictSet D u r) (fun _ s' => ∃ H', Inv X pins σ H' s' ∧ Q H') E s := by
  obtain ⟨μ, S, n, acc, k, v, so, hm, hS, rk, rv, hlen, ok, kq⟩ := h
  have hu := hr.units
  obtain ⟨b, hb, ob⟩ := so.at_ n _ hS
  rw [hm] at hb
  cases hb
  cases ob with
  | @dic _ u0 h1 du =>
    rcases Bool.or_eq_true_iff.mp ok with ok' | ok'
    · obtain ⟨lk1, lk2⟩ := Bool.and_eq_true_iff.mp ok'
      obtain ⟨k', hk'⟩ := leafKey_of lk1
      cases du with
      | @leaf ws hz pr =>
        have ey := leafKey_V hk' rk
        subst ey
        have hwl : ws.length < sizeLine := by rw [← Paired.length pr]; exact lim_lt hlen
        refine d_dictSet I h1 hwl ry rz fun s4 I4 => ⟨_, I4, kq _ (grow_wr h1 True.intro) (so.put hm h1 True.intro (.dic upd_same (.leaf ?_ ?_)))⟩
        · have := (putK_len (kvs := acc) (k := k) (d := v)).1
          omega
        · have hnd : (ws.map (·.1)).Nodup := by
            obtain ⟨_, _, vs, rel, _, _, _, _, _, _, _, _, hn⟩ := dk_of I.hok h1
            rw [rel.keys]
            exact hn
          exact Paired.imp (fun _ _ h => ⟨h.1, h.2.keep Ext.refl (grow_wr h1 True.intro).keep⟩) (leaf_put hk' rv pr hnd)
      | nest hn hz pr =>
        exfalso
        cases acc with
        | nil => exact absurd rfl hn
        | cons q qs =>
          cases pr with
          | cons h t =>
            have h1 := h.1
            rw [List.all_cons, Bool.and_eq_true] at lk2
            have h2 := lk2.1
            cases e : q.1 <;> rw [e] at h1 h2 <;> simp [tupK, leafK] at h1 h2
    · obtain ⟨tk1, _⟩ := Bool.and_eq_true_iff.mp ok'
      obtain ⟨xs, hx, er, hsys, hlen2⟩ := DU.nested I tk1 ok (.inl h1) du
      have hb : ∃ c, y = .ref c := by
        cases k <;> simp [tupK] at tk1
        cases rk
        exact ⟨_, rfl⟩
      obtain ⟨kc, rfl⟩ := hb
      cases (show u = Value.ref kc from ry)
      have hw : Wr u0 := (du_mut du).2.1
      have er2 := put_er tk1 rk rv rz er (by obtain ⟨_, _, _, _, _, _, _, _, hn⟩ := hx; exact hn)
      refine wpAny_dictSet_heap (hsz := hlen2) (by show X.A.units + 8 < cLine; omega) (key_is I tk1 rk) hx fun h' hx' hs => ?_
      have hl3 := (putK_len (kvs := acc) (k := k) (d := v))
      have hl4 := Paired.length er2
      obtain ⟨u1, I1, du1⟩ := nd_put (tk := s.toks + (nestedKind X.prog X.w).draws (nkey k)) I h1 hw hsys (by omega) hx' hs er2 hl3.2
      exact ⟨_, I1, kq _ (grow_wr h1 hw) (so.put hm h1 hw (.dic upd_same du1))⟩
/-- {k: v for target in iter} by data -/
def tDct (P : Program) (w : World) (K : PySem.W.Frag) (wi : TI) (g : TG) (tk tv : TE) (vs : List Nat) : TE := fun σ H Q => wi σ H fun J H1 => ∀ D, H1 D = none → ∃ W : Nat → Nat → Hp → Prop, (∃ m, W 0 m (upd H1 D (.dK []))) ∧ ∀ i m H, W i m H →
  (J.stop i H ∧ Q (.ref D) H) ∨ (J.go i H ∧ ∃ Nx : Hp → Prop, (∀ H', Nx H' → ∃ m', m' < m ∧ W (i + 1) m' H') ∧ ∀ x H', J.yld i H x H' → g x (L2.wipe σ vs) H' fun σ2 H2 => L2.wipe σ2 vs = L2.wipe σ vs ∧ tk σ2 H2 fun y H4 => tv σ2 H4 fun z H5 => rDS P w K D y z H5 Nx)
theorem pe_dct {kx vx tg iter : Expr} {scope : Scope} {own : List (Str × Nat)} {pos : Pos} {wi : TI} {g : TG} {tk tv : TE} (hr : Room 0 X.A) (hc : X.calm = true) (hN : X.N.Nodup) (hi : PI X tg iter wi) (ok : BlkOk X.N X.env.scope scope own)
    (hg : ∀ (s : Shared) (H : Hp) (C : Addr) (cl : List (Str × Addr)) (fp : List Addr), PG (X.blk s H scope (compEnvC scope cl C X.env) fp) tg g)
    (hk : ∀ (s : Shared) (H : Hp) (C : Addr) (cl : List (Str × Addr)) (fp : List Addr), PE (X.blk s H scope (compEnvC scope cl C X.env) fp) kx tk)
    (he : ∀ (s : Shared) (H : Hp) (C : Addr) (cl : List (Str × Addr)) (fp : List Addr), PE (X.blk s H scope (compEnvC scope cl C X.env) fp) vx tv) (hs : ∀ x, foldedSetIterable iter X.env x = pure x) :
    PE X (.DictComp kx vx [⟨tg, iter, [], 0⟩] scope pos) (tDct X.prog X.w X.K wi g tk tv (own.map (·.2))) := by
  refine ⟨fun pins s σ H Q I h => ?_⟩
  rw [arm_eval_DictComp]
  have hfree : ∀ y ∈ scope.names, y.2 = .free → ∃ c, X.env.cells.lookup y.1 = some c := fun y hy e => (ok.free y hy e).elim (fun k => I.ok.has _ (.inl k)) fun k => I.ok.has _ (.inr k)
  refine wpAny_comprehension_free rfl hs (closure_ok hfree) ok.kind (fun y hy e => by rw [ok.uniq y hy, e]) (thn (hi.run pins s σ H _ I h) fun xv s1 hx => thn hx fun itv s2 ⟨it, fp, tn, J, H2, e, I2, T, st2, f2, q⟩ => ?_)
  subst e
  refine wpAny_newObj_type (newEnv_comp ?_)
  -- the dict, the block's frame
  have hDn : H2 s2.heap.objs.size = none := I2.hok.fresh (Nat.le_refl _)
  obtain ⟨W, ⟨m0, w0⟩, turn⟩ := q _ hDn
  have I3 := I2.laid (a := s2.heap.objs.size) (o := .dK []) (h' := s2.heap.push { cls := .type "dict", data := .dict #[] }) (t' := s2.toks) (fun b o e => Heap.get?_push_of_some _ e) (Nat.le_refl _) (dk_empty s2.heap I2.big)
  have sz : ∀ b ∈ fp, b < s2.heap.objs.size := fun b hb => let ⟨o, e, _⟩ := T.obj _ _ st2 b hb; Heap.lt_size e
  have f3 : ∀ b ∈ fp, FpOk X pins (upd H2 s2.heap.objs.size (.dK [])) b ∧ b < (s2.heap.push { cls := .type "dict", data := .dict #[] }).objs.size := fun b hb =>
    ⟨⟨by rw [upd_ne (Nat.ne_of_lt (sz b hb))]; exact (f2 b hb).1, (f2 b hb).2⟩, by rw [Heap.size_push]; exact Nat.lt_succ_of_lt (sz b hb)⟩
  have st3 : tn 0 (s2.heap.push { cls := .type "dict", data := .dict #[] }) := T.keep _ _ _ st2 fun b _ o e => Heap.get?_push_of_some _ e
  generalize hD : s2.heap.objs.size = D at *
  generalize hH3 : upd H2 D (.dK []) = H3 at *
  generalize hs3 : ({ s2 with heap := s2.heap.push { cls := .type "dict", data := .dict #[] } } : Shared) = s3 at *
  have h3 : s3.heap = s2.heap.push { cls := .type "dict", data := .dict #[] } := by rw [← hs3]
  rw [← h3] at f3 st3
  have I4 := block_start I3 ok hN f3
  have pg := hg s3 H3 s3.heap.objs.size (cellsFrom (s3.heap.objs.size + 1) scope.names (cloFrom X.env.cells scope.names [])) fp
  have pk := hk s3 H3 s3.heap.objs.size (cellsFrom (s3.heap.objs.size + 1) scope.names (cloFrom X.env.cells scope.names [])) fp
  have pe := he s3 H3 s3.heap.objs.size (cellsFrom (s3.heap.objs.size + 1) scope.names (cloFrom X.env.cells scope.names [])) fp
  show codeAny _ _ (.compStart (.DictComp kx vx [⟨tg, iter, [], 0⟩] scope pos) 0 (.ref it) (.ref D) (compEnvC scope (cellsFrom (s3.heap.objs.size + 1) scope.names (cloFrom X.env.cells scope.names [])) s3.heap.objs.size X.env)) (compPost (model X.prog X.w) X.A X.xe none (EP X pins σ Q) (.ref D) s3.heap.objs.size)
    { s3 with heap := pushCells (s3.heap.push { cls := .type "dict", data := .dict #[] }) scope.names }
  have nfp : ∀ b ∈ fp, H3 b = none := fun b hb => (f3 b hb).1.1
  generalize hce : compEnvC scope (cellsFrom (s3.heap.objs.size + 1) scope.names (cloFrom X.env.cells scope.names [])) s3.heap.objs.size X.env = ce at I4 pg pk pe ⊢
  have cL : ce.locals = s3.heap.objs.size := by subst hce; rfl
  generalize hs4 : ({ s3 with heap := pushCells (s3.heap.push { cls := .type "dict", data := .dict #[] }) scope.names } : Shared) = s4 at I4 ⊢
  have st4 : tn 0 s4.heap := T.keep _ _ _ st3 fun b _ o e => by rw [← hs4]; exact pushCells_keeps _ _ _ _ (Heap.get?_push_of_some _ e)
  have stat : ∀ {σ' : L2.St} {H' : Hp} {s' : Shared}, Inv (X.blk s3 H3 scope ce fp) [] σ' H' s' → (∀ b ∈ fp, H' b = none) → ∀ b ∈ fp, FpOk (X.blk s3 H3 scope ce fp) [] H' b := fun {σ' H' s'} I' hn b hb =>
    ⟨hn b hb, (I'.ok.exf b hb).1, I'.ok.exfs b hb, .inl hb, fun x c e => (I'.ok.exf b hb).2 x c e, fun p hp => absurd (show p ∈ ([] : List (Addr × Obj)) ++ [] from hp) (by simp)⟩
  have loop : codeAny (model X.prog X.w) X.A (.compLoop (.DictComp kx vx [⟨tg, iter, [], 0⟩] scope pos) 0 (.ref it) (.ref D) ce) (compPost (model X.prog X.w) X.A X.xe none (EP X pins σ Q) (.ref D) s3.heap.objs.size) s4 := by
    refine compLoop_anyD (fun n s' => ∃ i H', Inv (X.blk s3 H3 scope ce fp) [] (L2.wipe σ (own.map (·.2))) H' s' ∧ tn i s'.heap ∧ (∀ b ∈ fp, H' b = none) ∧ W i n H') ?_ m0 ⟨0, H3, I4, st4, nfp, w0⟩
    rintro n s5 ⟨i, H5, I5, st5, n5, w5⟩
    rcases turn i n H5 w5 with ⟨stop, qq⟩ | ⟨go, Nx, hNx, step⟩
    · refine thnF (T.done (X.blk s3 H3 scope ce fp) rfl rfl rfl hc i [] s5 _ H5 (fun _ _ => False) I5 (stat I5 n5) st5 stop) fun r s6 ⟨hr, I6⟩ => ?_
      subst hr
      have I7 : Inv X pins σ H5 s6 := I3.call' (ch := fp) I6.os I6.base I6.hok I6.bare fun b hb => ⟨(f3 b hb).1.2.2.2.1, (f3 b hb).1.2.1, (f3 b hb).1.2.2.2.2.1, (f3 b hb).1.2.2.2.2.2⟩
      have nC : H5 ce.locals = none := I6.free
      obtain ⟨m, hn, _⟩ := I6.loc
      have hn : s6.heap.Ns ce.locals m := hn
      rw [cL] at nC hn
      obtain ⟨f0, f1, f2, f3, f4, f5⟩ := I3.fpOk (Nat.le_refl _) nC
      exact ⟨m, hn, fun h'' sb => ⟨.ref D, H5, I7.turned (t' := s6.toks) (fun b o hb e => (sb.2 b hb).trans e) f0 f1 f3 f4 f5, rfl, qq⟩⟩
    · refine thnF (T.item (X.blk s3 H3 scope ce fp) rfl rfl rfl hc i [] s5 _ H5 (fun _ _ => False) I5 (stat I5 n5) st5 go) fun r s6 ⟨u, hr, h6⟩ => ?_
      subst hr
      refine thnF h6 fun _ s7 ⟨x, H7, I7, r7, y7, st7, n7⟩ => ?_
      refine thnF (pg.run _ s7 _ H7 x u _ (I7.pinned (stat I7 n7) (T.obj _ _ st7)) r7 (step x H7 y7)) fun _ s8 ⟨σ8, H8, I8, hw8, q8⟩ => ?_
      refine thnF ((pts_nil (X := X.blk s3 H3 scope ce fp)).run _ s8 σ8 H8 (fun b H9 => b = true ∧ H9 = H8) I8 ⟨rfl, rfl⟩) fun b s9 ⟨H9, I9, eb, e9⟩ => ?_
      subst eb e9
      simp only [if_true]
      refine thnF (pk.run _ s9 σ8 _ _ I9 q8) fun z s10 ⟨yk, H10, I10, r10, q10⟩ => ?_
      refine thnF (pe.run _ s10 σ8 H10 _ I10 q10) fun z2 s11 ⟨yv, H11, I11, r11, q11⟩ => ?_
      refine thnF (ds_run (X := X.blk s3 H3 scope ce fp) hr I11 r10 r11 q11) fun _ s12 ⟨H12, I12, nx⟩ => ?_
      obtain ⟨m', hm, w'⟩ := hNx H12 nx
      have pin' : ∀ b ∈ fp, ∀ o, s7.heap.get? b = some o → s12.heap.get? b = some o ∧ H12 b = none := fun b hb o e =>
        let z := I12.pin (b, o) (List.mem_append_right _ (List.mem_append_right _ (mem_pinsAt hb e)))
        ⟨z.1, z.2.1⟩
      refine ⟨m', hm, i + 1, H12, (I12.unpinned (pins := [])).weak (by rw [← hw8, wipe_length]) (fun j v e => ?_), T.keep _ _ _ st7 fun b hb o e => (pin' b hb o e).1, fun b hb => ?_, w'⟩
      · rw [← hw8] at e
        exact (wipe_some e).1
      · obtain ⟨o, e, _⟩ := T.obj _ _ st7 b hb
        exact (pin' b hb o e).2
  exact codeAny_compStart_dict loop (T.self X.A 0 _ _ _ st4 loop)
def stepDC (t : Tg) (vs : List Nat) (δ : Env) (fk fv : Env → Store → R D) (x : D) (S : Store) : R (D × D) := match t.put x (wipe δ vs) with
  | some δ' => (fk δ' S).bind fun k S' => (fv δ' S').bind fun v S'' => .ok (k, v) S''
  | none => .bad
theorem dc_red {σ : L2.St} {H : Hp} {Q : VK} {t : Tg} {fs : Env → Store → R It} {fk fv : Env → Store → R D} {vs : List Nat} (hv : ∀ i ∈ t.slots, i ∈ vs)
    (q : TD X (fun δ S => (fs δ S).bind fun it S1 => (dcLoop S1.length it.chk (stepDC t vs δ fk fv) it.items [] (S1 ++ [.dic [] false])).bind fun _ S2 => .ok (.ref S1.length) S2) σ H Q) :
    tDct X.prog X.w X.K (TI' X fs) (GD X t) (TD X fk) (TD X fv) vs σ H Q := by
  obtain ⟨μ, δ, S, d, S', so, eo, hf, k⟩ := q
  dsimp only at hf
  obtain ⟨it, S1, h1, hf⟩ := R.bind_some hf
  obtain ⟨u, S9, hl, hf⟩ := R.bind_some hf
  cases hf
  refine ⟨μ, δ, S, it, S1, so, eo, h1, fun J H1 μ1 e1 g1 so1 wk => fun D hD => ?_⟩
  have hlen : μ1.length = S1.length := so1.len
  refine ⟨fun i m H => ∃ μ2 S2 acc, Ext (μ1 ++ [D]) μ2 ∧ Grow H1 H ∧ StOk X.prog X.w X.K μ2 S2 H ∧ i + m = it.items.length ∧ dcLoop S1.length it.chk (stepDC t vs δ fk fv) (it.items.drop i) acc S2 = .ok () S',
    ⟨it.items.length, μ1 ++ [D], S1 ++ [Ob.dic [] false], [], Ext.refl, grow_new hD, so1.push hD (.dic upd_same (.leaf (Nat.zero_le _) .nil)), by omega, hl⟩, ?_⟩
  rintro i m H2 ⟨μ2, S2, acc, e2, g2, so2, him, hl⟩
  have eD : μ2[S1.length]? = some D := e2.get (by rw [← hlen]; simp)
  have e12 : Ext μ1 μ2 := Ext.snoc.trans e2
  by_cases hlt : i < it.items.length
  · right
    rw [List.drop_eq_getElem_cons hlt] at hl
    unfold dcLoop at hl
    split at hl
    case isFalse => cases hl
    rename_i hchk
    refine ⟨wk.go i H2 μ2 S2 e12 g2 so2 hchk.1 hlt, fun H' => ∃ μ3 S3 acc3, Ext (μ1 ++ [D]) μ3 ∧ Grow H1 H' ∧ StOk X.prog X.w X.K μ3 S3 H' ∧ dcLoop S1.length it.chk (stepDC t vs δ fk fv) (it.items.drop (i + 1)) acc3 S3 = .ok () S',
      fun H' ⟨μ3, S3, acc3, a, b, c, d⟩ => ⟨m - 1, by omega, μ3, S3, acc3, a, b, c, by omega, d⟩, fun x H' y => ?_⟩
    obtain ⟨g3, so3, rd⟩ := wk.yld i H2 μ2 S2 _ x H' e12 g2 so2 hchk.1 (List.getElem?_eq_getElem hlt) y
    cases hp2 : t.put it.items[i] (wipe δ vs) with
    | none =>
      have : stepDC t vs δ fk fv it.items[i] S2 = .bad := by unfold stepDC; rw [hp2]
      rw [this] at hl
      cases hl
    | some δ3 =>
      have eo3 : EnvOk X.K μ2 H' (wipe δ vs) (L2.wipe σ vs) := (eo.keep (e1.trans e12) (g1.trans (g2.trans g3)).keep).wipe vs
      refine ⟨μ2, wipe δ vs, S2, it.items[i], δ3, so3, eo3, rd, hp2, fun σ3 eo4 sa => ⟨wipe_same sa hv, ?_⟩⟩
      have es : stepDC t vs δ fk fv it.items[i] S2 = (fk δ3 S2).bind fun k S' => (fv δ3 S').bind fun v S'' => .ok (k, v) S'' := by unfold stepDC; rw [hp2]
      rw [es] at hl
      cases hk : fk δ3 S2 with
      | bad => rw [hk] at hl; cases hl
      | ok kd S3 =>
        rw [hk, R.bind_ok] at hl
        cases hvv : fv δ3 S3 with
        | bad => rw [hvv] at hl; cases hl
        | ok vd S4 =>
          rw [hvv, R.bind_ok] at hl
          dsimp only at hl
          split at hl
          case isFalse => cases hl
          rename_i hc4
          refine ⟨μ2, δ3, S2, kd, S3, so3, eo4, hk, fun y H4 μ4 e4 g4 so4 r4 => ⟨μ4, δ3, S3, vd, S4, so4, eo4.keep e4 g4.keep, hvv, fun z H5 μ5 e5 g5 so5 r5 => ?_⟩⟩
          exact ⟨μ5, S4, S1.length, acc, kd, vd, so5, (e4.trans e5).get eD, hc4.1, r4.keep e5 g5.keep, r5, hc4.2.1, hc4.2.2, fun H6 g6 so6 => ⟨μ5, _, _, e2.trans (e4.trans e5), g2.trans (g3.trans (g4.trans (g5.trans g6))), so6, hl⟩⟩
  · left
    have hi' : i = it.items.length := by omega
    rw [List.drop_of_length_le (by omega)] at hl
    unfold dcLoop at hl
    split at hl
    · rename_i hchk
      cases hl
      exact ⟨wk.stop i H2 μ2 _ e12 g2 so2 hchk.1 hi', k _ _ _ (e1.trans e12) (g1.trans g2) so2 (.ref eD)⟩
    · cases hl
end
end Ev
set_option Elab.async false
set_option linter.all false
set_option maxRecDepth 100000
set_option maxHeartbeats 2000000
/-! Ev, part P: from the text's trees to the small language; expressions. -/
namespace Ev
open PySem PySem.Spec PyProof.Rows L2

/-! ### forms of trees -/
def notStar : Expr → Bool
  | .Starred _ _ => false
  | _ => true
theorem star_cons {e : Expr} {es : List Expr} {env : PySem.Env} (h : notStar e = true) : starEach (e :: es) env = (false, eval e env) :: starEach es env := by
  cases e <;> first | rfl | cases h
theorem star_any {es : List Expr} {env : PySem.Env} {pos : Pos} (h : es.all notStar = true) : (backTo pos (starEach es env)).any (·.1) = false := by
  induction es with
  | nil => rfl
  | cons e es ih =>
    rw [List.all_cons, Bool.and_eq_true] at h
    rw [star_cons h.1]
    show (false || (backTo pos (starEach es env)).any (·.1)) = false
    rw [ih h.2]
    rfl
theorem star_all {es : List Expr} {env : PySem.Env} {pos : Pos} (h : es.all notStar = true) : (backTo pos (starEach es env)).all (fun x => !x.1) = true := by
  induction es with
  | nil => rfl
  | cons e es ih =>
    rw [List.all_cons, Bool.and_eq_true] at h
    rw [star_cons h.1]
    show (true && (backTo pos (starEach es env)).all fun x => !x.1) = true
    rw [ih h.2]
    rfl
def baseOk : Expr → Bool
  | .Call (.Name _ _) [] [] _ => false
  | _ => true
theorem base_of {o : Expr} {a : Str} {env : PySem.Env} {wh : Sem Value} (h : baseOk o = true) : attributeBase o a env wh = wh := by
  unfold attributeBase
  split
  · cases h
  · rfl
def plainTest : Expr → Bool
  | .UnaryOp .Not _ _ => false
  | .BoolOp _ _ _ => false
  | .IfExp _ _ _ _ => false
  | .Compare _ _ _ _ => false
  | _ => true
theorem plain_test {e : Expr} {env : PySem.Env} (h : plainTest e = true) : ∀ whole, isTrue e env whole = (do let v ← whole; standAt e.pos; holding [v] (truthy v)) := by
  intro whole
  cases e with
  | UnaryOp op a p => cases op <;> first | rfl | cases h
  | _ => first | rfl | cases h
def notSlice : Expr → Bool
  | .Slice _ _ _ _ => false
  | _ => true
theorem plain_ix {b : Expr} (h : notSlice b = true) : PlainIx b := by
  intro o i
  cases b <;> first | rfl | cases h
def notSet : Expr → Bool
  | .Set _ _ _ => false
  | _ => true
theorem not_set {e : Expr} {env : PySem.Env} (h : notSet e = true) : ∀ x, foldedSetIterable e env x = pure x := by
  intro x
  cases e <;> first | rfl | cases h
def notComp : Expr → Bool
  | .ListComp _ _ _ _ => false
  | .SetComp _ _ _ _ => false
  | .DictComp _ _ _ _ _ => false
  | _ => true
theorem not_comp {e : Expr} {t : Option Expr} {l : Nat} {env : PySem.Env} (h : notComp e = true) : swapsWith e t l env = pure false := by
  cases e <;> first | rfl | cases h

/-! ### names -/
structure Tab where
  fns : Str → Option Nat
  cons : Str → Option D
  free : Str → Bool
def ixOf (N : List Str) (x : Str) : Option Nat := N.findIdx? fun y => decide (y = x)
theorem ixOf_some {N : List Str} {x : Str} {i : Nat} (h : ixOf N x = some i) : N[i]? = some x := by
  unfold ixOf at h
  obtain ⟨h1, h2, _⟩ := List.findIdx?_eq_some_iff_getElem.mp h
  rw [decide_eq_true_eq] at h2
  rw [List.getElem?_eq_getElem h1, h2]
def okName (x : Str) : Bool := !(x == ("__debug__" : Str)) && !(x == ("__classdict__" : Str)) && !decide (x = ("__name__" : Str))
theorem okName_is {x : Str} (h : okName x = true) : (x == ("__debug__" : Str)) = false ∧ (x == ("__classdict__" : Str)) = false ∧ x ≠ ("__name__" : Str) := by
  unfold okName at h
  simp only [Bool.and_eq_true, Bool.not_eq_true', decide_eq_false_iff_not] at h
  exact ⟨h.1.1, h.1.2, h.2⟩
def visB (sc : Scope) (x : Str) : Bool := match sc.names.lookup x with
  | some .local => true
  | some .cell => true
  | some .free => true
  | _ => false
theorem visB_is {sc : Scope} {x : Str} (h : visB sc x = true) : Vis sc x := by
  unfold visB at h
  unfold Vis
  split at h <;> simp_all
def slotOf (N : List Str) (sc : Scope) (x : Str) : Option Nat := if visB sc x = true ∧ okName x = true then ixOf N x else none
/-- a name that is stored -/
def locB (sc : Scope) (own : Str → Bool) (x : Str) : Bool := match sc.names.lookup x with
  | some .local => true
  | some .cell => own x
  | _ => false
def globB (sc : Scope) (x : Str) : Bool := (match sc.names.lookup x with
  | some .globalImplicit => true
  | _ => false) && okName x
theorem globB_is {sc : Scope} {x : Str} (h : globB sc x = true) : sc.names.lookup x = some .globalImplicit ∧ okName x = true := by
  unfold globB at h
  rw [Bool.and_eq_true] at h
  refine ⟨?_, h.2⟩
  have := h.1
  split at this <;> simp_all
/-- the built-in types that stand as values -/
def tyName (x : Str) : Option String := if x = ("int" : Str) then some "int" else if x = ("bool" : Str) then some "bool" else if x = ("str" : Str) then some "str" else if x = ("tuple" : Str) then some "tuple" else if x = ("list" : Str) then some "list" else if x = ("dict" : Str) then some "dict" else none
theorem tyName_is {x : Str} {n : String} (h : tyName x = some n) : bootBuiltins x = some (.type n) := by
  unfold tyName at h
  repeat' split at h
  all_goals first | (cases h; subst_vars; decide +kernel) | cases h
def prOf (x : Str) : Option Pr := if x = ("abs" : Str) then some .abs else if x = ("all" : Str) then some .all else if x = ("any" : Str) then some .any else if x = ("int" : Str) then some .int else if x = ("isinstance" : Str) then some .isinst else if x = ("len" : Str) then some .len
  else if x = ("list" : Str) then some .listOf else if x = ("tuple" : Str) then some .tupleOf else if x = ("max" : Str) then some .max else if x = ("min" : Str) then some .min else if x = ("sorted" : Str) then some .sorted else none
def mtOf (x : Str) : Option Mt := if x = ("append" : Str) then some .append else if x = ("extend" : Str) then some .extend else if x = ("get" : Str) then some .get else if x = ("pop" : Str) then some .pop else if x = ("remove" : Str) then some .remove else if x = ("setdefault" : Str) then some .setdefault else none
theorem mtOf_is {x : Str} {m : Mt} (h : mtOf x = some m) : x = m.name := by
  unfold mtOf at h
  repeat' split at h
  all_goals first | (cases h; subst_vars; rfl) | cases h

/-! ### the translation -/
def mapO {α β : Type} (f : α → Option β) : List α → Option (List β)
  | [] => some []
  | a :: r => match f a, mapO f r with
    | some b, some bs => some (b :: bs)
    | _, _ => none
def cConst : Const → Option D
  | .none => some .non
  | .bool b => some (.bl b)
  | .int i => some (.int i)
  | .str x => some (.str x)
  | _ => none
def cO (f : Expr → Option E) : Option Expr → Option (Option E)
  | none => some none
  | some e => (f e).map some
/-- the blocks' own names -/
def ownOf (N : List Str) (scope : Scope) : List (Str × Nat) := scope.names.filterMap fun p => match p.2 with
  | .local => (ixOf N p.1).map fun i => (p.1, i)
  | .cell => (ixOf N p.1).map fun i => (p.1, i)
  | _ => none
def cName (N : List Str) (sc : Scope) (own : Str → Bool) : Expr → Option Nat
  | .Name x _ => if locB sc own x = true then slotOf N sc x else none
  | _ => none
def cTg (N : List Str) (sc : Scope) (own : Str → Bool) : Expr → Option Tg
  | .Name x p => (cName N sc own (.Name x p)).map .name
  | .Tuple es _ _ => (mapO (cName N sc own) es).map .tup
  | _ => none
def isTup : Expr → Bool
  | .Tuple _ _ _ => true
  | _ => false
abbrev Rec := Scope → (Str → Bool) → Expr → Option E
def fnAt (T : Tab) (sc : Scope) (x y : Str) : Bool := decide (x = y) && globB sc x && T.free x
def cSrc (T : Tab) (N : List Str) (f : Expr → Option E) (sc : Scope) (tg iter : Expr) : Option Src := match iter with
  | .Call (.Name x _) [a] [] _ => if notStar a = true then (if fnAt T sc x "range" = true then (f a).map fun a => .range (.lit (.int 0)) a else if fnAt T sc x "enumerate" = true ∧ isTup tg = true then (f a).map .enum else (f iter).map .val) else none
  | .Call (.Name x _) [a, b] [] _ => if notStar a = true ∧ notStar b = true then (if fnAt T sc x "range" = true then (match f a, f b with
    | some a, some b => some (.range a b)
    | _, _ => none) else (f iter).map .val) else none
  | .Call (.Attribute (.Name x _) m apos) [] [] cpos => if m = ("items" : Str) ∧ isTup tg = true ∧ (apos.endLine == cpos.line) = true then (slotOf N sc x).map .items else none
  | .Name x _ => (match slotOf N sc x with
    | some i => some (.keys i)
    | none => (f iter).map .val)
  | e => if notSet e = true then (f e).map .val else none
def cComp (T : Tab) (N : List Str) (rec : Rec) (sc : Scope) (own : Str → Bool) (tg iter : Expr) (scope : Scope) : Option (Src × Tg × List Nat) :=
  if blkC N sc scope (ownOf N scope) = true ∧ notSet iter = true then (match cSrc T N (rec sc own) sc tg iter, cTg N (relS scope sc) (fun x => scope.names.lookup x == some .cell) tg with
    | some src, some t => if (t.slots.all fun i => ((ownOf N scope).map (·.2)).contains i) = true then some (src, t, (ownOf N scope).map (·.2)) else none
    | _, _ => none) else none
def cCall (T : Tab) (sc : Scope) (f : Expr → Option E) (x : Str) (args : List Expr) : Option E := match args with
  | [.Call (.Name y _) [a] [] _] => if fnAt T sc x "len" = true ∧ fnAt T sc y "set" = true ∧ notStar a = true then (f a).map fun a => .prim .lenSet [a]
    else if fnAt T sc x "sorted" = true ∧ fnAt T sc y "set" = true ∧ notStar a = true then (f a).map fun a => .prim .sortedSet [a]
    else if fnAt T sc x "list" = true ∧ fnAt T sc y "range" = true ∧ notStar a = true then (f a).map fun a => .prim .listRange [.lit (.int 0), a]
    else cCall1 T sc f x args
  | args => cCall1 T sc f x args
where cCall1 (T : Tab) (sc : Scope) (f : Expr → Option E) (x : Str) (args : List Expr) : Option E := if globB sc x = true ∧ args.all notStar = true then (match mapO f args with
    | some es => (match T.fns x with
      | some n => if args.length = n then some (.call x es) else none
      | none => if T.free x = true ∧ args ≠ [] then (prOf x).map fun p => .prim p es else none)
    | none => none) else none
def tOk : Nat → Expr → Bool
  | 0, _ => false
  | n + 1, e => match e with
    | .UnaryOp .Not a _ => tOk n a
    | .BoolOp _ [a] _ => tOk n a
    | .BoolOp op (a :: b :: r) pos => tOk n a && tOk n (.BoolOp op (b :: r) pos)
    | .BoolOp _ [] _ => false
    | .IfExp _ _ _ _ => false
    | _ => true
def cE1 (T : Tab) (N : List Str) (n : Nat) (rec : Rec) (sc : Scope) (own : Str → Bool) (e : Expr) : Option E := match e with
  | .Constant c _ _ => (cConst c).map .lit
  | .Name x _ => (match slotOf N sc x with
    | some i => some (.var i)
    | none => if globB sc x = true then (match T.cons x with
      | some d => some (.con x)
      | none => if T.free x = true then (tyName x).map fun n => .lit (.ty n) else none) else none)
  | .BoolOp op [a] _ => rec sc own a
  | .BoolOp op (a :: b :: r) pos => (match rec sc own a, rec sc own (.BoolOp op (b :: r) pos) with
    | some x, some y => (match op with
      | .And => some (.and x y)
      | .Or => some (.or x y))
    | _, _ => none)
  | .UnaryOp .Not a _ => (rec sc own a).map .not
  | .UnaryOp .USub a _ => (rec sc own a).map .neg
  | .BinOp a op b _ => (match rec sc own a, rec sc own b with
    | some x, some y => some (.bin op x y)
    | _, _ => none)
  | .Compare a [op] [b] _ => if behindInMarks op b = false then (match rec sc own a, rec sc own b with
    | some x, some y => some (.cmp op x y)
    | _, _ => none) else none
  | .Compare a [op, op'] [b, c] _ => if lastMarks [op, op'] [b, c] = false then (match rec sc own a, rec sc own b, rec sc own c with
    | some x, some y, some z => some (.chain op op' x y z)
    | _, _, _ => none) else none
  | .IfExp t a b _ => if tOk n t = true then (match rec sc own t, rec sc own a, rec sc own b with
    | some x, some y, some z => some (.ite x y z)
    | _, _, _ => none) else none
  | .Tuple es _ _ => if es.all notStar = true then (mapO (rec sc own) es).map .tup else none
  | .List es _ => if es.all notStar = true then (mapO (rec sc own) es).map .lst else none
  | .Dict [] [] _ => some .dic
  | .Subscript a (.Slice none none (some (.UnaryOp .USub (.Constant (.int 1) _ _) _)) _) _ => (rec sc own a).map .rev
  | .Subscript a (.Slice lo hi none _) _ => (match rec sc own a, cO (rec sc own) lo, cO (rec sc own) hi with
    | some x, some l, some h => some (.sl x l h)
    | _, _, _ => none)
  | .Subscript a b _ => if notSlice b = true then (match rec sc own a, rec sc own b with
    | some x, some y => some (.ix x y)
    | _, _ => none) else none
  | .Call (.Name x _) args [] _ => cCall T sc (rec sc own) x args
  | .Call (.Attribute o m apos) args [] cpos => (match mtOf m, rec sc own o, mapO (rec sc own) args with
    | some m, some x, some es => if args ≠ [] ∧ args.all notStar = true ∧ args.length < 30 ∧ baseOk o = true ∧ (apos.endLine == cpos.line) = true then some (.meth m x es) else none
    | _, _, _ => none)
  | .ListComp elt [⟨tg, iter, ifs, 0⟩] scope _ => (match cComp T N rec sc own tg iter scope with
    | some (src, t, vs) => (match ifs with
      | [] => (rec (relS scope sc) (fun x => scope.names.lookup x == some .cell) elt).map fun y => .lc vs t src none y
      | [c] => if tOk n c = true then (match rec (relS scope sc) (fun x => scope.names.lookup x == some .cell) c, rec (relS scope sc) (fun x => scope.names.lookup x == some .cell) elt with
        | some z, some y => some (.lc vs t src (some z) y)
        | _, _ => none) else none
      | _ => none)
    | none => none)
  | .DictComp kx vx [⟨tg, iter, [], 0⟩] scope _ => (match cComp T N rec sc own tg iter scope with
    | some (src, t, vs) => (match rec (relS scope sc) (fun x => scope.names.lookup x == some .cell) kx, rec (relS scope sc) (fun x => scope.names.lookup x == some .cell) vx with
      | some z, some y => some (.dc vs t src z y)
      | _, _ => none)
    | none => none)
  | _ => none
def cE (T : Tab) (N : List Str) : Nat → Rec
  | 0, _, _, _ => none
  | n + 1, sc, own, e => cE1 T N n (cE T N n) sc own e
end Ev
set_option Elab.async false
set_option linter.all false
set_option maxRecDepth 100000
set_option maxHeartbeats 4000000
/-! Ev, part Q: the translation of expressions is right. -/
namespace Ev
open PySem PySem.Spec PyProof.Rows L2
/-- what a def of the program promises -/
def spEv (P : Program) (w : World) (K : PySem.W.Frag) (n : Nat) (f : List D → Store → R D) : Sp := fun vs H Q _ => ∃ μ S as d S', StOk P w K μ S H ∧ RelDs K μ H as vs ∧ as.length = n ∧ f as S = .ok d S' ∧ Cont P w K μ H S' d Q
abbrev CXn : CXT := fun _ _ _ _ _ _ => False
/-- a def, as it may be called -/
def FnAt (P : Program) (w : World) (K : PySem.W.Frag) (mg : Str → Option Value) (base : Heap) (k : Nat) (x : Str) (n : Nat) (f : List D → Store → R D) : Prop :=
  ∃ (a : Addr) (fd : FuncData) (ps : List Str), ps.length = n ∧ mg x = some (.ref a) ∧ PySem.W.keepIn K (.ref a) = true ∧ Binds K fd ps [] ∧ FnOk P w K mg base CXn k a fd ps (spEv P w K n f)
structure GCx (T : Tab) (c : Ctx) (k : Nat) (N : List Str) (sc : Scope) (own : Str → Bool) (X : Cx) : Prop where
  room : Room k X.A
  calm : X.calm = true
  nd : X.N.Nodup
  nE : X.N = N
  scE : X.env.scope = sc
  kn : sc.kind = .function
  own : ∀ x, own x = true → X.fn x = true
  free : ∀ x, T.free x = true → X.mg x = none
  con : ∀ x d, T.cons x = some d → c.con x = some d ∧ ∃ v u, X.mg x = some u ∧ RelV v u ∧ ∀ μ H, RelD X.K μ H d v
  call : ∀ x n, T.fns x = some n → FnAt X.prog X.w X.K X.mg X.base k x n (c.call x)
section
variable {T : Tab} {c : Ctx} {k : Nat} {N : List Str} {sc : Scope} {own : Str → Bool} {X : Cx}
theorem GCx.room0 (G : GCx T c k N sc own X) : Room 0 X.A := G.room.mono (Nat.zero_le _)
theorem GCx.gl (G : GCx T c k N sc own X) {x : Str} (h : globB sc x = true) : Gl X x := by
  show X.env.scope.names.lookup x = some .globalImplicit
  rw [G.scE]
  exact (globB_is h).1
theorem slot_is {x : Str} {i : Nat} (h : slotOf N sc x = some i) : Vis sc x ∧ okName x = true ∧ N[i]? = some x := by
  unfold slotOf at h
  split at h
  · rename_i h1
    exact ⟨visB_is h1.1, h1.2, ixOf_some h⟩
  · cases h
theorem GCx.var (G : GCx T c k N sc own X) {x : Str} {i : Nat} {p : Pos} (h : slotOf N sc x = some i) : PE X (.Name x p) (tVar i) := by
  obtain ⟨h1, h2, h3⟩ := slot_is h
  obtain ⟨a, b, _⟩ := okName_is h2
  exact pe_var (by rw [G.nE]; exact h3) (by rw [G.scE]; exact h1) a b
theorem GCx.fn (G : GCx T c k N sc own X) {x y : Str} (h : fnAt T sc x y = true) : x = y ∧ Gl X x ∧ X.mg x = none ∧ okName x = true := by
  unfold fnAt at h
  simp only [Bool.and_eq_true, decide_eq_true_eq] at h
  exact ⟨h.1.1, G.gl h.1.2, G.free _ h.2, (globB_is h.1.2).2⟩
theorem mapO_cons {α β : Type} {f : α → Option β} {a : α} {r : List α} {bs : List β} (h : mapO f (a :: r) = some bs) : ∃ b bs', f a = some b ∧ mapO f r = some bs' ∧ bs = b :: bs' := by
  unfold mapO at h
  split at h
  · rename_i b bs' h1 h2
    cases h
    exact ⟨b, bs', h1, h2, rfl⟩
  · cases h
theorem list_ok' {rec : Expr → Option E} {es : List Expr} {irs : List E} (ih : ∀ e ir, rec e = some ir → PE X e (TD X (evE c ir))) (h : mapO rec es = some irs) (hs : es.all notStar = true) : PA X es (TDs X (evEs c irs)) := by
  induction es generalizing irs with
  | nil =>
    cases h
    have e : evEs c [] = fun _ S => R.ok [] S := by funext δ S; simp only [evEs] <;> rfl
    rw [e]
    exact pda_nil
  | cons a es ih2 =>
    obtain ⟨b, bs, h1, h2, rfl⟩ := mapO_cons h
    rw [List.all_cons, Bool.and_eq_true] at hs
    have e : evEs c (b :: bs) = fun δ S => (evE c b δ S).bind fun d S1 => (evEs c bs δ S1).bind fun ds S2 => .ok (d :: ds) S2 := by funext δ S; simp only [evEs] <;> rfl
    rw [e]
    exact pda_cons (ih _ _ h1) (ih2 h2 hs.2) (star_cons hs.1)
theorem opt_ok {rec : Expr → Option E} {o : Option Expr} {ir : Option E} (ih : ∀ e ir, rec e = some ir → PE X e (TD X (evE c ir))) (h : cO rec o = some ir) : PO X o (TOd X (evO c ir)) := by
  cases o with
  | none =>
    cases h
    have e : evO c none = fun _ S => R.ok none S := by funext δ S; simp only [evO] <;> rfl
    rw [e]
    exact pod_none
  | some a =>
    simp only [cO, Option.map_eq_some_iff] at h
    obtain ⟨b, h1, rfl⟩ := h
    have e : evO c (some b) = fun δ S => (evE c b δ S).bind fun d S1 => match d with
      | .int i => .ok (some i) S1
      | _ => .bad := by funext δ S; simp only [evO] <;> rfl
    rw [e]
    exact pod_some (ih _ _ h1)
/-! ### targets -/
theorem cName_is {e : Expr} {i : Nat} (h : cName N sc own e = some i) : ∃ x p, e = .Name x p ∧ locB sc own x = true ∧ slotOf N sc x = some i := by
  cases e <;> simp only [cName, reduceCtorEq] at h
  rename_i x p
  split at h
  · exact ⟨x, p, rfl, by assumption, h⟩
  · cases h
theorem GCx.loc (G : GCx T c k N sc own X) {x : Str} (h : locB sc own x = true) : L2.Loc X.env.scope x ∧ (X.fn x = true ∨ X.env.scope.names.lookup x = some .local) := by
  unfold locB at h
  unfold L2.Loc
  rw [G.scE]
  split at h
  · rename_i e
    exact ⟨.inl e, .inr e⟩
  · rename_i e
    exact ⟨.inr e, .inl (G.own _ h)⟩
  · cases h
theorem name_ok (G : GCx T c k N sc own X) {e : Expr} {i : Nat} (h : cName N sc own e = some i) : PG X e (gName i) := by
  obtain ⟨x, p, rfl, h1, h2⟩ := cName_is h
  obtain ⟨a, b⟩ := G.loc h1
  exact pg_name G.nd (by rw [G.nE]; exact (slot_is h2).2.2) a b
theorem ass_one {e : Expr} {es : List Expr} {env : PySem.Env} (h : notStar e = true) : (assignEach (e :: es) env).map (·.2) = assign e env :: (assignEach es env).map (·.2) ∧ (assignEach (e :: es) env).length = (assignEach es env).length + 1 ∧ ((assignEach es env).findIdx? (·.1) = none → (assignEach (e :: es) env).findIdx? (·.1) = none) := by
  have e1 : assignEach (e :: es) env = (false, assign e env) :: assignEach es env := by cases e <;> first | rfl | cases h
  rw [e1]
  refine ⟨rfl, rfl, fun h => ?_⟩
  rw [List.findIdx?_cons]
  simp [h]
theorem cName_star {e : Expr} {i : Nat} (h : cName N sc own e = some i) : notStar e = true := by
  obtain ⟨x, p, rfl, _⟩ := cName_is h
  rfl
theorem names_ok (G : GCx T c k N sc own X) {es : List Expr} {is : List Nat} (h : mapO (cName N sc own) es = some is) : PGs X es (gsD X.prog X.w X.K is) ∧ (assignEach es X.env).length = is.length ∧ (assignEach es X.env).findIdx? (·.1) = none := by
  induction es generalizing is with
  | nil =>
    cases h
    exact ⟨gds_nil, rfl, rfl⟩
  | cons a es ih =>
    obtain ⟨b, bs, h1, h2, rfl⟩ := mapO_cons h
    obtain ⟨i1, i2, i3⟩ := ih h2
    obtain ⟨a1, a2, a3⟩ := ass_one (es := es) (env := X.env) (cName_star h1)
    exact ⟨gds_cons (name_ok G h1) i1 a1, by rw [a2, i2]; rfl, a3 i3⟩
theorem tg_ok (G : GCx T c k N sc own X) {e : Expr} {t : Tg} (h : cTg N sc own e = some t) : PG X e (GD X t) := by
  cases e <;> simp only [cTg, reduceCtorEq] at h
  · rename_i x p
    obtain ⟨i, h1, rfl⟩ := Option.map_eq_some_iff.mp h
    exact gd_name (name_ok G h1)
  · rename_i es kk p
    obtain ⟨is, h1, rfl⟩ := Option.map_eq_some_iff.mp h
    obtain ⟨a, b, d⟩ := names_ok G h1
    exact gd_tup G.calm a b d
/-! ### sources -/
theorem isTup_is {e : Expr} (h : isTup e = true) : ∃ es k p, e = .Tuple es k p := by
  cases e <;> first | exact ⟨_, _, _, rfl⟩ | cases h
theorem src_ok (G : GCx T c k N sc own X) {rec : Expr → Option E} {tg iter : Expr} {src : Src} (ih : ∀ e ir, rec e = some ir → PE X e (TD X (evE c ir))) (h : cSrc T N rec sc tg iter = some src) : PI X tg iter (TI' X (evSrc c src)) := by
  have val : ∀ {e ir}, rec e = some ir → PI X tg e (TI' X (evSrc c (.val ir))) := fun {e ir} h => by
    have e1 : evSrc c (.val ir) = fun δ S => (evE c ir δ S).bind fun d S1 => R.of (itOf d S1) S1 := by funext δ S; simp only [evSrc] <;> rfl
    rw [e1]
    exact pid_val (ih _ _ h)
  unfold cSrc at h
  split at h
  · rename_i x p a pos
    split at h
    · rename_i hs
      split at h
      · rename_i hf
        obtain ⟨ia, h1, rfl⟩ := Option.map_eq_some_iff.mp h
        obtain ⟨rfl, g1, g2, _⟩ := G.fn hf
        have e1 : evSrc c (.range (.lit (.int 0)) ia) = fun δ S => (R.ok (D.int 0) S).bind fun x S1 => (evE c ia δ S1).bind fun y S2 => match x, y with
          | .int i, .int j => if rangeOk i j = true then .ok ⟨rangeD i j, []⟩ S2 else .bad
          | _, _ => .bad := by funext δ S; simp only [evSrc, evE] <;> rfl
        rw [e1]
        refine pid_range1 g1 g2 ?_ (star_cons hs)
        have := list_ok' (c := c) (es := [a]) (irs := [ia]) ih (by unfold mapO; rw [h1]; rfl) (by simp [hs])
        have e2 : evEs c [ia] = fun δ S => (evE c ia δ S).bind fun d S1 => R.ok [d] S1 := by funext δ S; simp only [evEs, R.bind_ok] <;> rfl
        rw [e2] at this
        exact this
      · split at h
        · rename_i hf
          obtain ⟨ia, h1, rfl⟩ := Option.map_eq_some_iff.mp h
          obtain ⟨rfl, g1, g2, _⟩ := G.fn hf.1
          obtain ⟨elts, kk, tp, rfl⟩ := isTup_is hf.2
          have e1 : evSrc c (.enum ia) = fun δ S => (evE c ia δ S).bind fun d S1 => R.of (enumOf d S1) S1 := by funext δ S; simp only [evSrc] <;> rfl
          rw [e1]
          refine pid_enum g1 g2 ?_ (star_cons hs)
          have := list_ok' (c := c) (es := [a]) (irs := [ia]) ih (by unfold mapO; rw [h1]; rfl) (by simp [hs])
          have e2 : evEs c [ia] = fun δ S => (evE c ia δ S).bind fun d S1 => R.ok [d] S1 := by funext δ S; simp only [evEs, R.bind_ok] <;> rfl
          rw [e2] at this
          exact this
        · obtain ⟨ia, h1, rfl⟩ := Option.map_eq_some_iff.mp h
          exact val h1
    · cases h
  · rename_i x p a b pos
    split at h
    · rename_i hs
      split at h
      · rename_i hf
        split at h
        · rename_i ia ib h1 h2
          cases h
          obtain ⟨rfl, g1, g2, _⟩ := G.fn hf
          have e1 : evSrc c (.range ia ib) = fun δ S => (evE c ia δ S).bind fun x S1 => (evE c ib δ S1).bind fun y S2 => match x, y with
            | .int i, .int j => if rangeOk i j = true then .ok ⟨rangeD i j, []⟩ S2 else .bad
            | _, _ => .bad := by funext δ S; simp only [evSrc] <;> rfl
          rw [e1]
          have hp := list_ok' (c := c) (es := [a, b]) (irs := [ia, ib]) ih (by unfold mapO mapO; rw [h1, h2]; rfl) (by simp [hs])
          refine pid_range2 (fs := evEs c [ia, ib]) g1 g2 hp (by rw [star_cons hs.1, star_cons hs.2]; rfl) (star_cons hs.2) (fun δ S ds S1 hd => ?_) (fun δ S x S2 y S1 hx hy => ?_)
          · simp only [evEs] at hd
            obtain ⟨x, S2, q1, hd⟩ := R.bind_some hd
            obtain ⟨ys, S3, q2, hd⟩ := R.bind_some hd
            obtain ⟨y, S4, q3, q2⟩ := R.bind_some q2
            simp only [R.bind_ok] at q2
            cases q2
            cases hd
            exact ⟨x, S2, y, q1, q3, rfl⟩
          · simp only [evEs, hx, hy, R.bind_ok]
        · cases h
      · obtain ⟨ia, h1, rfl⟩ := Option.map_eq_some_iff.mp h
        exact val h1
    · cases h
  · rename_i x p m apos cpos
    split at h
    · rename_i hf
      obtain ⟨rfl, hf2, hf3⟩ := hf
      obtain ⟨i, h1, rfl⟩ := Option.map_eq_some_iff.mp h
      obtain ⟨elts, kk, tp, rfl⟩ := isTup_is hf2
      have e1 : evSrc c (.items i) = fun δ S => getD δ i (fun d => itemsOf d S) S := by funext δ S; simp only [evSrc] <;> rfl
      rw [e1]
      exact pid_items (G.var h1) (base_of rfl) hf3
    · cases h
  · rename_i x p
    split at h
    · rename_i i h1
      cases h
      have e1 : evSrc c (.keys i) = fun δ S => getD δ i (fun d => keysOf d S) S := by funext δ S; simp only [evSrc] <;> rfl
      rw [e1]
      exact pid_keys (G.var h1)
    · obtain ⟨ia, h1, rfl⟩ := Option.map_eq_some_iff.mp h
      exact val h1
  · split at h
    · obtain ⟨ia, h1, rfl⟩ := Option.map_eq_some_iff.mp h
      exact val h1
    · cases h
end
end Ev
set_option Elab.async false
set_option linter.all false
set_option maxRecDepth 100000
set_option maxHeartbeats 4000000
/-! Ev, part R: the translation of expressions is right: the whole. -/
namespace Ev
open PySem PySem.Spec PyProof.Rows L2
section
variable {T : Tab} {c : Ctx} {k : Nat} {N : List Str} {sc : Scope} {own : Str → Bool} {X : Cx}
theorem evEs_len : ∀ {es : List E} {δ : Env} {S S' : Store} {ds : List D}, evEs c es δ S = .ok ds S' → ds.length = es.length
  | [], δ, S, S', ds, h => by simp only [evEs] at h; cases h; rfl
  | e :: es, δ, S, S', ds, h => by
    simp only [evEs] at h
    obtain ⟨d, S1, h1, h⟩ := R.bind_some h
    obtain ⟨ds', S2, h2, h⟩ := R.bind_some h
    cases h
    rw [List.length_cons, List.length_cons, evEs_len h2]
theorem mapO_len {α β : Type} {f : α → Option β} : ∀ {l : List α} {m : List β}, mapO f l = some m → m.length = l.length
  | [], m, h => by cases h; rfl
  | a :: r, m, h => by
    obtain ⟨b, bs, h1, h2, rfl⟩ := mapO_cons h
    rw [List.length_cons, List.length_cons, mapO_len h2]
theorem GCx.blk (G : GCx T c k N sc own X) {scope : Scope} (hk : scope.kind = .function) (s : Shared) (H : Hp) (C : Addr) (cl : List (Str × Addr)) (fp : List Addr) :
    GCx T c k N (relS scope sc) (fun x => scope.names.lookup x == some .cell) (X.blk s H scope (compEnvC scope cl C X.env) fp) where
  room := G.room
  calm := G.calm
  nd := G.nd
  nE := G.nE
  scE := by
    rw [← G.scE]
    rfl
  kn := hk
  own := fun x h => h
  free := G.free
  con := G.con
  call := G.call
/-- a built-in's call -/
theorem prim_ok (G : GCx T c k N sc own X) {x : Str} {p : Pr} {e : Expr} {es : List Expr} {q pos : Pos} {irs : List E} (hp : prOf x = some p) (hg : globB sc x = true) (hf : T.free x = true) (ha : PA X (e :: es) (TDs X (evEs c irs))) (hs : (e :: es).all notStar = true) :
    PE X (.Call (.Name x q) (e :: es) [] pos) (TD X fun δ S => (evEs c irs δ S).bind (primD p)) := by
  have g1 := G.gl hg
  have g2 := G.free _ hf
  rw [List.all_cons, Bool.and_eq_true] at hs
  have g3 := star_cons (es := es) (env := X.env) hs.1
  have g4 := star_any (env := X.env) (pos := pos) hs.2
  have r0 := G.room0
  unfold prOf at hp
  repeat' split at hp
  all_goals first
    | (cases hp; done)
    | (cases hp; subst_vars; first
      | exact pd_callR (pe_callB abs_ok g1 g2 (by decide +kernel) ha (by decide) (by decide) g3 g4)
      | exact pd_callR (pe_callB (all_ok G.calm) g1 g2 (by decide +kernel) ha (by decide) (by decide) g3 g4)
      | exact pd_callR (pe_callB (any_ok G.calm) g1 g2 (by decide +kernel) ha (by decide) (by decide) g3 g4)
      | exact pd_callR (pe_callTy int_ok g1 g2 (by decide +kernel) ha (by decide) (by decide) g3 g4)
      | exact pd_callR (pe_callB isi_ok g1 g2 (by decide +kernel) ha (by decide) (by decide) g3 g4)
      | exact pd_callR (pe_callB (len_ok r0) g1 g2 (by decide +kernel) ha (by decide) (by decide) g3 g4)
      | exact pd_callR (pe_callTy list_ok g1 g2 (by decide +kernel) ha (by decide) (by decide) g3 g4)
      | exact pd_callR (pe_callTy tuple_ok g1 g2 (by decide +kernel) ha (by decide) (by decide) g3 g4)
      | exact pd_callR (pe_callB (max_ok G.calm r0) g1 g2 (by decide +kernel) ha (by decide) (by decide) g3 g4)
      | exact pd_callR (pe_callB (min_ok G.calm r0) g1 g2 (by decide +kernel) ha (by decide) (by decide) g3 g4)
      | exact pd_callR (pe_callB (sorted_ok G.calm) g1 g2 (by decide +kernel) ha (by decide) (by decide) g3 g4))
/-- a def's call -/
theorem call_ok (G : GCx T c k N sc own X) {x : Str} {n : Nat} {es : List Expr} {q pos : Pos} {irs : List E} (hx : T.fns x = some n) (hg : globB sc x = true) (ha : PA X es (TDs X (evEs c irs))) (hs : es.all notStar = true) (hn : irs.length = n) (hle : irs.length = es.length) :
    PE X (.Call (.Name x q) es [] pos) (TD X fun δ S => (evEs c irs δ S).bind (c.call x)) := by
  obtain ⟨a, fd, ps, hl, hm, hk, hb, F⟩ := G.call x n hx
  have g1 := G.gl hg
  have hd := (okName_is (globB_is hg).2).1
  have red : ∀ {σ : L2.St} {H : Hp} {Q : VK}, TD X (fun δ S => (evEs c irs δ S).bind (c.call x)) σ H Q → (TDs X (evEs c irs)) σ H fun vs H1 => spEv X.prog X.w X.K n (c.call x) (vs ++ []) H1 Q (fun _ _ _ => False) := fun {σ H Q} ⟨μ, δ, S, d, S', so, eo, hf, kk⟩ => by
    dsimp only at hf
    obtain ⟨ds, S1, h1, hf⟩ := R.bind_some hf
    exact ⟨μ, δ, S, ds, S1, so, eo, h1, fun vs H1 μ1 e1 g1 so1 r1 => ⟨μ1, S1, ds, d, S', so1, by rw [List.append_nil]; exact r1, by rw [evEs_len h1, hn], hf, kk.trans e1 g1⟩⟩
  cases es with
  | nil =>
    refine (pe_call0 (E := fun _ _ _ => False) F G.room g1 hm hk hb .nil (fun _ _ _ _ _ _ _ h => h.elim) hd).of fun σ H Q q => ?_
    have := red q
    cases irs with
    | nil =>
      obtain ⟨μ, δ, S, ds, S1, so, eo, h1, kk⟩ := this
      simp only [evEs] at h1
      cases h1
      exact kk [] H μ Ext.refl Grow.refl so .nil
    | cons b bs =>
      cases hle
  | cons e es =>
    rw [List.all_cons, Bool.and_eq_true] at hs
    exact (pe_call (E := fun _ _ _ => False) F G.room g1 hm hk hb .nil (fun _ _ _ _ _ _ _ h => h.elim) ha hd (star_cons hs.1) (star_any hs.2)).of fun σ H Q q => red q
end
end Ev
set_option Elab.async false
set_option linter.all false
set_option maxRecDepth 100000
set_option maxHeartbeats 4000000
/-! Ev, part S: the translation of expressions is right: the induction. -/
namespace Ev
open PySem PySem.Spec PyProof.Rows L2
section
variable {T : Tab} {c : Ctx} {k : Nat} {N : List Str}
structure OkE (T : Tab) (c : Ctx) (k : Nat) (N : List Str) (n : Nat) : Prop where
  e : ∀ {X : Cx} {sc : Scope} {own : Str → Bool} {e : Expr} {ir : E}, GCx T c k N sc own X → cE T N n sc own e = some ir → PE X e (TD X (evE c ir))
  t : ∀ {X : Cx} {sc : Scope} {own : Str → Bool} {e : Expr} {ir : E}, GCx T c k N sc own X → cE T N n sc own e = some ir → tOk n e = true → PT X e (TB X (tvD (evE c ir)))
  w : ∀ {X : Cx} {sc : Scope} {own : Str → Bool} {op : BoolOp} {vs : List Expr} {pos : Pos} {ir : E}, GCx T c k N sc own X → cE T N n sc own (.BoolOp op vs pos) = some ir → tOk n (.BoolOp op vs pos) = true → PW X (.BoolOp op vs pos) (TB X (tvD (evE c ir)))
theorem const_ok {X : Cx} {cst : Const} {d : D} {j : Nat} {pos : Pos} (h : cConst cst = some d) : PE X (.Constant cst j pos) (TD X (evE c (.lit d))) := by
  have e : evE c (.lit d) = fun _ S => R.ok d S := by funext δ S; simp only [evE]
  rw [e]
  cases cst <;> simp only [cConst, reduceCtorEq, Option.some.injEq] at h <;> subst h
  · exact pd_c pe_non fun _ _ => .non
  · exact pd_c pe_bl fun _ _ => .bl _
  · exact pd_c pe_int fun _ _ => .int _
  · exact pd_c pe_str fun _ _ => .str _
theorem call1_ok {sc : Scope} {own : Str → Bool} {X : Cx} (G : GCx T c k N sc own X) {rec : Expr → Option E} {x : Str} {args : List Expr} {q pos : Pos} {ir : E} (ih : ∀ e ir, rec e = some ir → PE X e (TD X (evE c ir))) (h : cCall.cCall1 T sc rec x args = some ir) : PE X (.Call (.Name x q) args [] pos) (TD X (evE c ir)) := by
  unfold cCall.cCall1 at h
  split at h
  · rename_i h1
    split at h
    · rename_i es h2
      have hp := list_ok' (c := c) ih h2 h1.2
      split at h
      · rename_i n h3
        split at h
        · rename_i h4
          cases h
          have e : evE c (.call x es) = fun δ S => (evEs c es δ S).bind (c.call x) := by funext δ S; simp only [evE]
          rw [e]
          exact call_ok G h3 h1.1 hp h1.2 (by rw [mapO_len h2, h4]) (mapO_len h2)
        · cases h
      · split at h
        · rename_i h4
          obtain ⟨p, h5, rfl⟩ := Option.map_eq_some_iff.mp h
          have e : evE c (.prim p es) = fun δ S => (evEs c es δ S).bind (primD p) := by funext δ S; simp only [evE]
          rw [e]
          cases args with
          | nil => exact absurd rfl h4.2
          | cons a as => exact prim_ok G h5 h1.1 h4.1 hp h1.2
        · cases h
    · cases h
  · cases h
theorem ev_prim1 {p : Pr} {a : E} : evE c (.prim p [a]) = fun δ S => (evE c a δ S).bind fun d S1 => primD p [d] S1 := by
  funext δ S
  simp only [evE, evEs]
  cases evE c a δ S <;> rfl
theorem cCall_ok {sc : Scope} {own : Str → Bool} {X : Cx} (G : GCx T c k N sc own X) {rec : Expr → Option E} {x : Str} {args : List Expr} {q pos : Pos} {ir : E} (ih : ∀ e ir, rec e = some ir → PE X e (TD X (evE c ir))) (h : cCall T sc rec x args = some ir) : PE X (.Call (.Name x q) args [] pos) (TD X (evE c ir)) := by
  unfold cCall at h
  split at h
  · rename_i y p2 a q2
    split at h
    · rename_i h1
      obtain ⟨ia, h2, rfl⟩ := Option.map_eq_some_iff.mp h
      obtain ⟨rfl, g1, g2, _⟩ := G.fn h1.1
      obtain ⟨rfl, g3, g4, _⟩ := G.fn h1.2.1
      rw [ev_prim1]
      exact pd_then (pe_lenSet G.calm g1 g2 g3 g4 (ih _ _ h2) (star_cons h1.2.2))
    · split at h
      · rename_i h1
        obtain ⟨ia, h2, rfl⟩ := Option.map_eq_some_iff.mp h
        obtain ⟨rfl, g1, g2, _⟩ := G.fn h1.1
        obtain ⟨rfl, g3, g4, _⟩ := G.fn h1.2.1
        rw [ev_prim1]
        exact pd_then (pe_sortedSet G.calm g1 g2 g3 g4 (ih _ _ h2) (star_cons h1.2.2))
      · split at h
        · rename_i h1
          obtain ⟨ia, h2, rfl⟩ := Option.map_eq_some_iff.mp h
          obtain ⟨rfl, g1, g2, _⟩ := G.fn h1.1
          obtain ⟨rfl, g3, g4, _⟩ := G.fn h1.2.1
          have e : evE c (.prim .listRange [.lit (.int 0), ia]) = fun δ S => (evE c ia δ S).bind fun d S1 => primD .listRange [.int 0, d] S1 := by
            funext δ S
            simp only [evE, evEs, R.bind_ok]
            cases evE c ia δ S <;> rfl
          rw [e]
          refine (pe_listRg G.calm g1 g2 (prg_1 g3 g4 (ih _ _ h2) (star_cons h1.2.2)) rfl).of fun σ H Q ⟨μ, δ, S, d, S', so, eo, hf, kk⟩ => ?_
          dsimp only at hf
          obtain ⟨d1, S1, q1, hf⟩ := R.bind_some hf
          replace hf : pListRange [.int 0, d1] S1 = .ok d S' := hf
          unfold pListRange at hf
          split at hf
          · rename_i lo hi e9
            cases e9
            split at hf
            · rename_i hok
              cases hf
              refine ⟨μ, δ, S, .int hi, _, so, eo, q1, fun v H1 μ1 e1 g1 so1 r1 => ?_⟩
              cases r1
              exact ⟨hi, rfl, rg_ok hok, fun p hp => (kk.trans e1 g1).newLst so1 (rgV_rel _ _) hp⟩
            · cases hf
          · cases hf
        · exact call1_ok G ih h
  · exact call1_ok G ih h
theorem comp_parts {n : Nat} {sc : Scope} {own : Str → Bool} {rec : Rec} {tg iter : Expr} {scope : Scope} {src : Src} {t : Tg} {vs : List Nat} (h : cComp T N rec sc own tg iter scope = some (src, t, vs)) :
    BlkOk N sc scope (ownOf N scope) ∧ notSet iter = true ∧ cSrc T N (rec sc own) sc tg iter = some src ∧ cTg N (relS scope sc) (fun x => scope.names.lookup x == some .cell) tg = some t ∧ vs = (ownOf N scope).map (·.2) ∧ ∀ i ∈ t.slots, i ∈ vs := by
  unfold cComp at h
  split at h
  · rename_i h1
    split at h
    · rename_i s2 t2 h2 h3
      split at h
      · rename_i h4
        cases h
        refine ⟨blkOk_by h1.1, h1.2, h2, h3, rfl, fun i hi => ?_⟩
        rw [List.all_eq_true] at h4
        have := h4 i hi
        simpa using this
      · cases h
    · cases h
  · cases h
theorem bind_lock {l : Lk} {x : R It} {f : It → Store → R Unit} {g : It → Store → D} : (x.bind fun it S1 => (f it S1).bind fun _ S2 => R.ok (g it S1) (unlk l S2)) = (x.bind fun it S1 => (f it S1).bind fun _ S2 => R.ok (g it S1) S2).bind fun o S2 => .ok o (unlk l S2) := by
  cases x with
  | bad => rfl
  | ok it S1 =>
    simp only [R.bind_ok]
    cases f it S1 <;> rfl
theorem okE_zero : OkE T c k N 0 := ⟨fun _ h => (nomatch h), fun _ h => (nomatch h), fun _ h => (nomatch h)⟩
theorem okE_e {n : Nat} (ih : OkE T c k N n) {X : Cx} {sc : Scope} {own : Str → Bool} {e : Expr} {ir : E} (G : GCx T c k N sc own X) (h : cE1 T N n (cE T N n) sc own e = some ir) : PE X e (TD X (evE c ir)) := by
  have r0 := G.room0
  unfold cE1 at h
  split at h
  · obtain ⟨d, h1, rfl⟩ := Option.map_eq_some_iff.mp h
    exact const_ok h1
  · rename_i x p
    split at h
    · rename_i i h1
      cases h
      have e : evE c (.var i) = fun δ S => match δ[i]? with
        | some (some d) => R.ok d S
        | _ => R.bad := by funext δ S; simp only [evE] <;> rfl
      rw [e]
      exact pd_var (G.var h1)
    · split at h
      · rename_i hg
        obtain ⟨_, ok⟩ := globB_is hg
        obtain ⟨a, b, nn⟩ := okName_is ok
        split at h
        · rename_i d h2
          cases h
          obtain ⟨q1, v, u, q2, q3, q4⟩ := G.con x d h2
          have e : evE c (.con x) = fun _ S => R.ok d S := by funext δ S; simp only [evE, q1, R.of_some]
          rw [e]
          exact pd_c (pe_glob (G.gl hg) q2 q3 a) q4
        · split at h
          · rename_i hf
            obtain ⟨ty, h3, rfl⟩ := Option.map_eq_some_iff.mp h
            have e : evE c (.lit (.ty ty)) = fun _ S => R.ok (D.ty ty) S := by funext δ S; simp only [evE]
            rw [e]
            exact pd_c (pe_bltn (v := .ty ty) (G.gl hg) (G.free _ hf) (tyName_is h3) rfl nn a) fun _ _ => .ty _
          · cases h
      · cases h
  · rename_i op a p
    exact pe_one (ih.e G h)
  · rename_i op a b r p
    split at h
    · rename_i x y h1 h2
      cases op with
      | And =>
        cases h
        have e : evE c (.and x y) = fun δ S => (evE c x δ S).bind fun d S1 => match tru S1 d with
          | some true => evE c y δ S1
          | some false => .ok d S1
          | none => .bad := by funext δ S; simp only [evE] <;> rfl
        rw [e]
        exact pd_and (ih.e G h1) (ih.e G h2)
      | Or =>
        cases h
        have e : evE c (.or x y) = fun δ S => (evE c x δ S).bind fun d S1 => match tru S1 d with
          | some true => .ok d S1
          | some false => evE c y δ S1
          | none => .bad := by funext δ S; simp only [evE] <;> rfl
        rw [e]
        exact pd_or (ih.e G h1) (ih.e G h2)
    · cases h
  · rename_i a p
    obtain ⟨x, h1, rfl⟩ := Option.map_eq_some_iff.mp h
    have e : evE c (.not x) = fun δ S => (evE c x δ S).bind fun d S1 => match tru S1 d with
      | some k => R.ok (D.bl (!k)) S1
      | none => R.bad := by funext δ S; simp only [evE] <;> rfl
    rw [e]
    exact pd_not (ih.e G h1)
  · rename_i a p
    obtain ⟨x, h1, rfl⟩ := Option.map_eq_some_iff.mp h
    have e : evE c (.neg x) = fun δ S => (evE c x δ S).bind fun d S1 => R.of (negD d) S1 := by funext δ S; simp only [evE] <;> rfl
    rw [e]
    exact pd_neg (ih.e G h1)
  · rename_i a op b p
    split at h
    · rename_i x y h1 h2
      cases h
      have e : evE c (.bin op x y) = fun δ S => (evE c x δ S).bind fun a S1 => (evE c y δ S1).bind fun b S2 => binD op a b S2 := by funext δ S; simp only [evE] <;> rfl
      rw [e]
      exact pd_op (ih.e G h1) (ih.e G h2)
    · cases h
  · rename_i a op b p
    split at h
    · rename_i hm
      split at h
      · rename_i x y h1 h2
        cases h
        have e : evE c (.cmp op x y) = fun δ S => (evE c x δ S).bind fun a S1 => (evE c y δ S1).bind fun b S2 => match cmpD op a b S2 with
          | some k => R.ok (D.bl k) S2
          | none => R.bad := by funext δ S; simp only [evE] <;> rfl
        rw [e]
        exact pd_cmp r0 hm (ih.e G h1) (ih.e G h2)
      · cases h
    · cases h
  · rename_i a op op' b d p
    split at h
    · rename_i hm
      split at h
      · rename_i x y z h1 h2 h3
        cases h
        have e : evE c (.chain op op' x y z) = fun δ S => (evE c x δ S).bind fun a S1 => (evE c y δ S1).bind fun b S2 => chainD op op' (evE c z) δ a b S2 := by funext δ S; simp only [evE, chainD] <;> rfl
        rw [e]
        exact pd_chain r0 hm (ih.e G h1) (ih.e G h2) (ih.e G h3)
      · cases h
    · cases h
  · rename_i t a b p
    split at h
    · rename_i ht
      split at h
      · rename_i x y z h1 h2 h3
        cases h
        have e : evE c (.ite x y z) = fun δ S => (evE c x δ S).bind fun d S1 => match tru S1 d with
          | some true => evE c y δ S1
          | some false => evE c z δ S1
          | none => .bad := by funext δ S; simp only [evE] <;> rfl
        rw [e]
        exact pd_ite (ih.t G h1 ht) (ih.e G h2) (ih.e G h3)
      · cases h
    · cases h
  · rename_i es j p
    split at h
    · rename_i hs
      obtain ⟨irs, h1, rfl⟩ := Option.map_eq_some_iff.mp h
      have e : evE c (.tup irs) = fun δ S => (evEs c irs δ S).bind fun ds S1 => if ds.length ≤ lim then .ok (.tup ds) S1 else .bad := by funext δ S; simp only [evE] <;> rfl
      rw [e]
      exact pd_tup (list_ok' (fun e ir h => ih.e G h) h1 hs)
    · cases h
  · rename_i es p
    split at h
    · rename_i hs
      obtain ⟨irs, h1, rfl⟩ := Option.map_eq_some_iff.mp h
      have e : evE c (.lst irs) = fun δ S => (evEs c irs δ S).bind fun ds S1 => if ds.length ≤ lim then .ok (.ref S1.length) (S1 ++ [.lst ds]) else .bad := by funext δ S; simp only [evE] <;> rfl
      rw [e]
      exact pd_lst (list_ok' (fun e ir h => ih.e G h) h1 hs)
    · cases h
  · cases h
    have e : evE c .dic = fun _ S => R.ok (.ref S.length) (S ++ [.dic [] false]) := by funext δ S; simp only [evE] <;> rfl
    rw [e]
    exact pd_dic
  · obtain ⟨x, h1, rfl⟩ := Option.map_eq_some_iff.mp h
    have e : evE c (.rev x) = fun δ S => (evE c x δ S).bind fun d S1 => revD d S1 := by funext δ S; simp only [evE] <;> rfl
    rw [e]
    exact pd_then (pe_rev (ih.e G h1))
  · rename_i a lo hi p2 p _
    split at h
    · rename_i x l hh h1 h2 h3
      cases h
      have e : evE c (.sl x l hh) = fun δ S => (evE c x δ S).bind fun x S1 => (evO c l δ S1).bind fun l S2 => (evO c hh δ S2).bind fun h S3 => slD x l h S3 := by funext δ S; simp only [evE] <;> rfl
      rw [e]
      exact pd_sl (ih.e G h1) (opt_ok (fun e ir h => ih.e G h) h2) (opt_ok (fun e ir h => ih.e G h) h3)
    · cases h
  · rename_i a b p _ _
    split at h
    · rename_i hs
      split at h
      · rename_i x y h1 h2
        cases h
        have e : evE c (.ix x y) = fun δ S => (evE c x δ S).bind fun a S1 => (evE c y δ S1).bind fun b S2 => ixD a b S2 := by funext δ S; simp only [evE] <;> rfl
        rw [e]
        exact pd_ix r0 (plain_ix hs) (ih.e G h1) (ih.e G h2)
      · cases h
    · cases h
  · exact cCall_ok G (fun e ir h => ih.e G h) h
  · rename_i o m apos args cpos
    split at h
    · rename_i m2 x es h1 h2 h3
      split at h
      · rename_i h4
        obtain ⟨ha, hs, hl, hb, hp⟩ := h4
        cases h
        have em := mtOf_is h1
        subst em
        have e : evE c (.meth m2 x es) = fun δ S => (evE c x δ S).bind fun x S1 => if recvOk m2 x S1 = true then (evEs c es δ S1).bind fun ds S2 => methD m2 x ds S2 else .bad := by funext δ S; simp only [evE] <;> rfl
        rw [e]
        cases args with
        | nil => exact absurd rfl ha
        | cons a as =>
          have hp2 := list_ok' (c := c) (fun e ir h => ih.e G h) h3 hs
          have hs2 := hs
          rw [List.all_cons, Bool.and_eq_true] at hs2
          refine pe_methD r0 (ih.e G h2) hp2 (base_of hb) ?_ hp (star_cons hs2.1) (star_any hs2.2)
          rw [star_all hs]
          have hl2 : decide ((a :: as).length + ([] : List Keyword).length + (if ([] : List Keyword).isEmpty then 0 else 1) < 30) = true := by
            rw [decide_eq_true_eq]
            simpa using hl
          rw [hl2]
          rfl
      · cases h
    · cases h
  · rename_i elt tg iter ifs scope p
    split at h
    · rename_i src t vs hc
      obtain ⟨b1, b2, b3, b4, b5, b6⟩ := comp_parts (n := n) hc
      have pi := src_ok G (tg := tg) (fun e ir h => ih.e G h) b3
      have hB : BlkOk X.N X.env.scope scope (ownOf N scope) := by rw [G.nE, G.scE]; exact b1
      have core : ∀ {cond : Option E} {y : E}, cE T N n (relS scope sc) (fun x => scope.names.lookup x == some .cell) elt = some y →
          (∀ (s : Shared) (H : Hp) (C : Addr) (cl : List (Str × Addr)) (fp : List Addr), PTs (X.blk s H scope (compEnvC scope cl C X.env) fp) ifs (ttD X.prog X.w X.K (cond.map (evE c)))) →
          PE X (.ListComp elt [⟨tg, iter, ifs, 0⟩] scope p) (TD X (evE c (.lc vs t src cond y))) := fun {cond y} h1 hts => by
        have e : evE c (.lc vs t src cond y) = fun δ S => ((fun δ S => (evSrc c src δ S).bind fun it S1 => (lcLoop S1.length it.chk (stepC t vs δ (cond.map (evE c)) (evE c y)) it.items [] (S1 ++ [.lst []])).bind fun _ S2 => R.ok (D.ref S1.length) S2) δ (lk (lockOf src δ S) S)).bind fun o S2 => .ok o (unlk (lockOf src δ S) S2) := by
          funext δ S
          simp only [evE]
          rw [bind_lock]
          cases cond <;> rfl
        rw [e]
        refine pd_lock (l := lockOf src) (f := fun δ S => (evSrc c src δ S).bind fun it S1 => (lcLoop S1.length it.chk (stepC t vs δ (cond.map (evE c)) (evE c y)) it.items [] (S1 ++ [.lst []])).bind fun _ S2 => R.ok (D.ref S1.length) S2) (fun δ S n kvs => lockOf_free) ?_
        refine (pe_lc (g := GD X t) (tt := ttD X.prog X.w X.K (cond.map (evE c))) (te := TD X (evE c y)) G.calm G.nd pi hB (fun s H C cl fp => tg_ok (G.blk b1.kind s H C cl fp) b4) hts (fun s H C cl fp => ih.e (G.blk b1.kind s H C cl fp) h1) (not_set b2)).of fun σ H Q q => ?_
        have := lc_red (X := X) (by rw [← b5]; exact b6) (vs := (ownOf N scope).map (·.2)) (t := t) (fs := evSrc c src) (fc := cond.map (evE c)) (fe := evE c y) (by rw [← b5]; exact q)
        exact this
      split at h
      · obtain ⟨y, h1, rfl⟩ := Option.map_eq_some_iff.mp h
        exact core h1 fun s H C cl fp => pts_nil
      · split at h
        · rename_i cnd ht
          split at h
          · rename_i z y h1 h2
            cases h
            exact core h2 fun s H C cl fp => pts_one (ih.t (G.blk b1.kind s H C cl fp) h1 ht)
          · cases h
        · cases h
      · cases h
    · cases h
  · rename_i kx vx tg iter scope p
    split at h
    · rename_i src t vs hc
      obtain ⟨b1, b2, b3, b4, b5, b6⟩ := comp_parts (n := n) hc
      have pi := src_ok G (tg := tg) (fun e ir h => ih.e G h) b3
      have hB : BlkOk X.N X.env.scope scope (ownOf N scope) := by rw [G.nE, G.scE]; exact b1
      split at h
      · rename_i z y h1 h2
        cases h
        have e : evE c (.dc vs t src z y) = fun δ S => ((fun δ S => (evSrc c src δ S).bind fun it S1 => (dcLoop S1.length it.chk (stepDC t vs δ (evE c z) (evE c y)) it.items [] (S1 ++ [.dic [] false])).bind fun _ S2 => R.ok (D.ref S1.length) S2) δ (lk (lockOf src δ S) S)).bind fun o S2 => .ok o (unlk (lockOf src δ S) S2) := by
          funext δ S
          simp only [evE]
          rw [bind_lock]
          rfl
        rw [e]
        refine pd_lock (l := lockOf src) (f := fun δ S => (evSrc c src δ S).bind fun it S1 => (dcLoop S1.length it.chk (stepDC t vs δ (evE c z) (evE c y)) it.items [] (S1 ++ [.dic [] false])).bind fun _ S2 => R.ok (D.ref S1.length) S2) (fun δ S n kvs => lockOf_free) ?_
        refine (pe_dct (g := GD X t) (tk := TD X (evE c z)) (tv := TD X (evE c y)) r0 G.calm G.nd pi hB (fun s H C cl fp => tg_ok (G.blk b1.kind s H C cl fp) b4) (fun s H C cl fp => ih.e (G.blk b1.kind s H C cl fp) h1) (fun s H C cl fp => ih.e (G.blk b1.kind s H C cl fp) h2) (not_set b2)).of fun σ H Q q => ?_
        exact dc_red (X := X) (by rw [← b5]; exact b6) (vs := (ownOf N scope).map (·.2)) (t := t) (fs := evSrc c src) (by rw [← b5]; exact q)
      · cases h
    · cases h
  · cases h
end
end Ev
set_option Elab.async false
set_option linter.all false
set_option maxRecDepth 100000
set_option maxHeartbeats 4000000
/-! Ev, part T: tests, statements. -/
namespace Ev
open PySem PySem.Spec PyProof.Rows L2
section
variable {T : Tab} {c : Ctx} {k : Nat} {N : List Str}
theorem okE_w {n : Nat} (ih : OkE T c k N n) {X : Cx} {sc : Scope} {own : Str → Bool} {op : BoolOp} {vs : List Expr} {pos : Pos} {ir : E} (G : GCx T c k N sc own X) (h : cE1 T N n (cE T N n) sc own (.BoolOp op vs pos) = some ir) (ht : tOk (n + 1) (.BoolOp op vs pos) = true) :
    PW X (.BoolOp op vs pos) (TB X (tvD (evE c ir))) := by
  match vs, h, ht with
  | [], h, ht => cases ht
  | [a], h, ht =>
    have h : cE T N n sc own a = some ir := h
    have ht : tOk n a = true := ht
    cases op with
    | And => exact pw_and1 (ih.t G h ht)
    | Or => exact pw_or1 (ih.t G h ht)
  | a :: b :: r, h, ht =>
    have ht : (tOk n a && tOk n (.BoolOp op (b :: r) pos)) = true := ht
    rw [Bool.and_eq_true] at ht
    simp only [cE1] at h
    split at h
    · rename_i x y h1 h2
      cases op with
      | And =>
        cases h
        have e : evE c (.and x y) = fun δ S => (evE c x δ S).bind fun d S1 => match tru S1 d with
          | some true => evE c y δ S1
          | some false => .ok d S1
          | none => .bad := by funext δ S; simp only [evE] <;> rfl
        rw [e]
        exact pw_andD (ih.t G h1 ht.1) (ih.w G h2 ht.2)
      | Or =>
        cases h
        have e : evE c (.or x y) = fun δ S => (evE c x δ S).bind fun d S1 => match tru S1 d with
          | some true => .ok d S1
          | some false => evE c y δ S1
          | none => .bad := by funext δ S; simp only [evE] <;> rfl
        rw [e]
        exact pw_orD (ih.t G h1 ht.1) (ih.w G h2 ht.2)
    · cases h
theorem okE_t {n : Nat} (ih : OkE T c k N n) {X : Cx} {sc : Scope} {own : Str → Bool} {e : Expr} {ir : E} (G : GCx T c k N sc own X) (h : cE1 T N n (cE T N n) sc own e = some ir) (ht : tOk (n + 1) e = true) : PT X e (TB X (tvD (evE c ir))) := by
  have r0 := G.room0
  by_cases hp : plainTest e = true
  · exact pt_truD (okE_e ih G h) (plain_test hp)
  · cases e with
    | UnaryOp op a p =>
      cases op <;> first | (exact absurd rfl hp) | skip
      have ht : tOk n a = true := ht
      obtain ⟨x, h1, rfl⟩ := Option.map_eq_some_iff.mp (show (cE T N n sc own a).map E.not = some ir from h)
      have e : evE c (.not x) = fun δ S => (evE c x δ S).bind fun d S1 => match tru S1 d with
        | some k => R.ok (D.bl (!k)) S1
        | none => R.bad := by funext δ S; simp only [evE] <;> rfl
      rw [e]
      exact pt_notD (ih.t G h1 ht)
    | BoolOp op vs p => exact (okE_w ih G h ht).pt
    | IfExp t a b p => cases ht
    | Compare a ops bs p =>
      match ops, bs, h with
      | [op], [b], h =>
        replace h : (if behindInMarks op b = false then (match cE T N n sc own a, cE T N n sc own b with
          | some x, some y => some (E.cmp op x y)
          | _, _ => none) else none) = some ir := h
        split at h
        · rename_i hm
          split at h
          · rename_i x y h1 h2
            cases h
            have e : evE c (.cmp op x y) = fun δ S => (evE c x δ S).bind fun a S1 => (evE c y δ S1).bind fun b S2 => match cmpD op a b S2 with
              | some k => R.ok (D.bl k) S2
              | none => R.bad := by funext δ S; simp only [evE] <;> rfl
            rw [e]
            exact pt_cmpD r0 hm (ih.e G h1) (ih.e G h2)
          · cases h
        · cases h
      | [op, op2], [b, d], h =>
        replace h : (if lastMarks [op, op2] [b, d] = false then (match cE T N n sc own a, cE T N n sc own b, cE T N n sc own d with
          | some x, some y, some z => some (E.chain op op2 x y z)
          | _, _, _ => none) else none) = some ir := h
        split at h
        · rename_i hm
          split at h
          · rename_i x y z h1 h2 h3
            cases h
            have e : evE c (.chain op op2 x y z) = fun δ S => (evE c x δ S).bind fun a S1 => (evE c y δ S1).bind fun b S2 => chainD op op2 (evE c z) δ a b S2 := by funext δ S; simp only [evE, chainD] <;> rfl
            rw [e]
            exact pt_chainD r0 hm (ih.e G h1) (ih.e G h2) (ih.e G h3)
          · cases h
        · cases h
      | [], bs, h => cases bs <;> cases h
      | [op], [], h => cases h
      | [op], _ :: _ :: _, h => cases h
      | [op, op2], [], h => cases h
      | [op, op2], [_], h => cases h
      | [op, op2], _ :: _ :: _ :: _, h => cases h
      | _ :: _ :: _ :: _, bs, h => cases bs <;> cases h
    | _ => exact absurd rfl hp
theorem okE : ∀ n, OkE T c k N n
  | 0 => okE_zero
  | n + 1 => ⟨fun G h => okE_e (okE n) G h, fun G h ht => okE_t (okE n) G h ht, fun G h ht => okE_w (okE n) G h ht⟩
end
end Ev
set_option Elab.async false
set_option linter.all false
set_option maxRecDepth 100000
set_option maxHeartbeats 4000000
/-! Ev, part U: the translation of statements. -/
namespace Ev
open PySem PySem.Spec PyProof.Rows L2
/-! ### a, b = x, y -/
inductive Sw where
  | no | yes (ns : List Str) | bad
def swNames (sc : Scope) (ts : List Expr) : List Str := ts.filterMap fun
  | .Name id pos => if sc.names.lookup id == some .local && pos.line == (ts.head?.map (·.pos.line)).getD 0 then some id else none
  | _ => none
def swB (sc : Scope) (ts vs : List Expr) : Sw :=
  if (!(ts.length == 2 || ts.length == 3) || vs.length != ts.length) = true then .no
  else if (vs.any fun | .Starred .. => true | _ => false) = true then .no
  else if ((swNames sc ts).length != ts.length || (swNames sc ts).eraseDups.length != (swNames sc ts).length) = true then .no
  else if vs.all (foldedForSure 8) = true then .no
  else if vs.all (constantsAlone 8) = true then .bad
  else .yes (swNames sc ts)
theorem sw_eq {env : PySem.Env} {ts vs : List Expr} {a b : Nat} {p q : Pos} : swappedStores [.Tuple ts a p] (.Tuple vs b q) env =
    (if (!(ts.length == 2 || ts.length == 3) || vs.length != ts.length || env.blockKind != .function) = true then pure none
    else if (vs.any fun | .Starred .. => true | _ => false) = true then pure none
    else if ((swNames env.scope ts).length != ts.length || (swNames env.scope ts).eraseDups.length != (swNames env.scope ts).length) = true then pure none
    else if vs.all (foldedForSure 8) = true then pure none
    else if vs.all (constantsAlone 8) = true then (do
      unsupported "assign.tuple-of-constant-expressions:order-of-the-stores"
      pure (some (swNames env.scope ts)))
    else pure (some (swNames env.scope ts))) := by
  unfold swappedStores
  dsimp only
  rfl
theorem sw_tup {env : PySem.Env} (hk : env.scope.kind = .function) {ts vs : List Expr} {a b : Nat} {p q : Pos} :
    (swB env.scope ts vs = .no → swappedStores [.Tuple ts a p] (.Tuple vs b q) env = pure none) ∧ ∀ ns, swB env.scope ts vs = .yes ns → swappedStores [.Tuple ts a p] (.Tuple vs b q) env = pure (some ns) := by
  have hb : (env.blockKind != .function) = false := by
    unfold Env.blockKind
    rw [hk]
    rfl
  rw [sw_eq, hb, Bool.or_false]
  unfold swB
  constructor
  · intro h
    split at h
    · rename_i h1; rw [if_pos h1]
    · rename_i h1
      rw [if_neg h1]
      split at h
      · rename_i h1; rw [if_pos h1]
      · rename_i h1
        rw [if_neg h1]
        split at h
        · rename_i h1; rw [if_pos h1]
        · rename_i h1
          rw [if_neg h1]
          split at h
          · rename_i h1; rw [if_pos h1]
          · split at h <;> cases h
  · intro ns h
    split at h
    · cases h
    · rename_i h1
      rw [if_neg h1]
      split at h
      · cases h
      · rename_i h1
        rw [if_neg h1]
        split at h
        · cases h
        · rename_i h1
          rw [if_neg h1]
          split at h
          · cases h
          · rename_i h1
            rw [if_neg h1]
            split at h
            · cases h
            · rename_i h1
              rw [if_neg h1]
              cases h
              rfl
def notTuple : Expr → Bool
  | .Tuple _ _ _ => false
  | _ => true
theorem sw_none {tg e : Expr} {env : PySem.Env} (h : notTuple tg = true ∧ (match tg with | .List _ _ => false | _ => true) = true ∨ notTuple e = true) : swappedStores [tg] e env = pure none := by
  rcases h with ⟨h, h'⟩ | h
  · cases tg <;> cases e <;> first | rfl | (cases h; done) | (cases h'; done)
  · cases tg <;> cases e <;> first | rfl | (cases h; done)
/-! ### x = [.. for ..] -/
def swcB (sc : Scope) (x : Str) (p p2 : Pos) (scope : Scope) : Bool := sc.names.lookup x == some .local && p.line == p2.line && !(scope.names.any fun (n, k) => n == x && (k == .local || k == .cell))
theorem swc_eq {env : PySem.Env} (hk : env.scope.kind = .function) {x : Str} {p p2 : Pos} {elt : Expr} {gens : List Comprehension} {scope : Scope} {l : Nat} : swapsWith (.ListComp elt gens scope p2) (some (.Name x p)) l env = pure (swcB env.scope x p p2 scope) := by
  have hb : (env.blockKind == .function) = true := by
    unfold Env.blockKind
    rw [hk]
    rfl
  unfold swapsWith swcB
  dsimp only
  rw [hb]
  rfl
theorem swd_eq {env : PySem.Env} (hk : env.scope.kind = .function) {x : Str} {p p2 : Pos} {kx vx : Expr} {gens : List Comprehension} {scope : Scope} {l : Nat} : swapsWith (.DictComp kx vx gens scope p2) (some (.Name x p)) l env = pure (swcB env.scope x p p2 scope) := by
  have hb : (env.blockKind == .function) = true := by
    unfold Env.blockKind
    rw [hk]
    rfl
  unfold swapsWith swcB
  dsimp only
  rw [hb]
  rfl

/-! ### the translation -/
def cAsgName (T : Tab) (N : List Str) (n : Nat) (sc : Scope) (own : Str → Bool) (x : Str) (p : Pos) (e : Expr) : Option Sm := match cName N sc own (.Name x p), cE T N n sc own e with
  | some i, some ir => (match e with
    | .ListComp _ _ scope p2 => some (.set i ir)
    | .DictComp _ _ _ scope p2 => if swcB sc x p p2 scope = false then some (.set i ir) else none
    | .SetComp _ _ _ _ => none
    | _ => some (.set i ir))
  | _, _ => none
def cPar (N : List Str) (sc : Scope) (own : Str → Bool) (es : List Expr) (ns : List Str) : Option (List Nat) := match es with
  | [.Name x px, .Name y py] => if ns = [x, y] ∧ sc.names.lookup x = some .local ∧ sc.names.lookup y = some .local then (match slotOf N sc x, slotOf N sc y with
    | some i, some j => if i ≠ j then some [i, j] else none
    | _, _ => none) else none
  | [.Name x px, .Name y py, .Name z pz] => if ns = [x, y, z] ∧ sc.names.lookup x = some .local ∧ sc.names.lookup y = some .local ∧ sc.names.lookup z = some .local then (match slotOf N sc x, slotOf N sc y, slotOf N sc z with
    | some i, some j, some l => if i ≠ j ∧ i ≠ l ∧ j ≠ l then some [i, j, l] else none
    | _, _, _ => none) else none
  | _ => none
def cAsgTup (T : Tab) (N : List Str) (n : Nat) (sc : Scope) (own : Str → Bool) (es : List Expr) (e : Expr) : Option Sm := match e with
  | .Tuple vs _ _ => (match swB sc es vs with
    | .no => (match mapO (cName N sc own) es, cE T N n sc own e with
      | some is, some ir => some (.unpack is ir)
      | _, _ => none)
    | .yes ns => (match cPar N sc own es ns, mapO (cE T N n sc own) vs with
      | some is, some irs => if vs.all notStar = true ∧ vs.length = es.length then some (.par is irs) else none
      | _, _ => none)
    | .bad => none)
  | e => if notComp e = true then (match mapO (cName N sc own) es, cE T N n sc own e with
    | some is, some ir => some (.unpack is ir)
    | _, _ => none) else none
def smsOf : List Sm → Sms
  | [] => .nil
  | s :: r => .cons s (smsOf r)
def cS1 (T : Tab) (N : List Str) (n : Nat) (recs : List Stmt → Option Sms) (sc : Scope) (own : Str → Bool) (st : Stmt) : Option Sm := match st with
  | .Expr (.Constant (.str _) _ _) _ => some .pass
  | .Expr e _ => if notComp e = true then (cE T N n sc own e).map .expr else none
  | .Assign [.Name x p] e _ => cAsgName T N n sc own x p e
  | .Assign [.Tuple es _ _] e _ => cAsgTup T N n sc own es e
  | .Assign [.Subscript o i _] e _ => if notComp e = true then (match cE T N n sc own o, cE T N n sc own i, cE T N n sc own e with
    | some x, some y, some z => some (.setIx x y z)
    | _, _, _ => none) else none
  | .Return (some e) _ => (cE T N n sc own e).map .ret
  | .Return none _ => some .retN
  | .If t a b _ => if tOk n t = true then (match cE T N n sc own t, recs a, recs b with
    | some x, some y, some z => some (.ifs x y z)
    | _, _, _ => none) else none
  | .For tg iter body [] _ => if notSet iter = true then (match cSrc T N (cE T N n sc own) sc tg iter, cTg N sc own tg, recs body with
    | some src, some t, some b => some (.for t src b)
    | _, _, _ => none) else none
  | .While t body [] _ => if tOk n t = true then (match cE T N n sc own t, recs body with
    | some x, some y => some (.while x y)
    | _, _ => none) else none
  | .Break _ => some .brk
  | .Continue _ => some .cont
  | .Pass _ => some .pass
  | .Raise _ _ _ => some .never
  | _ => none
def cSs (T : Tab) (N : List Str) : Nat → Scope → (Str → Bool) → List Stmt → Option Sms
  | 0, _, _, _ => none
  | _ + 1, _, _, [] => some .nil
  | n + 1, sc, own, s :: r => match cS1 T N n (cSs T N n sc own) sc own s, cSs T N n sc own r with
    | some x, some y => some (.cons x y)
    | _, _ => none
end Ev
set_option Elab.async false
set_option linter.all false
set_option maxRecDepth 100000
set_option maxHeartbeats 4000000
/-! Ev, part V: the translation of statements is right. -/
namespace Ev
open PySem PySem.Spec PyProof.Rows L2
section
variable {T : Tab} {c : Ctx} {k : Nat} {N : List Str} {n : Nat} {X : Cx} {sc : Scope} {own : Str → Bool}
/-- name = value, the value no comprehension that swaps -/
theorem set_plain (G : GCx T c k N sc own X) {x : Str} {p pos : Pos} {e : Expr} {i : Nat} {ir : E} (hi : cName N sc own (.Name x p) = some i) (he : PE X e (TD X (evE c ir))) (hs : swapsWith e (some (.Name x p)) pos.line X.env = pure false) :
    PS X (.Assign [.Name x p] e pos) (TS' X (evS c (.set i ir))) := by
  have e1 : evS c (.set i ir) = fun δ S => (evE c ir δ S).bind fun d S1 => match (Tg.name i).put d δ with
    | some δ' => .ok (.nx δ') S1
    | none => .bad := by funext δ S; simp only [evS, Tg.put]
  rw [e1]
  exact sd_asg he (gd_name (name_ok G hi)) hs (sw_none (.inl ⟨rfl, rfl⟩)) (ass_one (es := []) rfl).1
theorem bind_lockS {l : Lk} {x : R It} {f : It → Store → R Unit} {g : It → Store → D} {h : D → Out} : ((x.bind fun it S1 => (f it S1).bind fun _ S2 => R.ok (g it S1) (unlk l S2)).bind fun d S1 => R.ok (h d) S1) = ((x.bind fun it S1 => (f it S1).bind fun _ S2 => R.ok (g it S1) S2).bind fun d S1 => R.ok (h d) S1).bind fun o S2 => .ok o (unlk l S2) := by
  cases x with
  | bad => rfl
  | ok it S1 =>
    simp only [R.bind_ok]
    cases f it S1 <;> rfl
theorem lc_parts {elt : Expr} {gens : List Comprehension} {scope : Scope} {p2 : Pos} {ir : E} (h : cE1 T N n (cE T N n) sc own (.ListComp elt gens scope p2) = some ir) :
    ∃ tg iter ifs src t vs cond y, gens = [⟨tg, iter, ifs, 0⟩] ∧ cComp T N (cE T N n) sc own tg iter scope = some (src, t, vs) ∧ ir = E.lc vs t src cond y ∧
      cE T N n (relS scope sc) (fun x => scope.names.lookup x == some .cell) elt = some y ∧
      ((ifs = [] ∧ cond = none) ∨ ∃ cnd z, ifs = [cnd] ∧ tOk n cnd = true ∧ cE T N n (relS scope sc) (fun x => scope.names.lookup x == some .cell) cnd = some z ∧ cond = some z) := by
  generalize hx : Expr.ListComp elt gens scope p2 = ex at h
  unfold cE1 at h
  split at h
  all_goals first
    | (cases hx; done)
    | skip
  · cases hx
    rename_i tg iter ifs 
    split at h
    · rename_i src t vs hc
      split at h
      · obtain ⟨y, h1, rfl⟩ := Option.map_eq_some_iff.mp h
        exact ⟨_, _, _, _, _, _, _, _, rfl, hc, rfl, h1, .inl ⟨rfl, rfl⟩⟩
      · split at h
        · rename_i cnd ht
          split at h
          · rename_i z y h1 h2
            cases h
            exact ⟨_, _, _, _, _, _, _, _, rfl, hc, rfl, h2, .inr ⟨_, _, rfl, ht, h1, rfl⟩⟩
          · cases h
        · cases h
      · cases h
    · cases h
  · cases h
/-- name = [.. for ..] on one line -/
theorem set_lc (G : GCx T c k N sc own X) {x : Str} {p pos p2 : Pos} {elt : Expr} {gens : List Comprehension} {scope : Scope} {i : Nat} {ir : E} (hi : cName N sc own (.Name x p) = some i) (he : cE T N n sc own (.ListComp elt gens scope p2) = some ir) (hsw : swcB sc x p p2 scope = true) :
    PS X (.Assign [.Name x p] (.ListComp elt gens scope p2) pos) (TS' X (evS c (.set i ir))) := by
  have hl : sc.names.lookup x = some .local := by
    unfold swcB at hsw
    simp only [Bool.and_eq_true, beq_iff_eq] at hsw
    exact hsw.1.1
  have hxN : X.N[i]? = some x := by
    obtain ⟨y, q, e, _, h2⟩ := cName_is hi
    cases e
    rw [G.nE]
    exact (slot_is h2).2.2
  have hsw2 : swapsWith (.ListComp elt gens scope p2) (some (.Name x p)) pos.line X.env = pure true := by
    rw [swc_eq (by rw [G.scE]; exact G.kn), G.scE, hsw]
  cases n with
  | zero => cases he
  | succ n =>
    have ih := okE (T := T) (c := c) (k := k) (N := N) n
    replace he : cE1 T N n (cE T N n) sc own (.ListComp elt gens scope p2) = some ir := he
    obtain ⟨tg, iter, ifs, src, t, vs, cond, y, rfl, hc, rfl, h1, hcs⟩ := lc_parts he
    · obtain ⟨b1, b2, b3, b4, b5, b6⟩ := comp_parts (n := n) hc
      have pi := src_ok G (tg := tg) (fun e ir h => ih.e G h) b3
      have hB : BlkOk X.N X.env.scope scope (ownOf N scope) := by rw [G.nE, G.scE]; exact b1
      have core : ∀ {cond : Option E} {y : E}, cE T N n (relS scope sc) (fun x => scope.names.lookup x == some .cell) elt = some y →
          (∀ (s : Shared) (H : Hp) (C : Addr) (cl : List (Str × Addr)) (fp : List Addr), PTs (X.blk s H scope (compEnvC scope cl C X.env) fp) ifs (ttD X.prog X.w X.K (cond.map (evE c)))) →
          PS X (.Assign [.Name x p] (.ListComp elt [⟨tg, iter, ifs, 0⟩] scope p2) pos) (TS' X (evS c (.set i (.lc vs t src cond y)))) := fun {cond y} h1 hts => by
        have e : evS c (.set i (.lc vs t src cond y)) = fun δ S => ((fun δ S => ((evSrc c src δ S).bind fun it S1 => (lcLoop S1.length it.chk (stepC t vs δ (cond.map (evE c)) (evE c y)) it.items [] (S1 ++ [.lst []])).bind fun _ S2 => R.ok (D.ref S1.length) S2).bind fun d S1 => R.ok (.nx (δ.set i (some d))) S1) δ (lk (lockOf src δ S) S)).bind fun o S2 => .ok o (unlk (lockOf src δ S) S2) := by
          funext δ S
          simp only [evS, evE]
          rw [bind_lockS]
          cases cond <;> rfl
        rw [e]
        refine sd_lock (l := lockOf src) (f := fun δ S => ((evSrc c src δ S).bind fun it S1 => (lcLoop S1.length it.chk (stepC t vs δ (cond.map (evE c)) (evE c y)) it.items [] (S1 ++ [.lst []])).bind fun _ S2 => R.ok (D.ref S1.length) S2).bind fun d S1 => R.ok (.nx (δ.set i (some d))) S1) (fun δ S n kvs => lockOf_free) ?_
        refine (ps_setLc (i := i) (g := GD X t) (tt := ttD X.prog X.w X.K (cond.map (evE c))) (te := TD X (evE c y)) G.calm G.nd hxN (by rw [G.scE]; exact hl) hsw2 pi hB (fun s H C cl fp => tg_ok (G.blk b1.kind s H C cl fp) b4) hts (fun s H C cl fp => ih.e (G.blk b1.kind s H C cl fp) h1) (not_set b2)).of fun D0 σ H ⟨μ, δ, S, o, S', so, eo, hf, kk⟩ => ?_
        dsimp only at hf
        obtain ⟨d, S1, q1, hf⟩ := R.bind_some hf
        cases hf
        refine lc_red (X := X) (by rw [← b5]; exact b6) (vs := (ownOf N scope).map (·.2)) (t := t) (fs := evSrc c src) (fc := cond.map (evE c)) (fe := evE c y) ⟨μ, δ, S, d, _, so, eo, by rw [← b5]; exact q1, fun v H1 μ1 e1 g1 so1 r1 => ?_⟩
        exact kk _ H1 μ1 e1 g1 so1 ((eo.keep e1 g1.keep).set r1 i)
      rcases hcs with ⟨rfl, rfl⟩ | ⟨cnd, z, rfl, ht, h2, rfl⟩
      · exact core h1 fun s H C cl fp => pts_nil
      · exact core h1 fun s H C cl fp => pts_one (ih.t (G.blk b1.kind s H C cl fp) h2 ht)
theorem asgName_ok (G : GCx T c k N sc own X) {x : Str} {p pos : Pos} {e : Expr} {s : Sm} (h : cAsgName T N n sc own x p e = some s) : PS X (.Assign [.Name x p] e pos) (TS' X (evS c s)) := by
  have hk : X.env.scope.kind = .function := by rw [G.scE]; exact G.kn
  unfold cAsgName at h
  split at h
  · rename_i i ir h1 h2
    have he := (okE (T := T) (c := c) (k := k) (N := N) n).e G h2
    split at h
    · rename_i elt gens scope p2
      cases h
      cases hb : swcB sc x p p2 scope with
      | true => exact set_lc G h1 h2 hb
      | false => exact set_plain G h1 he (by rw [swc_eq hk, G.scE, hb])
    · rename_i kx vx gens scope p2
      split at h
      · rename_i hb
        cases h
        exact set_plain G h1 he (by rw [swd_eq hk, G.scE, hb])
      · cases h
    · cases h
    · rename_i n1 n2 n3
      cases h
      refine set_plain G h1 he (not_comp ?_)
      cases e <;> first | rfl | (exfalso; exact n1 _ _ _ _ rfl) | (exfalso; exact n2 _ _ _ _ _ rfl) | (exfalso; exact n3 _ _ _ _ rfl)
  · cases h
theorem sole_of {t e : Expr} {l : Nat} {env : PySem.Env} (h : swapsWith e (some t) l env = pure false) : swapsWithSole [t] e l env = pure false := by
  unfold swapsWithSole
  exact h
theorem sole_tup {es : List Expr} {kk : Nat} {tp : Pos} {e : Expr} {l : Nat} (h : notComp e = true) : swapsWithSole [.Tuple es kk tp] e l X.env = pure false := sole_of (not_comp h)
theorem asgTup_ok (G : GCx T c k N sc own X) {es : List Expr} {kk : Nat} {tp pos : Pos} {e : Expr} {s : Sm} (h : cAsgTup T N n sc own es e = some s) : PS X (.Assign [.Tuple es kk tp] e pos) (TS' X (evS c s)) := by
  have hk : X.env.scope.kind = .function := by rw [G.scE]; exact G.kn
  have unp : ∀ {is ir}, mapO (cName N sc own) es = some is → cE T N n sc own e = some ir → notComp e = true → swappedStores [.Tuple es kk tp] e X.env = pure none → PS X (.Assign [.Tuple es kk tp] e pos) (TS' X (evS c (.unpack is ir))) := fun {is ir} h1 h2 h3 h4 => by
    have e1 : evS c (.unpack is ir) = fun δ S => (evE c ir δ S).bind fun d S1 => match seqOf S1 d with
      | some ds => if ds.length = is.length then .ok (.nx (setAll δ is ds)) S1 else .bad
      | none => .bad := by funext δ S; simp only [evS] <;> rfl
    rw [e1]
    obtain ⟨a, b, d⟩ := names_ok G h1
    exact sd_unpack G.calm ((okE (T := T) (c := c) (k := k) (N := N) n).e G h2) a b d (sole_tup h3) h4 (ass_one (es := []) rfl).1
  unfold cAsgTup at h
  split at h
  · rename_i vs kv pv
    split at h
    · rename_i hsw
      split at h
      · rename_i is ir h1 h2
        cases h
        exact unp h1 h2 rfl ((sw_tup hk).1 (by rw [G.scE]; exact hsw))
      · cases h
    · rename_i ns hsw
      split at h
      · rename_i is irs h1 h2
        split at h
        · rename_i hv
          cases h
          have hw := (sw_tup (a := kk) (b := kv) (p := tp) (q := pv) hk).2 ns (by rw [G.scE]; exact hsw)
          have hp := list_ok' (c := c) (X := X) (fun e ir h => (okE (T := T) (c := c) (k := k) (N := N) n).e G h) h2 hv.1
          have e1 : evS c (.par is irs) = fun δ S => (evEs c irs δ S).bind fun ds S1 => if ds.length = is.length then .ok (.nx (setAll δ is ds)) S1 else .bad := by funext δ S; simp only [evS] <;> rfl
          rw [e1]
          unfold cPar at h1
          split at h1
          · rename_i x px y py
            split at h1
            · rename_i hc
              obtain ⟨rfl, l1, l2⟩ := hc
              split at h1
              · rename_i i j s1 s2
                split at h1
                · rename_i hij
                  cases h1
                  match vs, hv, hp, hw with
                  | [a, b], _, hp, hw =>
                    exact sd_par (ps_par G.calm G.nd (by rw [G.nE]; exact (slot_is s1).2.2) (by rw [G.nE]; exact (slot_is s2).2.2) hij (by rw [G.scE]; exact l1) (by rw [G.scE]; exact l2) hp hw rfl)
                · cases h1
              · cases h1
            · cases h1
          · rename_i x px y py z pz
            split at h1
            · rename_i hc
              obtain ⟨rfl, l1, l2, l3⟩ := hc
              split at h1
              · rename_i i j l s1 s2 s3
                split at h1
                · rename_i hij
                  cases h1
                  match vs, hv, hp, hw with
                  | [a, b, d], _, hp, hw =>
                    exact sd_par3 (ps_par3 G.calm G.nd (by rw [G.nE]; exact (slot_is s1).2.2) (by rw [G.nE]; exact (slot_is s2).2.2) (by rw [G.nE]; exact (slot_is s3).2.2) hij.1 hij.2.1 hij.2.2 (by rw [G.scE]; exact l1) (by rw [G.scE]; exact l2) (by rw [G.scE]; exact l3) hp hw rfl)
                · cases h1
              · cases h1
            · cases h1
          · cases h1
        · cases h
      · cases h
    · cases h
  · rename_i hnt
    split at h
    · rename_i hnc
      split at h
      · rename_i is ir h1 h2
        cases h
        refine unp h1 h2 hnc (sw_none (.inr ?_))
        cases e <;> first | rfl | (exfalso; exact hnt _ _ _ rfl)
      · cases h
    · cases h
theorem cE_slice {l u s : Option Expr} {p : Pos} {y : E} (h : cE T N n sc own (.Slice l u s p) = some y) : False := by
  cases n <;> cases h
theorem ass_ix {o i : Expr} {pos : Pos} {env : PySem.Env} (h : ∀ l u s p, i = .Slice l u s p → False) (v : Value) : assign (.Subscript o i pos) env v = (do
    let ov ← holding [v] (eval o env)
    let iv ← holding [v, ov] (eval i env)
    standAt pos
    holding [v, ov, iv] (setItem ov iv v)
    release [v, ov, iv] []) := by
  cases i <;> first | rfl | (exfalso; exact h _ _ _ _ rfl)
theorem cS1_ok (G : GCx T c k N sc own X) (hp : PassesOwn (model X.prog X.w) X.A X.env X.xe) {recs : List Stmt → Option Sms} (ih : ∀ sts b, recs sts = some b → PSs X sts (TS' X (evSs c b))) {st : Stmt} {s : Sm} (h : cS1 T N n recs sc own st = some s) : PS X st (TS' X (evS c s)) := by
  have r0 := G.room0
  have oe := okE (T := T) (c := c) (k := k) (N := N) n
  unfold cS1 at h
  split at h
  · cases h
    have e : evS c .pass = fun δ S => R.ok (.nx δ) S := by funext δ S; simp only [evS]
    rw [e]
    exact sd_doc
  · split at h
    · rename_i hn
      obtain ⟨ir, h1, rfl⟩ := Option.map_eq_some_iff.mp h
      have e : evS c (.expr ir) = fun δ S => (evE c ir δ S).bind fun _ S1 => R.ok (.nx δ) S1 := by funext δ S; simp only [evS]
      rw [e]
      exact sd_expr (oe.e G h1) (not_comp hn)
    · cases h
  · exact asgName_ok G h
  · exact asgTup_ok G h
  · split at h
    · rename_i hn
      split at h
      · rename_i x y z h1 h2 h3
        cases h
        have e : evS c (.setIx x y z) = fun δ S => (evE c z δ S).bind fun z S1 => (evE c x δ S1).bind fun x S2 => (evE c y δ S2).bind fun y S3 => (setIxD x y z S3).bind fun _ S4 => R.ok (.nx δ) S4 := by funext δ S; simp only [evS]
        rw [e]
        exact sd_setIx r0 (oe.e G h1) (oe.e G h2) (oe.e G h3) (sole_of (not_comp hn)) (sw_none (.inl ⟨rfl, rfl⟩)) (ass_one (es := []) rfl).1 (ass_ix fun l u s p hs => by subst hs; exact cE_slice h2)
      · cases h
    · cases h
  · obtain ⟨ir, h1, rfl⟩ := Option.map_eq_some_iff.mp h
    have e : evS c (.ret ir) = fun δ S => (evE c ir δ S).bind fun d S1 => R.ok (.rt d) S1 := by funext δ S; simp only [evS]
    rw [e]
    exact sd_ret (oe.e G h1)
  · cases h
    have e : evS c .retN = fun _ S => R.ok (.rt .non) S := by funext δ S; simp only [evS]
    rw [e]
    exact sd_retN
  · split at h
    · rename_i ht
      split at h
      · rename_i x y z h1 h2 h3
        cases h
        have e : evS c (.ifs x y z) = fun δ S => (tvD (evE c x) δ S).bind fun k S1 => if k = true then evSs c y δ S1 else evSs c z δ S1 := by funext δ S; simp only [evS]; rfl
        rw [e]
        exact sd_if (oe.t G h1 ht) (ih _ _ h2) (ih _ _ h3)
      · cases h
    · cases h
  · split at h
    · rename_i hn
      split at h
      · rename_i src t b h1 h2 h3
        cases h
        have e : evS c (.for t src b) = fun δ S => ((fun δ S => (evSrc c src δ S).bind fun it S1 => forLoop it.chk (stepF t (evSs c b)) it.items δ S1) δ (lk (lockOf src δ S) S)).bind fun o S2 => .ok o (unlk (lockOf src δ S) S2) := by
          funext δ S
          simp only [evS]
          cases evSrc c src δ (lk (lockOf src δ S) S) <;> rfl
        rw [e]
        exact sd_lock (l := lockOf src) (f := fun δ S => (evSrc c src δ S).bind fun it S1 => forLoop it.chk (stepF t (evSs c b)) it.items δ S1) (fun δ S n kvs => lockOf_free) (sd_for hp G.calm (src_ok G (fun e ir h => oe.e G h) h1) (tg_ok G h2) (ih _ _ h3) (not_set hn))
      · cases h
    · cases h
  · split at h
    · rename_i ht
      split at h
      · rename_i x y h1 h2
        cases h
        have e : evS c (.while x y) = fun δ S => whileLoop (tvD (evE c x)) (evSs c y) c.W δ S := by funext δ S; simp only [evS]; rfl
        rw [e]
        exact sd_while hp (oe.t G h1 ht) (ih _ _ h2)
      · cases h
    · cases h
  · cases h
    have e : evS c .brk = fun δ S => R.ok (.bk δ) S := by funext δ S; simp only [evS]
    rw [e]
    exact sd_brk
  · cases h
    have e : evS c .cont = fun δ S => R.ok (.ct δ) S := by funext δ S; simp only [evS]
    rw [e]
    exact sd_cont
  · cases h
    have e : evS c .pass = fun δ S => R.ok (.nx δ) S := by funext δ S; simp only [evS]
    rw [e]
    exact sd_pass
  · cases h
    have e : evS c .never = fun _ _ => R.bad := by funext δ S; simp only [evS]
    rw [e]
    exact sd_never
  · cases h
theorem cSs_ok : ∀ (n : Nat) {X : Cx} {sc : Scope} {own : Str → Bool} (G : GCx T c k N sc own X) (hp : PassesOwn (model X.prog X.w) X.A X.env X.xe) {sts : List Stmt} {b : Sms}, cSs T N n sc own sts = some b → PSs X sts (TS' X (evSs c b))
  | 0, X, sc, own, G, hp, sts, b, h => by cases h
  | n + 1, X, sc, own, G, hp, sts, b, h => by
    cases sts with
    | nil =>
      cases h
      have e : evSs c .nil = fun δ S => R.ok (.nx δ) S := by funext δ S; simp only [evSs]
      rw [e]
      exact sds_nil
    | cons st sts =>
      simp only [cSs] at h
      split at h
      · rename_i x y h1 h2
        cases h
        have e : evSs c (.cons x y) = fun δ S => match evS c x δ S with
          | .ok (.nx δ') S' => evSs c y δ' S'
          | o => o := by funext δ S; simp only [evSs] <;> rfl
        rw [e]
        exact sds_cons (cS1_ok G hp (fun sts b h => cSs_ok n G hp h) h1) (cSs_ok n G hp h2)
      · cases h
end
end Ev
set_option Elab.async false
set_option linter.all false
set_option maxRecDepth 100000
set_option maxHeartbeats 4000000
/-! Ev, part W: every def of the table answers as its translation does, at every call depth. -/
namespace Ev
open PySem PySem.Spec PyProof.Rows L2
section
variable {T : Tab} {P : Program} {w : World} {K : PySem.W.Frag} {mg : Str → Option Value} {base : Heap}
theorem start_ok {μ : List Addr} {H : Hp} {ds : List D} {vs : List V} {N : List Str} (h : RelDs K μ H ds vs) : EnvOk K μ H (startEnv N.length ds) (L2.start N vs) := by
  have hl := h.length
  refine ⟨by simp [startEnv, L2.start, hl], fun i d hd => ?_⟩
  unfold startEnv at hd
  unfold L2.start
  rcases Nat.lt_or_ge i ds.length with hi | hi
  · rw [List.getElem?_append_left (by simpa using hi), List.getElem?_map] at hd
    obtain ⟨d', h1, h2⟩ := Option.map_eq_some_iff.mp hd
    cases h2
    obtain ⟨v, h3, h4⟩ := h.get h1
    refine ⟨v, ?_, h4⟩
    rw [List.getElem?_append_left (by simpa [← hl] using hi), List.getElem?_map, h3]
    rfl
  · rw [List.getElem?_append_right (by simpa using hi)] at hd
    have := List.mem_of_getElem? hd
    simp [List.mem_replicate] at this
/-- what the text must be for a def of the table -/
structure DefOk (T : Tab) (K : PySem.W.Frag) (mg : Str → Option Value) (x : Str) (F : Fn) : Prop where
  ex : ∃ (a : Addr) (fd : FuncData) (qual : Str) (params : Arguments) (body : List Stmt) (scope : Scope) (N ps : List Str) (fuel : Nat),
    FunD K x qual params body scope [] [] a fd ∧ mg x = some (.ref a) ∧ Binds K fd ps [] ∧ FnScope N ps scope ∧ F.ps = ps.length ∧ F.n = N.length ∧ cSs T N fuel scope (fun _ => true) body = some F.body
structure ConOk (T : Tab) (K : PySem.W.Frag) (mg : Str → Option Value) (con : Str → Option D) : Prop where
  ex : ∀ x d, T.cons x = some d → con x = some d ∧ ∃ v u, mg x = some u ∧ RelV v u ∧ ∀ μ H, RelD K μ H d v
theorem fn_one {x : Str} {F : Fn} {c : Ctx} {k : Nat} {qual : Str} {params : Arguments} {body : List Stmt} {scope : Scope} {N ps : List Str} {fuel : Nat} {a : Addr} {fd : FuncData}
    (hF : FunD K x qual params body scope [] [] a fd) (S : FnScope N ps scope) (hps : F.ps = ps.length) (hn : F.n = N.length) (hb : cSs T N fuel scope (fun _ => true) body = some F.body)
    (hfree : ∀ x, T.free x = true → mg x = none) (hcon : ConOk T K mg c.con) (hcall : ∀ x n, T.fns x = some n → FnAt P w K mg base k x n (c.call x)) :
    FnOk P w K mg base CXn (k + 1) a fd ps (spEv P w K ps.length fun ds S => if ds.length = F.ps then
        (match evSs c F.body (startEnv F.n ds) S with
        | .ok (.rt d) S' => .ok d S'
        | .ok (.nx _) S' => .ok .non S'
        | _ => .bad) else .bad) := by
  refine hF.ok S (fun vs H Q E ⟨μ, S, as, d, S', _, h2, h3, _⟩ => by rw [← h2.length, h3]) fun cdv A outer s H vs Q E hr ⟨μ, S0, as, d, S', h1, h2, h3, h4, h5⟩ => ⟨_, PSs.nox (cSs_ok (c := c) (k := k) fuel ?_ PassesOwn.never hb), ?_⟩
  · exact ⟨hr, rfl, S.nd, rfl, rfl, S.kind, fun _ _ => rfl, hfree, hcon.ex, hcall⟩
  · have hl : as.length = F.ps := by rw [h3, hps]
    dsimp only at h4
    rw [if_pos hl] at h4
    have hc : ∀ o S1, evSs c F.body (startEnv F.n as) S0 = .ok o S1 → (match (R.ok o S1 : R Out) with
        | .ok (.rt d) S' => .ok d S'
        | .ok (.nx _) S' => .ok .non S'
        | _ => .bad) = R.ok d S' → OutOk P w K μ H S1 o { nx := fun _ H' => Q .non H', rt := Q } := fun o S1 _ hm => by
      cases o with
      | nx δ =>
        cases hm
        exact fun σ' H' μ' e g so eo => h5 _ H' μ' e g so (by constructor)
      | bk δ => cases hm
      | ct δ => cases hm
      | rt d' =>
        cases hm
        exact fun v H' μ' e g so rd => h5 v H' μ' e g so rd
    cases he : evSs c F.body (startEnv F.n as) S0 with
    | bad => rw [he] at h4; cases h4
    | ok o S1 =>
      rw [he] at h4
      refine ⟨μ, _, S0, o, S1, h1, start_ok (N := N) h2, ?_, hc o S1 he h4⟩
      rw [← hn]
      exact he
theorem fn_bad {a : Addr} {fd : FuncData} {ps : List Str} {k : Nat} : FnOk P w K mg base CXn k a fd ps (spEv P w K ps.length fun _ _ => .bad) :=
  ⟨fun vs H Q E ⟨μ, S, as, d, S', _, h2, h3, _⟩ => by rw [← h2.length, h3], fun A outer s H args us vs Q E _ _ _ _ ⟨μ, S, as, d, S', _, _, _, h4, _⟩ => by cases h4⟩
/-- all defs of the table -/
theorem fn_all {fns : Str → Option Fn} {con : Str → Option D} {W : Nat} (hd : ∀ x F, fns x = some F → DefOk T K mg x F) (hT : ∀ x n, T.fns x = some n → ∃ F, fns x = some F ∧ F.ps = n)
    (hfree : ∀ x, T.free x = true → mg x = none) (hcon : ConOk T K mg con) : ∀ k x n, T.fns x = some n → FnAt P w K mg base k x n (callN fns con W k x)
  | 0, x, n, h => by
    obtain ⟨F, h1, rfl⟩ := hT x n h
    obtain ⟨a, fd, qual, params, body, scope, N, ps, fuel, i1, i2, i3, i4, i5, i6, i7⟩ := (hd x F h1).ex
    refine ⟨a, fd, ps, i5.symm, i2, i1.kp, i3, ?_⟩
    rw [i5]
    exact fn_bad
  | k + 1, x, n, h => by
    obtain ⟨F, h1, rfl⟩ := hT x n h
    obtain ⟨a, fd, qual, params, body, scope, N, ps, fuel, i1, i2, i3, i4, i5, i6, i7⟩ := (hd x F h1).ex
    refine ⟨a, fd, ps, i5.symm, i2, i1.kp, i3, ?_⟩
    have := fn_one (P := P) (w := w) (base := base) (c := ⟨callN fns con W k, con, W⟩) (k := k) i1 i4 i5 i6 i7 hfree hcon (fn_all hd hT hfree hcon k)
    have e : callN fns con W (k + 1) x = fun ds S => if ds.length = F.ps then
        (match evSs ⟨callN fns con W k, con, W⟩ F.body (startEnv F.n ds) S with
        | .ok (.rt d) S' => .ok d S'
        | .ok (.nx _) S' => .ok .non S'
        | _ => .bad) else .bad := by
      funext ds S
      first
        | (simp only [callN, h1]; done)
        | (simp only [callN, h1]; rfl)
    rw [e]
    rw [i5] at this ⊢
    exact this
end
end Ev
set_option Elab.async false
set_option linter.all false
set_option maxRecDepth 100000
set_option maxHeartbeats 4000000
/-! k47's defs in the language of EvA (printed by irgen.py). -/
namespace K47
open PySem Ev
/-- slots of is_integer: 0=thing -/
def f_is_integer : Fn := ⟨1, 1, .cons (.ret (.and (.prim .isinst [.var 0, .lit (.ty "int")]) (.not (.prim .isinst [.var 0, .lit (.ty "bool")])))) .nil⟩
/-- slots of is_between: 0=thing 1=least 2=most -/
def f_is_between : Fn := ⟨3, 3, .cons (.ret (.and (.call (Str.ofString "is_integer") [.var 0]) (.chain .LtE .LtE (.var 1) (.var 0) (.var 2)))) .nil⟩
/-- slots of is_index: 0=thing 1=many -/
def f_is_index : Fn := ⟨2, 2, .cons (.ret (.call (Str.ofString "is_between") [.var 0, .lit (.int 0), .bin .Sub (.var 1) (.lit (.int 1))])) .nil⟩
/-- slots of is_tuple_of: 0=thing 1=many -/
def f_is_tuple_of : Fn := ⟨2, 2, .cons (.ret (.and (.prim .isinst [.var 0, .lit (.ty "tuple")]) (.cmp .Eq (.prim .len [.var 0]) (.var 1)))) .nil⟩
/-- slots of is_sign: 0=sign -/
def f_is_sign : Fn := ⟨1, 1, .cons (.ret (.chain .LtE .LtE (.lit (.str (Str.ofString " "))) (.var 0) (.lit (.str (Str.ofString "~"))))) .nil⟩
/-- slots of is_signs: 0=thing 1=sign -/
def f_is_signs : Fn := ⟨1, 2, .cons (.ret (.and (.prim .isinst [.var 0, .lit (.ty "str")]) (.prim .all [.lc [1] (.name 1) (.keys 0) none (.call (Str.ofString "is_sign") [.var 1])]))) .nil⟩
/-- slots of is_thing: 0=thing 1=deep 2=item -/
def f_is_thing : Fn := ⟨2, 3, .cons (.ifs (.prim .isinst [.var 0, .lit (.ty "tuple")]) (.cons (.ret (.and (.cmp .Gt (.var 1) (.lit (.int 0))) (.prim .all [.lc [2] (.name 2) (.keys 0) none (.call (Str.ofString "is_thing") [.var 2, .bin .Sub (.var 1) (.lit (.int 1))])]))) .nil) (.nil)) (.cons (.ifs (.call (Str.ofString "is_integer") [.var 0]) (.cons (.ret (.chain .LtE .LtE (.neg (.con (Str.ofString "GREATEST"))) (.var 0) (.con (Str.ofString "GREATEST")))) .nil) (.nil)) (.cons (.ret (.or (.cmp .Is (.var 0) (.lit .non)) (.call (Str.ofString "is_signs") [.var 0]))) .nil))⟩
/-- slots of is_call: 0=thing 1=kind 2=name 3=told 4=begin 5=end -/
def f_is_call : Fn := ⟨1, 6, .cons (.ifs (.or (.not (.call (Str.ofString "is_tuple_of") [.var 0, .lit (.int 5)])) (.or (.cmp .NotIn (.ix (.var 0) (.lit (.int 0))) (.tup [.con (Str.ofString "READ"), .con (Str.ofString "WRITE")])) (.not (.prim .isinst [.ix (.var 0) (.lit (.int 0)), .lit (.ty "str")])))) (.cons (.ret (.lit (.bl false))) .nil) (.nil)) (.cons (.unpack [1, 2, 3, 4, 5] (.var 0)) (.cons (.ifs (.or (.not (.prim .isinst [.var 2, .lit (.ty "str")])) (.or (.not (.call (Str.ofString "is_thing") [.var 3, .con (Str.ofString "MOST_TOLD")])) (.not (.call (Str.ofString "is_integer") [.var 4])))) (.cons (.ret (.lit (.bl false))) .nil) (.nil)) (.cons (.ifs (.and (.cmp .Eq (.var 1) (.con (Str.ofString "WRITE"))) (.cmp .Is (.var 3) (.lit .non))) (.cons (.ret (.lit (.bl false))) .nil) (.nil)) (.cons (.ret (.or (.cmp .Is (.var 5) (.lit .non)) (.and (.call (Str.ofString "is_integer") [.var 5]) (.cmp .Lt (.var 4) (.var 5))))) .nil))))⟩
/-- slots of moments_of: 0=calls 1=found 2=call 3=moment -/
def f_moments_of : Fn := ⟨1, 4, .cons (.set 1 (.lst [])) (.cons (.for (.name 2) (.keys 0) (.cons (.expr (.meth .extend (.var 1) [.lc [3] (.name 3) (.val (.sl (.var 2) (some (.lit (.int 3))) none)) (some (.cmp .IsNot (.var 3) (.lit .non))) (.tup [.ix (.var 2) (.lit (.int 1)), .var 3])])) .nil)) (.cons (.ret (.var 1)) .nil))⟩
/-- slots of is_history: 0=thing 1=moments 2=written 3=call 4=pair -/
def f_is_history : Fn := ⟨1, 5, .cons (.ifs (.or (.not (.prim .isinst [.var 0, .lit (.ty "tuple")])) (.not (.prim .all [.lc [3] (.name 3) (.keys 0) none (.call (Str.ofString "is_call") [.var 3])]))) (.cons (.ret (.lit (.bl false))) .nil) (.nil)) (.cons (.set 1 (.call (Str.ofString "moments_of") [.var 0])) (.cons (.set 2 (.lc [3] (.name 3) (.keys 0) (some (.cmp .Eq (.ix (.var 3) (.lit (.int 0))) (.con (Str.ofString "WRITE")))) (.sl (.var 3) (some (.lit (.int 1))) (some (.lit (.int 3)))))) (.cons (.ifs (.cmp .NotEq (.prim .len [.dc [4] (.name 4) (.keys 1) (.var 4) (.lit (.bl true))]) (.prim .len [.var 1])) (.cons (.ret (.lit (.bl false))) .nil) (.nil)) (.cons (.ret (.cmp .Eq (.prim .len [.dc [4] (.name 4) (.keys 2) (.var 4) (.lit (.bl true))]) (.prim .len [.var 2]))) .nil))))⟩
/-- slots of check_history: 0=thing -/
def f_check_history : Fn := ⟨1, 1, .cons (.ifs (.not (.call (Str.ofString "is_history") [.var 0])) (.cons (.never) .nil) (.nil)) .nil⟩
/-- slots of writer_of: 0=history 1=call 2=index 3=other -/
def f_writer_of : Fn := ⟨2, 4, .cons (.for (.tup [2, 3]) (.enum (.var 0)) (.cons (.ifs (.and (.cmp .Eq (.ix (.var 3) (.lit (.int 0))) (.con (Str.ofString "WRITE"))) (.cmp .Eq (.sl (.var 3) (some (.lit (.int 1))) (some (.lit (.int 3)))) (.sl (.var 1) (some (.lit (.int 1))) (some (.lit (.int 3)))))) (.cons (.ret (.var 2)) .nil) (.nil)) .nil)) (.cons (.ret (.lit .non)) .nil)⟩
/-- slots of counts: 0=history 1=index 2=call 3=other -/
def f_counts : Fn := ⟨2, 4, .cons (.set 2 (.ix (.var 0) (.var 1))) (.cons (.ifs (.cmp .IsNot (.ix (.var 2) (.lit (.int 4))) (.lit .non)) (.cons (.ret (.lit (.bl true))) .nil) (.nil)) (.cons (.ifs (.cmp .Eq (.ix (.var 2) (.lit (.int 0))) (.con (Str.ofString "READ"))) (.cons (.ret (.lit (.bl false))) .nil) (.nil)) (.cons (.ret (.prim .any [.lc [3] (.name 3) (.keys 0) none (.and (.cmp .Eq (.ix (.var 3) (.lit (.int 0))) (.con (Str.ofString "READ"))) (.and (.cmp .IsNot (.ix (.var 3) (.lit (.int 4))) (.lit .non)) (.cmp .Eq (.sl (.var 3) (some (.lit (.int 1))) (some (.lit (.int 3)))) (.sl (.var 2) (some (.lit (.int 1))) (some (.lit (.int 3)))))))])) .nil)))⟩
/-- slots of groups_of: 0=history 1=found 2=index 3=call -/
def f_groups_of : Fn := ⟨1, 4, .cons (.set 1 (.dic)) (.cons (.for (.tup [2, 3]) (.enum (.var 0)) (.cons (.ifs (.call (Str.ofString "counts") [.var 0, .var 2]) (.cons (.expr (.meth .append (.meth .setdefault (.var 1) [.sl (.var 3) (some (.lit (.int 1))) (some (.lit (.int 3))), .lst []]) [.var 2])) .nil) (.nil)) .nil)) (.cons (.ret (.var 1)) .nil))⟩
/-- slots of first_end: 0=history 1=group 2=ended 3=index -/
def f_first_end : Fn := ⟨2, 4, .cons (.set 2 (.lc [3] (.name 3) (.keys 1) (some (.cmp .IsNot (.ix (.ix (.var 0) (.var 3)) (.lit (.int 4))) (.lit .non))) (.tup [.ix (.ix (.var 0) (.var 3)) (.lit (.int 4)), .var 3]))) (.cons (.ret (.ite (.cmp .Eq (.prim .len [.var 2]) (.lit (.int 0))) (.lit .non) (.ix (.prim .min [.var 2]) (.lit (.int 1))))) .nil)⟩
/-- slots of last_begin: 0=history 1=group 2=index -/
def f_last_begin : Fn := ⟨2, 3, .cons (.ret (.ix (.prim .max [.lc [2] (.name 2) (.keys 1) none (.tup [.ix (.ix (.var 0) (.var 2)) (.lit (.int 3)), .var 2])]) (.lit (.int 1)))) .nil⟩
/-- slots of is_ahead: 0=history 1=one 2=other 3=first 4=last -/
def f_is_ahead : Fn := ⟨3, 5, .cons (.par [3, 4] [.call (Str.ofString "first_end") [.var 0, .var 1], .call (Str.ofString "last_begin") [.var 0, .var 2]]) (.cons (.ret (.and (.cmp .IsNot (.var 3) (.lit .non)) (.cmp .Lt (.ix (.ix (.var 0) (.var 3)) (.lit (.int 4))) (.ix (.ix (.var 0) (.var 4)) (.lit (.int 3)))))) .nil)⟩
/-- slots of single_bar: 0=history 1=index 2=call 3=writer -/
def f_single_bar : Fn := ⟨1, 4, .cons (.for (.tup [1, 2]) (.enum (.var 0)) (.cons (.ifs (.and (.cmp .Eq (.ix (.var 2) (.lit (.int 0))) (.con (Str.ofString "READ"))) (.and (.cmp .IsNot (.ix (.var 2) (.lit (.int 4))) (.lit .non)) (.cmp .IsNot (.ix (.var 2) (.lit (.int 2))) (.lit .non)))) (.cons (.set 3 (.call (Str.ofString "writer_of") [.var 0, .var 2])) (.cons (.ifs (.cmp .Is (.var 3) (.lit .non)) (.cons (.ret (.tup [.lit (.str (Str.ofString "strange")), .var 1])) .nil) (.nil)) (.cons (.ifs (.cmp .Lt (.ix (.var 2) (.lit (.int 4))) (.ix (.ix (.var 0) (.var 3)) (.lit (.int 3)))) (.cons (.ret (.tup [.lit (.str (Str.ofString "early")), .var 1])) .nil) (.nil)) .nil))) (.nil)) .nil)) (.cons (.ret (.lit .non)) .nil)⟩
/-- slots of late_bar: 0=history 1=groups 2=pair 3=group 4=nothing -/
def f_late_bar : Fn := ⟨1, 5, .cons (.set 1 (.call (Str.ofString "groups_of") [.var 0])) (.cons (.for (.tup [2, 3]) (.items 1) (.cons (.set 4 (.meth .get (.var 1) [.tup [.ix (.var 2) (.lit (.int 0)), .lit .non], .lst []])) (.cons (.ifs (.and (.cmp .IsNot (.ix (.var 2) (.lit (.int 1))) (.lit .non)) (.and (.cmp .Gt (.prim .len [.var 4]) (.lit (.int 0))) (.call (Str.ofString "is_ahead") [.var 0, .var 3, .var 4]))) (.cons (.ret (.tup [.lit (.str (Str.ofString "late")), .call (Str.ofString "first_end") [.var 0, .var 3], .call (Str.ofString "last_begin") [.var 0, .var 4]])) .nil) (.nil)) .nil))) (.cons (.ret (.lit .non)) .nil))⟩
/-- slots of crossed_bar: 0=history 1=groups 2=pairs 3=at 4=one 5=other 6=pair -/
def f_crossed_bar : Fn := ⟨1, 7, .cons (.set 1 (.call (Str.ofString "groups_of") [.var 0])) (.cons (.set 2 (.lc [6] (.name 6) (.keys 1) (some (.cmp .IsNot (.ix (.var 6) (.lit (.int 1))) (.lit .non))) (.var 6))) (.cons (.for (.tup [3, 4]) (.enum (.var 2)) (.cons (.for (.name 5) (.val (.sl (.var 2) none (some (.var 3)))) (.cons (.ifs (.and (.cmp .Eq (.ix (.var 4) (.lit (.int 0))) (.ix (.var 5) (.lit (.int 0)))) (.call (Str.ofString "is_ahead") [.var 0, .ix (.var 1) (.var 4), .ix (.var 1) (.var 5)])) (.cons (.ifs (.call (Str.ofString "is_ahead") [.var 0, .ix (.var 1) (.var 5), .ix (.var 1) (.var 4)]) (.cons (.ret (.call (Str.ofString "crossed") [.var 0, .ix (.var 1) (.var 4), .ix (.var 1) (.var 5)])) .nil) (.nil)) .nil) (.nil)) .nil)) .nil)) (.cons (.ret (.lit .non)) .nil)))⟩
/-- slots of crossed: 0=history 1=one 2=other 3=ends 4=begins -/
def f_crossed : Fn := ⟨3, 5, .cons (.set 3 (.tup [.call (Str.ofString "first_end") [.var 0, .var 1], .call (Str.ofString "first_end") [.var 0, .var 2]])) (.cons (.set 4 (.tup [.call (Str.ofString "last_begin") [.var 0, .var 1], .call (Str.ofString "last_begin") [.var 0, .var 2]])) (.cons (.ret (.tup [.lit (.str (Str.ofString "crossed")), .ix (.var 3) (.lit (.int 0)), .ix (.var 4) (.lit (.int 0)), .ix (.var 4) (.lit (.int 1)), .ix (.var 3) (.lit (.int 1))])) .nil))⟩
/-- slots of raw_bar: 0=history 1=told -/
def f_raw_bar : Fn := ⟨1, 2, .cons (.for (.name 1) (.val (.tup [.call (Str.ofString "single_bar") [.var 0], .call (Str.ofString "late_bar") [.var 0], .call (Str.ofString "crossed_bar") [.var 0]])) (.cons (.ifs (.cmp .IsNot (.var 1) (.lit .non)) (.cons (.ret (.var 1)) .nil) (.nil)) .nil)) (.cons (.ret (.lit .non)) .nil)⟩
/-- slots of bar: 0=history -/
def f_bar : Fn := ⟨1, 1, .cons (.expr (.call (Str.ofString "check_history") [.var 0])) (.cons (.ret (.call (Str.ofString "raw_bar") [.var 0])) .nil)⟩
/-- slots of tail: 0=history 1=group 2=reads 3=index 4=begin -/
def f_tail : Fn := ⟨2, 5, .cons (.set 2 (.prim .sorted [.lc [3] (.name 3) (.keys 1) (some (.cmp .Eq (.ix (.ix (.var 0) (.var 3)) (.lit (.int 0))) (.con (Str.ofString "READ")))) (.tup [.ix (.ix (.var 0) (.var 3)) (.lit (.int 3)), .var 3])])) (.cons (.ret (.bin .Add (.lc [3] (.name 3) (.keys 1) (some (.cmp .Eq (.ix (.ix (.var 0) (.var 3)) (.lit (.int 0))) (.con (Str.ofString "WRITE")))) (.var 3)) (.lc [4, 3] (.tup [4, 3]) (.keys 2) none (.var 3)))) .nil)⟩
/-- slots of name_order: 0=history 1=groups 2=left 3=found 4=free 5=one 6=other -/
def f_name_order : Fn := ⟨2, 7, .cons (.set 2 (.prim .listOf [.var 1])) (.cons (.set 3 (.lst [])) (.cons (.while (.cmp .Gt (.prim .len [.var 2]) (.lit (.int 0))) (.cons (.set 4 (.lc [5] (.name 5) (.keys 2) (some (.not (.prim .any [.lc [6] (.name 6) (.keys 2) (some (.cmp .NotEq (.var 6) (.var 5))) (.call (Str.ofString "is_ahead") [.var 0, .var 6, .var 5])]))) (.var 5))) (.cons (.expr (.meth .extend (.var 3) [.call (Str.ofString "tail") [.var 0, .ix (.var 4) (.lit (.int 0))]])) (.cons (.expr (.meth .remove (.var 2) [.ix (.var 4) (.lit (.int 0))])) .nil)))) (.cons (.ret (.var 3)) .nil)))⟩
/-- slots of right_order: 0=history 1=groups 2=names 3=found 4=name 5=told 6=pair -/
def f_right_order : Fn := ⟨1, 7, .cons (.expr (.call (Str.ofString "check_history") [.var 0])) (.cons (.ifs (.cmp .IsNot (.call (Str.ofString "raw_bar") [.var 0]) (.lit .non)) (.cons (.ret (.lit .non)) .nil) (.nil)) (.cons (.set 1 (.call (Str.ofString "groups_of") [.var 0])) (.cons (.set 2 (.prim .sorted [.dc [6] (.name 6) (.keys 1) (.ix (.var 6) (.lit (.int 0))) (.lit (.bl true))])) (.cons (.set 3 (.lst [])) (.cons (.for (.name 4) (.keys 2) (.cons (.expr (.meth .extend (.var 3) [.call (Str.ofString "tail") [.var 0, .meth .get (.var 1) [.tup [.var 4, .lit .non], .lst []]]])) (.cons (.set 5 (.lc [6] (.name 6) (.keys 1) (some (.and (.cmp .Eq (.ix (.var 6) (.lit (.int 0))) (.var 4)) (.cmp .IsNot (.ix (.var 6) (.lit (.int 1))) (.lit .non)))) (.var 6))) (.cons (.expr (.meth .extend (.var 3) [.call (Str.ofString "name_order") [.var 0, .lc [6] (.name 6) (.keys 5) none (.ix (.var 1) (.var 6))]])) .nil)))) (.cons (.ret (.var 3)) .nil))))))⟩
/-- slots of is_right_order: 0=history 1=thing 2=many 3=index 4=call -/
def f_is_right_order : Fn := ⟨2, 5, .cons (.expr (.call (Str.ofString "check_history") [.var 0])) (.cons (.set 2 (.prim .len [.var 0])) (.cons (.ifs (.or (.not (.prim .isinst [.var 1, .lit (.ty "list")])) (.not (.prim .all [.lc [3] (.name 3) (.keys 1) none (.call (Str.ofString "is_index") [.var 3, .var 2])]))) (.cons (.ret (.lit (.bl false))) .nil) (.nil)) (.cons (.ifs (.cmp .NotEq (.prim .len [.dc [3] (.name 3) (.keys 1) (.var 3) (.lit (.bl true))]) (.prim .len [.var 1])) (.cons (.ret (.lit (.bl false))) .nil) (.nil)) (.cons (.for (.tup [3, 4]) (.enum (.var 0)) (.cons (.ifs (.or (.and (.cmp .IsNot (.ix (.var 4) (.lit (.int 4))) (.lit .non)) (.cmp .NotIn (.var 3) (.var 1))) (.and (.cmp .Is (.ix (.var 4) (.lit (.int 4))) (.lit .non)) (.and (.cmp .Eq (.ix (.var 4) (.lit (.int 0))) (.con (Str.ofString "READ"))) (.cmp .In (.var 3) (.var 1))))) (.cons (.ret (.lit (.bl false))) .nil) (.nil)) .nil)) (.cons (.ret (.and (.call (Str.ofString "are_behind") [.var 0, .var 1]) (.call (Str.ofString "are_told") [.var 0, .var 1]))) .nil)))))⟩
/-- slots of are_behind: 0=history 1=row 2=at 3=index 4=other 5=end -/
def f_are_behind : Fn := ⟨2, 6, .cons (.for (.tup [2, 3]) (.enum (.var 1)) (.cons (.for (.name 4) (.val (.sl (.var 1) none (some (.var 2)))) (.cons (.set 5 (.ix (.ix (.var 0) (.var 3)) (.lit (.int 4)))) (.cons (.ifs (.and (.cmp .Eq (.ix (.ix (.var 0) (.var 3)) (.lit (.int 1))) (.ix (.ix (.var 0) (.var 4)) (.lit (.int 1)))) (.and (.cmp .IsNot (.var 5) (.lit .non)) (.cmp .Lt (.var 5) (.ix (.ix (.var 0) (.var 4)) (.lit (.int 3)))))) (.cons (.ret (.lit (.bl false))) .nil) (.nil)) .nil))) .nil)) (.cons (.ret (.lit (.bl true))) .nil)⟩
/-- slots of are_told: 0=history 1=row 2=written 3=index 4=kind 5=name 6=told 7=begin 8=end -/
def f_are_told : Fn := ⟨2, 9, .cons (.set 2 (.dic)) (.cons (.for (.name 3) (.keys 1) (.cons (.unpack [4, 5, 6, 7, 8] (.ix (.var 0) (.var 3))) (.cons (.ifs (.cmp .Eq (.var 4) (.con (Str.ofString "WRITE"))) (.cons (.setIx (.var 2) (.var 5) (.var 6)) .nil) (.cons (.ifs (.cmp .NotEq (.var 6) (.meth .get (.var 2) [.var 5])) (.cons (.ret (.lit (.bl false))) .nil) (.nil)) .nil)) .nil))) (.cons (.ret (.lit (.bl true))) .nil))⟩
/-- slots of is_bar: 0=history 1=thing 2=calls 3=index -/
def f_is_bar : Fn := ⟨2, 4, .cons (.expr (.call (Str.ofString "check_history") [.var 0])) (.cons (.ifs (.or (.not (.prim .isinst [.var 1, .lit (.ty "tuple")])) (.or (.cmp .Lt (.prim .len [.var 1]) (.lit (.int 2))) (.not (.prim .isinst [.ix (.var 1) (.lit (.int 0)), .lit (.ty "str")])))) (.cons (.ret (.lit (.bl false))) .nil) (.nil)) (.cons (.ifs (.not (.prim .all [.lc [3] (.name 3) (.val (.sl (.var 1) (some (.lit (.int 1))) none)) none (.call (Str.ofString "is_index") [.var 3, .prim .len [.var 0]])])) (.cons (.ret (.lit (.bl false))) .nil) (.nil)) (.cons (.set 2 (.lc [3] (.name 3) (.val (.sl (.var 1) (some (.lit (.int 1))) none)) none (.ix (.var 0) (.var 3)))) (.cons (.ifs (.cmp .In (.ix (.var 1) (.lit (.int 0))) (.tup [.lit (.str (Str.ofString "early")), .lit (.str (Str.ofString "strange"))])) (.cons (.ret (.and (.call (Str.ofString "is_tuple_of") [.var 1, .lit (.int 2)]) (.call (Str.ofString "is_single") [.var 0, .ix (.var 1) (.lit (.int 0)), .ix (.var 2) (.lit (.int 0))]))) .nil) (.nil)) (.cons (.ifs (.cmp .Eq (.ix (.var 1) (.lit (.int 0))) (.lit (.str (Str.ofString "late")))) (.cons (.ret (.and (.call (Str.ofString "is_tuple_of") [.var 1, .lit (.int 3)]) (.call (Str.ofString "is_late") [.ix (.var 2) (.lit (.int 0)), .ix (.var 2) (.lit (.int 1))]))) .nil) (.nil)) (.cons (.ret (.and (.cmp .Eq (.ix (.var 1) (.lit (.int 0))) (.lit (.str (Str.ofString "crossed")))) (.and (.call (Str.ofString "is_tuple_of") [.var 1, .lit (.int 5)]) (.call (Str.ofString "is_crossed") [.var 2])))) .nil))))))⟩
/-- slots of is_single: 0=history 1=word 2=call 3=writer -/
def f_is_single : Fn := ⟨3, 4, .cons (.ifs (.or (.cmp .NotEq (.ix (.var 2) (.lit (.int 0))) (.con (Str.ofString "READ"))) (.or (.cmp .Is (.ix (.var 2) (.lit (.int 4))) (.lit .non)) (.cmp .Is (.ix (.var 2) (.lit (.int 2))) (.lit .non)))) (.cons (.ret (.lit (.bl false))) .nil) (.nil)) (.cons (.set 3 (.call (Str.ofString "writer_of") [.var 0, .var 2])) (.cons (.ifs (.cmp .Eq (.var 1) (.lit (.str (Str.ofString "strange")))) (.cons (.ret (.cmp .Is (.var 3) (.lit .non))) .nil) (.nil)) (.cons (.ret (.and (.cmp .IsNot (.var 3) (.lit .non)) (.cmp .Lt (.ix (.var 2) (.lit (.int 4))) (.ix (.ix (.var 0) (.var 3)) (.lit (.int 3)))))) .nil)))⟩
/-- slots of tells: 0=call -/
def f_tells : Fn := ⟨1, 1, .cons (.ret (.and (.cmp .IsNot (.ix (.var 0) (.lit (.int 2))) (.lit .non)) (.or (.cmp .Eq (.ix (.var 0) (.lit (.int 0))) (.con (Str.ofString "WRITE"))) (.cmp .IsNot (.ix (.var 0) (.lit (.int 4))) (.lit .non))))) .nil⟩
/-- slots of is_late: 0=call 1=read -/
def f_is_late : Fn := ⟨2, 2, .cons (.ifs (.or (.cmp .NotEq (.ix (.var 0) (.lit (.int 1))) (.ix (.var 1) (.lit (.int 1)))) (.or (.not (.call (Str.ofString "tells") [.var 0])) (.cmp .Is (.ix (.var 0) (.lit (.int 4))) (.lit .non)))) (.cons (.ret (.lit (.bl false))) .nil) (.nil)) (.cons (.ret (.and (.cmp .Eq (.ix (.var 1) (.lit (.int 0))) (.con (Str.ofString "READ"))) (.and (.cmp .IsNot (.ix (.var 1) (.lit (.int 4))) (.lit .non)) (.and (.cmp .Is (.ix (.var 1) (.lit (.int 2))) (.lit .non)) (.cmp .Lt (.ix (.var 0) (.lit (.int 4))) (.ix (.var 1) (.lit (.int 3)))))))) .nil)⟩
/-- slots of is_crossed: 0=calls 1=one 2=two 3=three 4=four 5=call -/
def f_is_crossed : Fn := ⟨1, 6, .cons (.unpack [1, 2, 3, 4] (.var 0)) (.cons (.ifs (.or (.not (.prim .all [.lc [5] (.name 5) (.keys 0) none (.and (.call (Str.ofString "tells") [.var 5]) (.cmp .Eq (.ix (.var 5) (.lit (.int 1))) (.ix (.var 1) (.lit (.int 1)))))])) (.or (.cmp .Is (.ix (.var 1) (.lit (.int 4))) (.lit .non)) (.cmp .Is (.ix (.var 4) (.lit (.int 4))) (.lit .non)))) (.cons (.ret (.lit (.bl false))) .nil) (.nil)) (.cons (.ifs (.or (.cmp .NotEq (.ix (.var 1) (.lit (.int 2))) (.ix (.var 2) (.lit (.int 2)))) (.or (.cmp .NotEq (.ix (.var 3) (.lit (.int 2))) (.ix (.var 4) (.lit (.int 2)))) (.cmp .Eq (.ix (.var 1) (.lit (.int 2))) (.ix (.var 3) (.lit (.int 2)))))) (.cons (.ret (.lit (.bl false))) .nil) (.nil)) (.cons (.ret (.and (.cmp .Lt (.ix (.var 1) (.lit (.int 4))) (.ix (.var 3) (.lit (.int 3)))) (.cmp .Lt (.ix (.var 4) (.lit (.int 4))) (.ix (.var 2) (.lit (.int 3)))))) .nil)))⟩
/-- slots of _law_hand: 0=_law_script 1=_law_cells 2=_law_cell -/
def f__law_hand : Fn := ⟨1, 3, .cons (.set 1 (.lc [2] (.name 2) (.val (.sl (.var 0) none (some (.lit (.int 63))))) none (.prim .abs [.prim .int [.var 2]]))) (.cons (.ret (.lst [.var 1, .lit (.int 0), .lit (.int 0), .bin .Add (.lit (.int 1)) (.prim .len [.var 1]), .lit (.int 0)])) .nil)⟩
/-- slots of _law_draw: 0=_law_hand_here 1=_law_many 2=_law_cell 3=_law_digit 4=_law_number -/
def f__law_draw : Fn := ⟨2, 5, .cons (.ifs (.and (.cmp .Eq (.ix (.var 0) (.lit (.int 2))) (.lit (.int 0))) (.cmp .Lt (.ix (.var 0) (.lit (.int 1))) (.prim .len [.ix (.var 0) (.lit (.int 0))]))) (.cons (.set 2 (.ix (.ix (.var 0) (.lit (.int 0))) (.ix (.var 0) (.lit (.int 1))))) (.cons (.setIx (.var 0) (.lit (.int 1)) (.bin .Add (.ix (.var 0) (.lit (.int 1))) (.lit (.int 1)))) (.cons (.setIx (.var 0) (.lit (.int 3)) (.bin .Mod (.prim .int [.bin .Add (.bin .Add (.bin .Mult (.ix (.var 0) (.lit (.int 3))) (.lit (.int 69621))) (.var 2)) (.lit (.int 11))]) (.lit (.int 2147483629)))) (.cons (.ifs (.cmp .GtE (.var 2) (.bin .Pow (.lit (.int 10)) (.lit (.int 18)))) (.cons (.setIx (.var 0) (.lit (.int 2)) (.var 2)) .nil) (.nil)) .nil)))) (.nil)) (.cons (.ifs (.cmp .Gt (.ix (.var 0) (.lit (.int 2))) (.lit (.int 0))) (.cons (.set 3 (.bin .Mod (.prim .int [.ix (.var 0) (.lit (.int 2))]) (.var 1))) (.cons (.setIx (.var 0) (.lit (.int 2)) (.bin .FloorDiv (.ix (.var 0) (.lit (.int 2))) (.var 1))) (.cons (.ret (.var 3)) .nil))) (.nil)) (.cons (.setIx (.var 0) (.lit (.int 4)) (.bin .Add (.ix (.var 0) (.lit (.int 4))) (.lit (.int 1)))) (.cons (.set 4 (.bin .Mod (.prim .int [.bin .Mult (.prim .int [.bin .Add (.ix (.var 0) (.lit (.int 3))) (.bin .Mult (.lit (.int 7919)) (.ix (.var 0) (.lit (.int 4))))]) (.lit (.int 48271))]) (.lit (.int 2147483647)))) (.cons (.set 4 (.bin .Mod (.prim .int [.bin .Mult (.var 4) (.bin .Add (.bin .FloorDiv (.var 4) (.lit (.int 1009))) (.lit (.int 69621)))]) (.lit (.int 2147483647)))) (.cons (.set 4 (.bin .Mod (.prim .int [.bin .Mult (.var 4) (.bin .Add (.bin .FloorDiv (.var 4) (.lit (.int 2003))) (.lit (.int 40692)))]) (.lit (.int 2147483399)))) (.cons (.ret (.bin .Mod (.prim .int [.bin .FloorDiv (.var 4) (.lit (.int 16))]) (.var 1))) .nil))))))⟩
/-- slots of _law_call: 0=_law_hand_here 1=_law_moments 2=_law_told 3=_law_begin 4=_law_later 5=_law_end 6=_law_moment -/
def f__law_call : Fn := ⟨3, 7, .cons (.set 3 (.meth .pop (.var 1) [.call (Str.ofString "_law_draw") [.var 0, .prim .len [.var 1]]])) (.cons (.set 4 (.lc [6] (.name 6) (.keys 1) (some (.cmp .Gt (.var 6) (.var 3))) (.var 6))) (.cons (.set 5 (.lit .non)) (.cons (.ifs (.and (.cmp .NotEq (.var 4) (.lst [])) (.cmp .Gt (.call (Str.ofString "_law_draw") [.var 0, .lit (.int 8)]) (.lit (.int 0)))) (.cons (.set 5 (.ix (.var 4) (.call (Str.ofString "_law_draw") [.var 0, .prim .min [.prim .len [.var 4], .lit (.int 4)]]))) (.cons (.expr (.meth .remove (.var 1) [.var 5])) .nil)) (.nil)) (.cons (.ret (.tup [.var 3, .var 5])) .nil))))⟩
/-- slots of _law_history: 0=_law_hand_here 1=_law_most 2=_law_names 3=_law_many 4=_law_moments 5=_law_found 6=_law_written 7=_law_k 8=_law_name 9=_law_begin 10=_law_end 11=_law_told 12=_law_call_here -/
def f__law_history : Fn := ⟨3, 13, .cons (.set 3 (.bin .Add (.lit (.int 1)) (.call (Str.ofString "_law_draw") [.var 0, .var 1]))) (.cons (.set 4 (.lc [7] (.name 7) (.range (.lit (.int 0)) (.bin .Add (.bin .Mult (.lit (.int 2)) (.var 3)) (.call (Str.ofString "_law_draw") [.var 0, .lit (.int 4)]))) none (.bin .Sub (.bin .Mult (.lit (.int 3)) (.var 7)) (.lit (.int 5))))) (.cons (.unpack [5, 6] (.tup [.lst [], .lst []])) (.cons (.for (.name 7) (.range (.lit (.int 0)) (.var 3)) (.cons (.set 8 (.ix (.var 2) (.call (Str.ofString "_law_draw") [.var 0, .prim .len [.var 2]]))) (.cons (.unpack [9, 10] (.call (Str.ofString "_law_call") [.var 0, .var 4, .lit .non])) (.cons (.ifs (.cmp .Eq (.call (Str.ofString "_law_draw") [.var 0, .lit (.int 2)]) (.lit (.int 0))) (.cons (.set 11 (.tup [.var 8, .var 7])) (.cons (.expr (.meth .append (.var 6) [.var 11])) (.cons (.expr (.meth .append (.var 5) [.tup [.lit (.str (Str.ofString "write")), .var 8, .var 11, .var 9, .var 10]])) .nil))) (.cons (.expr (.meth .append (.var 5) [.tup [.lit (.str (Str.ofString "read")), .var 8, .lit .non, .var 9, .var 10]])) .nil)) .nil)))) (.cons (.ret (.prim .tupleOf [.lc [12] (.name 12) (.keys 5) none (.call (Str.ofString "_law_read") [.var 0, .var 12, .var 6])])) .nil))))⟩
/-- slots of _law_read: 0=_law_hand_here 1=_law_call_here 2=_law_written 3=_law_some 4=_law_told -/
def f__law_read : Fn := ⟨3, 5, .cons (.ifs (.cmp .Eq (.ix (.var 1) (.lit (.int 0))) (.lit (.str (Str.ofString "write")))) (.cons (.ret (.var 1)) .nil) (.nil)) (.cons (.set 3 (.lc [4] (.name 4) (.keys 2) (some (.cmp .Eq (.ix (.var 4) (.lit (.int 0))) (.ix (.var 1) (.lit (.int 1))))) (.var 4))) (.cons (.set 4 (.lit .non)) (.cons (.ifs (.and (.cmp .NotEq (.var 3) (.lst [])) (.cmp .Gt (.call (Str.ofString "_law_draw") [.var 0, .lit (.int 4)]) (.lit (.int 0)))) (.cons (.set 4 (.ix (.var 3) (.call (Str.ofString "_law_draw") [.var 0, .prim .len [.var 3]]))) .nil) (.nil)) (.cons (.ifs (.cmp .Eq (.call (Str.ofString "_law_draw") [.var 0, .lit (.int 20)]) (.lit (.int 0))) (.cons (.set 4 (.lit (.str (Str.ofString "strange")))) .nil) (.nil)) (.cons (.ret (.bin .Add (.bin .Add (.sl (.var 1) none (some (.lit (.int 2)))) (.tup [.var 4])) (.sl (.var 1) (some (.lit (.int 3))) none))) .nil)))))⟩
/-- slots of _law_goes: 0=_law_calls 1=_law_done 2=_law_last 3=_law_left 4=_law_k 5=_law_call_here 6=_law_late 7=_law_j -/
def f__law_goes : Fn := ⟨3, 8, .cons (.set 3 (.lc [4] (.name 4) (.range (.lit (.int 0)) (.prim .len [.var 0])) (some (.cmp .NotIn (.var 4) (.var 1))) (.var 4))) (.cons (.ifs (.not (.prim .any [.lc [4] (.name 4) (.keys 3) none (.cmp .IsNot (.ix (.ix (.var 0) (.var 4)) (.lit (.int 4))) (.lit .non))])) (.cons (.ret (.lit (.bl true))) .nil) (.nil)) (.cons (.for (.name 4) (.keys 3) (.cons (.set 5 (.ix (.var 0) (.var 4))) (.cons (.set 6 (.prim .any [.lc [7] (.name 7) (.keys 3) none (.and (.cmp .IsNot (.ix (.ix (.var 0) (.var 7)) (.lit (.int 4))) (.lit .non)) (.cmp .Lt (.ix (.ix (.var 0) (.var 7)) (.lit (.int 4))) (.ix (.var 5) (.lit (.int 3)))))])) (.cons (.ifs (.or (.and (.cmp .Eq (.ix (.var 5) (.lit (.int 0))) (.lit (.str (Str.ofString "read")))) (.or (.cmp .Is (.ix (.var 5) (.lit (.int 4))) (.lit .non)) (.cmp .NotEq (.ix (.var 5) (.lit (.int 2))) (.var 2)))) (.var 6)) (.cons (.cont) .nil) (.nil)) (.cons (.ifs (.call (Str.ofString "_law_goes") [.var 0, .bin .Add (.var 1) (.lst [.var 4]), .ite (.cmp .Eq (.ix (.var 5) (.lit (.int 0))) (.lit (.str (Str.ofString "write")))) (.ix (.var 5) (.lit (.int 2))) (.var 2)]) (.cons (.ret (.lit (.bl true))) .nil) (.nil)) .nil))))) (.cons (.ret (.lit (.bl false))) .nil)))⟩
/-- slots of _law_is_right: 0=_law_history_here 1=_law_name 2=_law_call_here -/
def f__law_is_right : Fn := ⟨1, 3, .cons (.for (.name 1) (.val (.prim .sortedSet [.lc [2] (.name 2) (.keys 0) none (.ix (.var 2) (.lit (.int 1)))])) (.cons (.ifs (.not (.call (Str.ofString "_law_goes") [.lc [2] (.name 2) (.keys 0) (some (.cmp .Eq (.ix (.var 2) (.lit (.int 1))) (.var 1))) (.var 2), .lst [], .lit .non])) (.cons (.ret (.lit (.bl false))) .nil) (.nil)) .nil)) (.cons (.ret (.lit (.bl true))) .nil)⟩
/-- slots of _law_is_int: 0=_law_thing -/
def f__law_is_int : Fn := ⟨1, 1, .cons (.ret (.and (.prim .isinst [.var 0, .lit (.ty "int")]) (.not (.prim .isinst [.var 0, .lit (.ty "bool")])))) .nil⟩
/-- slots of _law_is_order: 0=_law_history_here 1=_law_thing 2=_law_k 3=_law_last 4=_law_at 5=_law_kind 6=_law_name 7=_law_told 8=_law_begin 9=_law_end 10=_law_behind 11=_law_call_here -/
def f__law_is_order : Fn := ⟨2, 12, .cons (.ifs (.or (.not (.prim .isinst [.var 1, .lit (.ty "list")])) (.not (.prim .all [.lc [2] (.name 2) (.keys 1) none (.and (.call (Str.ofString "_law_is_int") [.var 2]) (.chain .LtE .Lt (.lit (.int 0)) (.var 2) (.prim .len [.var 0])))]))) (.cons (.ret (.lit (.bl false))) .nil) (.nil)) (.cons (.ifs (.cmp .Lt (.prim .lenSet [.var 1]) (.prim .len [.var 1])) (.cons (.ret (.lit (.bl false))) .nil) (.nil)) (.cons (.for (.name 2) (.range (.lit (.int 0)) (.prim .len [.var 0])) (.cons (.ifs (.and (.cmp .IsNot (.ix (.ix (.var 0) (.var 2)) (.lit (.int 4))) (.lit .non)) (.cmp .NotIn (.var 2) (.var 1))) (.cons (.ret (.lit (.bl false))) .nil) (.nil)) .nil)) (.cons (.set 3 (.dic)) (.cons (.for (.name 4) (.range (.lit (.int 0)) (.prim .len [.var 1])) (.cons (.unpack [5, 6, 7, 8, 9] (.ix (.var 0) (.ix (.var 1) (.var 4)))) (.cons (.ifs (.and (.cmp .Eq (.var 5) (.lit (.str (Str.ofString "read")))) (.or (.cmp .Is (.var 9) (.lit .non)) (.cmp .NotEq (.var 7) (.meth .get (.var 3) [.var 6])))) (.cons (.ret (.lit (.bl false))) .nil) (.nil)) (.cons (.set 10 (.lc [2] (.name 2) (.val (.sl (.var 1) (some (.bin .Add (.var 4) (.lit (.int 1)))) none)) (some (.and (.cmp .Eq (.ix (.ix (.var 0) (.var 2)) (.lit (.int 1))) (.var 6)) (.cmp .IsNot (.ix (.ix (.var 0) (.var 2)) (.lit (.int 4))) (.lit .non)))) (.ix (.var 0) (.var 2)))) (.cons (.ifs (.prim .any [.lc [11] (.name 11) (.keys 10) none (.cmp .Lt (.ix (.var 11) (.lit (.int 4))) (.var 8))]) (.cons (.ret (.lit (.bl false))) .nil) (.nil)) (.cons (.ifs (.cmp .Eq (.var 5) (.lit (.str (Str.ofString "write")))) (.cons (.setIx (.var 3) (.var 6) (.var 7)) .nil) (.nil)) .nil)))))) (.cons (.ret (.lit (.bl true))) .nil)))))⟩
/-- slots of _law_ended_read: 0=_law_history_here 1=_law_k -/
def f__law_ended_read : Fn := ⟨2, 2, .cons (.ret (.and (.cmp .Eq (.ix (.ix (.var 0) (.var 1)) (.lit (.int 0))) (.lit (.str (Str.ofString "read")))) (.cmp .IsNot (.ix (.ix (.var 0) (.var 1)) (.lit (.int 4))) (.lit .non)))) .nil⟩
/-- slots of _law_tells: 0=_law_history_here 1=_law_k -/
def f__law_tells : Fn := ⟨2, 2, .cons (.ret (.or (.cmp .Eq (.ix (.ix (.var 0) (.var 1)) (.lit (.int 0))) (.lit (.str (Str.ofString "write")))) (.and (.call (Str.ofString "_law_ended_read") [.var 0, .var 1]) (.cmp .IsNot (.ix (.ix (.var 0) (.var 1)) (.lit (.int 2))) (.lit .non))))) .nil⟩
/-- slots of _law_ahead: 0=_law_history_here 1=_law_one 2=_law_other -/
def f__law_ahead : Fn := ⟨3, 3, .cons (.ret (.and (.cmp .IsNot (.ix (.ix (.var 0) (.var 1)) (.lit (.int 4))) (.lit .non)) (.cmp .Lt (.ix (.ix (.var 0) (.var 1)) (.lit (.int 4))) (.ix (.ix (.var 0) (.var 2)) (.lit (.int 3)))))) .nil⟩
/-- slots of _law_is_bar: 0=_law_history_here 1=_law_thing 2=_law_word 3=_law_rest 4=_law_writers 5=_law_some 6=_law_none 7=_law_a 8=_law_b 9=_law_c 10=_law_d 11=_law_k -/
def f__law_is_bar : Fn := ⟨2, 12, .cons (.ifs (.or (.not (.prim .isinst [.var 1, .lit (.ty "tuple")])) (.or (.cmp .Eq (.var 1) (.tup [])) (.not (.prim .isinst [.ix (.var 1) (.lit (.int 0)), .lit (.ty "str")])))) (.cons (.ret (.lit (.bl false))) .nil) (.nil)) (.cons (.ifs (.not (.prim .all [.lc [11] (.name 11) (.val (.sl (.var 1) (some (.lit (.int 1))) none)) none (.and (.call (Str.ofString "_law_is_int") [.var 11]) (.chain .LtE .Lt (.lit (.int 0)) (.var 11) (.prim .len [.var 0])))])) (.cons (.ret (.lit (.bl false))) .nil) (.nil)) (.cons (.unpack [2, 3] (.tup [.ix (.var 1) (.lit (.int 0)), .sl (.var 1) (some (.lit (.int 1))) none])) (.cons (.set 4 (.lc [11] (.name 11) (.range (.lit (.int 0)) (.prim .len [.var 0])) (some (.cmp .Eq (.ix (.ix (.var 0) (.var 11)) (.lit (.int 0))) (.lit (.str (Str.ofString "write"))))) (.var 11))) (.cons (.ifs (.cmp .In (.var 2) (.tup [.lit (.str (Str.ofString "strange")), .lit (.str (Str.ofString "early"))])) (.cons (.ifs (.or (.cmp .NotEq (.prim .len [.var 3]) (.lit (.int 1))) (.or (.not (.call (Str.ofString "_law_ended_read") [.var 0, .ix (.var 3) (.lit (.int 0))])) (.cmp .Is (.ix (.ix (.var 0) (.ix (.var 3) (.lit (.int 0)))) (.lit (.int 2))) (.lit .non)))) (.cons (.ret (.lit (.bl false))) .nil) (.nil)) (.cons (.set 5 (.lc [11] (.name 11) (.keys 4) (some (.cmp .Eq (.sl (.ix (.var 0) (.var 11)) (some (.lit (.int 1))) (some (.lit (.int 3)))) (.sl (.ix (.var 0) (.ix (.var 3) (.lit (.int 0)))) (some (.lit (.int 1))) (some (.lit (.int 3)))))) (.var 11))) (.cons (.ret (.ite (.cmp .Eq (.var 2) (.lit (.str (Str.ofString "strange")))) (.cmp .Eq (.var 5) (.lst [])) (.and (.cmp .NotEq (.var 5) (.lst [])) (.call (Str.ofString "_law_ahead") [.var 0, .ix (.var 3) (.lit (.int 0)), .ix (.var 5) (.lit (.int 0))])))) .nil))) (.nil)) (.cons (.ifs (.cmp .Eq (.var 2) (.lit (.str (Str.ofString "late")))) (.cons (.ifs (.or (.cmp .NotEq (.prim .len [.var 3]) (.lit (.int 2))) (.or (.cmp .NotEq (.ix (.ix (.var 0) (.ix (.var 3) (.lit (.int 0)))) (.lit (.int 1))) (.ix (.ix (.var 0) (.ix (.var 3) (.lit (.int 1)))) (.lit (.int 1)))) (.not (.call (Str.ofString "_law_tells") [.var 0, .ix (.var 3) (.lit (.int 0))])))) (.cons (.ret (.lit (.bl false))) .nil) (.nil)) (.cons (.set 6 (.and (.call (Str.ofString "_law_ended_read") [.var 0, .ix (.var 3) (.lit (.int 1))]) (.cmp .Is (.ix (.ix (.var 0) (.ix (.var 3) (.lit (.int 1)))) (.lit (.int 2))) (.lit .non)))) (.cons (.ret (.and (.var 6) (.call (Str.ofString "_law_ahead") [.var 0, .ix (.var 3) (.lit (.int 0)), .ix (.var 3) (.lit (.int 1))]))) .nil))) (.nil)) (.cons (.ifs (.or (.cmp .NotEq (.var 2) (.lit (.str (Str.ofString "crossed")))) (.or (.cmp .NotEq (.prim .len [.var 3]) (.lit (.int 4))) (.not (.prim .all [.lc [11] (.name 11) (.keys 3) none (.call (Str.ofString "_law_tells") [.var 0, .var 11])])))) (.cons (.ret (.lit (.bl false))) .nil) (.nil)) (.cons (.unpack [7, 8, 9, 10] (.var 3)) (.cons (.ifs (.or (.cmp .NotEq (.sl (.ix (.var 0) (.var 7)) (some (.lit (.int 1))) (some (.lit (.int 3)))) (.sl (.ix (.var 0) (.var 8)) (some (.lit (.int 1))) (some (.lit (.int 3))))) (.or (.cmp .NotEq (.sl (.ix (.var 0) (.var 9)) (some (.lit (.int 1))) (some (.lit (.int 3)))) (.sl (.ix (.var 0) (.var 10)) (some (.lit (.int 1))) (some (.lit (.int 3))))) (.cmp .NotEq (.ix (.ix (.var 0) (.var 7)) (.lit (.int 1))) (.ix (.ix (.var 0) (.var 9)) (.lit (.int 1)))))) (.cons (.ret (.lit (.bl false))) .nil) (.nil)) (.cons (.ret (.and (.cmp .NotEq (.ix (.ix (.var 0) (.var 7)) (.lit (.int 2))) (.ix (.ix (.var 0) (.var 9)) (.lit (.int 2)))) (.and (.call (Str.ofString "_law_ahead") [.var 0, .var 7, .var 9]) (.call (Str.ofString "_law_ahead") [.var 0, .var 10, .var 8])))) .nil)))))))))⟩
/-- slots of _law_bent_order: 0=_law_hand_here 1=_law_told 2=_law_many 3=_law_row 4=_law_at 5=_law_odd -/
def f__law_bent_order : Fn := ⟨3, 6, .cons (.set 3 (.ite (.cmp .IsNot (.var 1) (.lit .non)) (.var 1) (.prim .listRange [.lit (.int 0), .var 2]))) (.cons (.set 4 (.call (Str.ofString "_law_draw") [.var 0, .bin .Add (.prim .len [.var 3]) (.lit (.int 1))])) (.cons (.set 5 (.lst [.var 3, .rev (.var 3), .bin .Add (.sl (.var 3) none (some (.var 4))) (.sl (.var 3) (some (.bin .Add (.var 4) (.lit (.int 1)))) none), .bin .Add (.var 3) (.sl (.var 3) none (some (.lit (.int 1)))), .prim .tupleOf [.var 3], .lit .non, .bin .Add (.bin .Add (.sl (.var 3) none (some (.var 4))) (.lst [.var 2])) (.sl (.var 3) (some (.var 4)) none)])) (.cons (.expr (.meth .extend (.var 5) [.lst [.lst [.lit (.bl true)], .bin .Add (.bin .Add (.sl (.var 3) none (some (.var 4))) (.rev (.sl (.var 3) (some (.var 4)) (some (.bin .Add (.var 4) (.lit (.int 2))))))) (.sl (.var 3) (some (.bin .Add (.var 4) (.lit (.int 2)))) none), .lst [], .dic, .lit (.str (Str.ofString "order")), .lst [.lit .non], .bin .Add (.sl (.var 3) none (some (.var 4))) (.lst [.neg (.lit (.int 1))])]])) (.cons (.ret (.ix (.var 5) (.call (Str.ofString "_law_draw") [.var 0, .lit (.int 14)]))) .nil))))⟩
/-- slots of _law_bent_bar: 0=_law_hand_here 1=_law_told 2=_law_many 3=_law_word 4=_law_rest 5=_law_odd 6=_law_k -/
def f__law_bent_bar : Fn := ⟨3, 7, .cons (.set 3 (.ix (.lst [.lit (.str (Str.ofString "strange")), .lit (.str (Str.ofString "early")), .lit (.str (Str.ofString "late")), .lit (.str (Str.ofString "crossed")), .lit (.str (Str.ofString "other"))]) (.call (Str.ofString "_law_draw") [.var 0, .lit (.int 5)]))) (.cons (.set 4 (.prim .tupleOf [.lc [6] (.name 6) (.range (.lit (.int 0)) (.ix (.lst [.lit (.int 1), .lit (.int 2), .lit (.int 4), .lit (.int 4)]) (.call (Str.ofString "_law_draw") [.var 0, .lit (.int 4)]))) none (.call (Str.ofString "_law_draw") [.var 0, .bin .Add (.var 2) (.lit (.int 1))])])) (.cons (.set 5 (.lst [.var 1, .var 1, .bin .Add (.tup [.var 3]) (.var 4), .bin .Add (.tup [.var 3]) (.var 4), .tup [.var 3], .lit .non, .tup [], .lst [.var 3, .lit (.int 0)], .tup [.var 3, .lit (.bl true)], .tup [.var 3, .lit .non], .lit (.int 5)])) (.cons (.ifs (.cmp .IsNot (.var 1) (.lit .non)) (.cons (.expr (.meth .extend (.var 5) [.lst [.bin .Add (.sl (.var 1) none (some (.lit (.int 1)))) (.rev (.sl (.var 1) (some (.lit (.int 1))) none)), .bin .Add (.tup [.var 3]) (.sl (.var 1) (some (.lit (.int 1))) none), .sl (.var 1) none (some (.neg (.lit (.int 1)))), .prim .listOf [.var 1]]])) .nil) (.nil)) (.cons (.ret (.ix (.var 5) (.call (Str.ofString "_law_draw") [.var 0, .prim .len [.var 5]]))) .nil))))⟩
/-- slots of law: 0=_law_script 1=_law_hand_here 2=_law_turn 3=_law_history_here 4=_law_due 5=_law_row 6=_law_what 7=_law_again 8=_law_thing 9=_law_flag -/
def f_law : Fn := ⟨1, 10, .cons (.set 1 (.call (Str.ofString "_law_hand") [.var 0])) (.cons (.for (.name 2) (.range (.lit (.int 0)) (.lit (.int 4))) (.cons (.set 3 (.call (Str.ofString "_law_history") [.var 1, .lit (.int 6), .ix (.lst [.lst [.lit (.str (Str.ofString "a"))], .lst [.lit (.str (Str.ofString "a"))], .lst [.lit (.str (Str.ofString "a")), .lit (.str (Str.ofString "b"))]]) (.call (Str.ofString "_law_draw") [.var 1, .lit (.int 3)])])) (.cons (.set 4 (.call (Str.ofString "_law_is_right") [.var 3])) (.cons (.par [5, 6] [.call (Str.ofString "right_order") [.var 3], .call (Str.ofString "bar") [.var 3]]) (.cons (.ifs (.or (.cmp .IsNot (.call (Str.ofString "is_history") [.var 3]) (.lit (.bl true))) (.or (.cmp .NotEq (.cmp .IsNot (.var 5) (.lit .non)) (.var 4)) (.cmp .NotEq (.cmp .Is (.var 6) (.lit .non)) (.var 4)))) (.cons (.ret (.lit (.bl false))) .nil) (.nil)) (.cons (.ifs (.or (.and (.cmp .IsNot (.var 5) (.lit .non)) (.not (.call (Str.ofString "_law_is_order") [.var 3, .var 5]))) (.and (.cmp .IsNot (.var 6) (.lit .non)) (.not (.call (Str.ofString "_law_is_bar") [.var 3, .var 6])))) (.cons (.ret (.lit (.bl false))) .nil) (.nil)) (.cons (.for (.name 7) (.range (.lit (.int 0)) (.lit (.int 5))) (.cons (.set 8 (.call (Str.ofString "_law_bent_order") [.var 1, .var 5, .prim .len [.var 3]])) (.cons (.set 9 (.call (Str.ofString "is_right_order") [.var 3, .var 8])) (.cons (.ifs (.or (.not (.prim .isinst [.var 9, .lit (.ty "bool")])) (.cmp .NotEq (.var 9) (.call (Str.ofString "_law_is_order") [.var 3, .var 8]))) (.cons (.ret (.lit (.bl false))) .nil) (.nil)) (.cons (.set 8 (.call (Str.ofString "_law_bent_bar") [.var 1, .var 6, .prim .len [.var 3]])) (.cons (.set 9 (.call (Str.ofString "is_bar") [.var 3, .var 8])) (.cons (.ifs (.or (.not (.prim .isinst [.var 9, .lit (.ty "bool")])) (.cmp .NotEq (.var 9) (.call (Str.ofString "_law_is_bar") [.var 3, .var 8]))) (.cons (.ret (.lit (.bl false))) .nil) (.nil)) .nil))))))) .nil))))))) (.cons (.ret (.lit (.bl true))) .nil))⟩
def f_tab : List (Str × Fn) := [(Str.ofString "is_integer", f_is_integer), (Str.ofString "is_between", f_is_between), (Str.ofString "is_index", f_is_index), (Str.ofString "is_tuple_of", f_is_tuple_of), (Str.ofString "is_sign", f_is_sign), (Str.ofString "is_signs", f_is_signs), (Str.ofString "is_thing", f_is_thing), (Str.ofString "is_call", f_is_call), (Str.ofString "moments_of", f_moments_of), (Str.ofString "is_history", f_is_history), (Str.ofString "check_history", f_check_history), (Str.ofString "writer_of", f_writer_of), (Str.ofString "counts", f_counts), (Str.ofString "groups_of", f_groups_of), (Str.ofString "first_end", f_first_end), (Str.ofString "last_begin", f_last_begin), (Str.ofString "is_ahead", f_is_ahead), (Str.ofString "single_bar", f_single_bar), (Str.ofString "late_bar", f_late_bar), (Str.ofString "crossed_bar", f_crossed_bar), (Str.ofString "crossed", f_crossed), (Str.ofString "raw_bar", f_raw_bar), (Str.ofString "bar", f_bar), (Str.ofString "tail", f_tail), (Str.ofString "name_order", f_name_order), (Str.ofString "right_order", f_right_order), (Str.ofString "is_right_order", f_is_right_order), (Str.ofString "are_behind", f_are_behind), (Str.ofString "are_told", f_are_told), (Str.ofString "is_bar", f_is_bar), (Str.ofString "is_single", f_is_single), (Str.ofString "tells", f_tells), (Str.ofString "is_late", f_is_late), (Str.ofString "is_crossed", f_is_crossed), (Str.ofString "_law_hand", f__law_hand), (Str.ofString "_law_draw", f__law_draw), (Str.ofString "_law_call", f__law_call), (Str.ofString "_law_history", f__law_history), (Str.ofString "_law_read", f__law_read), (Str.ofString "_law_goes", f__law_goes), (Str.ofString "_law_is_right", f__law_is_right), (Str.ofString "_law_is_int", f__law_is_int), (Str.ofString "_law_is_order", f__law_is_order), (Str.ofString "_law_ended_read", f__law_ended_read), (Str.ofString "_law_tells", f__law_tells), (Str.ofString "_law_ahead", f__law_ahead), (Str.ofString "_law_is_bar", f__law_is_bar), (Str.ofString "_law_bent_order", f__law_bent_order), (Str.ofString "_law_bent_bar", f__law_bent_bar), (Str.ofString "law", f_law)]
def f_cons : List (Str × D) := [(Str.ofString "GREATEST", .int 999999999999999999999999999999), (Str.ofString "READ", .str (Str.ofString "read")), (Str.ofString "WRITE", .str (Str.ofString "write")), (Str.ofString "MOST_TOLD", .int 5)]
def f_free : List Str := [Str.ofString "abs", Str.ofString "all", Str.ofString "any", Str.ofString "bool", Str.ofString "enumerate", Str.ofString "int", Str.ofString "isinstance", Str.ofString "len", Str.ofString "list", Str.ofString "max", Str.ofString "min", Str.ofString "range", Str.ofString "set", Str.ofString "sorted", Str.ofString "str", Str.ofString "tuple"]
end K47
set_option Elab.async false
set_option linter.all false
set_option maxRecDepth 100000
set_option maxHeartbeats 0
/-! k47: the translation of each def is the table's (printed by irgen.py). -/
namespace K47
open PySem PySem.Spec PyProof.Rows L2 Ev
def top (i : Nat) : Stmt := PySem.Challenge.pw_leasefiles_k47_whole_histories_by_trying.main.body.getD i (.Pass ⟨0, 0, 0, 0⟩)
def f_T : Tab := ⟨fun x => (f_tab.lookup x).map (·.ps), fun x => f_cons.lookup x, fun x => f_free.contains x⟩
def f_N_is_integer : List Str := [Str.ofString "thing"]
def f_P_is_integer : List Str := [Str.ofString "thing"]
theorem f_S_is_integer : FnScope f_N_is_integer f_P_is_integer (defScope (top 4)) := ⟨rfl, rfl, rfl, by decide +kernel, rfl, by decide +kernel, by decide +kernel⟩
theorem f_C_is_integer : cSs f_T f_N_is_integer 60 (defScope (top 4)) (fun _ => true) (defBody (top 4)) = some f_is_integer.body := by kernel_rfl
def f_N_is_between : List Str := [Str.ofString "thing", Str.ofString "least", Str.ofString "most"]
def f_P_is_between : List Str := [Str.ofString "thing", Str.ofString "least", Str.ofString "most"]
theorem f_S_is_between : FnScope f_N_is_between f_P_is_between (defScope (top 5)) := ⟨rfl, rfl, rfl, by decide +kernel, rfl, by decide +kernel, by decide +kernel⟩
theorem f_C_is_between : cSs f_T f_N_is_between 60 (defScope (top 5)) (fun _ => true) (defBody (top 5)) = some f_is_between.body := by kernel_rfl
def f_N_is_index : List Str := [Str.ofString "thing", Str.ofString "many"]
def f_P_is_index : List Str := [Str.ofString "thing", Str.ofString "many"]
theorem f_S_is_index : FnScope f_N_is_index f_P_is_index (defScope (top 6)) := ⟨rfl, rfl, rfl, by decide +kernel, rfl, by decide +kernel, by decide +kernel⟩
theorem f_C_is_index : cSs f_T f_N_is_index 60 (defScope (top 6)) (fun _ => true) (defBody (top 6)) = some f_is_index.body := by kernel_rfl
def f_N_is_tuple_of : List Str := [Str.ofString "thing", Str.ofString "many"]
def f_P_is_tuple_of : List Str := [Str.ofString "thing", Str.ofString "many"]
theorem f_S_is_tuple_of : FnScope f_N_is_tuple_of f_P_is_tuple_of (defScope (top 7)) := ⟨rfl, rfl, rfl, by decide +kernel, rfl, by decide +kernel, by decide +kernel⟩
theorem f_C_is_tuple_of : cSs f_T f_N_is_tuple_of 60 (defScope (top 7)) (fun _ => true) (defBody (top 7)) = some f_is_tuple_of.body := by kernel_rfl
def f_N_is_sign : List Str := [Str.ofString "sign"]
def f_P_is_sign : List Str := [Str.ofString "sign"]
theorem f_S_is_sign : FnScope f_N_is_sign f_P_is_sign (defScope (top 10)) := ⟨rfl, rfl, rfl, by decide +kernel, rfl, by decide +kernel, by decide +kernel⟩
theorem f_C_is_sign : cSs f_T f_N_is_sign 60 (defScope (top 10)) (fun _ => true) (defBody (top 10)) = some f_is_sign.body := by kernel_rfl
def f_N_is_signs : List Str := [Str.ofString "thing", Str.ofString "sign"]
def f_P_is_signs : List Str := [Str.ofString "thing"]
theorem f_S_is_signs : FnScope f_N_is_signs f_P_is_signs (defScope (top 11)) := ⟨rfl, rfl, rfl, by decide +kernel, rfl, by decide +kernel, by decide +kernel⟩
theorem f_C_is_signs : cSs f_T f_N_is_signs 60 (defScope (top 11)) (fun _ => true) (defBody (top 11)) = some f_is_signs.body := by kernel_rfl
def f_N_is_thing : List Str := [Str.ofString "thing", Str.ofString "deep", Str.ofString "item"]
def f_P_is_thing : List Str := [Str.ofString "thing", Str.ofString "deep"]
theorem f_S_is_thing : FnScope f_N_is_thing f_P_is_thing (defScope (top 12)) := ⟨rfl, rfl, rfl, by decide +kernel, rfl, by decide +kernel, by decide +kernel⟩
theorem f_C_is_thing : cSs f_T f_N_is_thing 60 (defScope (top 12)) (fun _ => true) (defBody (top 12)) = some f_is_thing.body := by kernel_rfl
def f_N_is_call : List Str := [Str.ofString "thing", Str.ofString "kind", Str.ofString "name", Str.ofString "told", Str.ofString "begin", Str.ofString "end"]
def f_P_is_call : List Str := [Str.ofString "thing"]
theorem f_S_is_call : FnScope f_N_is_call f_P_is_call (defScope (top 17)) := ⟨rfl, rfl, rfl, by decide +kernel, rfl, by decide +kernel, by decide +kernel⟩
theorem f_C_is_call : cSs f_T f_N_is_call 60 (defScope (top 17)) (fun _ => true) (defBody (top 17)) = some f_is_call.body := by kernel_rfl
def f_N_moments_of : List Str := [Str.ofString "calls", Str.ofString "found", Str.ofString "call", Str.ofString "moment"]
def f_P_moments_of : List Str := [Str.ofString "calls"]
theorem f_S_moments_of : FnScope f_N_moments_of f_P_moments_of (defScope (top 18)) := ⟨rfl, rfl, rfl, by decide +kernel, rfl, by decide +kernel, by decide +kernel⟩
theorem f_C_moments_of : cSs f_T f_N_moments_of 60 (defScope (top 18)) (fun _ => true) (defBody (top 18)) = some f_moments_of.body := by kernel_rfl
def f_N_is_history : List Str := [Str.ofString "thing", Str.ofString "moments", Str.ofString "written", Str.ofString "call", Str.ofString "pair"]
def f_P_is_history : List Str := [Str.ofString "thing"]
theorem f_S_is_history : FnScope f_N_is_history f_P_is_history (defScope (top 19)) := ⟨rfl, rfl, rfl, by decide +kernel, rfl, by decide +kernel, by decide +kernel⟩
theorem f_C_is_history : cSs f_T f_N_is_history 60 (defScope (top 19)) (fun _ => true) (defBody (top 19)) = some f_is_history.body := by kernel_rfl
def f_N_check_history : List Str := [Str.ofString "thing"]
def f_P_check_history : List Str := [Str.ofString "thing"]
theorem f_S_check_history : FnScope f_N_check_history f_P_check_history (defScope (top 20)) := ⟨rfl, rfl, rfl, by decide +kernel, rfl, by decide +kernel, by decide +kernel⟩
theorem f_C_check_history : cSs f_T f_N_check_history 60 (defScope (top 20)) (fun _ => true) (defBody (top 20)) = some f_check_history.body := by kernel_rfl
def f_N_writer_of : List Str := [Str.ofString "history", Str.ofString "call", Str.ofString "index", Str.ofString "other"]
def f_P_writer_of : List Str := [Str.ofString "history", Str.ofString "call"]
theorem f_S_writer_of : FnScope f_N_writer_of f_P_writer_of (defScope (top 21)) := ⟨rfl, rfl, rfl, by decide +kernel, rfl, by decide +kernel, by decide +kernel⟩
theorem f_C_writer_of : cSs f_T f_N_writer_of 60 (defScope (top 21)) (fun _ => true) (defBody (top 21)) = some f_writer_of.body := by kernel_rfl
def f_N_counts : List Str := [Str.ofString "history", Str.ofString "index", Str.ofString "call", Str.ofString "other"]
def f_P_counts : List Str := [Str.ofString "history", Str.ofString "index"]
theorem f_S_counts : FnScope f_N_counts f_P_counts (defScope (top 22)) := ⟨rfl, rfl, rfl, by decide +kernel, rfl, by decide +kernel, by decide +kernel⟩
theorem f_C_counts : cSs f_T f_N_counts 60 (defScope (top 22)) (fun _ => true) (defBody (top 22)) = some f_counts.body := by kernel_rfl
def f_N_groups_of : List Str := [Str.ofString "history", Str.ofString "found", Str.ofString "index", Str.ofString "call"]
def f_P_groups_of : List Str := [Str.ofString "history"]
theorem f_S_groups_of : FnScope f_N_groups_of f_P_groups_of (defScope (top 23)) := ⟨rfl, rfl, rfl, by decide +kernel, rfl, by decide +kernel, by decide +kernel⟩
theorem f_C_groups_of : cSs f_T f_N_groups_of 60 (defScope (top 23)) (fun _ => true) (defBody (top 23)) = some f_groups_of.body := by kernel_rfl
def f_N_first_end : List Str := [Str.ofString "history", Str.ofString "group", Str.ofString "ended", Str.ofString "index"]
def f_P_first_end : List Str := [Str.ofString "history", Str.ofString "group"]
theorem f_S_first_end : FnScope f_N_first_end f_P_first_end (defScope (top 24)) := ⟨rfl, rfl, rfl, by decide +kernel, rfl, by decide +kernel, by decide +kernel⟩
theorem f_C_first_end : cSs f_T f_N_first_end 60 (defScope (top 24)) (fun _ => true) (defBody (top 24)) = some f_first_end.body := by kernel_rfl
def f_N_last_begin : List Str := [Str.ofString "history", Str.ofString "group", Str.ofString "index"]
def f_P_last_begin : List Str := [Str.ofString "history", Str.ofString "group"]
theorem f_S_last_begin : FnScope f_N_last_begin f_P_last_begin (defScope (top 25)) := ⟨rfl, rfl, rfl, by decide +kernel, rfl, by decide +kernel, by decide +kernel⟩
theorem f_C_last_begin : cSs f_T f_N_last_begin 60 (defScope (top 25)) (fun _ => true) (defBody (top 25)) = some f_last_begin.body := by kernel_rfl
def f_N_is_ahead : List Str := [Str.ofString "history", Str.ofString "one", Str.ofString "other", Str.ofString "first", Str.ofString "last"]
def f_P_is_ahead : List Str := [Str.ofString "history", Str.ofString "one", Str.ofString "other"]
theorem f_S_is_ahead : FnScope f_N_is_ahead f_P_is_ahead (defScope (top 26)) := ⟨rfl, rfl, rfl, by decide +kernel, rfl, by decide +kernel, by decide +kernel⟩
theorem f_C_is_ahead : cSs f_T f_N_is_ahead 60 (defScope (top 26)) (fun _ => true) (defBody (top 26)) = some f_is_ahead.body := by kernel_rfl
def f_N_single_bar : List Str := [Str.ofString "history", Str.ofString "index", Str.ofString "call", Str.ofString "writer"]
def f_P_single_bar : List Str := [Str.ofString "history"]
theorem f_S_single_bar : FnScope f_N_single_bar f_P_single_bar (defScope (top 27)) := ⟨rfl, rfl, rfl, by decide +kernel, rfl, by decide +kernel, by decide +kernel⟩
theorem f_C_single_bar : cSs f_T f_N_single_bar 60 (defScope (top 27)) (fun _ => true) (defBody (top 27)) = some f_single_bar.body := by kernel_rfl
def f_N_late_bar : List Str := [Str.ofString "history", Str.ofString "groups", Str.ofString "pair", Str.ofString "group", Str.ofString "nothing"]
def f_P_late_bar : List Str := [Str.ofString "history"]
theorem f_S_late_bar : FnScope f_N_late_bar f_P_late_bar (defScope (top 28)) := ⟨rfl, rfl, rfl, by decide +kernel, rfl, by decide +kernel, by decide +kernel⟩
theorem f_C_late_bar : cSs f_T f_N_late_bar 60 (defScope (top 28)) (fun _ => true) (defBody (top 28)) = some f_late_bar.body := by kernel_rfl
def f_N_crossed_bar : List Str := [Str.ofString "history", Str.ofString "groups", Str.ofString "pairs", Str.ofString "at", Str.ofString "one", Str.ofString "other", Str.ofString "pair"]
def f_P_crossed_bar : List Str := [Str.ofString "history"]
theorem f_S_crossed_bar : FnScope f_N_crossed_bar f_P_crossed_bar (defScope (top 29)) := ⟨rfl, rfl, rfl, by decide +kernel, rfl, by decide +kernel, by decide +kernel⟩
theorem f_C_crossed_bar : cSs f_T f_N_crossed_bar 60 (defScope (top 29)) (fun _ => true) (defBody (top 29)) = some f_crossed_bar.body := by kernel_rfl
def f_N_crossed : List Str := [Str.ofString "history", Str.ofString "one", Str.ofString "other", Str.ofString "ends", Str.ofString "begins"]
def f_P_crossed : List Str := [Str.ofString "history", Str.ofString "one", Str.ofString "other"]
theorem f_S_crossed : FnScope f_N_crossed f_P_crossed (defScope (top 30)) := ⟨rfl, rfl, rfl, by decide +kernel, rfl, by decide +kernel, by decide +kernel⟩
theorem f_C_crossed : cSs f_T f_N_crossed 60 (defScope (top 30)) (fun _ => true) (defBody (top 30)) = some f_crossed.body := by kernel_rfl
def f_N_raw_bar : List Str := [Str.ofString "history", Str.ofString "told"]
def f_P_raw_bar : List Str := [Str.ofString "history"]
theorem f_S_raw_bar : FnScope f_N_raw_bar f_P_raw_bar (defScope (top 31)) := ⟨rfl, rfl, rfl, by decide +kernel, rfl, by decide +kernel, by decide +kernel⟩
theorem f_C_raw_bar : cSs f_T f_N_raw_bar 60 (defScope (top 31)) (fun _ => true) (defBody (top 31)) = some f_raw_bar.body := by kernel_rfl
def f_N_bar : List Str := [Str.ofString "history"]
def f_P_bar : List Str := [Str.ofString "history"]
theorem f_S_bar : FnScope f_N_bar f_P_bar (defScope (top 32)) := ⟨rfl, rfl, rfl, by decide +kernel, rfl, by decide +kernel, by decide +kernel⟩
theorem f_C_bar : cSs f_T f_N_bar 60 (defScope (top 32)) (fun _ => true) (defBody (top 32)) = some f_bar.body := by kernel_rfl
def f_N_tail : List Str := [Str.ofString "history", Str.ofString "group", Str.ofString "reads", Str.ofString "index", Str.ofString "begin"]
def f_P_tail : List Str := [Str.ofString "history", Str.ofString "group"]
theorem f_S_tail : FnScope f_N_tail f_P_tail (defScope (top 33)) := ⟨rfl, rfl, rfl, by decide +kernel, rfl, by decide +kernel, by decide +kernel⟩
theorem f_C_tail : cSs f_T f_N_tail 60 (defScope (top 33)) (fun _ => true) (defBody (top 33)) = some f_tail.body := by kernel_rfl
def f_N_name_order : List Str := [Str.ofString "history", Str.ofString "groups", Str.ofString "left", Str.ofString "found", Str.ofString "free", Str.ofString "one", Str.ofString "other"]
def f_P_name_order : List Str := [Str.ofString "history", Str.ofString "groups"]
theorem f_S_name_order : FnScope f_N_name_order f_P_name_order (defScope (top 34)) := ⟨rfl, rfl, rfl, by decide +kernel, rfl, by decide +kernel, by decide +kernel⟩
theorem f_C_name_order : cSs f_T f_N_name_order 60 (defScope (top 34)) (fun _ => true) (defBody (top 34)) = some f_name_order.body := by kernel_rfl
def f_N_right_order : List Str := [Str.ofString "history", Str.ofString "groups", Str.ofString "names", Str.ofString "found", Str.ofString "name", Str.ofString "told", Str.ofString "pair"]
def f_P_right_order : List Str := [Str.ofString "history"]
theorem f_S_right_order : FnScope f_N_right_order f_P_right_order (defScope (top 35)) := ⟨rfl, rfl, rfl, by decide +kernel, rfl, by decide +kernel, by decide +kernel⟩
theorem f_C_right_order : cSs f_T f_N_right_order 60 (defScope (top 35)) (fun _ => true) (defBody (top 35)) = some f_right_order.body := by kernel_rfl
def f_N_is_right_order : List Str := [Str.ofString "history", Str.ofString "thing", Str.ofString "many", Str.ofString "index", Str.ofString "call"]
def f_P_is_right_order : List Str := [Str.ofString "history", Str.ofString "thing"]
theorem f_S_is_right_order : FnScope f_N_is_right_order f_P_is_right_order (defScope (top 36)) := ⟨rfl, rfl, rfl, by decide +kernel, rfl, by decide +kernel, by decide +kernel⟩
theorem f_C_is_right_order : cSs f_T f_N_is_right_order 60 (defScope (top 36)) (fun _ => true) (defBody (top 36)) = some f_is_right_order.body := by kernel_rfl
def f_N_are_behind : List Str := [Str.ofString "history", Str.ofString "row", Str.ofString "at", Str.ofString "index", Str.ofString "other", Str.ofString "end"]
def f_P_are_behind : List Str := [Str.ofString "history", Str.ofString "row"]
theorem f_S_are_behind : FnScope f_N_are_behind f_P_are_behind (defScope (top 37)) := ⟨rfl, rfl, rfl, by decide +kernel, rfl, by decide +kernel, by decide +kernel⟩
theorem f_C_are_behind : cSs f_T f_N_are_behind 60 (defScope (top 37)) (fun _ => true) (defBody (top 37)) = some f_are_behind.body := by kernel_rfl
def f_N_are_told : List Str := [Str.ofString "history", Str.ofString "row", Str.ofString "written", Str.ofString "index", Str.ofString "kind", Str.ofString "name", Str.ofString "told", Str.ofString "begin", Str.ofString "end"]
def f_P_are_told : List Str := [Str.ofString "history", Str.ofString "row"]
theorem f_S_are_told : FnScope f_N_are_told f_P_are_told (defScope (top 38)) := ⟨rfl, rfl, rfl, by decide +kernel, rfl, by decide +kernel, by decide +kernel⟩
theorem f_C_are_told : cSs f_T f_N_are_told 60 (defScope (top 38)) (fun _ => true) (defBody (top 38)) = some f_are_told.body := by kernel_rfl
def f_N_is_bar : List Str := [Str.ofString "history", Str.ofString "thing", Str.ofString "calls", Str.ofString "index"]
def f_P_is_bar : List Str := [Str.ofString "history", Str.ofString "thing"]
theorem f_S_is_bar : FnScope f_N_is_bar f_P_is_bar (defScope (top 39)) := ⟨rfl, rfl, rfl, by decide +kernel, rfl, by decide +kernel, by decide +kernel⟩
theorem f_C_is_bar : cSs f_T f_N_is_bar 60 (defScope (top 39)) (fun _ => true) (defBody (top 39)) = some f_is_bar.body := by kernel_rfl
def f_N_is_single : List Str := [Str.ofString "history", Str.ofString "word", Str.ofString "call", Str.ofString "writer"]
def f_P_is_single : List Str := [Str.ofString "history", Str.ofString "word", Str.ofString "call"]
theorem f_S_is_single : FnScope f_N_is_single f_P_is_single (defScope (top 40)) := ⟨rfl, rfl, rfl, by decide +kernel, rfl, by decide +kernel, by decide +kernel⟩
theorem f_C_is_single : cSs f_T f_N_is_single 60 (defScope (top 40)) (fun _ => true) (defBody (top 40)) = some f_is_single.body := by kernel_rfl
def f_N_tells : List Str := [Str.ofString "call"]
def f_P_tells : List Str := [Str.ofString "call"]
theorem f_S_tells : FnScope f_N_tells f_P_tells (defScope (top 41)) := ⟨rfl, rfl, rfl, by decide +kernel, rfl, by decide +kernel, by decide +kernel⟩
theorem f_C_tells : cSs f_T f_N_tells 60 (defScope (top 41)) (fun _ => true) (defBody (top 41)) = some f_tells.body := by kernel_rfl
def f_N_is_late : List Str := [Str.ofString "call", Str.ofString "read"]
def f_P_is_late : List Str := [Str.ofString "call", Str.ofString "read"]
theorem f_S_is_late : FnScope f_N_is_late f_P_is_late (defScope (top 42)) := ⟨rfl, rfl, rfl, by decide +kernel, rfl, by decide +kernel, by decide +kernel⟩
theorem f_C_is_late : cSs f_T f_N_is_late 60 (defScope (top 42)) (fun _ => true) (defBody (top 42)) = some f_is_late.body := by kernel_rfl
def f_N_is_crossed : List Str := [Str.ofString "calls", Str.ofString "one", Str.ofString "two", Str.ofString "three", Str.ofString "four", Str.ofString "call"]
def f_P_is_crossed : List Str := [Str.ofString "calls"]
theorem f_S_is_crossed : FnScope f_N_is_crossed f_P_is_crossed (defScope (top 43)) := ⟨rfl, rfl, rfl, by decide +kernel, rfl, by decide +kernel, by decide +kernel⟩
theorem f_C_is_crossed : cSs f_T f_N_is_crossed 60 (defScope (top 43)) (fun _ => true) (defBody (top 43)) = some f_is_crossed.body := by kernel_rfl
def f_N__law_hand : List Str := [Str.ofString "_law_script", Str.ofString "_law_cells", Str.ofString "_law_cell"]
def f_P__law_hand : List Str := [Str.ofString "_law_script"]
theorem f_S__law_hand : FnScope f_N__law_hand f_P__law_hand (defScope (top 45)) := ⟨rfl, rfl, rfl, by decide +kernel, rfl, by decide +kernel, by decide +kernel⟩
theorem f_C__law_hand : cSs f_T f_N__law_hand 60 (defScope (top 45)) (fun _ => true) (defBody (top 45)) = some f__law_hand.body := by kernel_rfl
def f_N__law_draw : List Str := [Str.ofString "_law_hand_here", Str.ofString "_law_many", Str.ofString "_law_cell", Str.ofString "_law_digit", Str.ofString "_law_number"]
def f_P__law_draw : List Str := [Str.ofString "_law_hand_here", Str.ofString "_law_many"]
theorem f_S__law_draw : FnScope f_N__law_draw f_P__law_draw (defScope (top 46)) := ⟨rfl, rfl, rfl, by decide +kernel, rfl, by decide +kernel, by decide +kernel⟩
theorem f_C__law_draw : cSs f_T f_N__law_draw 60 (defScope (top 46)) (fun _ => true) (defBody (top 46)) = some f__law_draw.body := by kernel_rfl
def f_N__law_call : List Str := [Str.ofString "_law_hand_here", Str.ofString "_law_moments", Str.ofString "_law_told", Str.ofString "_law_begin", Str.ofString "_law_later", Str.ofString "_law_end", Str.ofString "_law_moment"]
def f_P__law_call : List Str := [Str.ofString "_law_hand_here", Str.ofString "_law_moments", Str.ofString "_law_told"]
theorem f_S__law_call : FnScope f_N__law_call f_P__law_call (defScope (top 47)) := ⟨rfl, rfl, rfl, by decide +kernel, rfl, by decide +kernel, by decide +kernel⟩
theorem f_C__law_call : cSs f_T f_N__law_call 60 (defScope (top 47)) (fun _ => true) (defBody (top 47)) = some f__law_call.body := by kernel_rfl
def f_N__law_history : List Str := [Str.ofString "_law_hand_here", Str.ofString "_law_most", Str.ofString "_law_names", Str.ofString "_law_many", Str.ofString "_law_moments", Str.ofString "_law_found", Str.ofString "_law_written", Str.ofString "_law_k", Str.ofString "_law_name", Str.ofString "_law_begin", Str.ofString "_law_end", Str.ofString "_law_told", Str.ofString "_law_call_here"]
def f_P__law_history : List Str := [Str.ofString "_law_hand_here", Str.ofString "_law_most", Str.ofString "_law_names"]
theorem f_S__law_history : FnScope f_N__law_history f_P__law_history (defScope (top 48)) := ⟨rfl, rfl, rfl, by decide +kernel, rfl, by decide +kernel, by decide +kernel⟩
theorem f_C__law_history : cSs f_T f_N__law_history 60 (defScope (top 48)) (fun _ => true) (defBody (top 48)) = some f__law_history.body := by kernel_rfl
def f_N__law_read : List Str := [Str.ofString "_law_hand_here", Str.ofString "_law_call_here", Str.ofString "_law_written", Str.ofString "_law_some", Str.ofString "_law_told"]
def f_P__law_read : List Str := [Str.ofString "_law_hand_here", Str.ofString "_law_call_here", Str.ofString "_law_written"]
theorem f_S__law_read : FnScope f_N__law_read f_P__law_read (defScope (top 49)) := ⟨rfl, rfl, rfl, by decide +kernel, rfl, by decide +kernel, by decide +kernel⟩
theorem f_C__law_read : cSs f_T f_N__law_read 60 (defScope (top 49)) (fun _ => true) (defBody (top 49)) = some f__law_read.body := by kernel_rfl
def f_N__law_goes : List Str := [Str.ofString "_law_calls", Str.ofString "_law_done", Str.ofString "_law_last", Str.ofString "_law_left", Str.ofString "_law_k", Str.ofString "_law_call_here", Str.ofString "_law_late", Str.ofString "_law_j"]
def f_P__law_goes : List Str := [Str.ofString "_law_calls", Str.ofString "_law_done", Str.ofString "_law_last"]
theorem f_S__law_goes : FnScope f_N__law_goes f_P__law_goes (defScope (top 50)) := ⟨rfl, rfl, rfl, by decide +kernel, rfl, by decide +kernel, by decide +kernel⟩
theorem f_C__law_goes : cSs f_T f_N__law_goes 60 (defScope (top 50)) (fun _ => true) (defBody (top 50)) = some f__law_goes.body := by kernel_rfl
def f_N__law_is_right : List Str := [Str.ofString "_law_history_here", Str.ofString "_law_name", Str.ofString "_law_call_here"]
def f_P__law_is_right : List Str := [Str.ofString "_law_history_here"]
theorem f_S__law_is_right : FnScope f_N__law_is_right f_P__law_is_right (defScope (top 51)) := ⟨rfl, rfl, rfl, by decide +kernel, rfl, by decide +kernel, by decide +kernel⟩
theorem f_C__law_is_right : cSs f_T f_N__law_is_right 60 (defScope (top 51)) (fun _ => true) (defBody (top 51)) = some f__law_is_right.body := by kernel_rfl
def f_N__law_is_int : List Str := [Str.ofString "_law_thing"]
def f_P__law_is_int : List Str := [Str.ofString "_law_thing"]
theorem f_S__law_is_int : FnScope f_N__law_is_int f_P__law_is_int (defScope (top 52)) := ⟨rfl, rfl, rfl, by decide +kernel, rfl, by decide +kernel, by decide +kernel⟩
theorem f_C__law_is_int : cSs f_T f_N__law_is_int 60 (defScope (top 52)) (fun _ => true) (defBody (top 52)) = some f__law_is_int.body := by kernel_rfl
def f_N__law_is_order : List Str := [Str.ofString "_law_history_here", Str.ofString "_law_thing", Str.ofString "_law_k", Str.ofString "_law_last", Str.ofString "_law_at", Str.ofString "_law_kind", Str.ofString "_law_name", Str.ofString "_law_told", Str.ofString "_law_begin", Str.ofString "_law_end", Str.ofString "_law_behind", Str.ofString "_law_call_here"]
def f_P__law_is_order : List Str := [Str.ofString "_law_history_here", Str.ofString "_law_thing"]
theorem f_S__law_is_order : FnScope f_N__law_is_order f_P__law_is_order (defScope (top 53)) := ⟨rfl, rfl, rfl, by decide +kernel, rfl, by decide +kernel, by decide +kernel⟩
theorem f_C__law_is_order : cSs f_T f_N__law_is_order 60 (defScope (top 53)) (fun _ => true) (defBody (top 53)) = some f__law_is_order.body := by kernel_rfl
def f_N__law_ended_read : List Str := [Str.ofString "_law_history_here", Str.ofString "_law_k"]
def f_P__law_ended_read : List Str := [Str.ofString "_law_history_here", Str.ofString "_law_k"]
theorem f_S__law_ended_read : FnScope f_N__law_ended_read f_P__law_ended_read (defScope (top 54)) := ⟨rfl, rfl, rfl, by decide +kernel, rfl, by decide +kernel, by decide +kernel⟩
theorem f_C__law_ended_read : cSs f_T f_N__law_ended_read 60 (defScope (top 54)) (fun _ => true) (defBody (top 54)) = some f__law_ended_read.body := by kernel_rfl
def f_N__law_tells : List Str := [Str.ofString "_law_history_here", Str.ofString "_law_k"]
def f_P__law_tells : List Str := [Str.ofString "_law_history_here", Str.ofString "_law_k"]
theorem f_S__law_tells : FnScope f_N__law_tells f_P__law_tells (defScope (top 55)) := ⟨rfl, rfl, rfl, by decide +kernel, rfl, by decide +kernel, by decide +kernel⟩
theorem f_C__law_tells : cSs f_T f_N__law_tells 60 (defScope (top 55)) (fun _ => true) (defBody (top 55)) = some f__law_tells.body := by kernel_rfl
def f_N__law_ahead : List Str := [Str.ofString "_law_history_here", Str.ofString "_law_one", Str.ofString "_law_other"]
def f_P__law_ahead : List Str := [Str.ofString "_law_history_here", Str.ofString "_law_one", Str.ofString "_law_other"]
theorem f_S__law_ahead : FnScope f_N__law_ahead f_P__law_ahead (defScope (top 56)) := ⟨rfl, rfl, rfl, by decide +kernel, rfl, by decide +kernel, by decide +kernel⟩
theorem f_C__law_ahead : cSs f_T f_N__law_ahead 60 (defScope (top 56)) (fun _ => true) (defBody (top 56)) = some f__law_ahead.body := by kernel_rfl
def f_N__law_is_bar : List Str := [Str.ofString "_law_history_here", Str.ofString "_law_thing", Str.ofString "_law_word", Str.ofString "_law_rest", Str.ofString "_law_writers", Str.ofString "_law_some", Str.ofString "_law_none", Str.ofString "_law_a", Str.ofString "_law_b", Str.ofString "_law_c", Str.ofString "_law_d", Str.ofString "_law_k"]
def f_P__law_is_bar : List Str := [Str.ofString "_law_history_here", Str.ofString "_law_thing"]
theorem f_S__law_is_bar : FnScope f_N__law_is_bar f_P__law_is_bar (defScope (top 57)) := ⟨rfl, rfl, rfl, by decide +kernel, rfl, by decide +kernel, by decide +kernel⟩
theorem f_C__law_is_bar : cSs f_T f_N__law_is_bar 60 (defScope (top 57)) (fun _ => true) (defBody (top 57)) = some f__law_is_bar.body := by kernel_rfl
def f_N__law_bent_order : List Str := [Str.ofString "_law_hand_here", Str.ofString "_law_told", Str.ofString "_law_many", Str.ofString "_law_row", Str.ofString "_law_at", Str.ofString "_law_odd"]
def f_P__law_bent_order : List Str := [Str.ofString "_law_hand_here", Str.ofString "_law_told", Str.ofString "_law_many"]
theorem f_S__law_bent_order : FnScope f_N__law_bent_order f_P__law_bent_order (defScope (top 58)) := ⟨rfl, rfl, rfl, by decide +kernel, rfl, by decide +kernel, by decide +kernel⟩
theorem f_C__law_bent_order : cSs f_T f_N__law_bent_order 60 (defScope (top 58)) (fun _ => true) (defBody (top 58)) = some f__law_bent_order.body := by kernel_rfl
def f_N__law_bent_bar : List Str := [Str.ofString "_law_hand_here", Str.ofString "_law_told", Str.ofString "_law_many", Str.ofString "_law_word", Str.ofString "_law_rest", Str.ofString "_law_odd", Str.ofString "_law_k"]
def f_P__law_bent_bar : List Str := [Str.ofString "_law_hand_here", Str.ofString "_law_told", Str.ofString "_law_many"]
theorem f_S__law_bent_bar : FnScope f_N__law_bent_bar f_P__law_bent_bar (defScope (top 59)) := ⟨rfl, rfl, rfl, by decide +kernel, rfl, by decide +kernel, by decide +kernel⟩
theorem f_C__law_bent_bar : cSs f_T f_N__law_bent_bar 60 (defScope (top 59)) (fun _ => true) (defBody (top 59)) = some f__law_bent_bar.body := by kernel_rfl
def f_N_law : List Str := [Str.ofString "_law_script", Str.ofString "_law_hand_here", Str.ofString "_law_turn", Str.ofString "_law_history_here", Str.ofString "_law_due", Str.ofString "_law_row", Str.ofString "_law_what", Str.ofString "_law_again", Str.ofString "_law_thing", Str.ofString "_law_flag"]
def f_P_law : List Str := [Str.ofString "_law_script"]
theorem f_S_law : FnScope f_N_law f_P_law (defScope (top 60)) := ⟨rfl, rfl, rfl, by decide +kernel, rfl, by decide +kernel, by decide +kernel⟩
theorem f_C_law : cSs f_T f_N_law 60 (defScope (top 60)) (fun _ => true) (defBody (top 60)) = some f_law.body := by kernel_rfl
end K47
set_option Elab.async false
set_option linter.all false
set_option maxRecDepth 100000
set_option maxHeartbeats 0
/-! k47: the facts of the head (printed by irgen.py). -/
namespace K47
open PySem PySem.Spec PyProof.Rows L2 Ev
def f_fn : List He.DefD := [⟨(Str.ofString "is_integer", none), Str.ofString "is_integer", Str.ofString "is_integer", defArgs (top 4), defBody (top 4), defScope (top 4), [], []⟩,
  ⟨(Str.ofString "is_between", none), Str.ofString "is_between", Str.ofString "is_between", defArgs (top 5), defBody (top 5), defScope (top 5), [], []⟩,
  ⟨(Str.ofString "is_index", none), Str.ofString "is_index", Str.ofString "is_index", defArgs (top 6), defBody (top 6), defScope (top 6), [], []⟩,
  ⟨(Str.ofString "is_tuple_of", none), Str.ofString "is_tuple_of", Str.ofString "is_tuple_of", defArgs (top 7), defBody (top 7), defScope (top 7), [], []⟩,
  ⟨(Str.ofString "is_sign", none), Str.ofString "is_sign", Str.ofString "is_sign", defArgs (top 10), defBody (top 10), defScope (top 10), [], []⟩,
  ⟨(Str.ofString "is_signs", none), Str.ofString "is_signs", Str.ofString "is_signs", defArgs (top 11), defBody (top 11), defScope (top 11), [], []⟩,
  ⟨(Str.ofString "is_thing", none), Str.ofString "is_thing", Str.ofString "is_thing", defArgs (top 12), defBody (top 12), defScope (top 12), [], []⟩,
  ⟨(Str.ofString "is_call", none), Str.ofString "is_call", Str.ofString "is_call", defArgs (top 17), defBody (top 17), defScope (top 17), [], []⟩,
  ⟨(Str.ofString "moments_of", none), Str.ofString "moments_of", Str.ofString "moments_of", defArgs (top 18), defBody (top 18), defScope (top 18), [], []⟩,
  ⟨(Str.ofString "is_history", none), Str.ofString "is_history", Str.ofString "is_history", defArgs (top 19), defBody (top 19), defScope (top 19), [], []⟩,
  ⟨(Str.ofString "check_history", none), Str.ofString "check_history", Str.ofString "check_history", defArgs (top 20), defBody (top 20), defScope (top 20), [], []⟩,
  ⟨(Str.ofString "writer_of", none), Str.ofString "writer_of", Str.ofString "writer_of", defArgs (top 21), defBody (top 21), defScope (top 21), [], []⟩,
  ⟨(Str.ofString "counts", none), Str.ofString "counts", Str.ofString "counts", defArgs (top 22), defBody (top 22), defScope (top 22), [], []⟩,
  ⟨(Str.ofString "groups_of", none), Str.ofString "groups_of", Str.ofString "groups_of", defArgs (top 23), defBody (top 23), defScope (top 23), [], []⟩,
  ⟨(Str.ofString "first_end", none), Str.ofString "first_end", Str.ofString "first_end", defArgs (top 24), defBody (top 24), defScope (top 24), [], []⟩,
  ⟨(Str.ofString "last_begin", none), Str.ofString "last_begin", Str.ofString "last_begin", defArgs (top 25), defBody (top 25), defScope (top 25), [], []⟩,
  ⟨(Str.ofString "is_ahead", none), Str.ofString "is_ahead", Str.ofString "is_ahead", defArgs (top 26), defBody (top 26), defScope (top 26), [], []⟩,
  ⟨(Str.ofString "single_bar", none), Str.ofString "single_bar", Str.ofString "single_bar", defArgs (top 27), defBody (top 27), defScope (top 27), [], []⟩,
  ⟨(Str.ofString "late_bar", none), Str.ofString "late_bar", Str.ofString "late_bar", defArgs (top 28), defBody (top 28), defScope (top 28), [], []⟩,
  ⟨(Str.ofString "crossed_bar", none), Str.ofString "crossed_bar", Str.ofString "crossed_bar", defArgs (top 29), defBody (top 29), defScope (top 29), [], []⟩,
  ⟨(Str.ofString "crossed", none), Str.ofString "crossed", Str.ofString "crossed", defArgs (top 30), defBody (top 30), defScope (top 30), [], []⟩,
  ⟨(Str.ofString "raw_bar", none), Str.ofString "raw_bar", Str.ofString "raw_bar", defArgs (top 31), defBody (top 31), defScope (top 31), [], []⟩,
  ⟨(Str.ofString "bar", none), Str.ofString "bar", Str.ofString "bar", defArgs (top 32), defBody (top 32), defScope (top 32), [], []⟩,
  ⟨(Str.ofString "tail", none), Str.ofString "tail", Str.ofString "tail", defArgs (top 33), defBody (top 33), defScope (top 33), [], []⟩,
  ⟨(Str.ofString "name_order", none), Str.ofString "name_order", Str.ofString "name_order", defArgs (top 34), defBody (top 34), defScope (top 34), [], []⟩,
  ⟨(Str.ofString "right_order", none), Str.ofString "right_order", Str.ofString "right_order", defArgs (top 35), defBody (top 35), defScope (top 35), [], []⟩,
  ⟨(Str.ofString "is_right_order", none), Str.ofString "is_right_order", Str.ofString "is_right_order", defArgs (top 36), defBody (top 36), defScope (top 36), [], []⟩,
  ⟨(Str.ofString "are_behind", none), Str.ofString "are_behind", Str.ofString "are_behind", defArgs (top 37), defBody (top 37), defScope (top 37), [], []⟩,
  ⟨(Str.ofString "are_told", none), Str.ofString "are_told", Str.ofString "are_told", defArgs (top 38), defBody (top 38), defScope (top 38), [], []⟩,
  ⟨(Str.ofString "is_bar", none), Str.ofString "is_bar", Str.ofString "is_bar", defArgs (top 39), defBody (top 39), defScope (top 39), [], []⟩,
  ⟨(Str.ofString "is_single", none), Str.ofString "is_single", Str.ofString "is_single", defArgs (top 40), defBody (top 40), defScope (top 40), [], []⟩,
  ⟨(Str.ofString "tells", none), Str.ofString "tells", Str.ofString "tells", defArgs (top 41), defBody (top 41), defScope (top 41), [], []⟩,
  ⟨(Str.ofString "is_late", none), Str.ofString "is_late", Str.ofString "is_late", defArgs (top 42), defBody (top 42), defScope (top 42), [], []⟩,
  ⟨(Str.ofString "is_crossed", none), Str.ofString "is_crossed", Str.ofString "is_crossed", defArgs (top 43), defBody (top 43), defScope (top 43), [], []⟩,
  ⟨(Str.ofString "_law_hand", none), Str.ofString "_law_hand", Str.ofString "_law_hand", defArgs (top 45), defBody (top 45), defScope (top 45), [], []⟩,
  ⟨(Str.ofString "_law_draw", none), Str.ofString "_law_draw", Str.ofString "_law_draw", defArgs (top 46), defBody (top 46), defScope (top 46), [], []⟩,
  ⟨(Str.ofString "_law_call", none), Str.ofString "_law_call", Str.ofString "_law_call", defArgs (top 47), defBody (top 47), defScope (top 47), [], []⟩,
  ⟨(Str.ofString "_law_history", none), Str.ofString "_law_history", Str.ofString "_law_history", defArgs (top 48), defBody (top 48), defScope (top 48), [], []⟩,
  ⟨(Str.ofString "_law_read", none), Str.ofString "_law_read", Str.ofString "_law_read", defArgs (top 49), defBody (top 49), defScope (top 49), [], []⟩,
  ⟨(Str.ofString "_law_goes", none), Str.ofString "_law_goes", Str.ofString "_law_goes", defArgs (top 50), defBody (top 50), defScope (top 50), [], []⟩,
  ⟨(Str.ofString "_law_is_right", none), Str.ofString "_law_is_right", Str.ofString "_law_is_right", defArgs (top 51), defBody (top 51), defScope (top 51), [], []⟩,
  ⟨(Str.ofString "_law_is_int", none), Str.ofString "_law_is_int", Str.ofString "_law_is_int", defArgs (top 52), defBody (top 52), defScope (top 52), [], []⟩,
  ⟨(Str.ofString "_law_is_order", none), Str.ofString "_law_is_order", Str.ofString "_law_is_order", defArgs (top 53), defBody (top 53), defScope (top 53), [], []⟩,
  ⟨(Str.ofString "_law_ended_read", none), Str.ofString "_law_ended_read", Str.ofString "_law_ended_read", defArgs (top 54), defBody (top 54), defScope (top 54), [], []⟩,
  ⟨(Str.ofString "_law_tells", none), Str.ofString "_law_tells", Str.ofString "_law_tells", defArgs (top 55), defBody (top 55), defScope (top 55), [], []⟩,
  ⟨(Str.ofString "_law_ahead", none), Str.ofString "_law_ahead", Str.ofString "_law_ahead", defArgs (top 56), defBody (top 56), defScope (top 56), [], []⟩,
  ⟨(Str.ofString "_law_is_bar", none), Str.ofString "_law_is_bar", Str.ofString "_law_is_bar", defArgs (top 57), defBody (top 57), defScope (top 57), [], []⟩,
  ⟨(Str.ofString "_law_bent_order", none), Str.ofString "_law_bent_order", Str.ofString "_law_bent_order", defArgs (top 58), defBody (top 58), defScope (top 58), [], []⟩,
  ⟨(Str.ofString "_law_bent_bar", none), Str.ofString "_law_bent_bar", Str.ofString "_law_bent_bar", defArgs (top 59), defBody (top 59), defScope (top 59), [], []⟩,
  ⟨(Str.ofString "law", none), Str.ofString "law", Str.ofString "law", defArgs (top 60), defBody (top 60), defScope (top 60), [], []⟩]
def f_fa : List He.Fa := [.glo (Str.ofString "is_integer"), .glo (Str.ofString "is_between"), .glo (Str.ofString "is_index"), .glo (Str.ofString "is_tuple_of"), .glo (Str.ofString "is_sign"), .glo (Str.ofString "is_signs"), .glo (Str.ofString "is_thing"), .glo (Str.ofString "is_call"), .glo (Str.ofString "moments_of"), .glo (Str.ofString "is_history"), .glo (Str.ofString "check_history"), .glo (Str.ofString "writer_of"), .glo (Str.ofString "counts"), .glo (Str.ofString "groups_of"), .glo (Str.ofString "first_end"), .glo (Str.ofString "last_begin"), .glo (Str.ofString "is_ahead"), .glo (Str.ofString "single_bar"), .glo (Str.ofString "late_bar"), .glo (Str.ofString "crossed_bar"), .glo (Str.ofString "crossed"), .glo (Str.ofString "raw_bar"), .glo (Str.ofString "bar"), .glo (Str.ofString "tail"), .glo (Str.ofString "name_order"), .glo (Str.ofString "right_order"), .glo (Str.ofString "is_right_order"), .glo (Str.ofString "are_behind"), .glo (Str.ofString "are_told"), .glo (Str.ofString "is_bar"), .glo (Str.ofString "is_single"), .glo (Str.ofString "tells"), .glo (Str.ofString "is_late"), .glo (Str.ofString "is_crossed"), .glo (Str.ofString "_law_hand"), .glo (Str.ofString "_law_draw"), .glo (Str.ofString "_law_call"), .glo (Str.ofString "_law_history"), .glo (Str.ofString "_law_read"), .glo (Str.ofString "_law_goes"), .glo (Str.ofString "_law_is_right"), .glo (Str.ofString "_law_is_int"), .glo (Str.ofString "_law_is_order"), .glo (Str.ofString "_law_ended_read"), .glo (Str.ofString "_law_tells"), .glo (Str.ofString "_law_ahead"), .glo (Str.ofString "_law_is_bar"), .glo (Str.ofString "_law_bent_order"), .glo (Str.ofString "_law_bent_bar"), .glo (Str.ofString "law"), .free (Str.ofString "abs"), .free (Str.ofString "all"), .free (Str.ofString "any"), .free (Str.ofString "bool"), .free (Str.ofString "enumerate"), .free (Str.ofString "int"), .free (Str.ofString "isinstance"), .free (Str.ofString "len"), .free (Str.ofString "list"), .free (Str.ofString "max"), .free (Str.ofString "min"), .free (Str.ofString "range"), .free (Str.ofString "set"), .free (Str.ofString "sorted"), .free (Str.ofString "str"), .free (Str.ofString "tuple"), .int (Str.ofString "GREATEST") 999999999999999999999999999999, .str (Str.ofString "READ") (Str.ofString "read"), .str (Str.ofString "WRITE") (Str.ofString "write"), .int (Str.ofString "MOST_TOLD") 5]
def f_loose0 : List Str := [Str.ofString "LeaseError", Str.ofString "NoHistory", Str.ofString "is_integer", Str.ofString "is_between", Str.ofString "is_index", Str.ofString "is_tuple_of", Str.ofString "GREATEST", Str.ofString "is_sign", Str.ofString "is_signs", Str.ofString "is_thing", Str.ofString "READ", Str.ofString "WRITE", Str.ofString "MOST_TOLD", Str.ofString "is_call", Str.ofString "moments_of", Str.ofString "is_history", Str.ofString "check_history", Str.ofString "writer_of", Str.ofString "counts", Str.ofString "groups_of", Str.ofString "first_end", Str.ofString "last_begin", Str.ofString "is_ahead", Str.ofString "single_bar", Str.ofString "late_bar", Str.ofString "crossed_bar", Str.ofString "crossed", Str.ofString "raw_bar", Str.ofString "bar", Str.ofString "tail"]
def f_loose1 : List Str := [Str.ofString "name_order", Str.ofString "right_order", Str.ofString "is_right_order", Str.ofString "are_behind", Str.ofString "are_told", Str.ofString "is_bar", Str.ofString "is_single", Str.ofString "tells", Str.ofString "is_late", Str.ofString "is_crossed", Str.ofString "_law_hand", Str.ofString "_law_draw", Str.ofString "_law_call", Str.ofString "_law_history", Str.ofString "_law_read", Str.ofString "_law_goes", Str.ofString "_law_is_right", Str.ofString "_law_is_int", Str.ofString "_law_is_order", Str.ofString "_law_ended_read", Str.ofString "_law_tells", Str.ofString "_law_ahead", Str.ofString "_law_is_bar", Str.ofString "_law_bent_order", Str.ofString "_law_bent_bar"]
def f_loose : List Str := f_loose0 ++ f_loose1
section
variable {K : PySem.W.Frag} {h : Heap} {mg : Str → Option Value}
theorem f_D_is_integer (X : K.In h) (G : h.Ns mainGlobals mg) (c : He.SaysD f_fa f_fn K) : DefOk f_T K mg (Str.ofString "is_integer") f_is_integer := by
  obtain ⟨fd, F⟩ := c.def_ 0 (d := ⟨(Str.ofString "is_integer", none), Str.ofString "is_integer", Str.ofString "is_integer", defArgs (top 4), defBody (top 4), defScope (top 4), [], []⟩) rfl
  exact ⟨_, _, _, _, _, _, f_N_is_integer, f_P_is_integer, 60, F, He.glo_ok X G (c.fact 0 (f := .glo (Str.ofString "is_integer")) rfl), F.bindsN (fun _ _ _ _ _ _ us hl => match us, hl with | [_], _ => rfl), f_S_is_integer, rfl, rfl, f_C_is_integer⟩
theorem f_D_is_between (X : K.In h) (G : h.Ns mainGlobals mg) (c : He.SaysD f_fa f_fn K) : DefOk f_T K mg (Str.ofString "is_between") f_is_between := by
  obtain ⟨fd, F⟩ := c.def_ 1 (d := ⟨(Str.ofString "is_between", none), Str.ofString "is_between", Str.ofString "is_between", defArgs (top 5), defBody (top 5), defScope (top 5), [], []⟩) rfl
  exact ⟨_, _, _, _, _, _, f_N_is_between, f_P_is_between, 60, F, He.glo_ok X G (c.fact 1 (f := .glo (Str.ofString "is_between")) rfl), F.bindsN (fun _ _ _ _ _ _ us hl => match us, hl with | [_, _, _], _ => rfl), f_S_is_between, rfl, rfl, f_C_is_between⟩
theorem f_D_is_index (X : K.In h) (G : h.Ns mainGlobals mg) (c : He.SaysD f_fa f_fn K) : DefOk f_T K mg (Str.ofString "is_index") f_is_index := by
  obtain ⟨fd, F⟩ := c.def_ 2 (d := ⟨(Str.ofString "is_index", none), Str.ofString "is_index", Str.ofString "is_index", defArgs (top 6), defBody (top 6), defScope (top 6), [], []⟩) rfl
  exact ⟨_, _, _, _, _, _, f_N_is_index, f_P_is_index, 60, F, He.glo_ok X G (c.fact 2 (f := .glo (Str.ofString "is_index")) rfl), F.bindsN (fun _ _ _ _ _ _ us hl => match us, hl with | [_, _], _ => rfl), f_S_is_index, rfl, rfl, f_C_is_index⟩
theorem f_D_is_tuple_of (X : K.In h) (G : h.Ns mainGlobals mg) (c : He.SaysD f_fa f_fn K) : DefOk f_T K mg (Str.ofString "is_tuple_of") f_is_tuple_of := by
  obtain ⟨fd, F⟩ := c.def_ 3 (d := ⟨(Str.ofString "is_tuple_of", none), Str.ofString "is_tuple_of", Str.ofString "is_tuple_of", defArgs (top 7), defBody (top 7), defScope (top 7), [], []⟩) rfl
  exact ⟨_, _, _, _, _, _, f_N_is_tuple_of, f_P_is_tuple_of, 60, F, He.glo_ok X G (c.fact 3 (f := .glo (Str.ofString "is_tuple_of")) rfl), F.bindsN (fun _ _ _ _ _ _ us hl => match us, hl with | [_, _], _ => rfl), f_S_is_tuple_of, rfl, rfl, f_C_is_tuple_of⟩
theorem f_D_is_sign (X : K.In h) (G : h.Ns mainGlobals mg) (c : He.SaysD f_fa f_fn K) : DefOk f_T K mg (Str.ofString "is_sign") f_is_sign := by
  obtain ⟨fd, F⟩ := c.def_ 4 (d := ⟨(Str.ofString "is_sign", none), Str.ofString "is_sign", Str.ofString "is_sign", defArgs (top 10), defBody (top 10), defScope (top 10), [], []⟩) rfl
  exact ⟨_, _, _, _, _, _, f_N_is_sign, f_P_is_sign, 60, F, He.glo_ok X G (c.fact 4 (f := .glo (Str.ofString "is_sign")) rfl), F.bindsN (fun _ _ _ _ _ _ us hl => match us, hl with | [_], _ => rfl), f_S_is_sign, rfl, rfl, f_C_is_sign⟩
theorem f_D_is_signs (X : K.In h) (G : h.Ns mainGlobals mg) (c : He.SaysD f_fa f_fn K) : DefOk f_T K mg (Str.ofString "is_signs") f_is_signs := by
  obtain ⟨fd, F⟩ := c.def_ 5 (d := ⟨(Str.ofString "is_signs", none), Str.ofString "is_signs", Str.ofString "is_signs", defArgs (top 11), defBody (top 11), defScope (top 11), [], []⟩) rfl
  exact ⟨_, _, _, _, _, _, f_N_is_signs, f_P_is_signs, 60, F, He.glo_ok X G (c.fact 5 (f := .glo (Str.ofString "is_signs")) rfl), F.bindsN (fun _ _ _ _ _ _ us hl => match us, hl with | [_], _ => rfl), f_S_is_signs, rfl, rfl, f_C_is_signs⟩
theorem f_D_is_thing (X : K.In h) (G : h.Ns mainGlobals mg) (c : He.SaysD f_fa f_fn K) : DefOk f_T K mg (Str.ofString "is_thing") f_is_thing := by
  obtain ⟨fd, F⟩ := c.def_ 6 (d := ⟨(Str.ofString "is_thing", none), Str.ofString "is_thing", Str.ofString "is_thing", defArgs (top 12), defBody (top 12), defScope (top 12), [], []⟩) rfl
  exact ⟨_, _, _, _, _, _, f_N_is_thing, f_P_is_thing, 60, F, He.glo_ok X G (c.fact 6 (f := .glo (Str.ofString "is_thing")) rfl), F.bindsN (fun _ _ _ _ _ _ us hl => match us, hl with | [_, _], _ => rfl), f_S_is_thing, rfl, rfl, f_C_is_thing⟩
theorem f_D_is_call (X : K.In h) (G : h.Ns mainGlobals mg) (c : He.SaysD f_fa f_fn K) : DefOk f_T K mg (Str.ofString "is_call") f_is_call := by
  obtain ⟨fd, F⟩ := c.def_ 7 (d := ⟨(Str.ofString "is_call", none), Str.ofString "is_call", Str.ofString "is_call", defArgs (top 17), defBody (top 17), defScope (top 17), [], []⟩) rfl
  exact ⟨_, _, _, _, _, _, f_N_is_call, f_P_is_call, 60, F, He.glo_ok X G (c.fact 7 (f := .glo (Str.ofString "is_call")) rfl), F.bindsN (fun _ _ _ _ _ _ us hl => match us, hl with | [_], _ => rfl), f_S_is_call, rfl, rfl, f_C_is_call⟩
theorem f_D_moments_of (X : K.In h) (G : h.Ns mainGlobals mg) (c : He.SaysD f_fa f_fn K) : DefOk f_T K mg (Str.ofString "moments_of") f_moments_of := by
  obtain ⟨fd, F⟩ := c.def_ 8 (d := ⟨(Str.ofString "moments_of", none), Str.ofString "moments_of", Str.ofString "moments_of", defArgs (top 18), defBody (top 18), defScope (top 18), [], []⟩) rfl
  exact ⟨_, _, _, _, _, _, f_N_moments_of, f_P_moments_of, 60, F, He.glo_ok X G (c.fact 8 (f := .glo (Str.ofString "moments_of")) rfl), F.bindsN (fun _ _ _ _ _ _ us hl => match us, hl with | [_], _ => rfl), f_S_moments_of, rfl, rfl, f_C_moments_of⟩
theorem f_D_is_history (X : K.In h) (G : h.Ns mainGlobals mg) (c : He.SaysD f_fa f_fn K) : DefOk f_T K mg (Str.ofString "is_history") f_is_history := by
  obtain ⟨fd, F⟩ := c.def_ 9 (d := ⟨(Str.ofString "is_history", none), Str.ofString "is_history", Str.ofString "is_history", defArgs (top 19), defBody (top 19), defScope (top 19), [], []⟩) rfl
  exact ⟨_, _, _, _, _, _, f_N_is_history, f_P_is_history, 60, F, He.glo_ok X G (c.fact 9 (f := .glo (Str.ofString "is_history")) rfl), F.bindsN (fun _ _ _ _ _ _ us hl => match us, hl with | [_], _ => rfl), f_S_is_history, rfl, rfl, f_C_is_history⟩
theorem f_D_check_history (X : K.In h) (G : h.Ns mainGlobals mg) (c : He.SaysD f_fa f_fn K) : DefOk f_T K mg (Str.ofString "check_history") f_check_history := by
  obtain ⟨fd, F⟩ := c.def_ 10 (d := ⟨(Str.ofString "check_history", none), Str.ofString "check_history", Str.ofString "check_history", defArgs (top 20), defBody (top 20), defScope (top 20), [], []⟩) rfl
  exact ⟨_, _, _, _, _, _, f_N_check_history, f_P_check_history, 60, F, He.glo_ok X G (c.fact 10 (f := .glo (Str.ofString "check_history")) rfl), F.bindsN (fun _ _ _ _ _ _ us hl => match us, hl with | [_], _ => rfl), f_S_check_history, rfl, rfl, f_C_check_history⟩
theorem f_D_writer_of (X : K.In h) (G : h.Ns mainGlobals mg) (c : He.SaysD f_fa f_fn K) : DefOk f_T K mg (Str.ofString "writer_of") f_writer_of := by
  obtain ⟨fd, F⟩ := c.def_ 11 (d := ⟨(Str.ofString "writer_of", none), Str.ofString "writer_of", Str.ofString "writer_of", defArgs (top 21), defBody (top 21), defScope (top 21), [], []⟩) rfl
  exact ⟨_, _, _, _, _, _, f_N_writer_of, f_P_writer_of, 60, F, He.glo_ok X G (c.fact 11 (f := .glo (Str.ofString "writer_of")) rfl), F.bindsN (fun _ _ _ _ _ _ us hl => match us, hl with | [_, _], _ => rfl), f_S_writer_of, rfl, rfl, f_C_writer_of⟩
theorem f_D_counts (X : K.In h) (G : h.Ns mainGlobals mg) (c : He.SaysD f_fa f_fn K) : DefOk f_T K mg (Str.ofString "counts") f_counts := by
  obtain ⟨fd, F⟩ := c.def_ 12 (d := ⟨(Str.ofString "counts", none), Str.ofString "counts", Str.ofString "counts", defArgs (top 22), defBody (top 22), defScope (top 22), [], []⟩) rfl
  exact ⟨_, _, _, _, _, _, f_N_counts, f_P_counts, 60, F, He.glo_ok X G (c.fact 12 (f := .glo (Str.ofString "counts")) rfl), F.bindsN (fun _ _ _ _ _ _ us hl => match us, hl with | [_, _], _ => rfl), f_S_counts, rfl, rfl, f_C_counts⟩
theorem f_D_groups_of (X : K.In h) (G : h.Ns mainGlobals mg) (c : He.SaysD f_fa f_fn K) : DefOk f_T K mg (Str.ofString "groups_of") f_groups_of := by
  obtain ⟨fd, F⟩ := c.def_ 13 (d := ⟨(Str.ofString "groups_of", none), Str.ofString "groups_of", Str.ofString "groups_of", defArgs (top 23), defBody (top 23), defScope (top 23), [], []⟩) rfl
  exact ⟨_, _, _, _, _, _, f_N_groups_of, f_P_groups_of, 60, F, He.glo_ok X G (c.fact 13 (f := .glo (Str.ofString "groups_of")) rfl), F.bindsN (fun _ _ _ _ _ _ us hl => match us, hl with | [_], _ => rfl), f_S_groups_of, rfl, rfl, f_C_groups_of⟩
theorem f_D_first_end (X : K.In h) (G : h.Ns mainGlobals mg) (c : He.SaysD f_fa f_fn K) : DefOk f_T K mg (Str.ofString "first_end") f_first_end := by
  obtain ⟨fd, F⟩ := c.def_ 14 (d := ⟨(Str.ofString "first_end", none), Str.ofString "first_end", Str.ofString "first_end", defArgs (top 24), defBody (top 24), defScope (top 24), [], []⟩) rfl
  exact ⟨_, _, _, _, _, _, f_N_first_end, f_P_first_end, 60, F, He.glo_ok X G (c.fact 14 (f := .glo (Str.ofString "first_end")) rfl), F.bindsN (fun _ _ _ _ _ _ us hl => match us, hl with | [_, _], _ => rfl), f_S_first_end, rfl, rfl, f_C_first_end⟩
theorem f_D_last_begin (X : K.In h) (G : h.Ns mainGlobals mg) (c : He.SaysD f_fa f_fn K) : DefOk f_T K mg (Str.ofString "last_begin") f_last_begin := by
  obtain ⟨fd, F⟩ := c.def_ 15 (d := ⟨(Str.ofString "last_begin", none), Str.ofString "last_begin", Str.ofString "last_begin", defArgs (top 25), defBody (top 25), defScope (top 25), [], []⟩) rfl
  exact ⟨_, _, _, _, _, _, f_N_last_begin, f_P_last_begin, 60, F, He.glo_ok X G (c.fact 15 (f := .glo (Str.ofString "last_begin")) rfl), F.bindsN (fun _ _ _ _ _ _ us hl => match us, hl with | [_, _], _ => rfl), f_S_last_begin, rfl, rfl, f_C_last_begin⟩
theorem f_D_is_ahead (X : K.In h) (G : h.Ns mainGlobals mg) (c : He.SaysD f_fa f_fn K) : DefOk f_T K mg (Str.ofString "is_ahead") f_is_ahead := by
  obtain ⟨fd, F⟩ := c.def_ 16 (d := ⟨(Str.ofString "is_ahead", none), Str.ofString "is_ahead", Str.ofString "is_ahead", defArgs (top 26), defBody (top 26), defScope (top 26), [], []⟩) rfl
  exact ⟨_, _, _, _, _, _, f_N_is_ahead, f_P_is_ahead, 60, F, He.glo_ok X G (c.fact 16 (f := .glo (Str.ofString "is_ahead")) rfl), F.bindsN (fun _ _ _ _ _ _ us hl => match us, hl with | [_, _, _], _ => rfl), f_S_is_ahead, rfl, rfl, f_C_is_ahead⟩
theorem f_D_single_bar (X : K.In h) (G : h.Ns mainGlobals mg) (c : He.SaysD f_fa f_fn K) : DefOk f_T K mg (Str.ofString "single_bar") f_single_bar := by
  obtain ⟨fd, F⟩ := c.def_ 17 (d := ⟨(Str.ofString "single_bar", none), Str.ofString "single_bar", Str.ofString "single_bar", defArgs (top 27), defBody (top 27), defScope (top 27), [], []⟩) rfl
  exact ⟨_, _, _, _, _, _, f_N_single_bar, f_P_single_bar, 60, F, He.glo_ok X G (c.fact 17 (f := .glo (Str.ofString "single_bar")) rfl), F.bindsN (fun _ _ _ _ _ _ us hl => match us, hl with | [_], _ => rfl), f_S_single_bar, rfl, rfl, f_C_single_bar⟩
theorem f_D_late_bar (X : K.In h) (G : h.Ns mainGlobals mg) (c : He.SaysD f_fa f_fn K) : DefOk f_T K mg (Str.ofString "late_bar") f_late_bar := by
  obtain ⟨fd, F⟩ := c.def_ 18 (d := ⟨(Str.ofString "late_bar", none), Str.ofString "late_bar", Str.ofString "late_bar", defArgs (top 28), defBody (top 28), defScope (top 28), [], []⟩) rfl
  exact ⟨_, _, _, _, _, _, f_N_late_bar, f_P_late_bar, 60, F, He.glo_ok X G (c.fact 18 (f := .glo (Str.ofString "late_bar")) rfl), F.bindsN (fun _ _ _ _ _ _ us hl => match us, hl with | [_], _ => rfl), f_S_late_bar, rfl, rfl, f_C_late_bar⟩
theorem f_D_crossed_bar (X : K.In h) (G : h.Ns mainGlobals mg) (c : He.SaysD f_fa f_fn K) : DefOk f_T K mg (Str.ofString "crossed_bar") f_crossed_bar := by
  obtain ⟨fd, F⟩ := c.def_ 19 (d := ⟨(Str.ofString "crossed_bar", none), Str.ofString "crossed_bar", Str.ofString "crossed_bar", defArgs (top 29), defBody (top 29), defScope (top 29), [], []⟩) rfl
  exact ⟨_, _, _, _, _, _, f_N_crossed_bar, f_P_crossed_bar, 60, F, He.glo_ok X G (c.fact 19 (f := .glo (Str.ofString "crossed_bar")) rfl), F.bindsN (fun _ _ _ _ _ _ us hl => match us, hl with | [_], _ => rfl), f_S_crossed_bar, rfl, rfl, f_C_crossed_bar⟩
theorem f_D_crossed (X : K.In h) (G : h.Ns mainGlobals mg) (c : He.SaysD f_fa f_fn K) : DefOk f_T K mg (Str.ofString "crossed") f_crossed := by
  obtain ⟨fd, F⟩ := c.def_ 20 (d := ⟨(Str.ofString "crossed", none), Str.ofString "crossed", Str.ofString "crossed", defArgs (top 30), defBody (top 30), defScope (top 30), [], []⟩) rfl
  exact ⟨_, _, _, _, _, _, f_N_crossed, f_P_crossed, 60, F, He.glo_ok X G (c.fact 20 (f := .glo (Str.ofString "crossed")) rfl), F.bindsN (fun _ _ _ _ _ _ us hl => match us, hl with | [_, _, _], _ => rfl), f_S_crossed, rfl, rfl, f_C_crossed⟩
theorem f_D_raw_bar (X : K.In h) (G : h.Ns mainGlobals mg) (c : He.SaysD f_fa f_fn K) : DefOk f_T K mg (Str.ofString "raw_bar") f_raw_bar := by
  obtain ⟨fd, F⟩ := c.def_ 21 (d := ⟨(Str.ofString "raw_bar", none), Str.ofString "raw_bar", Str.ofString "raw_bar", defArgs (top 31), defBody (top 31), defScope (top 31), [], []⟩) rfl
  exact ⟨_, _, _, _, _, _, f_N_raw_bar, f_P_raw_bar, 60, F, He.glo_ok X G (c.fact 21 (f := .glo (Str.ofString "raw_bar")) rfl), F.bindsN (fun _ _ _ _ _ _ us hl => match us, hl with | [_], _ => rfl), f_S_raw_bar, rfl, rfl, f_C_raw_bar⟩
theorem f_D_bar (X : K.In h) (G : h.Ns mainGlobals mg) (c : He.SaysD f_fa f_fn K) : DefOk f_T K mg (Str.ofString "bar") f_bar := by
  obtain ⟨fd, F⟩ := c.def_ 22 (d := ⟨(Str.ofString "bar", none), Str.ofString "bar", Str.ofString "bar", defArgs (top 32), defBody (top 32), defScope (top 32), [], []⟩) rfl
  exact ⟨_, _, _, _, _, _, f_N_bar, f_P_bar, 60, F, He.glo_ok X G (c.fact 22 (f := .glo (Str.ofString "bar")) rfl), F.bindsN (fun _ _ _ _ _ _ us hl => match us, hl with | [_], _ => rfl), f_S_bar, rfl, rfl, f_C_bar⟩
theorem f_D_tail (X : K.In h) (G : h.Ns mainGlobals mg) (c : He.SaysD f_fa f_fn K) : DefOk f_T K mg (Str.ofString "tail") f_tail := by
  obtain ⟨fd, F⟩ := c.def_ 23 (d := ⟨(Str.ofString "tail", none), Str.ofString "tail", Str.ofString "tail", defArgs (top 33), defBody (top 33), defScope (top 33), [], []⟩) rfl
  exact ⟨_, _, _, _, _, _, f_N_tail, f_P_tail, 60, F, He.glo_ok X G (c.fact 23 (f := .glo (Str.ofString "tail")) rfl), F.bindsN (fun _ _ _ _ _ _ us hl => match us, hl with | [_, _], _ => rfl), f_S_tail, rfl, rfl, f_C_tail⟩
theorem f_D_name_order (X : K.In h) (G : h.Ns mainGlobals mg) (c : He.SaysD f_fa f_fn K) : DefOk f_T K mg (Str.ofString "name_order") f_name_order := by
  obtain ⟨fd, F⟩ := c.def_ 24 (d := ⟨(Str.ofString "name_order", none), Str.ofString "name_order", Str.ofString "name_order", defArgs (top 34), defBody (top 34), defScope (top 34), [], []⟩) rfl
  exact ⟨_, _, _, _, _, _, f_N_name_order, f_P_name_order, 60, F, He.glo_ok X G (c.fact 24 (f := .glo (Str.ofString "name_order")) rfl), F.bindsN (fun _ _ _ _ _ _ us hl => match us, hl with | [_, _], _ => rfl), f_S_name_order, rfl, rfl, f_C_name_order⟩
theorem f_D_right_order (X : K.In h) (G : h.Ns mainGlobals mg) (c : He.SaysD f_fa f_fn K) : DefOk f_T K mg (Str.ofString "right_order") f_right_order := by
  obtain ⟨fd, F⟩ := c.def_ 25 (d := ⟨(Str.ofString "right_order", none), Str.ofString "right_order", Str.ofString "right_order", defArgs (top 35), defBody (top 35), defScope (top 35), [], []⟩) rfl
  exact ⟨_, _, _, _, _, _, f_N_right_order, f_P_right_order, 60, F, He.glo_ok X G (c.fact 25 (f := .glo (Str.ofString "right_order")) rfl), F.bindsN (fun _ _ _ _ _ _ us hl => match us, hl with | [_], _ => rfl), f_S_right_order, rfl, rfl, f_C_right_order⟩
theorem f_D_is_right_order (X : K.In h) (G : h.Ns mainGlobals mg) (c : He.SaysD f_fa f_fn K) : DefOk f_T K mg (Str.ofString "is_right_order") f_is_right_order := by
  obtain ⟨fd, F⟩ := c.def_ 26 (d := ⟨(Str.ofString "is_right_order", none), Str.ofString "is_right_order", Str.ofString "is_right_order", defArgs (top 36), defBody (top 36), defScope (top 36), [], []⟩) rfl
  exact ⟨_, _, _, _, _, _, f_N_is_right_order, f_P_is_right_order, 60, F, He.glo_ok X G (c.fact 26 (f := .glo (Str.ofString "is_right_order")) rfl), F.bindsN (fun _ _ _ _ _ _ us hl => match us, hl with | [_, _], _ => rfl), f_S_is_right_order, rfl, rfl, f_C_is_right_order⟩
theorem f_D_are_behind (X : K.In h) (G : h.Ns mainGlobals mg) (c : He.SaysD f_fa f_fn K) : DefOk f_T K mg (Str.ofString "are_behind") f_are_behind := by
  obtain ⟨fd, F⟩ := c.def_ 27 (d := ⟨(Str.ofString "are_behind", none), Str.ofString "are_behind", Str.ofString "are_behind", defArgs (top 37), defBody (top 37), defScope (top 37), [], []⟩) rfl
  exact ⟨_, _, _, _, _, _, f_N_are_behind, f_P_are_behind, 60, F, He.glo_ok X G (c.fact 27 (f := .glo (Str.ofString "are_behind")) rfl), F.bindsN (fun _ _ _ _ _ _ us hl => match us, hl with | [_, _], _ => rfl), f_S_are_behind, rfl, rfl, f_C_are_behind⟩
theorem f_D_are_told (X : K.In h) (G : h.Ns mainGlobals mg) (c : He.SaysD f_fa f_fn K) : DefOk f_T K mg (Str.ofString "are_told") f_are_told := by
  obtain ⟨fd, F⟩ := c.def_ 28 (d := ⟨(Str.ofString "are_told", none), Str.ofString "are_told", Str.ofString "are_told", defArgs (top 38), defBody (top 38), defScope (top 38), [], []⟩) rfl
  exact ⟨_, _, _, _, _, _, f_N_are_told, f_P_are_told, 60, F, He.glo_ok X G (c.fact 28 (f := .glo (Str.ofString "are_told")) rfl), F.bindsN (fun _ _ _ _ _ _ us hl => match us, hl with | [_, _], _ => rfl), f_S_are_told, rfl, rfl, f_C_are_told⟩
theorem f_D_is_bar (X : K.In h) (G : h.Ns mainGlobals mg) (c : He.SaysD f_fa f_fn K) : DefOk f_T K mg (Str.ofString "is_bar") f_is_bar := by
  obtain ⟨fd, F⟩ := c.def_ 29 (d := ⟨(Str.ofString "is_bar", none), Str.ofString "is_bar", Str.ofString "is_bar", defArgs (top 39), defBody (top 39), defScope (top 39), [], []⟩) rfl
  exact ⟨_, _, _, _, _, _, f_N_is_bar, f_P_is_bar, 60, F, He.glo_ok X G (c.fact 29 (f := .glo (Str.ofString "is_bar")) rfl), F.bindsN (fun _ _ _ _ _ _ us hl => match us, hl with | [_, _], _ => rfl), f_S_is_bar, rfl, rfl, f_C_is_bar⟩
theorem f_D_is_single (X : K.In h) (G : h.Ns mainGlobals mg) (c : He.SaysD f_fa f_fn K) : DefOk f_T K mg (Str.ofString "is_single") f_is_single := by
  obtain ⟨fd, F⟩ := c.def_ 30 (d := ⟨(Str.ofString "is_single", none), Str.ofString "is_single", Str.ofString "is_single", defArgs (top 40), defBody (top 40), defScope (top 40), [], []⟩) rfl
  exact ⟨_, _, _, _, _, _, f_N_is_single, f_P_is_single, 60, F, He.glo_ok X G (c.fact 30 (f := .glo (Str.ofString "is_single")) rfl), F.bindsN (fun _ _ _ _ _ _ us hl => match us, hl with | [_, _, _], _ => rfl), f_S_is_single, rfl, rfl, f_C_is_single⟩
theorem f_D_tells (X : K.In h) (G : h.Ns mainGlobals mg) (c : He.SaysD f_fa f_fn K) : DefOk f_T K mg (Str.ofString "tells") f_tells := by
  obtain ⟨fd, F⟩ := c.def_ 31 (d := ⟨(Str.ofString "tells", none), Str.ofString "tells", Str.ofString "tells", defArgs (top 41), defBody (top 41), defScope (top 41), [], []⟩) rfl
  exact ⟨_, _, _, _, _, _, f_N_tells, f_P_tells, 60, F, He.glo_ok X G (c.fact 31 (f := .glo (Str.ofString "tells")) rfl), F.bindsN (fun _ _ _ _ _ _ us hl => match us, hl with | [_], _ => rfl), f_S_tells, rfl, rfl, f_C_tells⟩
theorem f_D_is_late (X : K.In h) (G : h.Ns mainGlobals mg) (c : He.SaysD f_fa f_fn K) : DefOk f_T K mg (Str.ofString "is_late") f_is_late := by
  obtain ⟨fd, F⟩ := c.def_ 32 (d := ⟨(Str.ofString "is_late", none), Str.ofString "is_late", Str.ofString "is_late", defArgs (top 42), defBody (top 42), defScope (top 42), [], []⟩) rfl
  exact ⟨_, _, _, _, _, _, f_N_is_late, f_P_is_late, 60, F, He.glo_ok X G (c.fact 32 (f := .glo (Str.ofString "is_late")) rfl), F.bindsN (fun _ _ _ _ _ _ us hl => match us, hl with | [_, _], _ => rfl), f_S_is_late, rfl, rfl, f_C_is_late⟩
theorem f_D_is_crossed (X : K.In h) (G : h.Ns mainGlobals mg) (c : He.SaysD f_fa f_fn K) : DefOk f_T K mg (Str.ofString "is_crossed") f_is_crossed := by
  obtain ⟨fd, F⟩ := c.def_ 33 (d := ⟨(Str.ofString "is_crossed", none), Str.ofString "is_crossed", Str.ofString "is_crossed", defArgs (top 43), defBody (top 43), defScope (top 43), [], []⟩) rfl
  exact ⟨_, _, _, _, _, _, f_N_is_crossed, f_P_is_crossed, 60, F, He.glo_ok X G (c.fact 33 (f := .glo (Str.ofString "is_crossed")) rfl), F.bindsN (fun _ _ _ _ _ _ us hl => match us, hl with | [_], _ => rfl), f_S_is_crossed, rfl, rfl, f_C_is_crossed⟩
theorem f_D__law_hand (X : K.In h) (G : h.Ns mainGlobals mg) (c : He.SaysD f_fa f_fn K) : DefOk f_T K mg (Str.ofString "_law_hand") f__law_hand := by
  obtain ⟨fd, F⟩ := c.def_ 34 (d := ⟨(Str.ofString "_law_hand", none), Str.ofString "_law_hand", Str.ofString "_law_hand", defArgs (top 45), defBody (top 45), defScope (top 45), [], []⟩) rfl
  exact ⟨_, _, _, _, _, _, f_N__law_hand, f_P__law_hand, 60, F, He.glo_ok X G (c.fact 34 (f := .glo (Str.ofString "_law_hand")) rfl), F.bindsN (fun _ _ _ _ _ _ us hl => match us, hl with | [_], _ => rfl), f_S__law_hand, rfl, rfl, f_C__law_hand⟩
theorem f_D__law_draw (X : K.In h) (G : h.Ns mainGlobals mg) (c : He.SaysD f_fa f_fn K) : DefOk f_T K mg (Str.ofString "_law_draw") f__law_draw := by
  obtain ⟨fd, F⟩ := c.def_ 35 (d := ⟨(Str.ofString "_law_draw", none), Str.ofString "_law_draw", Str.ofString "_law_draw", defArgs (top 46), defBody (top 46), defScope (top 46), [], []⟩) rfl
  exact ⟨_, _, _, _, _, _, f_N__law_draw, f_P__law_draw, 60, F, He.glo_ok X G (c.fact 35 (f := .glo (Str.ofString "_law_draw")) rfl), F.bindsN (fun _ _ _ _ _ _ us hl => match us, hl with | [_, _], _ => rfl), f_S__law_draw, rfl, rfl, f_C__law_draw⟩
theorem f_D__law_call (X : K.In h) (G : h.Ns mainGlobals mg) (c : He.SaysD f_fa f_fn K) : DefOk f_T K mg (Str.ofString "_law_call") f__law_call := by
  obtain ⟨fd, F⟩ := c.def_ 36 (d := ⟨(Str.ofString "_law_call", none), Str.ofString "_law_call", Str.ofString "_law_call", defArgs (top 47), defBody (top 47), defScope (top 47), [], []⟩) rfl
  exact ⟨_, _, _, _, _, _, f_N__law_call, f_P__law_call, 60, F, He.glo_ok X G (c.fact 36 (f := .glo (Str.ofString "_law_call")) rfl), F.bindsN (fun _ _ _ _ _ _ us hl => match us, hl with | [_, _, _], _ => rfl), f_S__law_call, rfl, rfl, f_C__law_call⟩
theorem f_D__law_history (X : K.In h) (G : h.Ns mainGlobals mg) (c : He.SaysD f_fa f_fn K) : DefOk f_T K mg (Str.ofString "_law_history") f__law_history := by
  obtain ⟨fd, F⟩ := c.def_ 37 (d := ⟨(Str.ofString "_law_history", none), Str.ofString "_law_history", Str.ofString "_law_history", defArgs (top 48), defBody (top 48), defScope (top 48), [], []⟩) rfl
  exact ⟨_, _, _, _, _, _, f_N__law_history, f_P__law_history, 60, F, He.glo_ok X G (c.fact 37 (f := .glo (Str.ofString "_law_history")) rfl), F.bindsN (fun _ _ _ _ _ _ us hl => match us, hl with | [_, _, _], _ => rfl), f_S__law_history, rfl, rfl, f_C__law_history⟩
theorem f_D__law_read (X : K.In h) (G : h.Ns mainGlobals mg) (c : He.SaysD f_fa f_fn K) : DefOk f_T K mg (Str.ofString "_law_read") f__law_read := by
  obtain ⟨fd, F⟩ := c.def_ 38 (d := ⟨(Str.ofString "_law_read", none), Str.ofString "_law_read", Str.ofString "_law_read", defArgs (top 49), defBody (top 49), defScope (top 49), [], []⟩) rfl
  exact ⟨_, _, _, _, _, _, f_N__law_read, f_P__law_read, 60, F, He.glo_ok X G (c.fact 38 (f := .glo (Str.ofString "_law_read")) rfl), F.bindsN (fun _ _ _ _ _ _ us hl => match us, hl with | [_, _, _], _ => rfl), f_S__law_read, rfl, rfl, f_C__law_read⟩
theorem f_D__law_goes (X : K.In h) (G : h.Ns mainGlobals mg) (c : He.SaysD f_fa f_fn K) : DefOk f_T K mg (Str.ofString "_law_goes") f__law_goes := by
  obtain ⟨fd, F⟩ := c.def_ 39 (d := ⟨(Str.ofString "_law_goes", none), Str.ofString "_law_goes", Str.ofString "_law_goes", defArgs (top 50), defBody (top 50), defScope (top 50), [], []⟩) rfl
  exact ⟨_, _, _, _, _, _, f_N__law_goes, f_P__law_goes, 60, F, He.glo_ok X G (c.fact 39 (f := .glo (Str.ofString "_law_goes")) rfl), F.bindsN (fun _ _ _ _ _ _ us hl => match us, hl with | [_, _, _], _ => rfl), f_S__law_goes, rfl, rfl, f_C__law_goes⟩
theorem f_D__law_is_right (X : K.In h) (G : h.Ns mainGlobals mg) (c : He.SaysD f_fa f_fn K) : DefOk f_T K mg (Str.ofString "_law_is_right") f__law_is_right := by
  obtain ⟨fd, F⟩ := c.def_ 40 (d := ⟨(Str.ofString "_law_is_right", none), Str.ofString "_law_is_right", Str.ofString "_law_is_right", defArgs (top 51), defBody (top 51), defScope (top 51), [], []⟩) rfl
  exact ⟨_, _, _, _, _, _, f_N__law_is_right, f_P__law_is_right, 60, F, He.glo_ok X G (c.fact 40 (f := .glo (Str.ofString "_law_is_right")) rfl), F.bindsN (fun _ _ _ _ _ _ us hl => match us, hl with | [_], _ => rfl), f_S__law_is_right, rfl, rfl, f_C__law_is_right⟩
theorem f_D__law_is_int (X : K.In h) (G : h.Ns mainGlobals mg) (c : He.SaysD f_fa f_fn K) : DefOk f_T K mg (Str.ofString "_law_is_int") f__law_is_int := by
  obtain ⟨fd, F⟩ := c.def_ 41 (d := ⟨(Str.ofString "_law_is_int", none), Str.ofString "_law_is_int", Str.ofString "_law_is_int", defArgs (top 52), defBody (top 52), defScope (top 52), [], []⟩) rfl
  exact ⟨_, _, _, _, _, _, f_N__law_is_int, f_P__law_is_int, 60, F, He.glo_ok X G (c.fact 41 (f := .glo (Str.ofString "_law_is_int")) rfl), F.bindsN (fun _ _ _ _ _ _ us hl => match us, hl with | [_], _ => rfl), f_S__law_is_int, rfl, rfl, f_C__law_is_int⟩
theorem f_D__law_is_order (X : K.In h) (G : h.Ns mainGlobals mg) (c : He.SaysD f_fa f_fn K) : DefOk f_T K mg (Str.ofString "_law_is_order") f__law_is_order := by
  obtain ⟨fd, F⟩ := c.def_ 42 (d := ⟨(Str.ofString "_law_is_order", none), Str.ofString "_law_is_order", Str.ofString "_law_is_order", defArgs (top 53), defBody (top 53), defScope (top 53), [], []⟩) rfl
  exact ⟨_, _, _, _, _, _, f_N__law_is_order, f_P__law_is_order, 60, F, He.glo_ok X G (c.fact 42 (f := .glo (Str.ofString "_law_is_order")) rfl), F.bindsN (fun _ _ _ _ _ _ us hl => match us, hl with | [_, _], _ => rfl), f_S__law_is_order, rfl, rfl, f_C__law_is_order⟩
theorem f_D__law_ended_read (X : K.In h) (G : h.Ns mainGlobals mg) (c : He.SaysD f_fa f_fn K) : DefOk f_T K mg (Str.ofString "_law_ended_read") f__law_ended_read := by
  obtain ⟨fd, F⟩ := c.def_ 43 (d := ⟨(Str.ofString "_law_ended_read", none), Str.ofString "_law_ended_read", Str.ofString "_law_ended_read", defArgs (top 54), defBody (top 54), defScope (top 54), [], []⟩) rfl
  exact ⟨_, _, _, _, _, _, f_N__law_ended_read, f_P__law_ended_read, 60, F, He.glo_ok X G (c.fact 43 (f := .glo (Str.ofString "_law_ended_read")) rfl), F.bindsN (fun _ _ _ _ _ _ us hl => match us, hl with | [_, _], _ => rfl), f_S__law_ended_read, rfl, rfl, f_C__law_ended_read⟩
theorem f_D__law_tells (X : K.In h) (G : h.Ns mainGlobals mg) (c : He.SaysD f_fa f_fn K) : DefOk f_T K mg (Str.ofString "_law_tells") f__law_tells := by
  obtain ⟨fd, F⟩ := c.def_ 44 (d := ⟨(Str.ofString "_law_tells", none), Str.ofString "_law_tells", Str.ofString "_law_tells", defArgs (top 55), defBody (top 55), defScope (top 55), [], []⟩) rfl
  exact ⟨_, _, _, _, _, _, f_N__law_tells, f_P__law_tells, 60, F, He.glo_ok X G (c.fact 44 (f := .glo (Str.ofString "_law_tells")) rfl), F.bindsN (fun _ _ _ _ _ _ us hl => match us, hl with | [_, _], _ => rfl), f_S__law_tells, rfl, rfl, f_C__law_tells⟩
theorem f_D__law_ahead (X : K.In h) (G : h.Ns mainGlobals mg) (c : He.SaysD f_fa f_fn K) : DefOk f_T K mg (Str.ofString "_law_ahead") f__law_ahead := by
  obtain ⟨fd, F⟩ := c.def_ 45 (d := ⟨(Str.ofString "_law_ahead", none), Str.ofString "_law_ahead", Str.ofString "_law_ahead", defArgs (top 56), defBody (top 56), defScope (top 56), [], []⟩) rfl
  exact ⟨_, _, _, _, _, _, f_N__law_ahead, f_P__law_ahead, 60, F, He.glo_ok X G (c.fact 45 (f := .glo (Str.ofString "_law_ahead")) rfl), F.bindsN (fun _ _ _ _ _ _ us hl => match us, hl with | [_, _, _], _ => rfl), f_S__law_ahead, rfl, rfl, f_C__law_ahead⟩
theorem f_D__law_is_bar (X : K.In h) (G : h.Ns mainGlobals mg) (c : He.SaysD f_fa f_fn K) : DefOk f_T K mg (Str.ofString "_law_is_bar") f__law_is_bar := by
  obtain ⟨fd, F⟩ := c.def_ 46 (d := ⟨(Str.ofString "_law_is_bar", none), Str.ofString "_law_is_bar", Str.ofString "_law_is_bar", defArgs (top 57), defBody (top 57), defScope (top 57), [], []⟩) rfl
  exact ⟨_, _, _, _, _, _, f_N__law_is_bar, f_P__law_is_bar, 60, F, He.glo_ok X G (c.fact 46 (f := .glo (Str.ofString "_law_is_bar")) rfl), F.bindsN (fun _ _ _ _ _ _ us hl => match us, hl with | [_, _], _ => rfl), f_S__law_is_bar, rfl, rfl, f_C__law_is_bar⟩
theorem f_D__law_bent_order (X : K.In h) (G : h.Ns mainGlobals mg) (c : He.SaysD f_fa f_fn K) : DefOk f_T K mg (Str.ofString "_law_bent_order") f__law_bent_order := by
  obtain ⟨fd, F⟩ := c.def_ 47 (d := ⟨(Str.ofString "_law_bent_order", none), Str.ofString "_law_bent_order", Str.ofString "_law_bent_order", defArgs (top 58), defBody (top 58), defScope (top 58), [], []⟩) rfl
  exact ⟨_, _, _, _, _, _, f_N__law_bent_order, f_P__law_bent_order, 60, F, He.glo_ok X G (c.fact 47 (f := .glo (Str.ofString "_law_bent_order")) rfl), F.bindsN (fun _ _ _ _ _ _ us hl => match us, hl with | [_, _, _], _ => rfl), f_S__law_bent_order, rfl, rfl, f_C__law_bent_order⟩
theorem f_D__law_bent_bar (X : K.In h) (G : h.Ns mainGlobals mg) (c : He.SaysD f_fa f_fn K) : DefOk f_T K mg (Str.ofString "_law_bent_bar") f__law_bent_bar := by
  obtain ⟨fd, F⟩ := c.def_ 48 (d := ⟨(Str.ofString "_law_bent_bar", none), Str.ofString "_law_bent_bar", Str.ofString "_law_bent_bar", defArgs (top 59), defBody (top 59), defScope (top 59), [], []⟩) rfl
  exact ⟨_, _, _, _, _, _, f_N__law_bent_bar, f_P__law_bent_bar, 60, F, He.glo_ok X G (c.fact 48 (f := .glo (Str.ofString "_law_bent_bar")) rfl), F.bindsN (fun _ _ _ _ _ _ us hl => match us, hl with | [_, _, _], _ => rfl), f_S__law_bent_bar, rfl, rfl, f_C__law_bent_bar⟩
theorem f_D_law (X : K.In h) (G : h.Ns mainGlobals mg) (c : He.SaysD f_fa f_fn K) : DefOk f_T K mg (Str.ofString "law") f_law := by
  obtain ⟨fd, F⟩ := c.def_ 49 (d := ⟨(Str.ofString "law", none), Str.ofString "law", Str.ofString "law", defArgs (top 60), defBody (top 60), defScope (top 60), [], []⟩) rfl
  exact ⟨_, _, _, _, _, _, f_N_law, f_P_law, 60, F, He.glo_ok X G (c.fact 49 (f := .glo (Str.ofString "law")) rfl), F.bindsN (fun _ _ _ _ _ _ us hl => match us, hl with | [_], _ => rfl), f_S_law, rfl, rfl, f_C_law⟩
theorem f_all (X : K.In h) (G : h.Ns mainGlobals mg) (c : He.SaysD f_fa f_fn K) : ∀ p ∈ f_tab, DefOk f_T K mg p.1 p.2 := by
  unfold f_tab
  refine List.forall_mem_cons.mpr ⟨f_D_is_integer X G c, List.forall_mem_cons.mpr ⟨f_D_is_between X G c, List.forall_mem_cons.mpr ⟨f_D_is_index X G c, List.forall_mem_cons.mpr ⟨f_D_is_tuple_of X G c, List.forall_mem_cons.mpr ⟨f_D_is_sign X G c, List.forall_mem_cons.mpr ⟨f_D_is_signs X G c, List.forall_mem_cons.mpr ⟨f_D_is_thing X G c, List.forall_mem_cons.mpr ⟨f_D_is_call X G c, List.forall_mem_cons.mpr ⟨f_D_moments_of X G c, List.forall_mem_cons.mpr ⟨f_D_is_history X G c, List.forall_mem_cons.mpr ⟨f_D_check_history X G c, List.forall_mem_cons.mpr ⟨f_D_writer_of X G c, List.forall_mem_cons.mpr ⟨f_D_counts X G c, List.forall_mem_cons.mpr ⟨f_D_groups_of X G c, List.forall_mem_cons.mpr ⟨f_D_first_end X G c, List.forall_mem_cons.mpr ⟨f_D_last_begin X G c, List.forall_mem_cons.mpr ⟨f_D_is_ahead X G c, List.forall_mem_cons.mpr ⟨f_D_single_bar X G c, List.forall_mem_cons.mpr ⟨f_D_late_bar X G c, List.forall_mem_cons.mpr ⟨f_D_crossed_bar X G c, List.forall_mem_cons.mpr ⟨f_D_crossed X G c, List.forall_mem_cons.mpr ⟨f_D_raw_bar X G c, List.forall_mem_cons.mpr ⟨f_D_bar X G c, List.forall_mem_cons.mpr ⟨f_D_tail X G c, List.forall_mem_cons.mpr ⟨f_D_name_order X G c, List.forall_mem_cons.mpr ⟨f_D_right_order X G c, List.forall_mem_cons.mpr ⟨f_D_is_right_order X G c, List.forall_mem_cons.mpr ⟨f_D_are_behind X G c, List.forall_mem_cons.mpr ⟨f_D_are_told X G c, List.forall_mem_cons.mpr ⟨f_D_is_bar X G c, List.forall_mem_cons.mpr ⟨f_D_is_single X G c, List.forall_mem_cons.mpr ⟨f_D_tells X G c, List.forall_mem_cons.mpr ⟨f_D_is_late X G c, List.forall_mem_cons.mpr ⟨f_D_is_crossed X G c, List.forall_mem_cons.mpr ⟨f_D__law_hand X G c, List.forall_mem_cons.mpr ⟨f_D__law_draw X G c, List.forall_mem_cons.mpr ⟨f_D__law_call X G c, List.forall_mem_cons.mpr ⟨f_D__law_history X G c, List.forall_mem_cons.mpr ⟨f_D__law_read X G c, List.forall_mem_cons.mpr ⟨f_D__law_goes X G c, List.forall_mem_cons.mpr ⟨f_D__law_is_right X G c, List.forall_mem_cons.mpr ⟨f_D__law_is_int X G c, List.forall_mem_cons.mpr ⟨f_D__law_is_order X G c, List.forall_mem_cons.mpr ⟨f_D__law_ended_read X G c, List.forall_mem_cons.mpr ⟨f_D__law_tells X G c, List.forall_mem_cons.mpr ⟨f_D__law_ahead X G c, List.forall_mem_cons.mpr ⟨f_D__law_is_bar X G c, List.forall_mem_cons.mpr ⟨f_D__law_bent_order X G c, List.forall_mem_cons.mpr ⟨f_D__law_bent_bar X G c, List.forall_mem_cons.mpr ⟨f_D_law X G c, fun p hp => absurd hp List.not_mem_nil⟩⟩⟩⟩⟩⟩⟩⟩⟩⟩⟩⟩⟩⟩⟩⟩⟩⟩⟩⟩⟩⟩⟩⟩⟩⟩⟩⟩⟩⟩⟩⟩⟩⟩⟩⟩⟩⟩⟩⟩⟩⟩⟩⟩⟩⟩⟩⟩⟩⟩
theorem f_frees (X : K.In h) (G : h.Ns mainGlobals mg) (c : He.SaysD f_fa f_fn K) : ∀ x ∈ f_free, mg x = none := by
  unfold f_free
  refine List.forall_mem_cons.mpr ⟨He.free_ok X G (c.fact 50 (f := .free (Str.ofString "abs")) rfl), List.forall_mem_cons.mpr ⟨He.free_ok X G (c.fact 51 (f := .free (Str.ofString "all")) rfl), List.forall_mem_cons.mpr ⟨He.free_ok X G (c.fact 52 (f := .free (Str.ofString "any")) rfl), List.forall_mem_cons.mpr ⟨He.free_ok X G (c.fact 53 (f := .free (Str.ofString "bool")) rfl), List.forall_mem_cons.mpr ⟨He.free_ok X G (c.fact 54 (f := .free (Str.ofString "enumerate")) rfl), List.forall_mem_cons.mpr ⟨He.free_ok X G (c.fact 55 (f := .free (Str.ofString "int")) rfl), List.forall_mem_cons.mpr ⟨He.free_ok X G (c.fact 56 (f := .free (Str.ofString "isinstance")) rfl), List.forall_mem_cons.mpr ⟨He.free_ok X G (c.fact 57 (f := .free (Str.ofString "len")) rfl), List.forall_mem_cons.mpr ⟨He.free_ok X G (c.fact 58 (f := .free (Str.ofString "list")) rfl), List.forall_mem_cons.mpr ⟨He.free_ok X G (c.fact 59 (f := .free (Str.ofString "max")) rfl), List.forall_mem_cons.mpr ⟨He.free_ok X G (c.fact 60 (f := .free (Str.ofString "min")) rfl), List.forall_mem_cons.mpr ⟨He.free_ok X G (c.fact 61 (f := .free (Str.ofString "range")) rfl), List.forall_mem_cons.mpr ⟨He.free_ok X G (c.fact 62 (f := .free (Str.ofString "set")) rfl), List.forall_mem_cons.mpr ⟨He.free_ok X G (c.fact 63 (f := .free (Str.ofString "sorted")) rfl), List.forall_mem_cons.mpr ⟨He.free_ok X G (c.fact 64 (f := .free (Str.ofString "str")) rfl), List.forall_mem_cons.mpr ⟨He.free_ok X G (c.fact 65 (f := .free (Str.ofString "tuple")) rfl), fun p hp => absurd hp List.not_mem_nil⟩⟩⟩⟩⟩⟩⟩⟩⟩⟩⟩⟩⟩⟩⟩⟩
theorem f_conss (X : K.In h) (G : h.Ns mainGlobals mg) (c : He.SaysD f_fa f_fn K) : ∀ p ∈ f_cons, ∃ v u, mg p.1 = some u ∧ RelV v u ∧ ∀ μ H, RelD K μ H p.2 v := by
  unfold f_cons
  refine List.forall_mem_cons.mpr ⟨?_, List.forall_mem_cons.mpr ⟨?_, List.forall_mem_cons.mpr ⟨?_, List.forall_mem_cons.mpr ⟨?_, fun p hp => absurd hp List.not_mem_nil⟩⟩⟩⟩
  · obtain ⟨t, e⟩ := He.int_ok X G (c.fact 66 (f := .int (Str.ofString "GREATEST") 999999999999999999999999999999) rfl); exact ⟨.int 999999999999999999999999999999, _, e, ⟨t, rfl⟩, fun _ _ => .int _⟩
  · obtain ⟨t, e⟩ := He.str_ok X G (c.fact 67 (f := .str (Str.ofString "READ") (Str.ofString "read")) rfl); exact ⟨.str (Str.ofString "read"), _, e, ⟨t, rfl⟩, fun _ _ => .str _⟩
  · obtain ⟨t, e⟩ := He.str_ok X G (c.fact 68 (f := .str (Str.ofString "WRITE") (Str.ofString "write")) rfl); exact ⟨.str (Str.ofString "write"), _, e, ⟨t, rfl⟩, fun _ _ => .str _⟩
  · obtain ⟨t, e⟩ := He.int_ok X G (c.fact 69 (f := .int (Str.ofString "MOST_TOLD") 5) rfl); exact ⟨.int 5, _, e, ⟨t, rfl⟩, fun _ _ => .int _⟩
end
end K47
set_option Elab.async false
set_option linter.all false
set_option maxRecDepth 100000
set_option maxHeartbeats 0
/-! k47: the head. -/
namespace K47
open PySem PySem.Spec PyProof.Rows L2 Ev
abbrev R : PySem.W.OpenRow := PySem.W.OpenLaw.row PySem.Challenge.rw_leasefiles_k47_whole_histories_by_trying
abbrev hk : PySem.W.Hook := He.hookD 4 f_fa f_fn
def ob (s : PySem.W.SharedT) : He.AlD := He.obsDG 4 f_fa f_fn (HandSHeadRun.getT s)
theorem ob_eq (s : PySem.W.SharedT) : ob s = hk.obs s.abs := He.obsDG_eq (HandSHeadRun.getT_eq s)
abbrev qv : PySem.Program := PySem.W.view R.prog [60]
theorem run (w : World) : HandSHeadRun.RunEq R qv hk ob 4000 f_loose w := by
  intro os
  kernel_rfl
end K47
set_option Elab.async false
set_option linter.all false
set_option maxRecDepth 100000
set_option maxHeartbeats 1000000
/-! Wp: what an evaluation answers, by weakest preconditions (plain: no program in sight). -/
namespace Ev
open PySem
/-- r answers, and what it answers is Q -/
def wR {α : Type} (r : R α) (Q : α → Store → Prop) : Prop := ∃ a S, r = .ok a S ∧ Q a S
section
variable {α β : Type} {Q : α → Store → Prop}
@[simp] theorem wR_ok {a : α} {S : Store} : wR (.ok a S) Q ↔ Q a S := ⟨fun ⟨_, _, e, h⟩ => by cases e; exact h, fun h => ⟨_, _, rfl, h⟩⟩
@[simp] theorem wR_bad : wR (.bad : R α) Q ↔ False := ⟨fun ⟨_, _, e, _⟩ => (by cases e), fun h => h.elim⟩
@[simp] theorem wR_bind {r : R β} {f : β → Store → R α} : wR (r.bind f) Q ↔ wR r fun b S => wR (f b S) Q := by
  cases r with
  | ok b S => simp
  | bad => simp
@[simp] theorem wR_of {o : Option α} {S : Store} : wR (R.of o S) Q ↔ ∃ a, o = some a ∧ Q a S := by
  cases o <;> simp
theorem wR_mono {r : R α} {Q' : α → Store → Prop} (h : wR r Q) (f : ∀ a S, Q a S → Q' a S) : wR r Q' := by
  obtain ⟨a, S, e, q⟩ := h
  exact ⟨a, S, e, f a S q⟩
end
/-- what stands, stands -/
def Fr (S S' : Store) : Prop := ∀ (i : Nat) (o : Ob), S[i]? = some o → S'[i]? = some o
theorem Fr.refl {S : Store} : Fr S S := fun _ _ h => h
theorem Fr.trans {S S' S'' : Store} (a : Fr S S') (b : Fr S' S'') : Fr S S'' := fun i o h => b i o (a i o h)
theorem Fr.app {S T : Store} : Fr S (S ++ T) := fun i o h => by
  rw [List.getElem?_append_left (List.getElem?_eq_some_iff.mp h).1]
  exact h
theorem Fr.set {S S' : Store} {n : Nat} {o : Ob} (a : Fr S S') (hn : S[n]? = none) : Fr S (S'.set n o) := fun i o' h => by
  have : i ≠ n := fun e => by rw [e, hn] at h; cases h
  rw [List.getElem?_set_ne (Ne.symm this)]
  exact a i o' h
theorem get_new {S : Store} {o : Ob} : (S ++ [o])[S.length]? = some o := by simp
theorem get_len {S : Store} : S[S.length]? = none := by simp
theorem get_set {S : Store} {n : Nat} {o o' : Ob} (h : S[n]? = some o) : (S.set n o')[n]? = some o' := by
  rw [List.getElem?_set_self (List.getElem?_eq_some_iff.mp h).1]
section
variable {c : Ctx} {δ : Env} {S : Store} {Q : D → Store → Prop}
@[simp] theorem w_lit {d : D} : wR (evE c (.lit d) δ S) Q ↔ Q d S := by simp [evE]
@[simp] theorem w_var {i : Nat} : wR (evE c (.var i) δ S) Q ↔ ∃ d, δ[i]? = some (some d) ∧ Q d S := by
  simp only [evE]
  split
  · rename_i d h; simp [h]
  · rename_i h
    simp only [wR_bad, false_iff]
    rintro ⟨d, h1, _⟩
    exact h d h1
@[simp] theorem w_con {x : Str} : wR (evE c (.con x) δ S) Q ↔ ∃ d, c.con x = some d ∧ Q d S := by simp [evE]
@[simp] theorem w_and {a b : E} : wR (evE c (.and a b) δ S) Q ↔ wR (evE c a δ S) fun d S1 => ∃ k, tru S1 d = some k ∧ if k = true then wR (evE c b δ S1) Q else Q d S1 := by
  simp only [evE, wR_bind]
  constructor <;> intro h <;> refine wR_mono h fun d S1 h => ?_
  · split at h
    · exact ⟨true, by assumption, by simpa using h⟩
    · exact ⟨false, by assumption, by simpa using h⟩
    · simp at h
  · obtain ⟨k, e, h⟩ := h
    rw [e]
    cases k <;> simpa using h
@[simp] theorem w_or {a b : E} : wR (evE c (.or a b) δ S) Q ↔ wR (evE c a δ S) fun d S1 => ∃ k, tru S1 d = some k ∧ if k = true then Q d S1 else wR (evE c b δ S1) Q := by
  simp only [evE, wR_bind]
  constructor <;> intro h <;> refine wR_mono h fun d S1 h => ?_
  · split at h
    · exact ⟨true, by assumption, by simpa using h⟩
    · exact ⟨false, by assumption, by simpa using h⟩
    · simp at h
  · obtain ⟨k, e, h⟩ := h
    rw [e]
    cases k <;> simpa using h
@[simp] theorem w_not {a : E} : wR (evE c (.not a) δ S) Q ↔ wR (evE c a δ S) fun d S1 => ∃ k, tru S1 d = some k ∧ Q (.bl (!k)) S1 := by
  simp only [evE, wR_bind]
  constructor <;> intro h <;> refine wR_mono h fun d S1 h => ?_
  · split at h
    · exact ⟨_, by assumption, by simpa using h⟩
    · simp at h
  · obtain ⟨k, e, h⟩ := h
    rw [e]
    simpa using h
@[simp] theorem w_neg {a : E} : wR (evE c (.neg a) δ S) Q ↔ wR (evE c a δ S) fun d S1 => ∃ x, negD d = some x ∧ Q x S1 := by simp [evE]
@[simp] theorem w_bin {op : Operator} {a b : E} : wR (evE c (.bin op a b) δ S) Q ↔ wR (evE c a δ S) fun x S1 => wR (evE c b δ S1) fun y S2 => wR (binD op x y S2) Q := by simp [evE]
@[simp] theorem w_cmp {op : CmpOp} {a b : E} : wR (evE c (.cmp op a b) δ S) Q ↔ wR (evE c a δ S) fun x S1 => wR (evE c b δ S1) fun y S2 => ∃ k, cmpD op x y S2 = some k ∧ Q (.bl k) S2 := by
  simp only [evE, wR_bind]
  constructor <;> intro h <;> refine wR_mono h fun d S1 h => wR_mono h fun y S2 h => ?_
  · split at h
    · exact ⟨_, by assumption, by simpa using h⟩
    · simp at h
  · obtain ⟨k, e, h⟩ := h
    rw [e]
    simpa using h
@[simp] theorem w_chain {op op' : CmpOp} {a b e : E} : wR (evE c (.chain op op' a b e) δ S) Q ↔ wR (evE c a δ S) fun x S1 => wR (evE c b δ S1) fun y S2 => ∃ k, cmpD op x y S2 = some k ∧
    if k = true then wR (evE c e δ S2) fun z S3 => ∃ k, cmpD op' y z S3 = some k ∧ Q (.bl k) S3 else Q (.bl false) S2 := by
  simp only [evE, wR_bind]
  constructor <;> intro h <;> refine wR_mono h fun d S1 h => wR_mono h fun y S2 h => ?_
  · split at h
    · refine ⟨true, by assumption, ?_⟩
      rw [if_pos rfl]
      rw [wR_bind] at h
      refine wR_mono h fun z S3 h => ?_
      split at h
      · exact ⟨_, by assumption, by simpa using h⟩
      · simp at h
    · exact ⟨false, by assumption, by simpa using h⟩
    · simp at h
  · obtain ⟨k, e, h⟩ := h
    rw [e]
    cases k
    · simpa using h
    · simp only [if_true] at h
      simp only [wR_bind]
      refine wR_mono h fun z S3 ⟨k, e, h⟩ => ?_
      rw [e]
      simpa using h
@[simp] theorem w_ite {t a b : E} : wR (evE c (.ite t a b) δ S) Q ↔ wR (evE c t δ S) fun d S1 => ∃ k, tru S1 d = some k ∧ if k = true then wR (evE c a δ S1) Q else wR (evE c b δ S1) Q := by
  simp only [evE, wR_bind]
  constructor <;> intro h <;> refine wR_mono h fun d S1 h => ?_
  · split at h
    · exact ⟨true, by assumption, by simpa using h⟩
    · exact ⟨false, by assumption, by simpa using h⟩
    · simp at h
  · obtain ⟨k, e, h⟩ := h
    rw [e]
    cases k <;> simpa using h
theorem wR_if {α : Type} {p : Prop} [Decidable p] {r : R α} {Q : α → Store → Prop} : wR (if p then r else .bad) Q ↔ p ∧ wR r Q := by
  split <;> simp [*]
@[simp] theorem w_tup {es : List E} : wR (evE c (.tup es) δ S) Q ↔ wR (evEs c es δ S) fun ds S1 => ds.length ≤ lim ∧ Q (.tup ds) S1 := by simp [evE, wR_if]
@[simp] theorem w_lst {es : List E} : wR (evE c (.lst es) δ S) Q ↔ wR (evEs c es δ S) fun ds S1 => ds.length ≤ lim ∧ Q (.ref S1.length) (S1 ++ [.lst ds]) := by simp [evE, wR_if]
@[simp] theorem w_dic : wR (evE c .dic δ S) Q ↔ Q (.ref S.length) (S ++ [.dic [] false]) := by simp [evE]
@[simp] theorem w_ix {a b : E} : wR (evE c (.ix a b) δ S) Q ↔ wR (evE c a δ S) fun x S1 => wR (evE c b δ S1) fun y S2 => wR (ixD x y S2) Q := by simp [evE]
@[simp] theorem w_sl {a : E} {lo hi : Option E} : wR (evE c (.sl a lo hi) δ S) Q ↔ wR (evE c a δ S) fun x S1 => wR (evO c lo δ S1) fun l S2 => wR (evO c hi δ S2) fun h S3 => wR (slD x l h S3) Q := by simp [evE]
@[simp] theorem w_rev {a : E} : wR (evE c (.rev a) δ S) Q ↔ wR (evE c a δ S) fun x S1 => wR (revD x S1) Q := by simp [evE]
@[simp] theorem w_call {f : Str} {es : List E} : wR (evE c (.call f es) δ S) Q ↔ wR (evEs c es δ S) fun ds S1 => wR (c.call f ds S1) Q := by simp [evE]
theorem w_prim0 {p : Pr} {es : List E} : wR (evE c (.prim p es) δ S) Q ↔ wR (evEs c es δ S) fun ds S1 => wR (primD p ds S1) Q := by simp [evE]
@[simp] theorem w_prim {p : Pr} {es : List E} (h1 : p ≠ .all) (h2 : p ≠ .any) : wR (evE c (.prim p es) δ S) Q ↔ wR (evEs c es δ S) fun ds S1 => wR (primD p ds S1) Q := by simp [evE]
@[simp] theorem w_meth {m : Mt} {o : E} {es : List E} : wR (evE c (.meth m o es) δ S) Q ↔ wR (evE c o δ S) fun x S1 => recvOk m x S1 = true ∧ wR (evEs c es δ S1) fun ds S2 => wR (methD m x ds S2) Q := by simp [evE, wR_if]
@[simp] theorem w_nil {Q : List D → Store → Prop} : wR (evEs c [] δ S) Q ↔ Q [] S := by simp [evEs]
@[simp] theorem w_cons {e : E} {es : List E} {Q : List D → Store → Prop} : wR (evEs c (e :: es) δ S) Q ↔ wR (evE c e δ S) fun d S1 => wR (evEs c es δ S1) fun ds S2 => Q (d :: ds) S2 := by simp [evEs]
@[simp] theorem w_none {Q : Option Int → Store → Prop} : wR (evO c none δ S) Q ↔ Q none S := by simp [evO]
@[simp] theorem w_some {e : E} {Q : Option Int → Store → Prop} : wR (evO c (some e) δ S) Q ↔ wR (evE c e δ S) fun d S1 => ∃ i, d = .int i ∧ Q (some i) S1 := by
  simp only [evO, wR_bind]
  constructor <;> intro h <;> refine wR_mono h fun d S1 h => ?_
  · split at h
    · exact ⟨_, rfl, by simpa using h⟩
    · simp at h
  · obtain ⟨i, rfl, h⟩ := h
    simpa using h
@[simp] theorem w_test {e : E} {Q : Bool → Store → Prop} : wR (evT c e δ S) Q ↔ wR (evE c e δ S) fun d S1 => ∃ k, tru S1 d = some k ∧ Q k S1 := by simp [evT]
end
/-! ### statements -/
section
variable {c : Ctx} {δ : Env} {S : Store} {Q : Out → Store → Prop}
def thenO (f : Env → Store → Prop) (Q : Out → Store → Prop) : Out → Store → Prop
  | .nx δ, S => f δ S
  | .rt d, S => Q (.rt d) S
  | .bk δ, S => Q (.bk δ) S
  | .ct δ, S => Q (.ct δ) S
@[simp] theorem thenO_nx {f : Env → Store → Prop} : thenO f Q (.nx δ) S = f δ S := rfl
@[simp] theorem thenO_rt {f : Env → Store → Prop} {d : D} : thenO f Q (.rt d) S = Q (.rt d) S := rfl
@[simp] theorem thenO_bk {f : Env → Store → Prop} : thenO f Q (.bk δ) S = Q (.bk δ) S := rfl
@[simp] theorem thenO_ct {f : Env → Store → Prop} : thenO f Q (.ct δ) S = Q (.ct δ) S := rfl
@[simp] theorem w_snil : wR (evSs c .nil δ S) Q ↔ Q (.nx δ) S := by simp [evSs]
@[simp] theorem w_scons {s : Sm} {r : Sms} : wR (evSs c (.cons s r) δ S) Q ↔ wR (evS c s δ S) (thenO (fun δ' S' => wR (evSs c r δ' S') Q) Q) := by
  simp only [evSs]
  cases evS c s δ S with
  | bad => simp
  | ok o S1 => cases o <;> simp
@[simp] theorem w_expr {e : E} : wR (evS c (.expr e) δ S) Q ↔ wR (evE c e δ S) fun _ S1 => Q (.nx δ) S1 := by simp [evS]
@[simp] theorem w_set {i : Nat} {e : E} : wR (evS c (.set i e) δ S) Q ↔ wR (evE c e δ S) fun d S1 => Q (.nx (δ.set i (some d))) S1 := by simp [evS]
@[simp] theorem w_par {is : List Nat} {es : List E} : wR (evS c (.par is es) δ S) Q ↔ wR (evEs c es δ S) fun ds S1 => ds.length = is.length ∧ Q (.nx (setAll δ is ds)) S1 := by simp [evS, wR_if]
@[simp] theorem w_unpack {is : List Nat} {e : E} : wR (evS c (.unpack is e) δ S) Q ↔ wR (evE c e δ S) fun d S1 => ∃ ds, seqOf S1 d = some ds ∧ ds.length = is.length ∧ Q (.nx (setAll δ is ds)) S1 := by
  simp only [evS, wR_bind]
  constructor <;> intro h <;> refine wR_mono h fun d S1 h => ?_
  · split at h
    · rw [wR_if] at h
      exact ⟨_, by assumption, h.1, by simpa using h.2⟩
    · simp at h
  · obtain ⟨ds, e, h1, h⟩ := h
    rw [e]
    simpa [wR_if, h1] using h
@[simp] theorem w_setIx {o i v : E} : wR (evS c (.setIx o i v) δ S) Q ↔ wR (evE c v δ S) fun z S1 => wR (evE c o δ S1) fun x S2 => wR (evE c i δ S2) fun y S3 => wR (setIxD x y z S3) fun _ S4 => Q (.nx δ) S4 := by simp [evS]
@[simp] theorem w_ret {e : E} : wR (evS c (.ret e) δ S) Q ↔ wR (evE c e δ S) fun d S1 => Q (.rt d) S1 := by simp [evS]
@[simp] theorem w_retN : wR (evS c .retN δ S) Q ↔ Q (.rt .non) S := by simp [evS]
@[simp] theorem w_ifs {t : E} {a b : Sms} : wR (evS c (.ifs t a b) δ S) Q ↔ wR (evE c t δ S) fun d S1 => ∃ k, tru S1 d = some k ∧ if k = true then wR (evSs c a δ S1) Q else wR (evSs c b δ S1) Q := by
  simp only [evS, wR_bind, w_test]
  constructor <;> intro h <;> refine wR_mono h fun d S1 ⟨k, e, h⟩ => ⟨k, e, ?_⟩
  · cases k <;> simpa using h
  · cases k <;> simpa using h
@[simp] theorem w_cont : wR (evS c .cont δ S) Q ↔ Q (.ct δ) S := by simp [evS]
@[simp] theorem w_brk : wR (evS c .brk δ S) Q ↔ Q (.bk δ) S := by simp [evS]
@[simp] theorem w_pass : wR (evS c .pass δ S) Q ↔ Q (.nx δ) S := by simp [evS]
end
/-! ### calls -/
def finO (Q : D → Store → Prop) : Out → Store → Prop
  | .rt d, S => Q d S
  | .nx _, S => Q .non S
  | _, _ => False
@[simp] theorem finO_rt {Q : D → Store → Prop} {d : D} {S : Store} : finO Q (.rt d) S = Q d S := rfl
@[simp] theorem finO_nx {Q : D → Store → Prop} {δ : Env} {S : Store} : finO Q (.nx δ) S = Q .non S := rfl
theorem w_fn {fns : Str → Option Fn} {con : Str → Option D} {W k : Nat} {f : Str} {F : Fn} {ds : List D} {S : Store} {Q : D → Store → Prop} (hf : fns f = some F) (hl : ds.length = F.ps)
    (h : wR (evSs ⟨callN fns con W k, con, W⟩ F.body (startEnv F.n ds) S) (finO Q)) : wR (callN fns con W (k + 1) f ds S) Q := by
  simp only [callN, hf, if_pos hl]
  obtain ⟨o, S1, e, h⟩ := h
  rw [e]
  cases o <;> first | exact ⟨_, _, rfl, h⟩ | exact h.elim
/-! ### loops -/
theorem chk_fr {S S' : Store} {chk : List (Nat × List D)} (h : chkOk S chk = true) (f : Fr S S') : chkOk S' chk = true := by
  unfold chkOk at *
  rw [List.all_eq_true] at *
  intro p hp
  have := h p hp
  simp only [decide_eq_true_eq] at *
  exact f _ _ this
theorem chk_nil {S : Store} : chkOk S [] = true := rfl
theorem chk_one1 {S : Store} {n : Nat} {xs : List D} (h : S[n]? = some (.lst xs)) : chkOk S [(n, xs)] = true := by
  simp [chkOk, h]
theorem lcLoop_ok {α : Type} {n : Nat} {chk : List (Nat × List D)} {step : D → Store → R (Option D)} {S0 : Store} {f : α → D} {g : α → Option D} (hn : S0[n]? = none) (hc : chkOk S0 chk = true) :
    ∀ (ys : List α) (acc : List D) (S : Store), (∀ y ∈ ys, ∀ S2, Fr S0 S2 → wR (step (f y) S2) fun o S3 => o = g y ∧ Fr S2 S3) → Fr S0 S → S[n]? = some (.lst acc) → acc.length + ys.length ≤ lim →
      wR (lcLoop n chk step (ys.map f) acc S) fun _ S' => Fr S0 S' ∧ S'[n]? = some (.lst (acc ++ ys.filterMap g))
  | [], acc, S, hs, hf, ha, hl => by
    unfold lcLoop
    simp [chk_fr hc hf, ha, hf]
  | y :: ys, acc, S, hs, hf, ha, hl => by
    rw [List.map_cons]
    unfold lcLoop
    rw [if_pos ⟨chk_fr hc hf, ha⟩]
    obtain ⟨o, S3, e, rfl, h3⟩ := hs y (.head _) S hf
    rw [e]
    rw [List.length_cons] at hl
    cases hg : g y with
    | none =>
      have := lcLoop_ok hn hc ys acc S3 (fun z hz => hs z (.tail _ hz)) (hf.trans h3) (h3 _ _ ha) (by omega)
      rw [List.filterMap_cons, hg]
      exact this
    | some d =>
      dsimp only
      rw [if_pos ⟨h3 _ _ ha, by omega⟩]
      have := lcLoop_ok hn hc ys (acc ++ [d]) (S3.set n (.lst (acc ++ [d]))) (fun z hz => hs z (.tail _ hz)) ((hf.trans h3).set hn) (get_set (h3 _ _ ha)) (by simp; omega)
      rw [List.filterMap_cons, hg]
      simpa using this
theorem forLoop_ok {chk : List (Nat × List D)} {step : D → Env → Store → R Out} {Q : Out → Store → Prop} {I : List D → Env → Store → Prop} (hn : ∀ δ S, I [] δ S → chkOk S chk = true ∧ Q (.nx δ) S)
    (hs : ∀ x r δ S, I (x :: r) δ S → chkOk S chk = true ∧ wR (step x δ S) fun o S' => match o with
      | .nx δ' => I r δ' S'
      | .ct δ' => I r δ' S'
      | .bk δ' => Q (.nx δ') S'
      | .rt d => Q (.rt d) S') : ∀ (xs : List D) (δ : Env) (S : Store), I xs δ S → wR (forLoop chk step xs δ S) Q
  | [], δ, S, h => by
    obtain ⟨a, b⟩ := hn δ S h
    unfold forLoop
    simp [a, b]
  | x :: r, δ, S, h => by
    obtain ⟨a, b⟩ := hs x r δ S h
    unfold forLoop
    rw [if_pos a]
    obtain ⟨o, S', e, b⟩ := b
    rw [e]
    cases o with
    | nx δ' => exact forLoop_ok hn hs r δ' S' b
    | ct δ' => exact forLoop_ok hn hs r δ' S' b
    | bk δ' => exact ⟨_, _, rfl, b⟩
    | rt d => exact ⟨_, _, rfl, b⟩
end Ev
set_option Elab.async false
set_option linter.all false
set_option maxRecDepth 100000
set_option maxHeartbeats 1000000
/-! Wp, part B: comprehensions, walks. -/
namespace Ev
open PySem
def stepW (c : Ctx) (t : Tg) (vs : List Nat) (δ : Env) (cond : Option E) (elt : E) (x : D) (S : Store) : R (Option D) := match t.put x (wipe δ vs) with
  | some δ' => (match cond with
    | none => (evE c elt δ' S).bind fun d S' => .ok (some d) S'
    | some t => (evE c t δ' S).bind fun d S' => match tru S' d with
      | some true => (evE c elt δ' S').bind fun d S' => .ok (some d) S'
      | some false => .ok none S'
      | none => .bad)
  | none => .bad
section
variable {c : Ctx} {δ : Env} {S : Store} {t : Tg} {vs : List Nat} {elt : E}
@[simp] theorem w_stepN {x : D} {Q : Option D → Store → Prop} : wR (stepW c t vs δ none elt x S) Q ↔ ∃ δ', t.put x (wipe δ vs) = some δ' ∧ wR (evE c elt δ' S) fun d S1 => Q (some d) S1 := by
  unfold stepW
  cases t.put x (wipe δ vs) <;> simp
@[simp] theorem w_stepC {x : D} {e : E} {Q : Option D → Store → Prop} : wR (stepW c t vs δ (some e) elt x S) Q ↔ ∃ δ', t.put x (wipe δ vs) = some δ' ∧ wR (evE c e δ' S) fun d S1 => ∃ k, tru S1 d = some k ∧ if k = true then wR (evE c elt δ' S1) fun d S1 => Q (some d) S1 else Q none S1 := by
  unfold stepW
  cases t.put x (wipe δ vs) with
  | none => simp
  | some δ' =>
    simp only [wR_bind, Option.some.injEq, exists_eq_left']
    constructor <;> intro h <;> refine wR_mono h fun d S1 h => ?_
    · split at h
      · exact ⟨true, by assumption, by simpa using h⟩
      · exact ⟨false, by assumption, by simpa using h⟩
      · simp at h
    · obtain ⟨k, e, h⟩ := h
      rw [e]
      cases k <;> simpa using h
theorem none_of_fr {S S1 : Store} {n : Nat} (f : Fr S S1) (h : S1[n]? = none) : S[n]? = none := by
  cases e : S[n]? with
  | none => rfl
  | some o => rw [f _ _ e] at h; cases h
/-- [elt for t in src if cond] -/
theorem w_lc {α : Type} {src : Src} {cond : Option E} {Q : D → Store → Prop} (ys : List α) (f : α → D) (g : α → Option D) (hl : lockOf src δ S = none)
    (hsrc : wR (evSrc c src δ S) fun it S1 => it.items = ys.map f ∧ chkOk S1 it.chk = true ∧ Fr S S1) (hlen : ys.length ≤ lim)
    (hstep : ∀ y ∈ ys, ∀ S2, Fr S S2 → wR (stepW c t vs δ cond elt (f y) S2) fun o S3 => o = g y ∧ Fr S2 S3)
    (hQ : ∀ S' n, Fr S S' → S[n]? = none → S'[n]? = some (.lst (ys.filterMap g)) → Q (.ref n) S') : wR (evE c (.lc vs t src cond elt) δ S) Q := by
  have e : evE c (.lc vs t src cond elt) δ S = (evSrc c src δ (lk (lockOf src δ S) S)).bind fun it S1 =>
      (lcLoop S1.length it.chk (stepW c t vs δ cond elt) it.items [] (S1 ++ [.lst []])).bind fun _ S2 => .ok (.ref S1.length) (unlk (lockOf src δ S) S2) := by
    simp only [evE]
    rfl
  rw [e, hl]
  simp only [lk, unlk, wR_bind]
  refine wR_mono hsrc fun it S1 ⟨h1, h2, h3⟩ => ?_
  rw [h1]
  have := lcLoop_ok (S0 := S1) (chk := it.chk) (f := f) (g := g) (step := stepW c t vs δ cond elt) get_len h2 ys [] (S1 ++ [.lst []]) (fun y hy S2 f2 => hstep y hy S2 (h3.trans f2)) Fr.app get_new (by simpa using hlen)
  refine wR_mono this fun _ S' ⟨a, b⟩ => ?_
  simp only [wR_ok]
  exact hQ S' S1.length (h3.trans a) (none_of_fr h3 get_len) (by simpa using b)
theorem optAll_map {α β : Type} (f : α → β) : ∀ ys : List α, optAll (ys.map fun y => some (f y)) = some (ys.map f)
  | [] => rfl
  | y :: ys => by simp [optAll, optAll_map f ys]
/-- all([elt for t in src]) -/
theorem w_all {α : Type} {src : Src} {Q : D → Store → Prop} (ys : List α) (f : α → D) (p : α → Bool) (hl : lockOf src δ S = none)
    (hsrc : wR (evSrc c src δ S) fun it S1 => it.items = ys.map f ∧ chkOk S1 it.chk = true ∧ Fr S S1) (hlen : ys.length ≤ lim)
    (hstep : ∀ y ∈ ys, ∀ S2, Fr S S2 → ∃ δ', t.put (f y) (wipe δ vs) = some δ' ∧ wR (evE c elt δ' S2) fun d S3 => d = .bl (p y) ∧ Fr S2 S3)
    (hQ : ∀ S', Fr S S' → Q (.bl (ys.all p)) S') : wR (evE c (.prim .all [.lc vs t src none elt]) δ S) Q := by
  simp only [w_prim0, w_cons, w_nil]
  refine w_lc ys f (fun y => some (.bl (p y))) hl hsrc hlen (fun y hy S2 h2 => ?_) fun S' n h1 h2 h3 => ?_
  · simp only [w_stepN, Option.some.injEq]
    exact hstep y hy S2 h2
  · have e : primD .all [.ref n] S' = .ok (.bl (ys.all p)) S' := by
      simp only [primD, pAll, lstOf, h3, Option.bind_some, List.filterMap_eq_map', List.map_map]
      have : (boolOf ∘ fun y => D.bl (p y)) = fun y => some (p y) := rfl
      rw [this, optAll_map]
      simp
    rw [e, wR_ok]
    exact hQ S' h1
/-- any([elt for t in src]) -/
theorem w_any {α : Type} {src : Src} {Q : D → Store → Prop} (ys : List α) (f : α → D) (p : α → Bool) (hl : lockOf src δ S = none)
    (hsrc : wR (evSrc c src δ S) fun it S1 => it.items = ys.map f ∧ chkOk S1 it.chk = true ∧ Fr S S1) (hlen : ys.length ≤ lim)
    (hstep : ∀ y ∈ ys, ∀ S2, Fr S S2 → ∃ δ', t.put (f y) (wipe δ vs) = some δ' ∧ wR (evE c elt δ' S2) fun d S3 => d = .bl (p y) ∧ Fr S2 S3)
    (hQ : ∀ S', Fr S S' → Q (.bl (ys.any p)) S') : wR (evE c (.prim .any [.lc vs t src none elt]) δ S) Q := by
  simp only [w_prim0, w_cons, w_nil]
  refine w_lc ys f (fun y => some (.bl (p y))) hl hsrc hlen (fun y hy S2 h2 => ?_) fun S' n h1 h2 h3 => ?_
  · simp only [w_stepN, Option.some.injEq]
    exact hstep y hy S2 h2
  · have e : primD .any [.ref n] S' = .ok (.bl (ys.any p)) S' := by
      simp only [primD, pAny, lstOf, h3, Option.bind_some, List.filterMap_eq_map', List.map_map]
      have : (boolOf ∘ fun y => D.bl (p y)) = fun y => some (p y) := rfl
      rw [this, optAll_map]
      simp
    rw [e, wR_ok]
    exact hQ S' h1
/-! ### sources -/
variable {Q : It → Store → Prop}
@[simp] theorem ws_val {e : E} : wR (evSrc c (.val e) δ S) Q ↔ wR (evE c e δ S) fun d S1 => ∃ it, itOf d S1 = some it ∧ Q it S1 := by simp [evSrc]
@[simp] theorem ws_keys {i : Nat} : wR (evSrc c (.keys i) δ S) Q ↔ ∃ d it, δ[i]? = some (some d) ∧ keysOf d S = some it ∧ Q it S := by
  simp only [evSrc]
  split
  · rename_i d h; simp [h]
  · rename_i h
    simp only [wR_bad, false_iff]
    rintro ⟨d, it, h1, _⟩
    exact h d h1
@[simp] theorem ws_items {i : Nat} : wR (evSrc c (.items i) δ S) Q ↔ ∃ d it, δ[i]? = some (some d) ∧ itemsOf d S = some it ∧ Q it S := by
  simp only [evSrc]
  split
  · rename_i d h; simp [h]
  · rename_i h
    simp only [wR_bad, false_iff]
    rintro ⟨d, it, h1, _⟩
    exact h d h1
@[simp] theorem ws_enum {e : E} : wR (evSrc c (.enum e) δ S) Q ↔ wR (evE c e δ S) fun d S1 => ∃ it, enumOf d S1 = some it ∧ Q it S1 := by simp [evSrc]
@[simp] theorem ws_range {lo hi : E} : wR (evSrc c (.range lo hi) δ S) Q ↔ wR (evE c lo δ S) fun x S1 => wR (evE c hi δ S1) fun y S2 => ∃ i j, x = .int i ∧ y = .int j ∧ rangeOk i j = true ∧ Q ⟨rangeD i j, []⟩ S2 := by
  simp only [evSrc, wR_bind]
  constructor <;> intro h <;> refine wR_mono h fun x S1 h => wR_mono h fun y S2 h => ?_
  · split at h
    · rw [wR_if] at h
      exact ⟨_, _, rfl, rfl, h.1, by simpa using h.2⟩
    · simp at h
  · obtain ⟨i, j, rfl, rfl, h1, h⟩ := h
    simpa [h1] using h
@[simp] theorem keysOf_tup {ds : List D} : keysOf (.tup ds) S = some ⟨ds, []⟩ := rfl
@[simp] theorem itOf_tup {ds : List D} : itOf (.tup ds) S = some ⟨ds, []⟩ := rfl
@[simp] theorem enumOf_tup {ds : List D} : enumOf (.tup ds) S = some ⟨enumD ds, []⟩ := rfl
theorem keysOf_lst {n : Nat} {xs : List D} (h : S[n]? = some (.lst xs)) : keysOf (.ref n) S = some ⟨xs, [(n, xs)]⟩ := by
  simp [keysOf, dicOf, itOf, h]
theorem itOf_lst {n : Nat} {xs : List D} (h : S[n]? = some (.lst xs)) : itOf (.ref n) S = some ⟨xs, [(n, xs)]⟩ := by
  simp [itOf, h]
theorem enumOf_lst {n : Nat} {xs : List D} (h : S[n]? = some (.lst xs)) : enumOf (.ref n) S = some ⟨enumD xs, [(n, xs)]⟩ := by
  simp [enumOf, h]
theorem lock_tup {i : Nat} {ds : List D} (h : δ[i]? = some (some (.tup ds))) : lockOf (.keys i) δ S = none := by
  simp [lockOf, lockAt, h, dicOf]
theorem lock_lst {i n : Nat} {xs : List D} (h : δ[i]? = some (some (.ref n))) (h2 : S[n]? = some (.lst xs)) : lockOf (.keys i) δ S = none := by
  simp [lockOf, lockAt, h, dicOf, h2]
theorem lock_str {i : Nat} {x : Str} (h : δ[i]? = some (some (.str x))) : lockOf (.keys i) δ S = none := by
  simp [lockOf, lockAt, h, dicOf]
/-- for t in src: body -/
theorem w_for {src : Src} {body : Sms} {Q : Out → Store → Prop} {I : List D → Env → Store → Prop} (chk : List (Nat × List D)) (hl : lockOf src δ S = none)
    (hsrc : wR (evSrc c src δ S) fun it S1 => it.chk = chk ∧ I it.items δ S1) (hn : ∀ δ S, I [] δ S → chkOk S chk = true ∧ Q (.nx δ) S)
    (hs : ∀ x r δ S, I (x :: r) δ S → chkOk S chk = true ∧ ∃ δ', t.put x δ = some δ' ∧ wR (evSs c body δ' S) fun o S' => match o with
      | .nx δ' => I r δ' S'
      | .ct δ' => I r δ' S'
      | .bk δ' => Q (.nx δ') S'
      | .rt d => Q (.rt d) S') : wR (evS c (.for t src body) δ S) Q := by
  simp only [evS, hl, lk, unlk, wR_bind, wR_ok]
  refine wR_mono hsrc fun it S1 ⟨h1, h2⟩ => ?_
  rw [h1]
  refine forLoop_ok hn (fun x r δ S h => ?_) it.items δ S1 h2
  obtain ⟨a, δ', b, d⟩ := hs x r δ S h
  refine ⟨a, ?_⟩
  rw [b]
  exact d
end
end Ev
set_option Elab.async false
set_option linter.all false
set_option maxRecDepth 100000
set_option maxHeartbeats 1000000
/-! Wp, part C: equality of clean data. -/
namespace Ev
open PySem
/-- None, whole numbers, texts, tuples of such -/
def cln : Nat → D → Bool
  | _, .non => true
  | _, .int _ => true
  | _, .str x => PyData.strOk x
  | n + 1, .tup ds => ds.all (cln n)
  | _, _ => false
mutual
def py : D → PyData
  | .non => .none
  | .bl b => .bool b
  | .int i => .int i
  | .str x => .str x
  | .tup ds => .tuple (pys ds)
  | .rol ds => .list (pys ds)
  | _ => .none
def pys : List D → List PyData
  | [] => []
  | d :: ds => py d :: pys ds
end
theorem pys_map : ∀ ds : List D, pys ds = ds.map py
  | [] => rfl
  | d :: ds => by simp [pys, pys_map ds]
theorem toPy_cln {S : Store} : ∀ (n : Nat) (d : D), cln n d = true → toPy S n d = some (py d) := by
  intro n
  induction n with
  | zero => intro d h; cases d <;> simp_all [cln, toPy, py]
  | succ n ih =>
    intro d h
    cases d with
    | tup ds =>
      simp only [cln, List.all_eq_true] at h
      have : ds.map (toPy S n) = ds.map fun d => some (py d) := List.map_congr_left fun d hd => ih d (h d hd)
      simp only [toPy, this, optAll_map, py, pys_map, Option.map_some]
    | _ => simp_all [cln, toPy, py]
theorem eqvAll_map {n : Nat} {as : List D} (ih : ∀ a ∈ as, ∀ b, cln n b = true → PyData.eqv (py a) (py b) = decide (a = b)) : ∀ {bs : List D}, (∀ b ∈ bs, cln n b = true) → PyData.eqvAll (as.map py) (bs.map py) = decide (as = bs) := by
  induction as with
  | nil => intro bs hb; cases bs <;> simp [PyData.eqvAll]
  | cons a as iha =>
    intro bs hb
    cases bs with
    | nil => simp [PyData.eqvAll]
    | cons b bs =>
      simp only [List.map_cons, PyData.eqvAll, ih a (.head _) b (hb b (.head _)), iha (fun x hx => ih x (.tail _ hx)) (fun x hx => hb x (.tail _ hx)), List.cons.injEq]
      by_cases h1 : a = b <;> by_cases h2 : as = bs <;> simp [h1, h2]
theorem eqv_py : ∀ (n : Nat) (a : D), cln n a = true → ∀ b, cln n b = true → PyData.eqv (py a) (py b) = decide (a = b) := by
  intro n
  induction n with
  | zero =>
    intro a h b h2
    cases a <;> cases b <;> simp_all [cln, py, PyData.eqv] <;> rfl
  | succ n ih =>
    intro a h b h2
    cases a <;> cases b <;> try (simp_all [cln, py, PyData.eqv]; done)
    all_goals try (simp_all [cln, py, PyData.eqv] <;> rfl)
    rename_i as bs
    simp only [cln, List.all_eq_true] at h h2
    simp only [py, PyData.eqv, pys_map]
    rw [eqvAll_map (fun a ha b hb => ih a (h a ha) b hb) h2]
    simp
theorem cln_mono : ∀ {n m : Nat} {d : D}, cln n d = true → n ≤ m → cln m d = true := by
  intro n
  induction n with
  | zero => intro m d h hm; cases d <;> cases m <;> simp_all [cln]
  | succ n ih =>
    intro m d h hm
    cases m with
    | zero => omega
    | succ m =>
      cases d <;> simp_all [cln]
theorem eqD_cln {S : Store} {a b : D} (ha : cln 60 a = true) (hb : cln 60 b = true) : eqD S a b = some (decide (a = b)) := by
  simp only [eqD, toPy_cln _ _ ha, toPy_cln _ _ hb, eqv_py _ _ ha _ hb]
theorem inD_cln {S : Store} {a b : D} {xs : List D} (ha : cln 60 a = true) (hb : seqOf S b = some xs) (hx : ∀ x ∈ xs, cln 60 x = true) : inD S a b = some (decide (a ∈ xs)) := by
  have : xs.map (toPy S 60) = xs.map fun d => some (py d) := List.map_congr_left fun d hd => toPy_cln _ _ (hx d hd)
  simp only [inD, toPy_cln _ _ ha, hb, Option.bind_some, this, optAll_map, Option.some.injEq]
  rw [Bool.eq_iff_iff, List.any_eq_true, decide_eq_true_eq]
  constructor
  · rintro ⟨p, hp, hq⟩
    obtain ⟨d, hd, rfl⟩ := List.mem_map.mp hp
    rw [eqv_py _ _ (hx d hd) _ ha, decide_eq_true_eq] at hq
    rwa [← hq]
  · intro h
    exact ⟨_, List.mem_map.mpr ⟨a, h, rfl⟩, by rw [eqv_py _ _ ha _ ha]; simp⟩
end Ev
set_option Elab.async false
set_option linter.all false
set_option maxRecDepth 100000
set_option maxHeartbeats 1000000
/-! Wp, part D: prims, comparisons, places, methods. -/
namespace Ev
open PySem
section
variable {S : Store} {Q : D → Store → Prop}
@[simp] theorem tru_bl {b : Bool} : tru S (.bl b) = some b := rfl
@[simp] theorem tru_non : tru S .non = some false := rfl
@[simp] theorem tru_int {i : Int} : tru S (.int i) = some (i != 0) := rfl
@[simp] theorem tyOf_non : tyOf S .non = some "NoneType" := rfl
@[simp] theorem tyOf_bl {b : Bool} : tyOf S (.bl b) = some "bool" := rfl
@[simp] theorem tyOf_int {i : Int} : tyOf S (.int i) = some "int" := rfl
@[simp] theorem tyOf_str {x : Str} : tyOf S (.str x) = some "str" := rfl
@[simp] theorem tyOf_tup {ds : List D} : tyOf S (.tup ds) = some "tuple" := rfl
@[simp] theorem tyOf_rol {ds : List D} : tyOf S (.rol ds) = some "list" := rfl
theorem tyOf_lst {n : Nat} {xs : List D} (h : S[n]? = some (.lst xs)) : tyOf S (.ref n) = some "list" := by simp [tyOf, h]
theorem tyOf_dic {n : Nat} {b : Bool} (h : S[n]? = some (.dic [] b)) : tyOf S (.ref n) = some "dict" := by simp [tyOf, h]
@[simp] theorem isI_1 : isInst "int" "int" = true := by decide
@[simp] theorem isI_2 : isInst "int" "bool" = false := by decide
@[simp] theorem isI_3 : isInst "bool" "int" = true := by decide
@[simp] theorem isI_4 : isInst "bool" "bool" = true := by decide
@[simp] theorem isI_5 : isInst "str" "int" = false := by decide
@[simp] theorem isI_6 : isInst "str" "str" = true := by decide
@[simp] theorem isI_7 : isInst "tuple" "tuple" = true := by decide
@[simp] theorem isI_8 : isInst "list" "list" = true := by decide
@[simp] theorem isI_9 : isInst "str" "tuple" = false := by decide
@[simp] theorem isI_10 : isInst "NoneType" "tuple" = false := by decide
@[simp] theorem isI_11 : isInst "NoneType" "int" = false := by decide
@[simp] theorem isI_12 : isInst "NoneType" "str" = false := by decide
@[simp] theorem isI_13 : isInst "NoneType" "list" = false := by decide
@[simp] theorem isI_14 : isInst "int" "tuple" = false := by decide
@[simp] theorem isI_15 : isInst "int" "str" = false := by decide
@[simp] theorem isI_16 : isInst "int" "list" = false := by decide
@[simp] theorem isI_17 : isInst "tuple" "int" = false := by decide
@[simp] theorem isI_18 : isInst "tuple" "str" = false := by decide
@[simp] theorem isI_19 : isInst "tuple" "list" = false := by decide
@[simp] theorem isI_20 : isInst "list" "tuple" = false := by decide
@[simp] theorem isI_21 : isInst "list" "int" = false := by decide
@[simp] theorem isI_22 : isInst "list" "str" = false := by decide
@[simp] theorem isI_23 : isInst "dict" "tuple" = false := by decide
@[simp] theorem isI_24 : isInst "dict" "list" = false := by decide
@[simp] theorem isI_25 : isInst "dict" "int" = false := by decide
@[simp] theorem isI_26 : isInst "str" "list" = false := by decide
@[simp] theorem isI_27 : isInst "bool" "str" = false := by decide
@[simp] theorem isI_28 : isInst "bool" "tuple" = false := by decide
@[simp] theorem isI_29 : isInst "bool" "list" = false := by decide
@[simp] theorem isI_30 : isInst "dict" "str" = false := by decide
@[simp] theorem tyAsk_1 : tyAsk "int" = true := by decide
@[simp] theorem tyAsk_2 : tyAsk "bool" = true := by decide
@[simp] theorem tyAsk_3 : tyAsk "str" = true := by decide
@[simp] theorem tyAsk_4 : tyAsk "tuple" = true := by decide
@[simp] theorem tyAsk_5 : tyAsk "list" = true := by decide
@[simp] theorem tyAsk_6 : tyAsk "dict" = true := by decide
@[simp] theorem wp_isinst {d : D} {n : String} : wR (primD .isinst [d, .ty n] S) Q ↔ ∃ t, tyOf S d = some t ∧ tyAsk n = true ∧ Q (.bl (isInst t n)) S := by
  simp only [primD, pIsi]
  cases tyOf S d <;> simp [wR_if]
@[simp] theorem wp_len {d : D} : wR (primD .len [d] S) Q ↔ ∃ n, lenOf S d = some n ∧ Q (.int (n : Nat)) S := by
  simp only [primD, pLen]
  cases lenOf S d <;> simp
@[simp] theorem lenOf_tup {ds : List D} : lenOf S (.tup ds) = some ds.length := rfl
@[simp] theorem lenOf_rol {ds : List D} : lenOf S (.rol ds) = some ds.length := rfl
theorem lenOf_lst {n : Nat} {xs : List D} (h : S[n]? = some (.lst xs)) : lenOf S (.ref n) = some xs.length := by simp [lenOf, seqOf, h]
theorem lenOf_dic {n : Nat} {kvs : List (D × D)} {b : Bool} (h : S[n]? = some (.dic kvs b)) : lenOf S (.ref n) = some kvs.length := by simp [lenOf, seqOf, dicOf, h]
@[simp] theorem seqOf_tup {ds : List D} : seqOf S (.tup ds) = some ds := rfl
@[simp] theorem seqOf_rol {ds : List D} : seqOf S (.rol ds) = some ds := rfl
@[simp] theorem seqOf_str {x : Str} : seqOf S (.str x) = none := rfl
@[simp] theorem seqOf_int {x : Int} : seqOf S (.int x) = none := rfl
theorem seqOf_lst {n : Nat} {xs : List D} (h : S[n]? = some (.lst xs)) : seqOf S (.ref n) = some xs := by simp [seqOf, h]
theorem lstOf_lst {n : Nat} {xs : List D} (h : S[n]? = some (.lst xs)) : lstOf S (.ref n) = some (n, xs) := by simp [lstOf, h]
theorem dicOf_dic {n : Nat} {kvs : List (D × D)} {b : Bool} (h : S[n]? = some (.dic kvs b)) : dicOf S (.ref n) = some (n, kvs, b) := by simp [dicOf, h]
@[simp] theorem wp_abs {i : Int} : wR (primD .abs [.int i] S) Q ↔ Q (.int (if i < 0 then -i else i)) S := by simp [primD, pAbs]
@[simp] theorem wp_int {i : Int} : wR (primD .int [.int i] S) Q ↔ Q (.int i) S := by simp [primD, pInt]
@[simp] theorem wp_min2 {i j : Int} : wR (primD .min [.int i, .int j] S) Q ↔ Q (.int (if j < i then j else i)) S := by simp [primD, pMin]
@[simp] theorem wp_tupT {ds : List D} : wR (primD .tupleOf [.tup ds] S) Q ↔ Q (.tup ds) S := by simp [primD, pTuple]
theorem wp_tupL {n : Nat} {xs : List D} (h : S[n]? = some (.lst xs)) : wR (primD .tupleOf [.ref n] S) Q ↔ Q (.tup xs) S := by simp [primD, pTuple, lstOf, h]
@[simp] theorem wp_list {d : D} : wR (primD .listOf [d] S) Q ↔ ∃ xs, seqOf S d = some xs ∧ Q (.ref S.length) (S ++ [.lst xs]) := by
  simp only [primD, pList]
  cases seqOf S d <;> simp
@[simp] theorem wp_listRange {lo hi : Int} : wR (primD .listRange [.int lo, .int hi] S) Q ↔ rangeOk lo hi = true ∧ Q (.ref S.length) (S ++ [.lst (rangeD lo hi)]) := by simp [primD, pListRange, wR_if]
/-! ### comparisons -/
@[simp] theorem cmp_lt {i j : Int} : cmpD .Lt (.int i) (.int j) S = some (decide (i < j)) := rfl
@[simp] theorem cmp_le {i j : Int} : cmpD .LtE (.int i) (.int j) S = some (decide (i ≤ j)) := rfl
@[simp] theorem cmp_gt {i j : Int} : cmpD .Gt (.int i) (.int j) S = some (decide (j < i)) := rfl
@[simp] theorem cmp_ge {i j : Int} : cmpD .GtE (.int i) (.int j) S = some (decide (j ≤ i)) := rfl
@[simp] theorem cmp_isnone {d : D} : cmpD .Is d .non S = some (decide (d = .non)) := by cases d <;> rfl
@[simp] theorem cmp_isnot {d : D} : cmpD .IsNot d .non S = some (!decide (d = .non)) := by cases d <;> rfl
@[simp] theorem cmp_isb {a b : Bool} : cmpD .Is (.bl a) (.bl b) S = some (decide (a = b)) := rfl
@[simp] theorem cmp_isnotb {a b : Bool} : cmpD .IsNot (.bl a) (.bl b) S = some (!decide (a = b)) := rfl
theorem cmp_eq {a b : D} (ha : cln 60 a = true) (hb : cln 60 b = true) : cmpD .Eq a b S = some (decide (a = b)) := eqD_cln ha hb
theorem cmp_ne {a b : D} (ha : cln 60 a = true) (hb : cln 60 b = true) : cmpD .NotEq a b S = some (!decide (a = b)) := by
  simp only [cmpD, eqD_cln ha hb, Option.map_some]
theorem cmp_in {a b : D} {xs : List D} (ha : cln 60 a = true) (hb : seqOf S b = some xs) (hx : ∀ x ∈ xs, cln 60 x = true) : cmpD .In a b S = some (decide (a ∈ xs)) := inD_cln ha hb hx
theorem cmp_nin {a b : D} {xs : List D} (ha : cln 60 a = true) (hb : seqOf S b = some xs) (hx : ∀ x ∈ xs, cln 60 x = true) : cmpD .NotIn a b S = some (!decide (a ∈ xs)) := by
  simp only [cmpD, inD_cln ha hb hx, Option.map_some]
@[simp] theorem cmp_eqi {i j : Int} : cmpD .Eq (.int i) (.int j) S = some (decide (i = j)) := by rw [cmp_eq rfl rfl]; simp
@[simp] theorem cmp_nei {i j : Int} : cmpD .NotEq (.int i) (.int j) S = some (!decide (i = j)) := by rw [cmp_ne rfl rfl]; simp
@[simp] theorem cmp_eqb {a b : Bool} : cmpD .Eq (.bl a) (.bl b) S = some (decide (a = b)) := by cases a <;> cases b <;> rfl
@[simp] theorem cmp_neb {a b : Bool} : cmpD .NotEq (.bl a) (.bl b) S = some (!decide (a = b)) := by cases a <;> cases b <;> rfl
/-! ### operators -/
@[simp] theorem bin_add {i j : Int} : binD .Add (.int i) (.int j) S = .ok (.int (i + j)) S := rfl
@[simp] theorem bin_sub {i j : Int} : binD .Sub (.int i) (.int j) S = .ok (.int (i - j)) S := rfl
@[simp] theorem bin_mod {i j : Int} : wR (binD .Mod (.int i) (.int j) S) Q ↔ 0 < j ∧ Q (.int (i % j)) S := by simp [binD, modD, wR_if]
@[simp] theorem bin_div {i j : Int} : wR (binD .FloorDiv (.int i) (.int j) S) Q ↔ (0 < j ∧ j < 1073741824) ∧ Q (.int (i / j)) S := by simp [binD, divD, wR_if]
@[simp] theorem bin_mul {i j : Int} : wR (binD .Mult (.int i) (.int j) S) Q ↔ ((-(2 ^ 64) < i ∧ i < 2 ^ 64) ∨ (-(2 ^ 64) < j ∧ j < 2 ^ 64)) ∧ Q (.int (i * j)) S := by
  unfold binD mulD
  exact wR_if.trans (and_congr_right fun _ => wR_ok)
@[simp] theorem bin_addT {xs ys : List D} : wR (binD .Add (.tup xs) (.tup ys) S) Q ↔ xs.length + ys.length ≤ lim ∧ Q (.tup (xs ++ ys)) S := by simp [binD, addD, wR_if]
theorem bin_addL {m n : Nat} {xs ys : List D} (h1 : S[m]? = some (.lst xs)) (h2 : S[n]? = some (.lst ys)) : wR (binD .Add (.ref m) (.ref n) S) Q ↔ xs.length + ys.length ≤ lim ∧ Q (.ref S.length) (S ++ [.lst (xs ++ ys)]) := by
  simp [binD, addD, h1, h2, wR_if]
@[simp] theorem neg_int {i : Int} : negD (.int i) = some (.int (-i)) := rfl
/-! ### places -/
theorem ixN_nat {n i : Nat} (h : i < n) : ixN n (i : Int) = some i := by
  unfold ixN
  rw [if_pos (by omega), if_pos (by omega)]
  simp
theorem wp_ix {d : D} {xs : List D} {i : Nat} {x : D} (hd : seqOf S d = some xs) (hx : xs[i]? = some x) : wR (ixD d (.int (i : Nat)) S) Q ↔ Q x S := by
  have hi : i < xs.length := (List.getElem?_eq_some_iff.mp hx).1
  simp [ixD, hd, ixN_nat hi, hx]
theorem wp_ixZ {d : D} {xs : List D} {i : Int} {x : D} (hd : seqOf S d = some xs) (h0 : 0 ≤ i) (hx : xs[i.toNat]? = some x) : wR (ixD d (.int i) S) Q ↔ Q x S := by
  have := wp_ix (Q := Q) hd hx
  rwa [Int.toNat_of_nonneg h0] at this
theorem wp_dix {n : Nat} {kvs : List (D × D)} {b : Bool} {k v : D} (h : S[n]? = some (.dic kvs b)) (hk : keyOk kvs k = true) (hv : lookK kvs k = some v) : wR (ixD (.ref n) k S) Q ↔ Q v S := by
  simp [ixD, seqOf, dicOf, h, hk, hv]
@[simp] theorem sl_tup {xs : List D} {lo hi : Option Int} : slD (.tup xs) lo hi S = .ok (.tup (cut xs lo hi)) S := rfl
theorem sl_lst {n : Nat} {xs : List D} {lo hi : Option Int} (h : S[n]? = some (.lst xs)) : slD (.ref n) lo hi S = .ok (.ref S.length) (S ++ [.lst (cut xs lo hi)]) := by simp [slD, h]
@[simp] theorem sl_rol {xs : List D} {lo hi : Option Int} : slD (.rol xs) lo hi S = .ok (.ref S.length) (S ++ [.lst (cut xs lo hi)]) := rfl
@[simp] theorem rev_tup {xs : List D} : revD (.tup xs) S = .ok (.tup xs.reverse) S := rfl
theorem rev_lst {n : Nat} {xs : List D} (h : S[n]? = some (.lst xs)) : revD (.ref n) S = .ok (.ref S.length) (S ++ [.lst xs.reverse]) := by simp [revD, h]
/-! ### methods -/
theorem recv_app {n : Nat} {xs : List D} (h : S[n]? = some (.lst xs)) : recvOk .append (.ref n) S = true := by simp [recvOk, lstOf, h]
theorem recv_ext {n : Nat} {xs : List D} (h : S[n]? = some (.lst xs)) : recvOk .extend (.ref n) S = true := by simp [recvOk, lstOf, h]
theorem recv_pop {n : Nat} {xs : List D} (h : S[n]? = some (.lst xs)) : recvOk .pop (.ref n) S = true := by simp [recvOk, lstOf, h]
theorem recv_rem {n : Nat} {xs : List D} (h : S[n]? = some (.lst xs)) : recvOk .remove (.ref n) S = true := by simp [recvOk, lstOf, h]
theorem recv_get {n : Nat} {kvs : List (D × D)} {b : Bool} (h : S[n]? = some (.dic kvs b)) : recvOk .get (.ref n) S = true := by simp [recvOk, dicOf, h]
theorem recv_setd {n : Nat} {kvs : List (D × D)} {b : Bool} (h : S[n]? = some (.dic kvs b)) : recvOk .setdefault (.ref n) S = true := by simp [recvOk, dicOf, h]
theorem m_app {n : Nat} {xs : List D} {x : D} (h : S[n]? = some (.lst xs)) (hl : xs.length < lim) : methD .append (.ref n) [x] S = .ok .non (S.set n (.lst (xs ++ [x]))) := by
  simp [methD, mAppend, lstOf, h, hl]
theorem m_ext {n m : Nat} {xs ys : List D} (h : S[n]? = some (.lst xs)) (h2 : S[m]? = some (.lst ys)) (hl : xs.length + ys.length ≤ lim) : methD .extend (.ref n) [.ref m] S = .ok .non (S.set n (.lst (xs ++ ys))) := by
  simp [methD, mExtend, lstOf, h, h2, hl]
theorem m_pop {n i : Nat} {xs : List D} {x : D} (h : S[n]? = some (.lst xs)) (hx : xs[i]? = some x) (hl : xs.length ≤ lim) : methD .pop (.ref n) [.int (i : Nat)] S = .ok x (S.set n (.lst (xs.eraseIdx i))) := by
  have hi : i < xs.length := (List.getElem?_eq_some_iff.mp hx).1
  simp [methD, mPop, lstOf, h, ixN_nat hi, hx, hl]
theorem m_get1 {n : Nat} {kvs : List (D × D)} {b : Bool} {k : D} (h : S[n]? = some (.dic kvs b)) (hk : keyOk kvs k = true) : methD .get (.ref n) [k] S = .ok ((lookK kvs k).getD .non) S := by
  simp [methD, mGet, dicOf, h, hk]
theorem m_get2 {n : Nat} {kvs : List (D × D)} {b : Bool} {k x : D} (h : S[n]? = some (.dic kvs b)) (hk : keyOk kvs k = true) : methD .get (.ref n) [k, x] S = .ok ((lookK kvs k).getD x) S := by
  simp [methD, mGet, dicOf, h, hk]
end
end Ev
set_option Elab.async false
set_option linter.all false
set_option maxRecDepth 100000
set_option maxHeartbeats 1000000
/-! Wp, part E: dict comprehensions, dicts. -/
namespace Ev
open PySem
theorem putK_mem {kvs : List (D × D)} {k v : D} : ∀ p ∈ putK kvs k v, p.1 = k ∨ p ∈ kvs := by
  induction kvs with
  | nil => intro p hp; simp [putK] at hp; simp [hp]
  | cons q r ih =>
    intro p hp
    unfold putK at hp
    split at hp
    · rename_i e
      rcases List.mem_cons.mp hp with rfl | hp
      · exact .inl e
      · exact .inr (.tail _ hp)
    · rcases List.mem_cons.mp hp with rfl | hp
      · exact .inr (.head _)
      · rcases ih p hp with h | h
        · exact .inl h
        · exact .inr (.tail _ h)
theorem putK_len1 {kvs : List (D × D)} {k v : D} : (putK kvs k v).length ≤ kvs.length + 1 := by
  induction kvs with
  | nil => simp [putK]
  | cons q r ih => unfold putK; split <;> simp <;> omega
theorem putK_new1 {kvs : List (D × D)} {k v : D} (h : ∀ p ∈ kvs, p.1 ≠ k) : putK kvs k v = kvs ++ [(k, v)] := by
  induction kvs with
  | nil => rfl
  | cons q r ih =>
    unfold putK
    rw [if_neg (h q (.head _)), ih fun p hp => h p (.tail _ hp)]
    rfl
/-- keys of one kind -/
def oneKind (ks : List D) : Prop := (∀ k ∈ ks, leafK k = true) ∨ (∀ k ∈ ks, tupK k = true)
theorem keyOk_of {ks : List D} {kvs : List (D × D)} {k : D} (h : oneKind ks) (hk : k ∈ ks) (ha : ∀ p ∈ kvs, p.1 ∈ ks) : keyOk kvs k = true := by
  unfold keyOk
  rcases h with h | h
  · simp only [h k hk, Bool.true_and, Bool.or_eq_true, List.all_eq_true]
    exact .inl fun p hp => h _ (ha p hp)
  · simp only [h k hk, Bool.true_and, Bool.or_eq_true, List.all_eq_true]
    exact .inr fun p hp => h _ (ha p hp)
def putAll {α : Type} (key val : α → D) (ys : List α) (acc : List (D × D)) : List (D × D) := ys.foldl (fun acc y => putK acc (key y) (val y)) acc
theorem putAll_new {α : Type} {key val : α → D} : ∀ {ys : List α} {acc : List (D × D)}, (ys.map key).Nodup → (∀ y ∈ ys, ∀ p ∈ acc, p.1 ≠ key y) → putAll key val ys acc = acc ++ ys.map fun y => (key y, val y)
  | [], acc, _, _ => by simp [putAll]
  | y :: ys, acc, h1, h2 => by
    simp only [List.map_cons, List.nodup_cons] at h1
    have := putAll_new (key := key) (val := val) (ys := ys) (acc := putK acc (key y) (val y)) h1.2 (fun z hz p hp => by
      rcases putK_mem p hp with e | e
      · exact fun e2 => h1.1 (by rw [← e, e2]; exact List.mem_map.mpr ⟨z, hz, rfl⟩)
      · exact h2 z (.tail _ hz) p e)
    unfold putAll at this ⊢
    rw [List.foldl_cons, this, putK_new1 (h2 y (.head _))]
    simp
theorem dcLoop_ok {α : Type} {n : Nat} {chk : List (Nat × List D)} {step : D → Store → R (D × D)} {S0 : Store} {f key val : α → D} {ks : List D} (hn : S0[n]? = none) (hc : chkOk S0 chk = true) (hk : oneKind ks) :
    ∀ (ys : List α) (acc : List (D × D)) (S : Store), (∀ y ∈ ys, key y ∈ ks) → (∀ p ∈ acc, p.1 ∈ ks) → (∀ y ∈ ys, ∀ S2, Fr S0 S2 → wR (step (f y) S2) fun o S3 => o = (key y, val y) ∧ Fr S2 S3) → Fr S0 S → S[n]? = some (.dic acc false) → acc.length + ys.length ≤ lim →
      wR (dcLoop n chk step (ys.map f) acc S) fun _ S' => Fr S0 S' ∧ S'[n]? = some (.dic (putAll key val ys acc) false)
  | [], acc, S, _, _, hs, hf, ha, hl => by
    unfold dcLoop
    simp [chk_fr hc hf, ha, hf, putAll]
  | y :: ys, acc, S, h1, h2, hs, hf, ha, hl => by
    rw [List.map_cons]
    unfold dcLoop
    rw [if_pos ⟨chk_fr hc hf, ha⟩]
    obtain ⟨o, S3, e, rfl, h3⟩ := hs y (.head _) S hf
    rw [e]
    rw [List.length_cons] at hl
    dsimp only
    rw [if_pos ⟨h3 _ _ ha, by omega, keyOk_of hk (h1 y (.head _)) h2⟩]
    have hl2 := putK_len1 (kvs := acc) (k := key y) (v := val y)
    have := dcLoop_ok (f := f) (key := key) (val := val) hn hc hk ys (putK acc (key y) (val y)) (S3.set n (.dic (putK acc (key y) (val y)) false)) (fun z hz => h1 z (.tail _ hz)) (fun p hp => by
      rcases putK_mem p hp with e | e
      · rw [e]; exact h1 y (.head _)
      · exact h2 p e) (fun z hz => hs z (.tail _ hz)) ((hf.trans h3).set hn) (get_set (h3 _ _ ha)) (by omega)
    exact this
section
variable {c : Ctx} {δ : Env} {S : Store} {t : Tg} {vs : List Nat} {ke ve : E}
/-- {key: val for t in src} -/
theorem w_dc {α : Type} {src : Src} {Q : D → Store → Prop} (ys : List α) (f key val : α → D) (hl : lockOf src δ S = none)
    (hsrc : wR (evSrc c src δ S) fun it S1 => it.items = ys.map f ∧ chkOk S1 it.chk = true ∧ Fr S S1) (hlen : ys.length ≤ lim) (hk : oneKind (ys.map key))
    (hstep : ∀ y ∈ ys, ∀ S2, Fr S S2 → ∃ δ', t.put (f y) (wipe δ vs) = some δ' ∧ wR (evE c ke δ' S2) fun k S3 => wR (evE c ve δ' S3) fun v S4 => (k, v) = (key y, val y) ∧ Fr S2 S4)
    (hQ : ∀ S' n, Fr S S' → S[n]? = none → S'[n]? = some (.dic (putAll key val ys []) false) → Q (.ref n) S') : wR (evE c (.dc vs t src ke ve) δ S) Q := by
  simp only [evE, hl, lk, unlk, wR_bind]
  refine wR_mono hsrc fun it S1 ⟨h1, h2, h3⟩ => ?_
  rw [h1]
  have := dcLoop_ok (S0 := S1) (chk := it.chk) (f := f) (key := key) (val := val) (step := fun x S => match t.put x (wipe δ vs) with
        | some δ' => (evE c ke δ' S).bind fun k S' => (evE c ve δ' S').bind fun v S'' => .ok (k, v) S''
        | none => .bad) get_len h2 hk ys [] (S1 ++ [.dic [] false]) (fun y hy => List.mem_map.mpr ⟨y, hy, rfl⟩) (fun p hp => absurd hp List.not_mem_nil) (fun y hy S2 f2 => by
          obtain ⟨δ', e1, e2⟩ := hstep y hy S2 (h3.trans f2)
          simp only [e1, wR_bind, wR_ok]
          exact e2) Fr.app get_new (by simpa using hlen)
  refine wR_mono this fun _ S' ⟨a, b⟩ => ?_
  simp only [wR_ok]
  exact hQ S' S1.length (h3.trans a) (none_of_fr h3 get_len) b
end
end Ev
set_option Elab.async false
set_option linter.all false
set_option maxRecDepth 100000
set_option maxHeartbeats 1000000
/-! Wp, part F: for loops over known items. -/
namespace Ev
open PySem
section
variable {c : Ctx} {δ : Env} {S : Store} {t : Tg}
/-- what a turn leaves -/
def turnO (J : Env → Store → Prop) (Q : Out → Store → Prop) : Out → Store → Prop
  | .nx δ, S => J δ S
  | .ct δ, S => J δ S
  | .bk δ, S => Q (.nx δ) S
  | .rt d, S => Q (.rt d) S
@[simp] theorem turnO_nx {J : Env → Store → Prop} {Q : Out → Store → Prop} : turnO J Q (.nx δ) S = J δ S := rfl
@[simp] theorem turnO_ct {J : Env → Store → Prop} {Q : Out → Store → Prop} : turnO J Q (.ct δ) S = J δ S := rfl
@[simp] theorem turnO_bk {J : Env → Store → Prop} {Q : Out → Store → Prop} : turnO J Q (.bk δ) S = Q (.nx δ) S := rfl
@[simp] theorem turnO_rt {J : Env → Store → Prop} {Q : Out → Store → Prop} {d : D} : turnO J Q (.rt d) S = Q (.rt d) S := rfl
theorem map_zipIdx {α : Type} {f : α → D} : ∀ {ys : List α} {n : Nat}, (ys.zipIdx n).map (fun p => f p.1) = ys.map f
  | [], _ => rfl
  | y :: ys, n => by simp [List.zipIdx_cons, map_zipIdx (ys := ys)]
/-- for t in src: the items are f i y; J: what stands behind the turns of a prefix -/
theorem w_for_ix {α : Type} {src : Src} {body : Sms} {Q : Out → Store → Prop} (ys : List α) (f : Nat → α → D) (J : List α → Env → Store → Prop) (chk : List (Nat × List D)) (hl : lockOf src δ S = none)
    (hsrc : wR (evSrc c src δ S) fun it S1 => it.chk = chk ∧ it.items = ys.zipIdx.map (fun p => f p.2 p.1) ∧ J [] δ S1) (hn : ∀ δ S, J ys δ S → chkOk S chk = true ∧ Q (.nx δ) S)
    (hs : ∀ done y rest δ S, ys = done ++ y :: rest → J done δ S → chkOk S chk = true ∧ ∃ δ', t.put (f done.length y) δ = some δ' ∧ wR (evSs c body δ' S) (turnO (J (done ++ [y])) Q)) : wR (evS c (.for t src body) δ S) Q := by
  refine w_for (I := fun xs δ S => ∃ done rest, ys = done ++ rest ∧ xs = (rest.zipIdx done.length).map (fun p => f p.2 p.1) ∧ J done δ S) chk hl (wR_mono hsrc fun it S1 ⟨h1, h2, h3⟩ => ⟨h1, [], ys, rfl, h2, h3⟩) ?_ ?_
  · rintro δ S ⟨done, rest, rfl, h2, h3⟩
    simp at h2
    subst h2
    rw [List.append_nil] at hn
    exact hn δ S h3
  · rintro x r δ S ⟨done, rest, h1, h2, h3⟩
    cases rest with
    | nil => simp at h2
    | cons y rest =>
      simp at h2
      obtain ⟨rfl, rfl⟩ := h2
      obtain ⟨a, δ', b, d⟩ := hs done y rest δ S h1 h3
      refine ⟨a, δ', b, wR_mono d fun o S' h => ?_⟩
      cases o with
      | nx δ' => exact ⟨done ++ [y], rest, by simp [h1], by simp, h⟩
      | ct δ' => exact ⟨done ++ [y], rest, by simp [h1], by simp, h⟩
      | bk δ' => exact h
      | rt d => exact h
end
end Ev
set_option Elab.async false
set_option linter.all false
set_option maxRecDepth 100000
set_option maxHeartbeats 1000000
/-! Wp, part G: walks over a locked dict. -/
namespace Ev
open PySem
section
variable {c : Ctx} {δ : Env} {S : Store} {t : Tg}
theorem lock_fr {S' : Store} {n : Nat} {kvs : List (D × D)} (h : S[n]? = some (.dic kvs false)) (f : Fr (S.set n (.dic kvs true)) S') : Fr S (S'.set n (.dic kvs false)) := fun i o hi => by
  by_cases e : i = n
  · subst e
    rw [h] at hi
    cases hi
    exact get_set (f _ _ (get_set h))
  · have e' : n ≠ i := fun h => e h.symm
    rw [List.getElem?_set_ne e']
    exact f _ _ (by rw [List.getElem?_set_ne e']; exact hi)
theorem lock_at {i n : Nat} {kvs : List (D × D)} (h : δ[i]? = some (some (.ref n))) (h2 : S[n]? = some (.dic kvs false)) : lockAt i δ S = some (n, kvs) := by
  simp [lockAt, h, dicOf, h2]
theorem keys_at {n : Nat} {kvs : List (D × D)} (h : S[n]? = some (.dic kvs true)) : keysOf (.ref n) S = some ⟨kvs.map (·.1), []⟩ := by
  simp [keysOf, dicOf, h]
theorem items_at {n : Nat} {kvs : List (D × D)} (h : S[n]? = some (.dic kvs true)) : itemsOf (.ref n) S = some ⟨kvs.map fun p => .tup [p.1, p.2], []⟩ := by
  simp [itemsOf, dicOf, h]
/-- for t in a dict, for t in a dict's items: the dict is locked meanwhile -/
theorem w_for_dic {α : Type} {src : Src} {body : Sms} {Q : Out → Store → Prop} {n : Nat} {kvs : List (D × D)} (ys : List α) (f : Nat → α → D) (J : List α → Env → Store → Prop) (hl : lockOf src δ S = some (n, kvs))
    (hsrc : wR (evSrc c src δ (S.set n (.dic kvs true))) fun it S1 => it.chk = [] ∧ it.items = ys.zipIdx.map (fun p => f p.2 p.1) ∧ J [] δ S1) (hn : ∀ δ S', J ys δ S' → Q (.nx δ) (S'.set n (.dic kvs false)))
    (hs : ∀ done y rest δ S', ys = done ++ y :: rest → J done δ S' → ∃ δ', t.put (f done.length y) δ = some δ' ∧ wR (evSs c body δ' S') (turnO (J (done ++ [y])) fun o S2 => Q o (S2.set n (.dic kvs false)))) : wR (evS c (.for t src body) δ S) Q := by
  simp only [evS, hl, lk, unlk, wR_bind, wR_ok]
  refine wR_mono hsrc fun it S1 ⟨h1, h2, h3⟩ => ?_
  rw [h1, h2]
  refine forLoop_ok (Q := fun o S2 => Q o (S2.set n (.dic kvs false))) (I := fun xs δ S => ∃ done rest, ys = done ++ rest ∧ xs = (rest.zipIdx done.length).map (fun p => f p.2 p.1) ∧ J done δ S) ?_ ?_ _ δ S1 ⟨[], ys, rfl, rfl, h3⟩
  · rintro δ S ⟨done, rest, rfl, h2, h3⟩
    simp at h2
    subst h2
    rw [List.append_nil] at hn
    exact ⟨rfl, hn δ S h3⟩
  · rintro x r δ S ⟨done, rest, h1, h2, h3⟩
    cases rest with
    | nil => simp at h2
    | cons y rest =>
      simp at h2
      obtain ⟨rfl, rfl⟩ := h2
      obtain ⟨δ', b, d⟩ := hs done y rest δ S h1 h3
      refine ⟨rfl, ?_⟩
      rw [b]
      refine wR_mono d fun o S' h => ?_
      cases o with
      | nx δ' => exact ⟨done ++ [y], rest, by simp [h1], by simp, h⟩
      | ct δ' => exact ⟨done ++ [y], rest, by simp [h1], by simp, h⟩
      | bk δ' => exact h
      | rt d => exact h
/-- [elt for t in a dict if cond] -/
theorem w_lc_dic {α : Type} {vs : List Nat} {elt : E} {src : Src} {cond : Option E} {Q : D → Store → Prop} {n : Nat} {kvs : List (D × D)} (ys : List α) (f : α → D) (g : α → Option D) (hd : S[n]? = some (.dic kvs false)) (hl : lockOf src δ S = some (n, kvs))
    (hsrc : wR (evSrc c src δ (S.set n (.dic kvs true))) fun it S1 => it.items = ys.map f ∧ it.chk = [] ∧ S1 = S.set n (.dic kvs true)) (hlen : ys.length ≤ lim)
    (hstep : ∀ y ∈ ys, ∀ S2, Fr (S.set n (.dic kvs true)) S2 → wR (stepW c t vs δ cond elt (f y) S2) fun o S3 => o = g y ∧ Fr S2 S3)
    (hQ : ∀ S' m, Fr S S' → S[m]? = none → S'[m]? = some (.lst (ys.filterMap g)) → Q (.ref m) S') : wR (evE c (.lc vs t src cond elt) δ S) Q := by
  have e : evE c (.lc vs t src cond elt) δ S = (evSrc c src δ (lk (lockOf src δ S) S)).bind fun it S1 =>
      (lcLoop S1.length it.chk (stepW c t vs δ cond elt) it.items [] (S1 ++ [.lst []])).bind fun _ S2 => .ok (.ref S1.length) (unlk (lockOf src δ S) S2) := by
    simp only [evE]
    rfl
  rw [e, hl]
  simp only [lk, unlk, wR_bind]
  refine wR_mono hsrc fun it S1 ⟨h1, h2, h3⟩ => ?_
  rw [h1, h2]
  subst h3
  have := lcLoop_ok (S0 := S.set n (.dic kvs true)) (chk := []) (f := f) (g := g) (step := stepW c t vs δ cond elt) get_len rfl ys [] (S.set n (.dic kvs true) ++ [.lst []]) (fun y hy S2 f2 => hstep y hy S2 f2) Fr.app get_new (by simpa using hlen)
  refine wR_mono this fun _ S' ⟨a, b⟩ => ?_
  simp only [wR_ok]
  have hn : (S.set n (.dic kvs true)).length ≠ n := by
    have := (List.getElem?_eq_some_iff.mp hd).1
    simp
    omega
  refine hQ _ _ (lock_fr hd a) (by simp) ?_
  rw [List.getElem?_set_ne (Ne.symm hn)]
  simpa using b
end
end Ev
set_option Elab.async false
set_option linter.all false
set_option maxRecDepth 100000
set_option maxHeartbeats 1000000
/-! Wp, part H: while loops, more comprehensions, sorting, lists as values. -/
namespace Ev
open PySem
section
variable {c : Ctx} {δ : Env} {S : Store} {t : Tg} {vs : List Nat} {elt : E}
theorem whileLoop_ok {te : E} {body : Sms} {Q : Out → Store → Prop} {I : Nat → Env → Store → Prop}
    (hs : ∀ m δ S, I m δ S → wR (evE c te δ S) fun d S1 => ∃ k, tru S1 d = some k ∧ if k = true then ∃ m', m = m' + 1 ∧ wR (evSs c body δ S1) (turnO (I m') Q) else Q (.nx δ) S1) :
    ∀ (n m : Nat) (δ : Env) (S : Store), m < n → I m δ S → wR (whileLoop (fun δ S => evT c te δ S) (fun δ S => evSs c body δ S) n δ S) Q
  | 0, m, δ, S, h, _ => absurd h (Nat.not_lt_zero _)
  | n + 1, m, δ, S, h, hI => by
    unfold whileLoop
    rw [wR_bind, w_test]
    refine wR_mono (hs m δ S hI) fun d S1 ⟨k, e, h2⟩ => ⟨k, e, ?_⟩
    cases k with
    | false => simpa using h2
    | true =>
      simp only [if_true] at h2 ⊢
      obtain ⟨m', rfl, o, S2, e2, h3⟩ := h2
      rw [e2]
      cases o with
      | nx δ' => exact whileLoop_ok hs n m' δ' S2 (by omega) h3
      | ct δ' => exact whileLoop_ok hs n m' δ' S2 (by omega) h3
      | bk δ' => exact ⟨_, _, rfl, h3⟩
      | rt d => exact ⟨_, _, rfl, h3⟩
/-- while te: body; m bounds the turns that are left -/
theorem w_while {te : E} {body : Sms} {Q : Out → Store → Prop} {I : Nat → Env → Store → Prop} (m : Nat) (hm : m < c.W) (hI : I m δ S)
    (hs : ∀ m δ S, I m δ S → wR (evE c te δ S) fun d S1 => ∃ k, tru S1 d = some k ∧ if k = true then ∃ m', m = m' + 1 ∧ wR (evSs c body δ S1) (turnO (I m') Q) else Q (.nx δ) S1) : wR (evS c (.while te body) δ S) Q := by
  simp only [evS]
  exact whileLoop_ok hs c.W m δ S hm hI
/-- any([elt for t in src if cond]) -/
theorem w_anyC {α : Type} {src : Src} {e : Option E} {Q : D → Store → Prop} (ys : List α) (f : α → D) (g : α → Option Bool) (hl : lockOf src δ S = none)
    (hsrc : wR (evSrc c src δ S) fun it S1 => it.items = ys.map f ∧ chkOk S1 it.chk = true ∧ Fr S S1) (hlen : ys.length ≤ lim)
    (hstep : ∀ y ∈ ys, ∀ S2, Fr S S2 → wR (stepW c t vs δ e elt (f y) S2) fun o S3 => o = (g y).map D.bl ∧ Fr S2 S3)
    (hQ : ∀ S', Fr S S' → Q (.bl ((ys.filterMap g).any id)) S') : wR (evE c (.prim .any [.lc vs t src e elt]) δ S) Q := by
  simp only [w_prim0, w_cons, w_nil]
  refine w_lc ys f (fun y => (g y).map D.bl) hl hsrc hlen hstep fun S' n h1 h2 h3 => ?_
  have e : primD .any [.ref n] S' = .ok (.bl ((ys.filterMap g).any id)) S' := by
    have e0 : ys.filterMap (fun y => (g y).map D.bl) = (ys.filterMap g).map D.bl := by rw [List.map_filterMap]
    rw [e0] at h3
    simp only [primD, pAny, lstOf, h3, Option.bind_some, List.map_map]
    have : (boolOf ∘ D.bl) = fun y => some y := rfl
    rw [this, optAll_map (fun y => y)]
    simp
  rw [e, wR_ok]
  exact hQ S' h1
/-- {key: val for t in a dict} -/
theorem w_dc_dic {α : Type} {ke ve : E} {src : Src} {Q : D → Store → Prop} {n : Nat} {kvs : List (D × D)} (ys : List α) (f key val : α → D) (hd : S[n]? = some (.dic kvs false)) (hl : lockOf src δ S = some (n, kvs))
    (hsrc : wR (evSrc c src δ (S.set n (.dic kvs true))) fun it S1 => it.items = ys.map f ∧ it.chk = [] ∧ S1 = S.set n (.dic kvs true)) (hlen : ys.length ≤ lim) (hk : oneKind (ys.map key))
    (hstep : ∀ y ∈ ys, ∀ S2, Fr (S.set n (.dic kvs true)) S2 → ∃ δ', t.put (f y) (wipe δ vs) = some δ' ∧ wR (evE c ke δ' S2) fun k S3 => wR (evE c ve δ' S3) fun v S4 => (k, v) = (key y, val y) ∧ Fr S2 S4)
    (hQ : ∀ S' m, Fr S S' → S[m]? = none → S'[m]? = some (.dic (putAll key val ys []) false) → Q (.ref m) S') : wR (evE c (.dc vs t src ke ve) δ S) Q := by
  simp only [evE, hl, lk, unlk, wR_bind]
  refine wR_mono hsrc fun it S1 ⟨h1, h2, h3⟩ => ?_
  rw [h1, h2]
  subst h3
  have := dcLoop_ok (S0 := S.set n (.dic kvs true)) (chk := []) (f := f) (key := key) (val := val) (step := fun x S => match t.put x (wipe δ vs) with
        | some δ' => (evE c ke δ' S).bind fun k S' => (evE c ve δ' S').bind fun v S'' => .ok (k, v) S''
        | none => .bad) get_len rfl hk ys [] (S.set n (.dic kvs true) ++ [.dic [] false]) (fun y hy => List.mem_map.mpr ⟨y, hy, rfl⟩) (fun p hp => absurd hp List.not_mem_nil) (fun y hy S2 f2 => by
          obtain ⟨δ', e1, e2⟩ := hstep y hy S2 f2
          simp only [e1, wR_bind, wR_ok]
          exact e2) Fr.app get_new (by simpa using hlen)
  refine wR_mono this fun _ S' ⟨a, b⟩ => ?_
  simp only [wR_ok]
  have hn : (S.set n (.dic kvs true)).length ≠ n := by
    have := (List.getElem?_eq_some_iff.mp hd).1
    simp
    omega
  refine hQ _ _ (lock_fr hd a) (by simp) ?_
  rw [List.getElem?_set_ne (Ne.symm hn)]
  exact b
end
/-! ### sorting -/
theorem pairLe_trans1 (a b c : Int × Int) (h1 : pairLe a b = true) (h2 : pairLe b c = true) : pairLe a c = true := by
  simp only [pairLe, decide_eq_true_eq] at *
  omega
theorem pairLe_total1 (a b : Int × Int) : (pairLe a b || pairLe b a) = true := by
  simp only [pairLe, Bool.or_eq_true, decide_eq_true_eq]
  omega
section
variable {S : Store} {Q : D → Store → Prop}
theorem optAll_pr {l : List (Int × Int)} : optAll ((l.map ofPair).map pairOf) = some l := by
  have : (l.map ofPair).map pairOf = l.map fun p => some p := by
    rw [List.map_map]
    rfl
  rw [this, optAll_map (fun p => p)]
  simp
theorem wp_sortedL {n : Nat} {ps : List (Int × Int)} (h : S[n]? = some (.lst (ps.map ofPair))) : wR (primD .sorted [.ref n] S) Q ↔ Q (.ref S.length) (S ++ [.lst ((ps.mergeSort pairLe).map ofPair)]) := by
  simp only [primD, pSorted, sortOf, lstOf_lst h, optAll_pr, Option.map_some, wR_ok]
theorem wp_sortedD {n : Nat} {ks : List Str} {vs : Str → D} {b : Bool} (h : S[n]? = some (.dic (ks.map fun x => (.str x, vs x)) b)) (hl : ks.length < 64) : wR (primD .sorted [.ref n] S) Q ↔ Q (.ref S.length) (S ++ [.lst ((ks.mergeSort strLe).map .str)]) := by
  have e : lstOf S (.ref n) = none := by simp [lstOf, h]
  have e2 : ((ks.map fun x => (D.str x, vs x)).map fun p => strOf p.1) = ks.map fun x => some x := by rw [List.map_map]; rfl
  simp only [primD, pSorted, sortOf, e, dicOf_dic h, e2, optAll_map (fun x => x), List.map_id', Option.bind_some, hl, if_true, wR_ok]
/-! ### lists of whole numbers as values -/
def pyI (m : List Nat) : PyData := .list (m.map fun (i : Nat) => .int (i : Int))
theorem toPy_I {n k : Nat} {m : List Nat} (h : S[n]? = some (.lst (m.map fun (i : Nat) => D.int (i : Int)))) : toPy S (k + 1) (.ref n) = some (pyI m) := by
  have e : (m.map fun (i : Nat) => D.int (i : Int)).map (toPy S k) = m.map fun (i : Nat) => some (PyData.int (i : Int)) := by
    rw [List.map_map]
    refine List.map_congr_left fun i _ => ?_
    cases k <;> rfl
  simp only [toPy, h, e, optAll_map, Option.map_some, pyI]
theorem eqv_pyI {m m' : List Nat} : PyData.eqv (pyI m) (pyI m') = decide (m = m') := by
  unfold pyI
  rw [show PyData.eqv (.list (m.map fun (i : Nat) => .int (i : Int))) (.list (m'.map fun (i : Nat) => .int (i : Int))) = PyData.eqvAll (m.map fun (i : Nat) => .int (i : Int)) (m'.map fun (i : Nat) => .int (i : Int)) by simp [PyData.eqv]]
  induction m generalizing m' with
  | nil => cases m' <;> simp [PyData.eqvAll]
  | cons a m ih =>
    cases m' with
    | nil => simp [PyData.eqvAll]
    | cons b m' =>
      simp only [List.map_cons, PyData.eqvAll, ih]
      have : PyData.eqv (.int (a : Int)) (.int (b : Int)) = decide (a = b) := by
        have := eqv_py 0 (.int (a : Int)) rfl (.int (b : Int)) rfl
        simp only [py] at this
        rw [this]
        simp only [D.int.injEq]
        rw [decide_eq_decide]
        omega
      rw [this]
      by_cases h1 : a = b <;> by_cases h2 : m = m' <;> simp [h1, h2]
theorem cmp_ne_I {a b : Nat} {m m' : List Nat} (h : S[a]? = some (.lst (m.map fun (i : Nat) => D.int (i : Int)))) (h' : S[b]? = some (.lst (m'.map fun (i : Nat) => D.int (i : Int)))) : cmpD .NotEq (.ref a) (.ref b) S = some (!decide (m = m')) := by
  simp only [cmpD, eqD, toPy_I h, toPy_I h', eqv_pyI, Option.map_some]
theorem findEq_at {x : List Nat} : ∀ {l1 : List (List Nat)} {l2 : List (List Nat)}, x ∉ l1 → findEq (pyI x) ((l1 ++ x :: l2).map pyI) = some l1.length := by
  intro l1 l2 h
  unfold findEq
  rw [List.map_append, List.findIdx?_append, List.findIdx?_eq_none_iff.mpr]
  · simp [List.findIdx?_cons, eqv_pyI]
  · intro p hp
    obtain ⟨y, hy, rfl⟩ := List.mem_map.mp hp
    rw [eqv_pyI, decide_eq_false_iff_not]
    rintro rfl
    exact h hy
end
section
variable {c : Ctx} {δ : Env} {S : Store} {t : Tg}
/-- the turns of a walk -/
def ForGo (c : Ctx) (t : Tg) (body : Sms) (it : It) (δ : Env) (S : Store) (Q : Out → Store → Prop) : Prop := wR (forLoop it.chk (fun x δ S => match t.put x δ with
        | some δ' => evSs c body δ' S
        | none => .bad) it.items δ S) Q
theorem w_forE {src : Src} {body : Sms} {Q : Out → Store → Prop} (hl : lockOf src δ S = none) (h : wR (evSrc c src δ S) fun it S1 => ForGo c t body it δ S1 Q) : wR (evS c (.for t src body) δ S) Q := by
  simp only [evS, hl, lk, unlk, wR_bind, wR_ok]
  exact wR_mono h fun it S1 h => h
theorem go_ix {α : Type} {body : Sms} {Q : Out → Store → Prop} {it : It} (ys : List α) (f : Nat → α → D) (J : List α → Env → Store → Prop) (hi : it.items = ys.zipIdx.map (fun p => f p.2 p.1)) (h0 : J [] δ S) (hn : ∀ δ S, J ys δ S → chkOk S it.chk = true ∧ Q (.nx δ) S)
    (hs : ∀ done y rest δ S, ys = done ++ y :: rest → J done δ S → chkOk S it.chk = true ∧ ∃ δ', t.put (f done.length y) δ = some δ' ∧ wR (evSs c body δ' S) (turnO (J (done ++ [y])) Q)) : ForGo c t body it δ S Q := by
  unfold ForGo
  refine forLoop_ok (I := fun xs δ S => ∃ done rest, ys = done ++ rest ∧ xs = (rest.zipIdx done.length).map (fun p => f p.2 p.1) ∧ J done δ S) ?_ ?_ _ δ S ⟨[], ys, rfl, hi, h0⟩
  · rintro δ S ⟨done, rest, rfl, h2, h3⟩
    simp at h2
    subst h2
    rw [List.append_nil] at hn
    exact hn δ S h3
  · rintro x r δ S ⟨done, rest, h1, h2, h3⟩
    cases rest with
    | nil => simp at h2
    | cons y rest =>
      simp at h2
      obtain ⟨rfl, rfl⟩ := h2
      obtain ⟨a, δ', b, d⟩ := hs done y rest δ S h1 h3
      refine ⟨a, ?_⟩
      rw [b]
      refine wR_mono d fun o S' h => ?_
      cases o with
      | nx δ' => exact ⟨done ++ [y], rest, by simp [h1], by simp, h⟩
      | ct δ' => exact ⟨done ++ [y], rest, by simp [h1], by simp, h⟩
      | bk δ' => exact h
      | rt d => exact h
end
end Ev
set_option Elab.async false
set_option linter.all false
set_option maxRecDepth 100000
set_option maxHeartbeats 1000000
/-! Wp, part I: comprehensions whose turns change something; lists of clean data as values. -/
namespace Ev
open PySem
theorem lcLoop_gen {α : Type} {n : Nat} {chk : List (Nat × List D)} {step : D → Store → R (Option D)} {f : α → D} {J : List α → List D → Store → Prop} (hJ : ∀ done acc S, J done acc S → chkOk S chk = true ∧ S[n]? = some (.lst acc)) :
    ∀ (ys done : List α) (acc : List D) (S : Store), (∀ d1 y d2 acc S, done ++ ys = d1 ++ y :: d2 → J d1 acc S → wR (step (f y) S) fun o S' => S'[n]? = some (.lst acc) ∧ acc.length < lim ∧ match o with
      | none => J (d1 ++ [y]) acc S'
      | some d => J (d1 ++ [y]) (acc ++ [d]) (S'.set n (.lst (acc ++ [d])))) → J done acc S →
      wR (lcLoop n chk step (ys.map f) acc S) fun _ S' => ∃ acc, J (done ++ ys) acc S'
  | [], done, acc, S, hs, h => by
    obtain ⟨h1, h2⟩ := hJ done acc S h
    unfold lcLoop
    simp [h1, h2]
    exact ⟨acc, h⟩
  | y :: ys, done, acc, S, hs, h => by
    obtain ⟨h1, h2⟩ := hJ done acc S h
    rw [List.map_cons]
    unfold lcLoop
    rw [if_pos ⟨h1, h2⟩]
    obtain ⟨o, S', e, h3, h4, h5⟩ := hs done y ys acc S rfl h
    rw [e]
    have e2 : done ++ y :: ys = (done ++ [y]) ++ ys := by simp
    rw [e2] at hs ⊢
    cases o with
    | none => exact lcLoop_gen hJ ys (done ++ [y]) acc S' hs h5
    | some d =>
      dsimp only
      rw [if_pos ⟨h3, h4⟩]
      exact lcLoop_gen hJ ys (done ++ [y]) (acc ++ [d]) _ hs h5
section
variable {c : Ctx} {δ : Env} {S : Store} {t : Tg} {vs : List Nat} {elt : E}
theorem w_lc_gen {α : Type} {src : Src} {cond : Option E} {Q : D → Store → Prop} {J : Nat → List α → List D → Store → Prop} (ys : List α) (f : α → D) (chk : List (Nat × List D)) (hl : lockOf src δ S = none)
    (hsrc : wR (evSrc c src δ S) fun it S1 => it.items = ys.map f ∧ it.chk = chk ∧ J S1.length [] [] (S1 ++ [.lst []]))
    (hJ : ∀ n done acc S, J n done acc S → chkOk S chk = true ∧ S[n]? = some (.lst acc))
    (hs : ∀ n d1 y d2 acc S, ys = d1 ++ y :: d2 → J n d1 acc S → wR (stepW c t vs δ cond elt (f y) S) fun o S' => S'[n]? = some (.lst acc) ∧ acc.length < lim ∧ match o with
      | none => J n (d1 ++ [y]) acc S'
      | some d => J n (d1 ++ [y]) (acc ++ [d]) (S'.set n (.lst (acc ++ [d]))))
    (hQ : ∀ n acc S', J n ys acc S' → Q (.ref n) S') : wR (evE c (.lc vs t src cond elt) δ S) Q := by
  have e : evE c (.lc vs t src cond elt) δ S = (evSrc c src δ (lk (lockOf src δ S) S)).bind fun it S1 =>
      (lcLoop S1.length it.chk (stepW c t vs δ cond elt) it.items [] (S1 ++ [.lst []])).bind fun _ S2 => .ok (.ref S1.length) (unlk (lockOf src δ S) S2) := by
    simp only [evE]
    rfl
  rw [e, hl]
  simp only [lk, unlk, wR_bind]
  refine wR_mono hsrc fun it S1 ⟨h1, h2, h3⟩ => ?_
  rw [h1, h2]
  have := lcLoop_gen (f := f) (step := stepW c t vs δ cond elt) (hJ S1.length) ys [] [] _ (fun d1 y d2 acc S e => hs S1.length d1 y d2 acc S e) h3
  refine wR_mono this fun _ S' ⟨acc, h⟩ => ?_
  simp only [wR_ok]
  exact hQ _ _ _ h
end
/-- the turns of a comprehension -/
def LcGo (c : Ctx) (t : Tg) (vs : List Nat) (δ : Env) (cond : Option E) (elt : E) (it : It) (S : Store) (Q : D → Store → Prop) : Prop := wR (lcLoop S.length it.chk (stepW c t vs δ cond elt) it.items [] (S ++ [.lst []])) fun _ S2 => Q (.ref S.length) S2
section
variable {c : Ctx} {δ : Env} {S : Store} {t : Tg} {vs : List Nat} {elt : E}
theorem w_lcE {src : Src} {cond : Option E} {Q : D → Store → Prop} (hl : lockOf src δ S = none) (h : wR (evSrc c src δ S) fun it S1 => LcGo c t vs δ cond elt it S1 Q) : wR (evE c (.lc vs t src cond elt) δ S) Q := by
  have e : evE c (.lc vs t src cond elt) δ S = (evSrc c src δ (lk (lockOf src δ S) S)).bind fun it S1 =>
      (lcLoop S1.length it.chk (stepW c t vs δ cond elt) it.items [] (S1 ++ [.lst []])).bind fun _ S2 => .ok (.ref S1.length) (unlk (lockOf src δ S) S2) := by
    simp only [evE]
    rfl
  rw [e, hl]
  simp only [lk, unlk, wR_bind, wR_ok]
  exact wR_mono h fun it S1 h => h
theorem lcgo {α : Type} {cond : Option E} {it : It} {Q : D → Store → Prop} (ys : List α) (f : α → D) (g : α → Option D) (hi : it.items = ys.map f) (hc : chkOk S it.chk = true) (hlen : ys.length ≤ lim)
    (hstep : ∀ y ∈ ys, ∀ S2, Fr S S2 → wR (stepW c t vs δ cond elt (f y) S2) fun o S3 => o = g y ∧ Fr S2 S3)
    (hQ : ∀ S' n, Fr S S' → S[n]? = none → S'[n]? = some (.lst (ys.filterMap g)) → Q (.ref n) S') : LcGo c t vs δ cond elt it S Q := by
  unfold LcGo
  rw [hi]
  have := lcLoop_ok (S0 := S) (chk := it.chk) (f := f) (g := g) (step := stepW c t vs δ cond elt) get_len hc ys [] (S ++ [.lst []]) (fun y hy S2 f2 => hstep y hy S2 f2) Fr.app get_new (by simpa using hlen)
  refine wR_mono this fun _ S' ⟨a, b⟩ => ?_
  exact hQ S' S.length a get_len (by simpa using b)
theorem lcgo_gen {α : Type} {cond : Option E} {it : It} {Q : D → Store → Prop} {J : List α → List D → Store → Prop} (ys : List α) (f : α → D) (hi : it.items = ys.map f) (h0 : J [] [] (S ++ [.lst []]))
    (hJ : ∀ done acc S', J done acc S' → chkOk S' it.chk = true ∧ S'[S.length]? = some (.lst acc))
    (hs : ∀ d1 y d2 acc S', ys = d1 ++ y :: d2 → J d1 acc S' → wR (stepW c t vs δ cond elt (f y) S') fun o S2 => S2[S.length]? = some (.lst acc) ∧ acc.length < lim ∧ match o with
      | none => J (d1 ++ [y]) acc S2
      | some d => J (d1 ++ [y]) (acc ++ [d]) (S2.set S.length (.lst (acc ++ [d]))))
    (hQ : ∀ acc S', J ys acc S' → Q (.ref S.length) S') : LcGo c t vs δ cond elt it S Q := by
  unfold LcGo
  rw [hi]
  have := lcLoop_gen (f := f) (step := stepW c t vs δ cond elt) hJ ys [] [] _ (fun d1 y d2 acc S e => hs d1 y d2 acc S e) h0
  exact wR_mono this fun _ S' ⟨acc, h⟩ => hQ _ _ h
end
/-! ### lists of clean data as values -/
section
variable {S : Store}
theorem toPy_C {n : Nat} {xs : List D} (h : S[n]? = some (.lst xs)) (hc : ∀ x ∈ xs, cln 50 x = true) : toPy S 60 (.ref n) = some (.list (xs.map py)) := by
  have e : xs.map (toPy S 59) = xs.map fun d => some (py d) := List.map_congr_left fun d hd => toPy_cln _ _ (cln_mono (hc d hd) (by omega))
  simp only [toPy, h, e, optAll_map, Option.map_some]
theorem eqv_C {xs ys : List D} (hc : ∀ x ∈ xs, cln 50 x = true) (hd : ∀ x ∈ ys, cln 50 x = true) : PyData.eqv (.list (xs.map py)) (.list (ys.map py)) = decide (xs = ys) := by
  rw [show PyData.eqv (.list (xs.map py)) (.list (ys.map py)) = PyData.eqvAll (xs.map py) (ys.map py) by simp [PyData.eqv]]
  exact eqvAll_map (fun a ha b hb => eqv_py 50 a (hc a ha) b hb) hd
theorem cmp_ne_C {a b : Nat} {xs ys : List D} (h : S[a]? = some (.lst xs)) (h' : S[b]? = some (.lst ys)) (hc : ∀ x ∈ xs, cln 50 x = true) (hd : ∀ x ∈ ys, cln 50 x = true) : cmpD .NotEq (.ref a) (.ref b) S = some (!decide (xs = ys)) := by
  simp only [cmpD, eqD, toPy_C h hc, toPy_C h' hd, eqv_C hc hd, Option.map_some]
theorem m_remC {n : Nat} {L1 L2 : List D} {x : D} (h : S[n]? = some (.lst (L1 ++ x :: L2))) (hc : ∀ y ∈ L1 ++ x :: L2, cln 50 y = true) (hn : x ∉ L1) : methD .remove (.ref n) [x] S = .ok .non (S.set n (.lst (L1 ++ L2))) := by
  have e1 : toPy S 60 x = some (py x) := toPy_cln _ _ (cln_mono (hc x (by simp)) (by omega))
  have e2 : optAll ((L1 ++ x :: L2).map (toPy S 60)) = some ((L1 ++ x :: L2).map py) := by
    have : (L1 ++ x :: L2).map (toPy S 60) = (L1 ++ x :: L2).map fun d => some (py d) := List.map_congr_left fun d hd => toPy_cln _ _ (cln_mono (hc d hd) (by omega))
    rw [this, optAll_map]
  have e3 : findEq (py x) ((L1 ++ x :: L2).map py) = some L1.length := by
    unfold findEq
    rw [List.map_append, List.findIdx?_append, List.findIdx?_eq_none_iff.mpr]
    · simp [List.findIdx?_cons, eqv_py 50 x (hc x (by simp)) x (hc x (by simp))]
    · intro p hp
      obtain ⟨y, hy, rfl⟩ := List.mem_map.mp hp
      rw [eqv_py 50 y (hc y (by simp [hy])) x (hc x (by simp)), decide_eq_false_iff_not]
      rintro rfl
      exact hn hy
  have e4 : (L1 ++ x :: L2).eraseIdx L1.length = L1 ++ L2 := by
    rw [List.eraseIdx_append_of_length_le (by simp)]
    simp
  simp only [methD, mRemove, lstOf_lst h, e1, e2, e3, e4]
end
end Ev
set_option Elab.async false
set_option linter.all false
set_option maxRecDepth 100000
set_option maxHeartbeats 1000000
/-! k47, plain: the defs answer. Part P: the table, calls, the small checks. -/
namespace K47
open PySem Ev
abbrev fns : Str → Option Fn := fun x => f_tab.lookup x
abbrev con : Str → Option D := fun x => f_cons.lookup x
@[simp] theorem fn_is_integer : fns (Str.ofString "is_integer") = some f_is_integer := by kernel_rfl
@[simp] theorem fn_is_between : fns (Str.ofString "is_between") = some f_is_between := by kernel_rfl
@[simp] theorem fn_is_index : fns (Str.ofString "is_index") = some f_is_index := by kernel_rfl
@[simp] theorem fn_is_tuple_of : fns (Str.ofString "is_tuple_of") = some f_is_tuple_of := by kernel_rfl
@[simp] theorem fn_is_sign : fns (Str.ofString "is_sign") = some f_is_sign := by kernel_rfl
@[simp] theorem fn_is_signs : fns (Str.ofString "is_signs") = some f_is_signs := by kernel_rfl
@[simp] theorem fn_is_thing : fns (Str.ofString "is_thing") = some f_is_thing := by kernel_rfl
@[simp] theorem fn_is_call : fns (Str.ofString "is_call") = some f_is_call := by kernel_rfl
@[simp] theorem fn_moments_of : fns (Str.ofString "moments_of") = some f_moments_of := by kernel_rfl
@[simp] theorem fn_is_history : fns (Str.ofString "is_history") = some f_is_history := by kernel_rfl
@[simp] theorem fn_check_history : fns (Str.ofString "check_history") = some f_check_history := by kernel_rfl
@[simp] theorem fn_writer_of : fns (Str.ofString "writer_of") = some f_writer_of := by kernel_rfl
@[simp] theorem fn_counts : fns (Str.ofString "counts") = some f_counts := by kernel_rfl
@[simp] theorem fn_groups_of : fns (Str.ofString "groups_of") = some f_groups_of := by kernel_rfl
@[simp] theorem fn_first_end : fns (Str.ofString "first_end") = some f_first_end := by kernel_rfl
@[simp] theorem fn_last_begin : fns (Str.ofString "last_begin") = some f_last_begin := by kernel_rfl
@[simp] theorem fn_is_ahead : fns (Str.ofString "is_ahead") = some f_is_ahead := by kernel_rfl
@[simp] theorem fn_single_bar : fns (Str.ofString "single_bar") = some f_single_bar := by kernel_rfl
@[simp] theorem fn_late_bar : fns (Str.ofString "late_bar") = some f_late_bar := by kernel_rfl
@[simp] theorem fn_crossed_bar : fns (Str.ofString "crossed_bar") = some f_crossed_bar := by kernel_rfl
@[simp] theorem fn_crossed : fns (Str.ofString "crossed") = some f_crossed := by kernel_rfl
@[simp] theorem fn_raw_bar : fns (Str.ofString "raw_bar") = some f_raw_bar := by kernel_rfl
@[simp] theorem fn_bar : fns (Str.ofString "bar") = some f_bar := by kernel_rfl
@[simp] theorem fn_tail : fns (Str.ofString "tail") = some f_tail := by kernel_rfl
@[simp] theorem fn_name_order : fns (Str.ofString "name_order") = some f_name_order := by kernel_rfl
@[simp] theorem fn_right_order : fns (Str.ofString "right_order") = some f_right_order := by kernel_rfl
@[simp] theorem fn_is_right_order : fns (Str.ofString "is_right_order") = some f_is_right_order := by kernel_rfl
@[simp] theorem fn_are_behind : fns (Str.ofString "are_behind") = some f_are_behind := by kernel_rfl
@[simp] theorem fn_are_told : fns (Str.ofString "are_told") = some f_are_told := by kernel_rfl
@[simp] theorem fn_is_bar : fns (Str.ofString "is_bar") = some f_is_bar := by kernel_rfl
@[simp] theorem fn_is_single : fns (Str.ofString "is_single") = some f_is_single := by kernel_rfl
@[simp] theorem fn_tells : fns (Str.ofString "tells") = some f_tells := by kernel_rfl
@[simp] theorem fn_is_late : fns (Str.ofString "is_late") = some f_is_late := by kernel_rfl
@[simp] theorem fn_is_crossed : fns (Str.ofString "is_crossed") = some f_is_crossed := by kernel_rfl
@[simp] theorem fn__law_hand : fns (Str.ofString "_law_hand") = some f__law_hand := by kernel_rfl
@[simp] theorem fn__law_draw : fns (Str.ofString "_law_draw") = some f__law_draw := by kernel_rfl
@[simp] theorem fn__law_call : fns (Str.ofString "_law_call") = some f__law_call := by kernel_rfl
@[simp] theorem fn__law_history : fns (Str.ofString "_law_history") = some f__law_history := by kernel_rfl
@[simp] theorem fn__law_read : fns (Str.ofString "_law_read") = some f__law_read := by kernel_rfl
@[simp] theorem fn__law_goes : fns (Str.ofString "_law_goes") = some f__law_goes := by kernel_rfl
@[simp] theorem fn__law_is_right : fns (Str.ofString "_law_is_right") = some f__law_is_right := by kernel_rfl
@[simp] theorem fn__law_is_int : fns (Str.ofString "_law_is_int") = some f__law_is_int := by kernel_rfl
@[simp] theorem fn__law_is_order : fns (Str.ofString "_law_is_order") = some f__law_is_order := by kernel_rfl
@[simp] theorem fn__law_ended_read : fns (Str.ofString "_law_ended_read") = some f__law_ended_read := by kernel_rfl
@[simp] theorem fn__law_tells : fns (Str.ofString "_law_tells") = some f__law_tells := by kernel_rfl
@[simp] theorem fn__law_ahead : fns (Str.ofString "_law_ahead") = some f__law_ahead := by kernel_rfl
@[simp] theorem fn__law_is_bar : fns (Str.ofString "_law_is_bar") = some f__law_is_bar := by kernel_rfl
@[simp] theorem fn__law_bent_order : fns (Str.ofString "_law_bent_order") = some f__law_bent_order := by kernel_rfl
@[simp] theorem fn__law_bent_bar : fns (Str.ofString "_law_bent_bar") = some f__law_bent_bar := by kernel_rfl
@[simp] theorem fn_law : fns (Str.ofString "law") = some f_law := by kernel_rfl
abbrev sRead : Str := Str.ofString "read"
abbrev sWrite : Str := Str.ofString "write"
@[simp] theorem con_READ : con (Str.ofString "READ") = some (.str sRead) := by kernel_rfl
@[simp] theorem con_WRITE : con (Str.ofString "WRITE") = some (.str sWrite) := by kernel_rfl
@[simp] theorem con_GREATEST : con (Str.ofString "GREATEST") = some (.int 999999999999999999999999999999) := by kernel_rfl
@[simp] theorem con_MOST_TOLD : con (Str.ofString "MOST_TOLD") = some (.int 5) := by kernel_rfl
/-- a call of depth k -/
abbrev C (k : Nat) : Call := callN fns con 8 k
structure Cl where
  w : Bool
  nm : Str
  told : D
  b : Int
  e : Option Int
def encO : Option Int → D
  | none => .non
  | some i => .int i
def enc (x : Cl) : D := .tup [.str (if x.w = true then sWrite else sRead), .str x.nm, x.told, .int x.b, encO x.e]
abbrev encH (h : List Cl) : D := .tup (h.map enc)
/-! ### small checks -/
def isI : D → Bool
  | .int _ => true
  | _ => false
theorem tyI {S : Store} {d : D} {t : String} (h : tyOf S d = some t) : (isInst t "int" = true ∧ isInst t "bool" = !isI d) ∨ (isInst t "int" = false ∧ isI d = false) := by
  cases d with
  | ref n =>
    simp only [tyOf] at h
    split at h <;> first | (cases h; exact .inr ⟨by decide, rfl⟩) | cases h
  | ty n => cases h
  | _ => simp at h; subst h; simp [isI]
section
variable {k : Nat} {S : Store} {Q : D → Store → Prop}
theorem s_is_integer {d : D} {t : String} (h : tyOf S d = some t) (q : Q (.bl (isI d)) S) : wR (C (k + 1) (Str.ofString "is_integer") [d] S) Q := by
  refine w_fn fn_is_integer rfl ?_
  simp [f_is_integer, startEnv, h, -Bool.exists_bool]
  rcases tyI h with ⟨h1, h2⟩ | ⟨h1, h2⟩
  · simpa [h1, h2] using q
  · simpa [h1, h2] using q
theorem s_is_tuple_of {ds : List D} {i : Int} (q : Q (.bl (decide ((ds.length : Int) = i))) S) : wR (C (k + 1) (Str.ofString "is_tuple_of") [.tup ds, .int i] S) Q := by
  refine w_fn fn_is_tuple_of rfl ?_
  simp [f_is_tuple_of, startEnv, -Bool.exists_bool]
  exact q
/-- a whole number from i to j -/
def isB (d : D) (i j : Int) : Bool := match d with
  | .int x => decide (i ≤ x) && decide (x ≤ j)
  | _ => false
theorem s_is_between {d : D} {t : String} {i j : Int} (h : tyOf S d = some t) (q : Q (.bl (isB d i j)) S) : wR (C (k + 2) (Str.ofString "is_between") [d, .int i, .int j] S) Q := by
  refine w_fn fn_is_between rfl ?_
  simp [f_is_between, startEnv, -Bool.exists_bool]
  refine s_is_integer h ?_
  cases d <;> simp [isI, isB, -Bool.exists_bool] at q ⊢ <;> try exact q
  split <;> rename_i h1 <;> simp [h1] at q <;> exact q
theorem s_is_index {d : D} {t : String} {n : Int} (h : tyOf S d = some t) (q : Q (.bl (isB d 0 (n - 1))) S) : wR (C (k + 3) (Str.ofString "is_index") [d, .int n] S) Q := by
  refine w_fn fn_is_index rfl ?_
  simp [f_is_index, startEnv, -Bool.exists_bool]
  exact s_is_between h q
theorem s_law_is_int {d : D} {t : String} (h : tyOf S d = some t) (q : Q (.bl (isI d)) S) : wR (C (k + 1) (Str.ofString "_law_is_int") [d] S) Q := by
  refine w_fn fn__law_is_int rfl ?_
  simp [f__law_is_int, startEnv, h, -Bool.exists_bool]
  rcases tyI h with ⟨h1, h2⟩ | ⟨h1, h2⟩
  · simpa [h1, h2] using q
  · simpa [h1, h2] using q
/-- a printable sign -/
def sgn (c : Nat) : Bool := decide (32 ≤ c) && decide (c ≤ 126)
theorem s_is_sign {c : Nat} (h : sgn c = true) (q : Q (.bl true) S) : wR (C (k + 1) (Str.ofString "is_sign") [.str ⟨#[c]⟩] S) Q := by
  refine w_fn fn_is_sign rfl ?_
  simp [sgn] at h
  have e1 : (Str.ofString " ").cps.toList = [32] := by kernel_rfl
  have e2 : (Str.ofString "~").cps.toList = [126] := by kernel_rfl
  have a1 : cmpD .LtE (.str (Str.ofString " ")) (.str ⟨#[c]⟩) S = some true := by
    simp only [cmpD, leD, e1]
    simp [List.cons_lt_cons_iff]
    omega
  have a2 : cmpD .LtE (.str ⟨#[c]⟩) (.str (Str.ofString "~")) S = some true := by
    simp only [cmpD, leD, e2]
    simp [List.cons_lt_cons_iff]
    omega
  simp [f_is_sign, startEnv, a1, a2, -Bool.exists_bool]
  exact q
def sgns (x : Str) : Bool := x.cps.toList.all sgn && decide (x.cps.toList.length ≤ 100)
theorem all_true {α : Type} {xs : List α} : (xs.all fun _ => true) = true := by
  rw [List.all_eq_true]
  exact fun _ _ => rfl
theorem s_is_signs {x : Str} (h : sgns x = true) (q : ∀ S', Fr S S' → Q (.bl true) S') : wR (C (k + 2) (Str.ofString "is_signs") [.str x] S) Q := by
  refine w_fn fn_is_signs rfl ?_
  simp only [sgns, Bool.and_eq_true, List.all_eq_true, decide_eq_true_eq] at h
  simp [f_is_signs, startEnv, -Bool.exists_bool]
  refine w_all x.cps.toList (fun c => .str ⟨#[c]⟩) (fun _ => true) (by exact lock_str rfl) ?_ (Nat.le_trans h.2 (by decide)) (fun y hy S2 h2 => ?_) fun S' h' => ?_
  · simp [keysOf, dicOf, itOf, chkOk, Fr.refl]
  · refine ⟨_, rfl, ?_⟩
    simp [wipe, -Bool.exists_bool]
    exact s_is_sign (h.1 y hy) ⟨rfl, Fr.refl⟩
  · rw [all_true]
    exact q S' h'
theorem s_is_signs_no {d : D} {t : String} (h : tyOf S d = some t) (hn : isInst t "str" = false) (q : Q (.bl false) S) : wR (C (k + 1) (Str.ofString "is_signs") [d] S) Q := by
  refine w_fn fn_is_signs rfl ?_
  simp [f_is_signs, startEnv, h, hn, -Bool.exists_bool]
  exact q
theorem s_is_thing_non {n : Int} (q : Q (.bl true) S) : wR (C (k + 2) (Str.ofString "is_thing") [.non, .int n] S) Q := by
  refine w_fn fn_is_thing rfl ?_
  simp [f_is_thing, startEnv, -Bool.exists_bool]
  refine s_is_integer (t := "NoneType") rfl ?_
  simp [isI, -Bool.exists_bool]
  exact q
theorem s_is_thing_int {i n : Int} (h1 : -1000 ≤ i) (h2 : i ≤ 1000) (q : Q (.bl true) S) : wR (C (k + 2) (Str.ofString "is_thing") [.int i, .int n] S) Q := by
  refine w_fn fn_is_thing rfl ?_
  simp [f_is_thing, startEnv, -Bool.exists_bool]
  refine s_is_integer (t := "int") rfl ?_
  simp [isI, -Bool.exists_bool]
  rw [if_pos (by omega)]
  simpa [show i ≤ 999999999999999999999999999999 by omega] using q
theorem s_is_thing_str {x : Str} {n : Int} (h : sgns x = true) (q : ∀ S', Fr S S' → Q (.bl true) S') : wR (C (k + 3) (Str.ofString "is_thing") [.str x, .int n] S) Q := by
  refine w_fn fn_is_thing rfl ?_
  simp [f_is_thing, startEnv, -Bool.exists_bool]
  refine s_is_integer (t := "str") rfl ?_
  simp [isI, -Bool.exists_bool]
  exact s_is_signs h q
def sa : Str := Str.ofString "a"
def sb : Str := Str.ofString "b"
def sStrange : Str := Str.ofString "strange"
def nmOk (x : Str) : Prop := x = sa ∨ x = sb
theorem sgns_nm {x : Str} (h : nmOk x) : sgns x = true := by
  rcases h with rfl | rfl <;> kernel_rfl
theorem sgns_strange : sgns sStrange = true := by kernel_rfl
/-- what a call may tell -/
def tdOk (d : D) : Prop := d = .non ∨ d = .str sStrange ∨ ∃ x i, nmOk x ∧ (0 : Int) ≤ i ∧ i ≤ 1000 ∧ d = .tup [.str x, .int i]
theorem s_is_thing {d : D} (h : tdOk d) (q : ∀ S', Fr S S' → Q (.bl true) S') : wR (C (k + 4) (Str.ofString "is_thing") [d, .int 5] S) Q := by
  rcases h with rfl | rfl | ⟨x, i, hx, h1, h2, rfl⟩
  · exact s_is_thing_non (q S Fr.refl)
  · exact s_is_thing_str sgns_strange q
  · refine w_fn fn_is_thing rfl ?_
    simp [f_is_thing, startEnv, -Bool.exists_bool]
    refine w_all [.str x, .int i] id (fun _ => true) (by exact lock_tup rfl) ?_ (by simp [lim]) (fun y hy S2 h2 => ?_) fun S' h' => ?_
    · simp [chkOk, Fr.refl]
    · refine ⟨_, rfl, ?_⟩
      simp [wipe, -Bool.exists_bool]
      simp at hy
      rcases hy with rfl | rfl
      · exact s_is_thing_str (sgns_nm hx) fun S' h => ⟨rfl, h⟩
      · exact s_is_thing_int (by omega) (by omega) ⟨rfl, Fr.refl⟩
    · rw [all_true]
      exact q S' h'
/-- a call of a history -/
structure ClOk (x : Cl) : Prop where
  nm : nmOk x.nm
  td : tdOk x.told
  wr : x.w = true → x.told ≠ .non
  en : ∀ e, x.e = some e → x.b < e
theorem cln_str {x : Str} (h : PyData.strOk x = true) : cln 60 (.str x) = true := h
@[simp] theorem cln_int {n : Nat} {i : Int} : cln n (.int i) = true := by cases n <;> rfl
@[simp] theorem cln_non {n : Nat} : cln n .non = true := by cases n <;> rfl
theorem cln_nm {x : Str} {n : Nat} (h : nmOk x) : cln n (.str x) = true := by
  have : PyData.strOk x = true := by rcases h with rfl | rfl <;> kernel_rfl
  cases n <;> exact this
@[simp] theorem cln_read {n : Nat} : cln n (.str sRead) = true := by
  have : PyData.strOk sRead = true := by kernel_rfl
  cases n <;> exact this
@[simp] theorem cln_write {n : Nat} : cln n (.str sWrite) = true := by
  have : PyData.strOk sWrite = true := by kernel_rfl
  cases n <;> exact this
theorem cln_td {d : D} {n : Nat} (h : tdOk d) : cln (n + 1) d = true := by
  rcases h with rfl | rfl | ⟨x, i, hx, h1, h2, rfl⟩
  · rfl
  · show PyData.strOk sStrange = true
    kernel_rfl
  · simp [cln, cln_nm hx]
theorem rw_ne : sRead ≠ sWrite := by decide
@[simp] theorem read_eq {S : Store} {w : Bool} : cmpD .Eq (.str (if w = true then sWrite else sRead)) (.str sRead) S = some (!w) := by
  cases w
  · rw [cmp_eq] <;> simp
  · rw [cmp_eq] <;> simp [rw_ne.symm]
@[simp] theorem write_eq {S : Store} {w : Bool} : cmpD .Eq (.str (if w = true then sWrite else sRead)) (.str sWrite) S = some w := by
  cases w
  · rw [cmp_eq] <;> simp [rw_ne]
  · rw [cmp_eq] <;> simp
@[simp] theorem read_ne {S : Store} {w : Bool} : cmpD .NotEq (.str (if w = true then sWrite else sRead)) (.str sRead) S = some w := by
  cases w
  · rw [cmp_ne] <;> simp
  · rw [cmp_ne] <;> simp [rw_ne.symm]
theorem ix_pos {a : D} {r : List D} {i : Nat} {d : D} (h : (a :: r)[i]? = some d) : ixD (.tup (a :: r)) (.int (i : Nat)) S = .ok d S := by
  have hi : i < (a :: r).length := (List.getElem?_eq_some_iff.mp h).1
  simp only [ixD, seqOf_tup, ixN_nat hi, Option.bind_some, h]
@[simp] theorem ix_t0 {a : D} {r : List D} : ixD (.tup (a :: r)) (.int 0) S = .ok a S := ix_pos (i := 0) rfl
@[simp] theorem ix_t1 {a b : D} {r : List D} : ixD (.tup (a :: b :: r)) (.int 1) S = .ok b S := ix_pos (i := 1) rfl
@[simp] theorem ix_t2 {a b c : D} {r : List D} : ixD (.tup (a :: b :: c :: r)) (.int 2) S = .ok c S := ix_pos (i := 2) rfl
@[simp] theorem ix_t3 {a b c d : D} {r : List D} : ixD (.tup (a :: b :: c :: d :: r)) (.int 3) S = .ok d S := ix_pos (i := 3) rfl
@[simp] theorem ix_t4 {a b c d e : D} {r : List D} : ixD (.tup (a :: b :: c :: d :: e :: r)) (.int 4) S = .ok e S := ix_pos (i := 4) rfl
theorem s_is_call {x : Cl} (h : ClOk x) (q : ∀ S', Fr S S' → Q (.bl true) S') : wR (C (k + 5) (Str.ofString "is_call") [enc x] S) Q := by
  refine w_fn fn_is_call rfl ?_
  have e1 : cmpD .NotIn (.str (if x.w = true then sWrite else sRead)) (.tup [.str sRead, .str sWrite]) S = some false := by
    rw [cmp_nin (xs := [.str sRead, .str sWrite]) (by cases x.w <;> simp) rfl (by simp)]
    cases x.w <;> simp
  simp [f_is_call, startEnv, enc, -Bool.exists_bool]
  refine s_is_tuple_of ?_
  simp [e1, lim, setAll, -Bool.exists_bool]
  refine s_is_thing h.td fun S1 h1 => ?_
  simp [-Bool.exists_bool]
  refine s_is_integer (t := "int") rfl ?_
  simp [isI, -Bool.exists_bool]
  have hw := h.wr
  have he := h.en
  cases ew : x.w
  all_goals
    simp [ew] at hw
    simp [hw, -Bool.exists_bool]
    cases ee : x.e with
    | none =>
      simp [encO]
      exact q S1 h1
    | some e =>
      simp [encO]
      refine s_is_integer (t := "int") rfl ?_
      simp [isI, he e ee]
      exact q S1 h1
/-! ### histories -/
/-- each call is one, the moments of a name differ, no name has the same told twice -/
def momsOf (x : Cl) : List D := (.tup [.str x.nm, .int x.b]) :: (match x.e with
  | none => []
  | some e => [.tup [.str x.nm, .int e]])
def moms (h : List Cl) : List D := h.flatMap momsOf
def wrs (h : List Cl) : List D := (h.filter (·.w)).map fun x => .tup [.str x.nm, x.told]
structure HOk (h : List Cl) : Prop where
  len : h.length ≤ 20
  cl : ∀ x ∈ h, ClOk x
  moms : (moms h).Nodup
  wrs : (wrs h).Nodup
@[simp] theorem cut_3 {a b c d e : D} : cut [a, b, c, d, e] (some 3) none = [d, e] := rfl
@[simp] theorem cut_13 {a b c d e : D} : cut [a, b, c, d, e] (some 1) (some 3) = [b, c] := rfl
theorem moms_len : ∀ h : List Cl, (moms h).length ≤ 2 * h.length
  | [] => by simp [moms]
  | x :: h => by
    have := moms_len h
    simp only [moms, List.flatMap_cons, List.length_append, List.length_cons] at this ⊢
    have e : (momsOf x).length ≤ 2 := by unfold momsOf; cases x.e <;> simp
    omega
theorem momsOf_eq (y : Cl) : [D.int y.b, encO y.e].filterMap (fun d => if d = .non then none else some (.tup [.str y.nm, d])) = momsOf y := by
  unfold momsOf
  cases y.e <;> simp [encO]
theorem s_moments_of {h : List Cl} (hk : HOk h) (q : ∀ S' n, Fr S S' → S'[n]? = some (.lst (moms h)) → Q (.ref n) S') : wR (C (k + 1) (Str.ofString "moments_of") [encH h] S) Q := by
  refine w_fn fn_moments_of rfl ?_
  simp [f_moments_of, startEnv, lim, -Bool.exists_bool]
  refine w_for (I := fun xs δ S' => ∃ done rest a b, h = done ++ rest ∧ xs = rest.map enc ∧ δ = [some (encH h), some (.ref S.length), a, b] ∧ Fr S S' ∧ S'[S.length]? = some (.lst (moms done))) [] (by exact lock_tup rfl) ?_ ?_ ?_
  · simp
    exact ⟨[], h, rfl, rfl, Fr.app, by simp [moms]⟩
  · rintro δ S' ⟨done, rest, a, b, rfl, h2, rfl, f, h4⟩
    simp at h2
    subst h2
    simp [chkOk]
    exact q S' S.length f (by simpa using h4)
  · rintro x r δ S' ⟨done, rest, a, b, rfl, h2, rfl, f, h4⟩
    refine ⟨rfl, _, rfl, ?_⟩
    cases rest with
    | nil => simp at h2
    | cons y rest =>
      simp at h2
      obtain ⟨rfl, rfl⟩ := h2
      simp [enc, -Bool.exists_bool]
      refine ⟨recv_ext h4, w_lc [.int y.b, encO y.e] id (fun d => if d = .non then none else some (.tup [.str y.nm, d])) rfl ?_ (by simp [lim]) (fun z hz S2 h2 => ?_) fun S2 n h2 h3 h5 => ?_⟩
      · simp [chkOk, Fr.refl]
      · simp [wipe, Tg.put, lim, -Bool.exists_bool]
        by_cases e : z = .non
        · simp [e, Fr.refl]
        · simp [e, Fr.refl]
      · rw [momsOf_eq] at h5
        have hl : (moms done).length + (momsOf y).length ≤ lim := by
          have h1 := moms_len (done ++ [y])
          have h2 := hk.len
          have e : moms (done ++ [y]) = moms done ++ momsOf y := by simp [moms]
          rw [e, List.length_append] at h1
          simp at h1 h2
          unfold lim
          omega
        rw [m_ext (h2 _ _ h4) h5 hl]
        simp
        refine ⟨done ++ [y], rest, by simp, rfl, (f.trans h2).set get_len, ?_⟩
        rw [get_set (h2 _ _ h4)]
        simp [moms]
theorem tupK_mom {h : List Cl} (hk : HOk h) : ∀ d ∈ moms h, tupK d = true := by
  intro d hd
  obtain ⟨x, hx, hd⟩ := List.mem_flatMap.mp hd
  unfold momsOf at hd
  cases e : x.e with
  | none => simp [e] at hd; subst hd; simp [tupK, nestK, nestKs]
  | some i =>
    simp [e] at hd
    rcases hd with rfl | rfl <;> simp [tupK, nestK, nestKs]
theorem tupK_td {x : Str} {d : D} (h : tdOk d) : tupK (.tup [.str x, d]) = true := by
  rcases h with rfl | rfl | ⟨x, i, hx, h1, h2, rfl⟩ <;> simp [tupK, nestK, nestKs]
theorem wrs_eq (h : List Cl) : h.filterMap (fun x => if x.w = true then some (.tup [.str x.nm, x.told]) else none) = wrs h := by
  unfold wrs
  induction h with
  | nil => rfl
  | cons x h ih =>
    rw [List.filterMap_cons, List.filter_cons]
    cases x.w <;> simp [ih]
theorem tupK_wrs {h : List Cl} (hk : HOk h) : ∀ d ∈ wrs h, tupK d = true := by
  intro d hd
  obtain ⟨x, hx, rfl⟩ := List.mem_map.mp hd
  exact tupK_td (hk.cl x (List.mem_filter.mp hx).1).td
theorem s_is_history {h : List Cl} (hk : HOk h) (q : ∀ S', Fr S S' → Q (.bl true) S') : wR (C (k + 6) (Str.ofString "is_history") [encH h] S) Q := by
  refine w_fn fn_is_history rfl ?_
  simp [f_is_history, startEnv, -Bool.exists_bool]
  refine w_all h enc (fun _ => true) (by exact lock_tup rfl) ?_ (by have := hk.len; unfold lim; omega) (fun y hy S2 h2 => ?_) fun S1 h1 => ?_
  · simp [chkOk, Fr.refl]
  · refine ⟨_, rfl, ?_⟩
    simp [wipe, -Bool.exists_bool]
    exact s_is_call (hk.cl y hy) fun S' h => ⟨rfl, h⟩
  rw [all_true]
  simp [-Bool.exists_bool]
  refine s_moments_of hk fun S2 m h2 h3 => ?_
  refine w_lc h enc (fun x => if x.w = true then some (.tup [.str x.nm, x.told]) else none) (by exact lock_tup rfl) ?_ (by have := hk.len; unfold lim; omega) (fun y hy S3 h4 => ?_) fun S3 w h4 _ h5 => ?_
  · simp [chkOk, Fr.refl]
  · simp [wipe, Tg.put, enc, -Bool.exists_bool]
    cases y.w <;> simp [Fr.refl]
  rw [wrs_eq] at h5
  have h3' := h4 _ _ h3
  have lm := moms_len h
  have lh := hk.len
  refine w_dc (moms h) id id (fun _ => .bl true) (by exact lock_lst rfl h3') ?_ (by unfold lim; omega) (.inr (by simpa using tupK_mom hk)) (fun y hy S4 h6 => ?_) fun S4 a h6 _ h7 => ?_
  · simp [keysOf_lst h3', chk_one1 h3', Fr.refl]
  · refine ⟨_, rfl, ?_⟩
    simp [wipe, Fr.refl]
  rw [putAll_new (by simpa using hk.moms) (by simp)] at h7
  simp [lenOf_dic h7, lenOf_lst (h6 _ _ h3'), -Bool.exists_bool]
  have h5' := h6 _ _ h5
  have lw : (wrs h).length ≤ 20 := by
    have : (wrs h).length ≤ h.length := by simp [wrs]; exact List.length_filter_le _ _
    omega
  refine w_dc (wrs h) id id (fun _ => .bl true) (by exact lock_lst rfl h5') ?_ (by unfold lim; omega) (.inr (by simpa using tupK_wrs hk)) (fun y hy S5 h8 => ?_) fun S5 b h8 _ h9 => ?_
  · simp [keysOf_lst h5', chk_one1 h5', Fr.refl]
  · refine ⟨_, rfl, ?_⟩
    simp [wipe, Fr.refl]
  rw [putAll_new (by simpa using hk.wrs) (by simp)] at h9
  simp [lenOf_dic h9, lenOf_lst (h8 _ _ h5'), -Bool.exists_bool]
  exact q _ ((((h1.trans h2).trans h4).trans h6).trans h8)
theorem s_check_history {h : List Cl} (hk : HOk h) (q : ∀ S', Fr S S' → Q .non S') : wR (C (k + 7) (Str.ofString "check_history") [encH h] S) Q := by
  refine w_fn fn_check_history rfl ?_
  simp [f_check_history, startEnv, -Bool.exists_bool]
  refine s_is_history hk fun S' h => ?_
  simp [-Bool.exists_bool]
  exact q S' h
end
end K47
set_option Elab.async false
set_option linter.all false
set_option maxRecDepth 100000
set_option maxHeartbeats 1000000
/-! k47, plain. Part Q: writers, groups. -/
namespace K47
open PySem Ev
section
variable {k : Nat} {S : Store} {Q : D → Store → Prop}
@[simp] theorem enc_0 {x : Cl} : ixD (enc x) (.int 0) S = .ok (.str (if x.w = true then sWrite else sRead)) S := ix_t0
@[simp] theorem enc_1 {x : Cl} : ixD (enc x) (.int 1) S = .ok (.str x.nm) S := ix_t1
@[simp] theorem enc_2 {x : Cl} : ixD (enc x) (.int 2) S = .ok x.told S := ix_t2
@[simp] theorem enc_3 {x : Cl} : ixD (enc x) (.int 3) S = .ok (.int x.b) S := ix_t3
@[simp] theorem enc_4 {x : Cl} : ixD (enc x) (.int 4) S = .ok (encO x.e) S := ix_t4
@[simp] theorem enc_13 {x : Cl} : slD (enc x) (some 1) (some 3) S = .ok (.tup [.str x.nm, x.told]) S := rfl
@[simp] theorem enc_3n {x : Cl} : slD (enc x) (some 3) none S = .ok (.tup [.int x.b, encO x.e]) S := rfl
@[simp] theorem enc_n2 {x : Cl} : slD (enc x) none (some 2) S = .ok (.tup [.str (if x.w = true then sWrite else sRead), .str x.nm]) S := rfl
@[simp] theorem enc_seq {x : Cl} : seqOf S (enc x) = some [.str (if x.w = true then sWrite else sRead), .str x.nm, x.told, .int x.b, encO x.e] := rfl
@[simp] theorem encO_non {o : Option Int} : (encO o = .non) = (o = none) := by cases o <;> simp [encO]
theorem encH_ix {h : List Cl} {i : Nat} {x : Cl} (hx : h[i]? = some x) : ixD (encH h) (.int (i : Nat)) S = .ok (enc x) S := by
  have e : (h.map enc)[i]? = some (enc x) := by simp [hx]
  have hi : i < (h.map enc).length := (List.getElem?_eq_some_iff.mp e).1
  simp only [ixD, seqOf_tup, ixN_nat hi, Option.bind_some, e]
/-- the same name and the same told -/
def same (x y : Cl) : Bool := decide (x.nm = y.nm) && decide (x.told = y.told)
theorem cln_nm' {x : Str} (h : nmOk x) : PyData.strOk x = true := by rcases h with rfl | rfl <;> kernel_rfl
theorem cmp_key {x y : Cl} (hx : ClOk x) (hy : ClOk y) : cmpD .Eq (.tup [.str x.nm, x.told]) (.tup [.str y.nm, y.told]) S = some (same x y) := by
  rw [cmp_eq (by simp [cln, cln_nm' hx.nm, cln_td hx.td]) (by simp [cln, cln_nm' hy.nm, cln_td hy.td])]
  simp [same]
def encN : Option Nat → D
  | none => .non
  | some i => .int (i : Nat)
/-- the writer of a read -/
def wrOf (h : List Cl) (x : Cl) : Option Nat := h.findIdx? fun y => y.w && same y x
theorem enumD_eq {α : Type} (f : α → D) (h : List α) : enumD (h.map f) = h.zipIdx.map fun p => .tup [.int (p.2 : Nat), f p.1] := by
  unfold enumD
  rw [List.zipIdx_map, List.map_map]
  rfl
theorem zipIdx_append_cons {α : Type} {done : List α} {x : α} {rest : List α} : (done ++ x :: rest).zipIdx = done.zipIdx ++ (x, done.length) :: rest.zipIdx (done.length + 1) := by
  rw [List.zipIdx_append, List.zipIdx_cons]
  simp
theorem if_and {p q : Prop} [Decidable p] [Decidable q] {a b : Prop} : (if p then (if q then a else b) else b) = (if p ∧ q then a else b) := by
  by_cases h1 : p <;> by_cases h2 : q <;> simp [h1, h2]
theorem findIdx_here {α : Type} {p : α → Bool} {done rest : List α} {y : α} (h : ∀ z ∈ done, p z = false) (e : p y = true) : (done ++ y :: rest).findIdx? p = some done.length := by
  rw [List.findIdx?_append, List.findIdx?_eq_none_iff.mpr (by simpa using h), List.findIdx?_cons, e]
  simp
theorem all_snoc {α : Type} {p : α → Prop} {done : List α} {y : α} (h : ∀ z ∈ done, p z) (e : p y) : ∀ z ∈ done ++ [y], p z := fun z hz => by
  rcases List.mem_append.mp hz with hz | hz
  · exact h z hz
  · simp at hz; subst hz; exact e
theorem s_writer_of {h : List Cl} {x : Cl} (hk : HOk h) (hx : ClOk x) (q : Q (encN (wrOf h x)) S) : wR (C (k + 1) (Str.ofString "writer_of") [encH h, enc x] S) Q := by
  refine w_fn fn_writer_of rfl ?_
  simp [f_writer_of, startEnv, -Bool.exists_bool]
  refine w_for_ix h (fun i y => .tup [.int (i : Nat), enc y]) (fun done δ S' => ∃ a b, δ = [some (encH h), some (enc x), a, b] ∧ S' = S ∧ ∀ y ∈ done, (y.w && same y x) = false) [] rfl ?_ ?_ ?_
  · simp [enumD_eq]
  · rintro δ S' ⟨a, b, rfl, rfl, h4⟩
    have e : wrOf h x = none := List.findIdx?_eq_none_iff.mpr (by simpa using h4)
    rw [e] at q
    simp [chkOk]
    exact q
  · rintro done y rest δ S' h1 ⟨a, b, rfl, rfl, h4⟩
    refine ⟨rfl, _, rfl, ?_⟩
    have hy : ClOk y := hk.cl y (by simp [h1])
    simp only [w_scons, w_ifs, w_and, w_cmp, w_ix, w_var, w_lit, w_con]
    simp [cmp_key hy hx, setAll, -Bool.exists_bool]
    cases e : (y.w && same y x) with
    | false =>
      have nxt := all_snoc h4 e
      simp at nxt e
      cases hw : y.w <;> simp [hw] at e ⊢
      · exact nxt
      · simp [e]
        exact nxt
    | true =>
      have e2 : wrOf h x = some done.length := by rw [h1]; exact findIdx_here h4 e
      rw [e2] at q
      simp at e
      simp [e]
      exact q
/-- it has an end, or it is a write that an ended read tells -/
def cnt (h : List Cl) (x : Cl) : Bool := x.e.isSome || (x.w && h.any fun o => !o.w && (o.e.isSome && same o x))
theorem s_counts {h : List Cl} {x : Cl} {i : Nat} (hk : HOk h) (hx : h[i]? = some x) (q : ∀ S', Fr S S' → Q (.bl (cnt h x)) S') : wR (C (k + 1) (Str.ofString "counts") [encH h, .int (i : Nat)] S) Q := by
  refine w_fn fn_counts rfl ?_
  have cx : ClOk x := hk.cl x (List.mem_of_getElem? hx)
  simp [f_counts, startEnv, encH_ix hx, -Bool.exists_bool]
  cases he : x.e with
  | some e =>
    simp
    have e : cnt h x = true := by simp [cnt, he]
    rw [e] at q
    exact q S Fr.refl
  | none =>
    simp
    cases hw : x.w with
    | false =>
      simp
      have e : cnt h x = false := by simp [cnt, he, hw]
      rw [e] at q
      exact q S Fr.refl
    | true =>
      simp [-Bool.exists_bool]
      refine w_any h enc (fun o => !o.w && (o.e.isSome && same o x)) (by exact lock_tup rfl) ?_ (by have := hk.len; unfold lim; omega) (fun y hy S2 h2 => ?_) fun S1 h1 => ?_
      · simp [chkOk, Fr.refl]
      · refine ⟨_, rfl, ?_⟩
        simp [wipe, cmp_key (hk.cl y hy) cx, -Bool.exists_bool]
        cases hyw : y.w <;> cases hye : y.e <;> simp [Fr.refl]
      · have e : cnt h x = h.any fun o => !o.w && (o.e.isSome && same o x) := by simp [cnt, he, hw]
        rw [e] at q
        exact q S1 h1
/-! ### ends and begins of groups -/
def endOf (h : List Cl) (i : Nat) : Option Int := (h[i]?).bind (·.e)
def begOf (h : List Cl) (i : Nat) : Int := ((h[i]?).map (·.b)).getD 0
/-- the places of a group -/
def GOk (h : List Cl) (g : List Nat) : Prop := ∀ i ∈ g, i < h.length
abbrev encI (g : List Nat) : List D := g.map fun (i : Nat) => D.int (i : Int)
/-- one of the first ends -/
def FE (h : List Cl) (g : List Nat) : Option Nat → Prop
  | none => ∀ i ∈ g, endOf h i = none
  | some i => i ∈ g ∧ ∃ e, endOf h i = some e ∧ ∀ j ∈ g, ∀ e', endOf h j = some e' → e ≤ e'
/-- one of the last begins -/
def LB (h : List Cl) (g : List Nat) (i : Nat) : Prop := i ∈ g ∧ ∀ j ∈ g, begOf h j ≤ begOf h i
theorem best_mem {α : Type} {lt : α → α → Bool} : ∀ (l : List α) (a : α), best lt a l ∈ a :: l
  | [], a => by simp [best]
  | b :: r, a => by
    unfold best
    have := best_mem (lt := lt) r (if lt a b = true then b else a)
    split at this <;> split <;> simp_all <;> rcases this with h | h <;> simp [h]
theorem best_ge : ∀ (l : List (Int × Int)) (a : Int × Int), ∀ q ∈ a :: l, q.1 ≤ (best pairLt a l).1
  | [], a, q, h => by simp at h; subst h; simp [best]
  | b :: r, a, q, h => by
    unfold best
    have ih := best_ge r (if pairLt a b = true then b else a)
    have h0 := ih _ (.head _)
    rcases List.mem_cons.mp h with rfl | h
    · split at h0
      · rename_i hl; rw [if_pos hl]; simp [pairLt] at hl; omega
      · rename_i hl; rw [if_neg hl]; exact h0
    · rcases List.mem_cons.mp h with rfl | h
      · split at h0
        · rename_i hl; rw [if_pos hl]; exact h0
        · rename_i hl; rw [if_neg hl]; simp [pairLt] at hl; omega
      · exact ih q (.tail _ h)
theorem best_le : ∀ (l : List (Int × Int)) (a : Int × Int), ∀ q ∈ a :: l, (best (fun a b => pairLt b a) a l).1 ≤ q.1
  | [], a, q, h => by simp at h; subst h; simp [best]
  | b :: r, a, q, h => by
    unfold best
    have ih := best_le r (if pairLt b a = true then b else a)
    have h0 := ih _ (.head _)
    rcases List.mem_cons.mp h with rfl | h
    · split at h0
      · rename_i hl; rw [if_pos hl]; simp [pairLt] at hl; omega
      · rename_i hl; rw [if_neg hl]; exact h0
    · rcases List.mem_cons.mp h with rfl | h
      · split at h0
        · rename_i hl; rw [if_pos hl]; exact h0
        · rename_i hl; rw [if_neg hl]; simp [pairLt] at hl; omega
      · exact ih q (.tail _ h)
theorem optAll_pair (l : List (Int × Int)) : optAll ((l.map ofPair).map pairOf) = some l := by
  rw [List.map_map]
  have : (pairOf ∘ ofPair) = fun p => some p := rfl
  rw [this, optAll_map]
  simp
theorem bestP_eq {lt : Int × Int → Int × Int → Bool} {n : Nat} {p : Int × Int} {ps : List (Int × Int)} (h : S[n]? = some (.lst ((p :: ps).map ofPair))) : bestP lt S (.ref n) = some (ofPair (best lt p ps)) := by
  simp only [bestP, lstOf_lst h, List.map_cons]
  have e : pairOf (ofPair p) = some p := rfl
  rw [e, optAll_pair]
theorem get_ok {h : List Cl} {i : Nat} (hi : i < h.length) : h[i]? = some h[i] := List.getElem?_eq_getElem hi
theorem map_enc_ix {h : List Cl} {i : Nat} (hi : i < h.length) : ixD (encH h) (.int (i : Nat)) S = .ok (enc h[i]) S := encH_ix (get_ok hi)
theorem endOf_eq {h : List Cl} {i : Nat} (hi : i < h.length) : endOf h i = h[i].e := by simp [endOf, hi]
theorem begOf_eq {h : List Cl} {i : Nat} (hi : i < h.length) : begOf h i = h[i].b := by simp [begOf, hi]
def endPs (h : List Cl) (g : List Nat) : List (Int × Int) := g.filterMap fun i => (endOf h i).map fun e => (e, (i : Int))
theorem endPs_mem {h : List Cl} {g : List Nat} {p : Int × Int} : p ∈ endPs h g ↔ ∃ i ∈ g, ∃ e, endOf h i = some e ∧ p = (e, (i : Int)) := by
  unfold endPs
  rw [List.mem_filterMap]
  constructor
  · rintro ⟨i, hi, h2⟩
    obtain ⟨e, h3, h4⟩ := Option.map_eq_some_iff.mp h2
    exact ⟨i, hi, e, h3, h4.symm⟩
  · rintro ⟨i, hi, e, h3, rfl⟩
    exact ⟨i, hi, by rw [h3]; rfl⟩
theorem s_first_end {h : List Cl} {g : List Nat} {n : Nat} (hg : GOk h g) (hS : S[n]? = some (.lst (encI g))) (hl : g.length ≤ lim) (q : ∀ r S', Fr S S' → FE h g r → Q (encN r) S') :
    wR (C (k + 1) (Str.ofString "first_end") [encH h, .ref n] S) Q := by
  refine w_fn fn_first_end rfl ?_
  simp [f_first_end, startEnv, -Bool.exists_bool]
  refine w_lc g (fun i => .int (i : Nat)) (fun i => (endOf h i).map fun e => ofPair (e, (i : Int))) (by exact lock_lst rfl hS) ?_ hl (fun i hi S2 h2 => ?_) fun S1 m h1 _ h3 => ?_
  · simp [keysOf_lst hS, chk_one1 hS, Fr.refl]
  · have hi2 := hg i hi
    simp [wipe, Tg.put, map_enc_ix hi2, endOf_eq hi2, lim, -Bool.exists_bool]
    cases h[i].e <;> simp [Fr.refl, encO, ofPair]
  · have e : (g.filterMap fun i => (endOf h i).map fun e => ofPair (e, (i : Int))) = (endPs h g).map ofPair := by
      unfold endPs
      rw [List.map_filterMap]
      congr 1
      funext i
      cases endOf h i <;> rfl
    rw [e] at h3
    simp [lenOf_lst h3, -Bool.exists_bool]
    cases ep : endPs h g with
    | nil =>
      simp
      refine q none S1 h1 fun i hi => ?_
      cases ee : endOf h i with
      | none => rfl
      | some e =>
        have := endPs_mem.mpr ⟨i, hi, e, ee, rfl⟩
        rw [ep] at this
        cases this
    | cons p ps =>
      rw [ep] at h3
      have hm := best_mem (lt := fun a b => pairLt b a) ps p
      have hle := best_le ps p
      rw [← ep] at hm hle
      obtain ⟨i, hi, e, h4, h5⟩ := endPs_mem.mp hm
      have e2 : primD .min [.ref m] S1 = .ok (ofPair (best (fun a b => pairLt b a) p ps)) S1 := by
        simp only [primD, pMin, bestP_eq h3, R.of_some]
      simp [e2, h5, ofPair]
      refine q (some i) S1 h1 ⟨hi, e, h4, fun j hj e' h6 => ?_⟩
      have := hle _ (endPs_mem.mpr ⟨j, hj, e', h6, rfl⟩)
      rw [h5] at this
      exact this
theorem s_last_begin {h : List Cl} {g : List Nat} {n : Nat} (hg : GOk h g) (hS : S[n]? = some (.lst (encI g))) (hl : g.length ≤ lim) (hne : g ≠ []) (q : ∀ i S', Fr S S' → LB h g i → Q (.int (i : Nat)) S') :
    wR (C (k + 1) (Str.ofString "last_begin") [encH h, .ref n] S) Q := by
  refine w_fn fn_last_begin rfl ?_
  simp [f_last_begin, startEnv, -Bool.exists_bool]
  refine w_lc g (fun i => .int (i : Nat)) (fun i => some (ofPair (begOf h i, (i : Int)))) (by exact lock_lst rfl hS) ?_ hl (fun i hi S2 h2 => ?_) fun S1 m h1 _ h3 => ?_
  · simp [keysOf_lst hS, chk_one1 hS, Fr.refl]
  · have hi2 := hg i hi
    simp [wipe, Tg.put, map_enc_ix hi2, begOf_eq hi2, lim, Fr.refl, ofPair, -Bool.exists_bool]
  · cases g with
    | nil => exact absurd rfl hne
    | cons a g =>
      have e : ((a :: g).filterMap fun i => some (ofPair (begOf h i, (i : Int)))) = ((begOf h a, (a : Int)) :: g.map fun i => (begOf h i, (i : Int))).map ofPair := by
        rw [List.filterMap_eq_map']
        simp
      rw [e] at h3
      have hm := best_mem (lt := pairLt) (g.map fun i => (begOf h i, (i : Int))) (begOf h a, (a : Int))
      have hge := best_ge (g.map fun i => (begOf h i, (i : Int))) (begOf h a, (a : Int))
      have e2 : primD .max [.ref m] S1 = .ok (ofPair (best pairLt (begOf h a, (a : Int)) (g.map fun i => (begOf h i, (i : Int))))) S1 := by
        simp only [primD, pMax, bestP_eq h3, R.of_some]
      have hm2 : best pairLt (begOf h a, (a : Int)) (g.map fun i => (begOf h i, (i : Int))) ∈ (a :: g).map fun i => (begOf h i, (i : Int)) := by simpa using hm
      obtain ⟨i, hi, h5⟩ := List.mem_map.mp hm2
      rw [← h5] at e2 hge
      simp [e2, ofPair]
      refine q i S1 h1 ⟨hi, fun j hj => ?_⟩
      exact hge (begOf h j, (j : Int)) (by
        rcases List.mem_cons.mp hj with rfl | hj
        · exact .head _
        · exact .tail _ (List.mem_map.mpr ⟨j, hj, rfl⟩))
/-- some end of the one lies ahead of some begin of the other -/
def ahead (h : List Cl) (g g' : List Nat) : Bool := g.any fun i => match endOf h i with
  | some e => g'.any fun j => decide (e < begOf h j)
  | none => false
theorem ahead_iff {h : List Cl} {g g' : List Nat} : ahead h g g' = true ↔ ∃ i ∈ g, ∃ e, endOf h i = some e ∧ ∃ j ∈ g', e < begOf h j := by
  unfold ahead
  rw [List.any_eq_true]
  constructor
  · rintro ⟨i, hi, h2⟩
    split at h2
    · rename_i e h3
      obtain ⟨j, hj, h4⟩ := List.any_eq_true.mp h2
      exact ⟨i, hi, e, h3, j, hj, by simpa using h4⟩
    · cases h2
  · rintro ⟨i, hi, e, h3, j, hj, h4⟩
    refine ⟨i, hi, ?_⟩
    rw [h3]
    exact List.any_eq_true.mpr ⟨j, hj, by simpa using h4⟩
theorem s_is_ahead {h : List Cl} {g g' : List Nat} {n n' : Nat} (hg : GOk h g) (hg' : GOk h g') (hS : S[n]? = some (.lst (encI g))) (hS' : S[n']? = some (.lst (encI g'))) (hl : g.length ≤ lim) (hl' : g'.length ≤ lim) (hne : g' ≠ [])
    (q : ∀ S', Fr S S' → Q (.bl (ahead h g g')) S') : wR (C (k + 2) (Str.ofString "is_ahead") [encH h, .ref n, .ref n'] S) Q := by
  refine w_fn fn_is_ahead rfl ?_
  simp [f_is_ahead, startEnv, -Bool.exists_bool]
  refine s_first_end hg hS hl fun r S1 h1 h2 => ?_
  refine s_last_begin hg' (h1 _ _ hS') hl' hne fun j S2 h3 h4 => ?_
  simp [setAll, -Bool.exists_bool]
  cases r with
  | none =>
    simp [encN]
    have e : ahead h g g' = false := by
      rw [← Bool.not_eq_true, ahead_iff]
      rintro ⟨i, hi, e, h5, _⟩
      rw [h2 i hi] at h5
      cases h5
    rw [e] at q
    exact q S2 (h1.trans h3)
  | some i =>
    obtain ⟨hi, e, h5, h6⟩ := h2
    have i2 := hg i hi
    have j2 := hg' j h4.1
    have e3 : h[i].e = some e := by rw [← endOf_eq i2, h5]
    simp [encN, map_enc_ix i2, map_enc_ix j2, e3, encO, -Bool.exists_bool]
    have e : ahead h g g' = decide (e < h[j].b) := by
      rw [Bool.eq_iff_iff, ahead_iff, decide_eq_true_eq, ← begOf_eq j2]
      constructor
      · rintro ⟨i', hi', e', h7, j', hj', h8⟩
        have := h6 i' hi' e' h7
        have := h4.2 j' hj'
        omega
      · intro h7
        exact ⟨i, hi, e, h5, j, h4.1, h7⟩
    rw [e] at q
    exact q S2 (h1.trans h3)
end
end K47
set_option Elab.async false
set_option linter.all false
set_option maxRecDepth 100000
set_option maxHeartbeats 1000000
/-! k47, plain. Part R: groups. -/
namespace K47
open PySem Ev
abbrev Key := Str × D
abbrev key (x : Cl) : Key := (x.nm, x.told)
def encK (p : Key) : D := .tup [.str p.1, p.2]
theorem encK_inj {p q : Key} : encK p = encK q ↔ p = q := by
  unfold encK
  constructor
  · intro h
    simp at h
    exact Prod.ext h.1 h.2
  · rintro rfl
    rfl
/-- a group with the place of its list -/
structure Gr where
  k : Key
  m : List Nat
  a : Nat
def insA (k : Key) (i a : Nat) : List Gr → List Gr
  | [] => [⟨k, [i], a⟩]
  | t :: r => if t.k = k then ⟨t.k, t.m ++ [i], t.a⟩ :: r else t :: insA k i a r
/-- the groups, plain: key and members -/
abbrev PG := List (Key × List Nat)
def insP (k : Key) (i : Nat) : PG → PG
  | [] => [(k, [i])]
  | t :: r => if t.1 = k then (t.1, t.2 ++ [i]) :: r else t :: insP k i r
def plainG (G : List Gr) : PG := G.map fun t => (t.k, t.m)
theorem plain_ins {k : Key} {i a : Nat} : ∀ G : List Gr, plainG (insA k i a G) = insP k i (plainG G)
  | [] => rfl
  | t :: r => by
    have ih := plain_ins (k := k) (i := i) (a := a) r
    unfold plainG at ih ⊢
    simp only [insA, insP, List.map_cons]
    split <;> simp [ih]
def stepP (h : List Cl) (G : PG) (p : Cl × Nat) : PG := if cnt h p.1 = true then insP (key p.1) p.2 G else G
/-- the groups of the calls of a part -/
def groupsP (h : List Cl) (l : List (Cl × Nat)) : PG := l.foldl (stepP h) []
def groups (h : List Cl) : PG := groupsP h h.zipIdx
/-- the groups as they lie in a store -/
structure GRep (S : Store) (g : Nat) (lk : Bool) (G : List Gr) : Prop where
  dic : S[g]? = some (.dic (G.map fun t => (encK t.k, .ref t.a)) lk)
  lst : ∀ t ∈ G, S[t.a]? = some (.lst (encI t.m))
theorem GRep.fr {S S' : Store} {g : Nat} {lk : Bool} {G : List Gr} (r : GRep S g lk G) (f : Fr S S') : GRep S' g lk G := ⟨f _ _ r.dic, fun t ht => f _ _ (r.lst t ht)⟩
/-! ### plain facts of the groups -/
theorem insP_mem {k : Key} {i : Nat} : ∀ {G : PG} {t : Key × List Nat}, (G.map (·.1)).Nodup → (t ∈ insP k i G ↔ (t ∈ G ∧ t.1 ≠ k) ∨ (t.1 = k ∧ ((∃ m, (k, m) ∈ G ∧ t.2 = m ++ [i]) ∨ ((∀ u ∈ G, u.1 ≠ k) ∧ t.2 = [i])))) := by
  intro G
  induction G with
  | nil =>
    intro t _
    simp [insP]
    exact Prod.ext_iff
  | cons u r ih =>
    intro t hn
    simp only [List.map_cons, List.nodup_cons] at hn
    have ih := ih (t := t) hn.2
    unfold insP
    split
    · rename_i e
      have hr : ∀ v ∈ r, v.1 ≠ k := fun v hv e2 => hn.1 (by rw [e, ← e2]; exact List.mem_map.mpr ⟨v, hv, rfl⟩)
      constructor
      · intro h
        rcases List.mem_cons.mp h with rfl | h
        · exact .inr ⟨e, .inl ⟨u.2, by rw [← e]; exact .head _, rfl⟩⟩
        · exact .inl ⟨.tail _ h, hr t h⟩
      · rintro (⟨h, h2⟩ | ⟨h, ⟨m, h2, h3⟩ | ⟨h2, h3⟩⟩)
        · rcases List.mem_cons.mp h with rfl | h
          · exact absurd e h2
          · exact .tail _ h
        · rcases List.mem_cons.mp h2 with h2 | h2
          · subst h2
            have : t = (k, m ++ [i]) := Prod.ext h h3
            rw [this]
            exact .head _
          · exact absurd rfl (hr _ h2)
        · exact absurd e (h2 u (.head _))
    · rename_i e
      rw [List.mem_cons, ih]
      constructor
      · rintro (rfl | ⟨h, h2⟩ | ⟨h, ⟨m, h2, h3⟩ | ⟨h2, h3⟩⟩)
        · exact .inl ⟨.head _, e⟩
        · exact .inl ⟨.tail _ h, h2⟩
        · exact .inr ⟨h, .inl ⟨m, .tail _ h2, h3⟩⟩
        · exact .inr ⟨h, .inr ⟨fun v hv => by
            rcases List.mem_cons.mp hv with rfl | hv
            · exact e
            · exact h2 v hv, h3⟩⟩
      · rintro (⟨h, h2⟩ | ⟨h, ⟨m, h2, h3⟩ | ⟨h2, h3⟩⟩)
        · rcases List.mem_cons.mp h with rfl | h
          · exact .inl rfl
          · exact .inr (.inl ⟨h, h2⟩)
        · rcases List.mem_cons.mp h2 with h2 | h2
          · subst h2
            exact absurd rfl e
          · exact .inr (.inr ⟨h, .inl ⟨m, h2, h3⟩⟩)
        · exact .inr (.inr ⟨h, .inr ⟨fun v hv => h2 v (.tail _ hv), h3⟩⟩)
theorem insP_keys {k : Key} {i : Nat} : ∀ {G : PG}, (insP k i G).map (·.1) = if k ∈ G.map (·.1) then G.map (·.1) else G.map (·.1) ++ [k]
  | [] => by simp [insP]
  | u :: r => by
    have ih := insP_keys (k := k) (i := i) (G := r)
    unfold insP
    by_cases e : u.1 = k
    · simp [e]
    · rw [if_neg e, List.map_cons, ih]
      have e' : ¬ k = u.1 := fun h => e h.symm
      by_cases e2 : k ∈ r.map (·.1)
      · simp only [if_pos e2, List.map_cons, List.mem_cons, e2, or_true, if_true]
      · simp only [if_neg e2, List.map_cons, List.mem_cons, e2, e', or_false, if_false, List.cons_append]
theorem insP_nodup {k : Key} {i : Nat} {G : PG} (h : (G.map (·.1)).Nodup) : ((insP k i G).map (·.1)).Nodup := by
  rw [insP_keys]
  split
  · exact h
  · rename_i e
    rw [List.nodup_append]
    refine ⟨h, by simp, fun a ha b hb => ?_⟩
    simp at hb
    subst hb
    exact fun e2 => e (e2 ▸ ha)
/-- what the groups of a part hold -/
structure GI (h : List Cl) (l : List (Cl × Nat)) (G : PG) : Prop where
  nd : (G.map (·.1)).Nodup
  mem : ∀ t ∈ G, ∀ i, i ∈ t.2 ↔ ∃ x, (x, i) ∈ l ∧ cnt h x = true ∧ key x = t.1
  ne : ∀ t ∈ G, t.2 ≠ []
  asc : ∀ t ∈ G, t.2.Pairwise (· < ·)
  has : ∀ x i, (x, i) ∈ l → cnt h x = true → ∃ t ∈ G, t.1 = key x
theorem GI.step {h : List Cl} {l : List (Cl × Nat)} {G : PG} {p : Cl × Nat} (I : GI h l G) (hp : ∀ q ∈ l, q.2 < p.2) : GI h (l ++ [p]) (stepP h G p) := by
  unfold stepP
  split
  · rename_i hc
    refine ⟨insP_nodup I.nd, fun t ht i => ?_, fun t ht => ?_, fun t ht => ?_, fun x i hx hx2 => ?_⟩
    · rcases (insP_mem I.nd).mp ht with ⟨h1, h2⟩ | ⟨h1, ⟨m, h2, h3⟩ | ⟨h2, h3⟩⟩
      · rw [I.mem t h1 i]
        constructor
        · rintro ⟨x, hx, q⟩
          exact ⟨x, List.mem_append_left _ hx, q⟩
        · rintro ⟨x, hx, q1, q2⟩
          rcases List.mem_append.mp hx with hx | hx
          · exact ⟨x, hx, q1, q2⟩
          · simp at hx
            obtain ⟨rfl, rfl⟩ := Prod.ext_iff.mp hx
            exact absurd q2.symm h2
      · rw [h3, List.mem_append, I.mem (key p.1, m) h2 i]
        constructor
        · rintro (⟨x, hx, q1, q2⟩ | hi)
          · exact ⟨x, List.mem_append_left _ hx, q1, by rw [q2, h1]⟩
          · simp at hi
            subst hi
            exact ⟨p.1, List.mem_append_right _ (by simp), hc, h1.symm⟩
        · rintro ⟨x, hx, q1, q2⟩
          rcases List.mem_append.mp hx with hx | hx
          · exact .inl ⟨x, hx, q1, by rw [q2, h1]⟩
          · simp at hx
            obtain ⟨rfl, rfl⟩ := Prod.ext_iff.mp hx
            exact .inr (by simp)
      · rw [h3]
        constructor
        · intro hi
          simp at hi
          subst hi
          exact ⟨p.1, List.mem_append_right _ (by simp), hc, h1.symm⟩
        · rintro ⟨x, hx, q1, q2⟩
          rcases List.mem_append.mp hx with hx | hx
          · obtain ⟨u, hu, hu2⟩ := I.has x i hx q1
            exact absurd (by rw [hu2, q2, h1]) (h2 u hu)
          · simp at hx
            obtain ⟨rfl, rfl⟩ := Prod.ext_iff.mp hx
            simp
    · rcases (insP_mem I.nd).mp ht with ⟨h1, _⟩ | ⟨_, ⟨m, _, h3⟩ | ⟨_, h3⟩⟩
      · exact I.ne t h1
      · rw [h3]; simp
      · rw [h3]; simp
    · rcases (insP_mem I.nd).mp ht with ⟨h1, _⟩ | ⟨_, ⟨m, h2, h3⟩ | ⟨_, h3⟩⟩
      · exact I.asc t h1
      · rw [h3, List.pairwise_append]
        refine ⟨I.asc _ h2, by simp, fun a ha b hb => ?_⟩
        simp at hb
        subst hb
        obtain ⟨x, hx, _⟩ := (I.mem _ h2 a).mp ha
        exact hp _ hx
      · rw [h3]; simp
    · rcases List.mem_append.mp hx with hx | hx
      · obtain ⟨u, hu, hu2⟩ := I.has x i hx hx2
        by_cases e : u.1 = key p.1
        · refine ⟨(key p.1, u.2 ++ [p.2]), (insP_mem I.nd).mpr (.inr ⟨rfl, .inl ⟨u.2, by rw [← e]; exact hu, rfl⟩⟩), ?_⟩
          rw [← hu2, e]
        · exact ⟨u, (insP_mem I.nd).mpr (.inl ⟨hu, e⟩), hu2⟩
      · simp at hx
        obtain ⟨rfl, rfl⟩ := Prod.ext_iff.mp hx
        by_cases e : ∃ u ∈ G, u.1 = key p.1
        · obtain ⟨u, hu, e⟩ := e
          exact ⟨(key p.1, u.2 ++ [p.2]), (insP_mem I.nd).mpr (.inr ⟨rfl, .inl ⟨u.2, by rw [← e]; exact hu, rfl⟩⟩), rfl⟩
        · exact ⟨(key p.1, [p.2]), (insP_mem I.nd).mpr (.inr ⟨rfl, .inr ⟨fun u hu e2 => e ⟨u, hu, e2⟩, rfl⟩⟩), rfl⟩
  · rename_i hc
    refine ⟨I.nd, fun t ht i => ?_, I.ne, I.asc, fun x i hx hx2 => ?_⟩
    · rw [I.mem t ht i]
      constructor
      · rintro ⟨x, hx, q⟩
        exact ⟨x, List.mem_append_left _ hx, q⟩
      · rintro ⟨x, hx, q1, q2⟩
        rcases List.mem_append.mp hx with hx | hx
        · exact ⟨x, hx, q1, q2⟩
        · simp at hx
          obtain ⟨rfl, rfl⟩ := Prod.ext_iff.mp hx
          exact absurd q1 hc
    · rcases List.mem_append.mp hx with hx | hx
      · exact I.has x i hx hx2
      · simp at hx
        obtain ⟨rfl, rfl⟩ := Prod.ext_iff.mp hx
        exact absurd hx2 hc
theorem GI.run {h : List Cl} : ∀ (l2 l1 : List (Cl × Nat)) (G : PG), GI h l1 G → ((l1 ++ l2).map (·.2)).Pairwise (· < ·) → GI h (l1 ++ l2) (l2.foldl (stepP h) G)
  | [], l1, G, I, _ => by simpa using I
  | p :: l2, l1, G, I, hp => by
    have e : l1 ++ p :: l2 = (l1 ++ [p]) ++ l2 := by simp
    rw [e] at hp ⊢
    rw [List.foldl_cons]
    refine GI.run l2 (l1 ++ [p]) (stepP h G p) (I.step fun q hq => ?_) hp
    rw [List.map_append, List.pairwise_append] at hp
    have h1 := hp.1
    rw [List.map_append, List.pairwise_append] at h1
    exact h1.2.2 q.2 (List.mem_map.mpr ⟨q, hq, rfl⟩) p.2 (by simp)
theorem zipIdx_asc {α : Type} : ∀ (l : List α) (n : Nat), ((l.zipIdx n).map (·.2)).Pairwise (· < ·)
  | [], n => by simp
  | x :: l, n => by
    rw [List.zipIdx_cons, List.map_cons, List.pairwise_cons]
    refine ⟨fun a ha => ?_, zipIdx_asc l (n + 1)⟩
    obtain ⟨p, hp, rfl⟩ := List.mem_map.mp ha
    have := (List.mem_zipIdx (x := p.1) (i := p.2) (by simpa using hp)).1
    omega
theorem groups_ok (h : List Cl) : GI h h.zipIdx (groups h) := by
  have := GI.run (h := h) h.zipIdx [] [] ⟨by simp, by simp, by simp, by simp, by simp⟩ (by simpa using zipIdx_asc h 0)
  rw [List.nil_append] at this
  exact this
/-! ### groups_of -/
theorem insA_split {k : Key} {i a : Nat} {t : Gr} {G2 : List Gr} : ∀ {G1 : List Gr}, (∀ u ∈ G1, u.k ≠ k) → t.k = k → insA k i a (G1 ++ t :: G2) = G1 ++ ⟨t.k, t.m ++ [i], t.a⟩ :: G2
  | [], _, e => by simp [insA, e]
  | u :: r, h, e => by
    rw [List.cons_append]
    unfold insA
    rw [if_neg (h u (.head _)), insA_split (fun v hv => h v (.tail _ hv)) e]
    rfl
theorem insA_none {k : Key} {i a : Nat} : ∀ {G : List Gr}, (∀ u ∈ G, u.k ≠ k) → insA k i a G = G ++ [⟨k, [i], a⟩]
  | [], _ => rfl
  | u :: r, h => by
    unfold insA
    rw [if_neg (h u (.head _)), insA_none fun v hv => h v (.tail _ hv)]
    rfl
theorem gr_split (k : Key) : ∀ G : List Gr, (∃ G1 t G2, G = G1 ++ t :: G2 ∧ (∀ u ∈ G1, u.k ≠ k) ∧ t.k = k) ∨ ∀ u ∈ G, u.k ≠ k
  | [] => .inr (by simp)
  | u :: r => by
    by_cases e : u.k = k
    · exact .inl ⟨[], u, r, rfl, by simp, e⟩
    · rcases gr_split k r with ⟨G1, t, G2, rfl, h1, h2⟩ | h
      · exact .inl ⟨u :: G1, t, G2, rfl, fun v hv => by
          rcases List.mem_cons.mp hv with rfl | hv
          · exact e
          · exact h1 v hv, h2⟩
      · exact .inr fun v hv => by
          rcases List.mem_cons.mp hv with rfl | hv
          · exact e
          · exact h v hv
abbrev kvsOf (G : List Gr) : List (D × D) := G.map fun t => (encK t.k, D.ref t.a)
theorem look_split {k : Key} {G1 G2 : List Gr} {t : Gr} (h : ∀ u ∈ G1, u.k ≠ k) (e : t.k = k) : lookK (kvsOf (G1 ++ t :: G2)) (encK k) = some (.ref t.a) := by
  unfold lookK kvsOf
  rw [List.map_append, List.find?_append, List.find?_eq_none.mpr]
  · simp [e]
  · intro p hp
    obtain ⟨u, hu, rfl⟩ := List.mem_map.mp hp
    simp only [decide_eq_true_eq, encK_inj]
    exact h u hu
theorem look_none {k : Key} {G : List Gr} (h : ∀ u ∈ G, u.k ≠ k) : lookK (kvsOf G) (encK k) = none := by
  unfold lookK kvsOf
  rw [List.find?_eq_none.mpr]
  · rfl
  · intro p hp
    obtain ⟨u, hu, rfl⟩ := List.mem_map.mp hp
    simp only [decide_eq_true_eq, encK_inj]
    exact h u hu
theorem m_setd_some {S : Store} {n : Nat} {kvs : List (D × D)} {k x v : D} (h : S[n]? = some (.dic kvs false)) (hk : keyOk kvs k = true) (ht : tupK k = true) (hl : kvs.length < lim) (hv : lookK kvs k = some v) : methD .setdefault (.ref n) [k, x] S = .ok v S := by
  simp [methD, mSetdefault, dicOf, h, hk, ht, hl, hv]
theorem m_setd_none {S : Store} {n : Nat} {kvs : List (D × D)} {k x : D} (h : S[n]? = some (.dic kvs false)) (hk : keyOk kvs k = true) (ht : tupK k = true) (hl : kvs.length < lim) (hv : lookK kvs k = none) : methD .setdefault (.ref n) [k, x] S = .ok x (S.set n (.dic (kvs ++ [(k, x)]) false)) := by
  simp [methD, mSetdefault, dicOf, h, hk, ht, hl, hv]
/-- the groups while they are found -/
structure Grow (h : List Cl) (S : Store) (n : Nat) (S' : Store) (G : List Gr) : Prop where
  fr : Fr S S'
  rep : GRep S' n false G
  ab : ∀ t ∈ G, n < t.a
  nd : (G.map (·.a)).Nodup
  kk : ∀ t ∈ G, ∃ x ∈ h, key x = t.k
  len : ∀ t ∈ G, t.m.length ≤ 20
theorem tup_keys {h : List Cl} {G : List Gr} {x : Cl} (hk : HOk h) (hx : x ∈ h) (kk : ∀ t ∈ G, ∃ x ∈ h, key x = t.k) : keyOk (kvsOf G) (encK (key x)) = true ∧ tupK (encK (key x)) = true := by
  have h1 : tupK (encK (key x)) = true := tupK_td (hk.cl x hx).td
  refine ⟨?_, h1⟩
  unfold keyOk
  simp only [h1, Bool.true_and, Bool.or_eq_true, List.all_eq_true]
  refine .inr fun p hp => ?_
  obtain ⟨u, hu, rfl⟩ := List.mem_map.mp hp
  obtain ⟨y, hy, e⟩ := kk u hu
  rw [← e]
  exact tupK_td (hk.cl y hy).td
end K47
set_option Elab.async false
set_option linter.all false
set_option maxRecDepth 100000
set_option maxHeartbeats 1000000
/-! k47, plain. Part S: groups_of answers. -/
namespace K47
open PySem Ev
section
variable {k : Nat} {S : Store} {Q : D → Store → Prop}
theorem plain_len (G : List Gr) : (plainG G).length = G.length := by simp [plainG]
theorem mem_plain {G : List Gr} {t : Gr} (h : t ∈ G) : (t.k, t.m) ∈ plainG G := List.mem_map.mpr ⟨t, h, rfl⟩
theorem stepP_len {h : List Cl} {G : PG} {p : Cl × Nat} : (stepP h G p).length ≤ G.length + 1 := by
  unfold stepP
  split
  · have : ∀ (k : Key) (i : Nat) (G : PG), (insP k i G).length ≤ G.length + 1 := by
      intro k i G
      induction G with
      | nil => simp [insP]
      | cons u r ih => unfold insP; split <;> simp <;> omega
    exact this _ _ _
  · omega
theorem foldl_len {h : List Cl} : ∀ (l : List (Cl × Nat)) (G : PG), (l.foldl (stepP h) G).length ≤ G.length + l.length
  | [], G => by simp
  | p :: l, G => by
    have := foldl_len (h := h) l (stepP h G p)
    have := stepP_len (h := h) (G := G) (p := p)
    simp
    omega
theorem groupsP_snoc {h : List Cl} {l : List (Cl × Nat)} {p : Cl × Nat} : groupsP h (l ++ [p]) = stepP h (groupsP h l) p := by
  unfold groupsP
  rw [List.foldl_append]
  rfl
theorem zip_snoc {α : Type} {l : List α} {y : α} : (l ++ [y]).zipIdx = l.zipIdx ++ [(y, l.length)] := by
  rw [List.zipIdx_append]
  simp
theorem GI_of (h : List Cl) (l : List Cl) : GI h l.zipIdx (groupsP h l.zipIdx) := by
  have := GI.run (h := h) l.zipIdx [] [] ⟨by simp, by simp, by simp, by simp, by simp⟩ (by simpa using zipIdx_asc l 0)
  rw [List.nil_append] at this
  exact this
theorem asc_len' {n : Nat} : ∀ (m : List Nat) (lo : Nat), m.Pairwise (· < ·) → (∀ i ∈ m, lo ≤ i ∧ i < n) → m.length ≤ n - lo
  | [], _, _, _ => by simp
  | i :: r, lo, h, h2 => by
    rw [List.pairwise_cons] at h
    have := asc_len' r (i + 1) h.2 fun j hj => ⟨h.1 j hj, (h2 j (.tail _ hj)).2⟩
    have := h2 i (.head _)
    simp
    omega
theorem asc_len {m : List Nat} {n : Nat} (h : m.Pairwise (· < ·)) (h2 : ∀ i ∈ m, i < n) : m.length ≤ n := by
  have := asc_len' (n := n) m 0 h fun i hi => ⟨Nat.zero_le _, h2 i hi⟩
  omega
theorem s_groups_of {h : List Cl} (hk : HOk h) (q : ∀ S' n G, Fr S S' → S[n]? = none → GRep S' n false G → plainG G = groups h → Q (.ref n) S') : wR (C (k + 2) (Str.ofString "groups_of") [encH h] S) Q := by
  refine w_fn fn_groups_of rfl ?_
  simp [f_groups_of, startEnv, -Bool.exists_bool]
  refine w_for_ix h (fun i y => .tup [.int (i : Nat), enc y]) (fun done δ S' => ∃ a b G, δ = [some (encH h), some (.ref S.length), a, b] ∧ Fr S S' ∧ GRep S' S.length false G ∧ (∀ t ∈ G, S.length < t.a) ∧ (G.map (·.a)).Nodup ∧ plainG G = groupsP h done.zipIdx) [] rfl ?_ ?_ ?_
  · simp [enumD_eq]
    exact ⟨Fr.app, [], ⟨by simp, by simp⟩, by simp, by simp, rfl⟩
  · rintro δ S' ⟨a, b, G, rfl, f, r, _, _, e⟩
    simp [chkOk]
    exact q S' S.length G f get_len r e
  · rintro done y rest δ S' h1 ⟨a, b, G, rfl, f, r, ab, nd, e⟩
    refine ⟨rfl, _, rfl, ?_⟩
    have hy : h[done.length]? = some y := by simp [h1]
    have hym : y ∈ h := List.mem_of_getElem? hy
    have hl : done.length < h.length := (List.getElem?_eq_some_iff.mp hy).1
    have hl2 := hk.len
    simp [setAll, -Bool.exists_bool]
    refine s_counts hk hy fun S1 f1 => ?_
    have r1 := r.fr f1
    have I := GI_of h done
    have lg : G.length ≤ done.length := by
      have := foldl_len (h := h) done.zipIdx []
      rw [← plain_len, e]
      simpa [groupsP] using this
    simp [-Bool.exists_bool]
    rw [zip_snoc, groupsP_snoc]
    cases hc : cnt h y with
    | false =>
      simp [stepP, hc]
      exact ⟨f.trans f1, G, r1, ab, nd, e⟩
    | true =>
      simp [stepP, hc, -Bool.exists_bool]
      have kk : ∀ t ∈ G, ∃ x ∈ h, key x = t.k := fun t ht => by
        have h2 := mem_plain ht
        rw [e] at h2
        cases em : t.m with
        | nil => exact absurd em (I.ne _ h2)
        | cons i m =>
          obtain ⟨x, hx, _, hx3⟩ := (I.mem _ h2 i).mp (by simp [em])
          have : x ∈ done := by
            have := List.mem_zipIdx (x := x) (i := i) (by simpa using hx)
            rw [this.2.2]
            exact List.getElem_mem _
          exact ⟨x, by rw [h1]; exact List.mem_append_left _ this, hx3⟩
      obtain ⟨ko, kt⟩ := tup_keys hk hym kk
      have ll : (kvsOf G).length < lim := by simp [lim]; omega
      have f2 : Fr S1 (S1 ++ [Ob.lst []]) := Fr.app
      have r2 := r1.fr f2
      have f3 := (f.trans f1).trans f2
      refine ⟨recv_setd r1.dic, ?_⟩
      rw [show D.tup [D.str y.nm, y.told] = encK (key y) from rfl]
      rcases gr_split (key y) G with ⟨G1, t, G2, rfl, hn, ht⟩ | hn
      · have tm : t ∈ G1 ++ t :: G2 := by simp
        rw [m_setd_some r2.dic ko kt ll (look_split hn ht)]
        have hlst := r2.lst t tm
        have hm := mem_plain tm
        rw [e] at hm
        have tl : t.m.length ≤ done.length := asc_len (I.asc _ hm) fun i hi => by
          obtain ⟨x, hx, _⟩ := (I.mem _ hm i).mp hi
          have := (List.mem_zipIdx (x := x) (i := i) (by simpa using hx)).2.1
          simpa using this
        simp only [wR_ok]
        refine ⟨recv_app hlst, ?_⟩
        rw [m_app hlst (by simp [lim]; omega)]
        have sn : S[t.a]? = none := List.getElem?_eq_none (Nat.le_of_lt (ab t tm))
        have an : t.a ≠ S.length := Nat.ne_of_gt (ab t tm)
        simp only [wR_ok]
        refine ⟨f3.set sn, G1 ++ ⟨t.k, t.m ++ [done.length], t.a⟩ :: G2, ⟨?_, ?_⟩, ?_, ?_, ?_⟩
        · rw [List.getElem?_set_ne an]
          have := r2.dic
          simpa using this
        · simp only [List.map_append, List.map_cons] at nd
          rw [List.nodup_append, List.nodup_cons] at nd
          intro u hu
          rcases List.mem_append.mp hu with hu | hu
          · have ne : t.a ≠ u.a := fun e => nd.2.2 u.a (List.mem_map.mpr ⟨u, hu, rfl⟩) t.a (.head _) e.symm
            rw [List.getElem?_set_ne ne]
            exact r2.lst u (List.mem_append_left _ hu)
          · rcases List.mem_cons.mp hu with rfl | hu
            · rw [get_set hlst]
              simp
            · have ne : t.a ≠ u.a := fun e => nd.2.1.1 (e ▸ List.mem_map.mpr ⟨u, hu, rfl⟩)
              rw [List.getElem?_set_ne ne]
              exact r2.lst u (List.mem_append_right _ (.tail _ hu))
        · intro u hu
          rcases List.mem_append.mp hu with hu | hu
          · exact ab u (List.mem_append_left _ hu)
          · rcases List.mem_cons.mp hu with rfl | hu
            · exact ab t tm
            · exact ab u (List.mem_append_right _ (.tail _ hu))
        · simpa using nd
        · rw [← insA_split (a := 0) hn ht, plain_ins, e]
      · rw [m_setd_none r2.dic ko kt ll (look_none hn)]
        have an : S1.length ≠ S.length := fun e => by
          have := r1.dic
          rw [← e, List.getElem?_eq_none (Nat.le_refl _)] at this
          cases this
        have sl : S.length < S1.length := by
          have := (List.getElem?_eq_some_iff.mp r1.dic).1
          exact this
        simp only [wR_ok]
        have hlst : ((S1 ++ [Ob.lst []]).set S.length (.dic (kvsOf G ++ [(encK (key y), D.ref S1.length)]) false))[S1.length]? = some (.lst []) := by
          rw [List.getElem?_set_ne (Ne.symm an)]
          exact get_new
        refine ⟨recv_app hlst, ?_⟩
        rw [m_app hlst (by simp [lim])]
        simp only [wR_ok]
        refine ⟨(f3.set get_len).set (List.getElem?_eq_none (Nat.le_of_lt sl)), G ++ [⟨key y, [done.length], S1.length⟩], ⟨?_, ?_⟩, ?_, ?_, ?_⟩
        · rw [List.getElem?_set_ne an, get_set r2.dic]
          simp
        · intro u hu
          rcases List.mem_append.mp hu with hu | hu
          · have h3 := r1.lst u hu
            have ne : S1.length ≠ u.a := fun e => by
              rw [← e, List.getElem?_eq_none (Nat.le_refl _)] at h3
              cases h3
            have ne2 : S.length ≠ u.a := Nat.ne_of_lt (ab u hu)
            rw [List.getElem?_set_ne ne, List.getElem?_set_ne ne2]
            exact f2 _ _ h3
          · simp at hu
            subst hu
            rw [get_set hlst]
            simp
        · intro u hu
          rcases List.mem_append.mp hu with hu | hu
          · exact ab u hu
          · simp at hu
            subst hu
            exact sl
        · rw [List.map_append, List.nodup_append]
          refine ⟨nd, by simp, fun a ha b hb => ?_⟩
          simp at hb
          subst hb
          obtain ⟨u, hu, rfl⟩ := List.mem_map.mp ha
          intro e
          have h3 := r1.lst u hu
          rw [e, List.getElem?_eq_none (Nat.le_refl _)] at h3
          cases h3
        · rw [← insA_none (i := done.length) hn, plain_ins, e]
end
end K47
set_option Elab.async false
set_option linter.all false
set_option maxRecDepth 100000
set_option maxHeartbeats 1000000
/-! k47, plain. Part T: the bars. -/
namespace K47
open PySem Ev
section
variable {k : Nat} {S : Store} {Q : D → Store → Prop}
abbrev sEarly : Str := Str.ofString "early"
abbrev sStr : Str := Str.ofString "strange"
/-- an ended read of something -/
def told (x : Cl) : Bool := !x.w && (x.e.isSome && !decide (x.told = .non))
/-- what single_bar may answer -/
inductive SB (h : List Cl) : D → Prop
  | non : (∀ x ∈ h, told x = true → ∃ (j : Nat) (w : Cl), h[j]? = some w ∧ w.w = true ∧ same w x = true ∧ ∀ e, x.e = some e → w.b ≤ e) → SB h .non
  | strange (i : Nat) (x : Cl) : h[i]? = some x → told x = true → (∀ w ∈ h, (w.w && same w x) = false) → SB h (.tup [.str sStr, .int (i : Nat)])
  | early (i j : Nat) (x w : Cl) (e : Int) : h[i]? = some x → told x = true → h[j]? = some w → w.w = true → same w x = true → x.e = some e → e < w.b → SB h (.tup [.str sEarly, .int (i : Nat)])
theorem wrOf_some {h : List Cl} {x : Cl} {j : Nat} (e : wrOf h x = some j) : ∃ w, h[j]? = some w ∧ w.w = true ∧ same w x = true := by
  obtain ⟨h1, h2, _⟩ := List.findIdx?_eq_some_iff_getElem.mp e
  rw [Bool.and_eq_true] at h2
  exact ⟨h[j], List.getElem?_eq_getElem h1, h2.1, h2.2⟩
theorem wrOf_none {h : List Cl} {x : Cl} (e : wrOf h x = none) : ∀ w ∈ h, (w.w && same w x) = false := List.findIdx?_eq_none_iff.mp e
theorem s_single_bar {h : List Cl} (hk : HOk h) (q : ∀ d, SB h d → Q d S) : wR (C (k + 2) (Str.ofString "single_bar") [encH h] S) Q := by
  refine w_fn fn_single_bar rfl ?_
  simp [f_single_bar, startEnv, -Bool.exists_bool]
  refine w_for_ix h (fun i y => .tup [.int (i : Nat), enc y]) (fun done δ S' => ∃ a b c, δ = [some (encH h), a, b, c] ∧ S' = S ∧ ∀ x ∈ done, told x = true → ∃ (j : Nat) (w : Cl), h[j]? = some w ∧ w.w = true ∧ same w x = true ∧ ∀ e, x.e = some e → w.b ≤ e) [] rfl ?_ ?_ ?_
  · simp [enumD_eq]
  · rintro δ S' ⟨a, b, c, rfl, rfl, h4⟩
    simp [chkOk]
    exact q _ (.non h4)
  · rintro done y rest δ S' h1 ⟨a, b, c, rfl, rfl, h4⟩
    refine ⟨rfl, _, rfl, ?_⟩
    have hy : h[done.length]? = some y := by simp [h1]
    have hym : y ∈ h := List.mem_of_getElem? hy
    have cy := hk.cl y hym
    simp [setAll, -Bool.exists_bool]
    cases et : told y with
    | false =>
      have nxt := all_snoc (p := fun x => told x = true → ∃ (j : Nat) (w : Cl), h[j]? = some w ∧ w.w = true ∧ same w x = true ∧ ∀ e, x.e = some e → w.b ≤ e) h4 (fun h => by rw [et] at h; cases h)
      simp only [told] at et
      cases hw : y.w <;> simp [hw] at et ⊢
      · cases he : y.e <;> simp [he] at et ⊢
        · simpa using nxt
        · simp [et]
          simpa using nxt
      · simpa using nxt
    | true =>
      have et2 := et
      simp only [told, Bool.and_eq_true, Bool.not_eq_true', decide_eq_false_iff_not] at et2
      obtain ⟨hw, he, ht⟩ := et2
      obtain ⟨e, he⟩ := Option.isSome_iff_exists.mp he
      simp [hw, he, ht, -Bool.exists_bool]
      refine s_writer_of hk cy ?_
      cases ew : wrOf h y with
      | none =>
        simp [encN, lim]
        exact q _ (.strange _ y hy et (wrOf_none ew))
      | some j =>
        obtain ⟨w, hj, w1, w2⟩ := wrOf_some ew
        simp [encN, encH_ix hj, encO, lim, -Bool.exists_bool]
        by_cases hlt : e < w.b
        · simp [hlt]
          exact q _ (.early _ j y w e hy et hj w1 w2 he hlt)
        · simp [hlt]
          have nxt := all_snoc (p := fun x => told x = true → ∃ (j : Nat) (w : Cl), h[j]? = some w ∧ w.w = true ∧ same w x = true ∧ ∀ e, x.e = some e → w.b ≤ e) h4 (fun _ => ⟨j, w, hj, w1, w2, fun e' he' => by rw [he] at he'; cases he'; omega⟩)
          simpa using nxt
end
end K47
set_option Elab.async false
set_option linter.all false
set_option maxRecDepth 100000
set_option maxHeartbeats 1000000
/-! k47, plain. Part U: late_bar. -/
namespace K47
open PySem Ev
section
variable {k : Nat} {S : Store} {Q : D → Store → Prop}
abbrev sLate : Str := Str.ofString "late"
theorem gr_mem {h : List Cl} {G : List Gr} {t : Gr} (e : plainG G = groups h) (ht : t ∈ G) : GOk h t.m ∧ t.m ≠ [] ∧ t.m.length ≤ h.length ∧ ∃ x ∈ h, cnt h x = true ∧ key x = t.k := by
  have I := groups_ok h
  have h2 := mem_plain ht
  rw [e] at h2
  have hlt : ∀ i ∈ t.m, i < h.length := fun i hi => by
    obtain ⟨x, hx, _⟩ := (I.mem _ h2 i).mp hi
    have := (List.mem_zipIdx (x := x) (i := i) (by simpa using hx)).2.1
    simpa using this
  refine ⟨hlt, I.ne _ h2, asc_len (I.asc _ h2) hlt, ?_⟩
  cases em : t.m with
  | nil => exact absurd em (I.ne _ h2)
  | cons i m =>
    obtain ⟨x, hx, hx2, hx3⟩ := (I.mem _ h2 i).mp (by simp [em])
    have := List.mem_zipIdx (x := x) (i := i) (by simpa using hx)
    exact ⟨x, by rw [this.2.2]; exact List.getElem_mem _, hx2, hx3⟩
/-- what late_bar may answer -/
inductive LBar (h : List Cl) : D → Prop
  | non : (∀ p ∈ groups h, p.1.2 ≠ .non → ∀ r ∈ groups h, r.1 = (p.1.1, .non) → ahead h p.2 r.2 = false) → LBar h .non
  | late (p r : Key × List Nat) (i j : Nat) : p ∈ groups h → p.1.2 ≠ .non → r ∈ groups h → r.1 = (p.1.1, .non) → FE h p.2 (some i) → LB h r.2 j → ahead h p.2 r.2 = true → LBar h (.tup [.str sLate, .int (i : Nat), .int (j : Nat)])
theorem nodup_key {h : List Cl} {p r : Key × List Nat} (hp : p ∈ groups h) (hr : r ∈ groups h) (e : p.1 = r.1) : p = r := by
  have nd := (groups_ok h).nd
  generalize groups h = G at *
  induction G with
  | nil => cases hp
  | cons u G ih =>
    simp only [List.map_cons, List.nodup_cons] at nd
    rcases List.mem_cons.mp hp with h1 | h1 <;> rcases List.mem_cons.mp hr with h2 | h2
    · rw [h1, h2]
    · subst h1
      exact absurd (List.mem_map.mpr ⟨r, h2, e.symm⟩) nd.1
    · subst h2
      exact absurd (List.mem_map.mpr ⟨p, h1, e⟩) nd.1
    · exact ih h1 h2 nd.2
@[simp] theorem encK_0 {p : Key} : ixD (encK p) (.int 0) S = .ok (.str p.1) S := ix_t0
@[simp] theorem encK_1 {p : Key} : ixD (encK p) (.int 1) S = .ok p.2 S := ix_t1
theorem kvs_items (G : List Gr) : (kvsOf G).map (fun p => D.tup [p.1, p.2]) = G.zipIdx.map (fun p => (fun (_ : Nat) (t : Gr) => D.tup [encK t.k, .ref t.a]) p.2 p.1) := by
  rw [map_zipIdx (f := fun t : Gr => D.tup [encK t.k, .ref t.a]), List.map_map]
  rfl
theorem s_late_bar {h : List Cl} (hk : HOk h) (q : ∀ d S', Fr S S' → LBar h d → Q d S') : wR (C (k + 3) (Str.ofString "late_bar") [encH h] S) Q := by
  refine w_fn fn_late_bar rfl ?_
  simp [f_late_bar, startEnv, -Bool.exists_bool]
  refine s_groups_of hk fun S1 n G f1 hn r e => ?_
  refine w_for_dic (n := n) (kvs := kvsOf G) G (fun _ t => .tup [encK t.k, .ref t.a]) (fun done δ S' => ∃ a b c, δ = [some (encH h), some (.ref n), a, b, c] ∧ Fr (S1.set n (.dic (kvsOf G) true)) S' ∧ ∀ p ∈ done, p.k.2 ≠ .non → ∀ u ∈ G, u.k = (p.k.1, .non) → ahead h p.m u.m = false) ?_ ?_ ?_ ?_
  · simp [lockOf, lockAt, dicOf, r.dic]
  · simp [items_at (get_set r.dic), Fr.refl]
    simpa using kvs_items G
  · rintro δ S' ⟨a, b, c, rfl, f2, h4⟩
    simp
    refine q _ _ (f1.trans (lock_fr r.dic f2)) (.non fun p hp hp2 u hu hu2 => ?_)
    rw [← e] at hp hu
    obtain ⟨t, ht, rfl⟩ := List.mem_map.mp hp
    obtain ⟨v, hv, rfl⟩ := List.mem_map.mp hu
    exact h4 t ht hp2 v hv hu2
  · rintro done y rest δ S' h1 ⟨a, b, c, rfl, f2, h4⟩
    refine ⟨_, rfl, ?_⟩
    have hd := f2 _ _ (get_set (o' := .dic (kvsOf G) true) r.dic)
    have r2 : ∀ t ∈ G, S'[t.a]? = some (.lst (encI t.m)) := fun t ht => f2 _ _ (by
      have h5 := r.lst t ht
      have ne : n ≠ t.a := fun e => by rw [← e, r.dic] at h5; cases h5
      rw [List.getElem?_set_ne ne]
      exact h5)
    have ym : y ∈ G := by rw [h1]; simp
    obtain ⟨g1, g2, g3, x, hx, hx2, hx3⟩ := gr_mem e ym
    simp [setAll, lim, recv_get hd, -Bool.exists_bool]
    have kg : ∀ t ∈ G, ∃ x ∈ h, key x = t.k := fun t ht => by
      obtain ⟨_, _, _, x, hx, _, hx3⟩ := gr_mem e ht
      exact ⟨x, hx, hx3⟩
    have hk20 := hk.len
    have kt : tupK (encK (y.k.1, .non)) = true := by simp [encK, tupK, nestK, nestKs]
    have ko : keyOk (kvsOf G) (encK (y.k.1, .non)) = true := by
      unfold keyOk
      simp only [kt, Bool.true_and, Bool.or_eq_true, List.all_eq_true]
      refine .inr fun p hp => ?_
      obtain ⟨u, hu, rfl⟩ := List.mem_map.mp hp
      obtain ⟨x, hx, ex⟩ := kg u hu
      rw [← ex]
      exact tupK_td (hk.cl x hx).td
    have f3 : Fr S' (S' ++ [Ob.lst []]) := Fr.app
    rw [show D.tup [D.str y.k.1, D.non] = encK (y.k.1, .non) from rfl, m_get2 (f3 _ _ hd) ko, wR_ok]
    rcases gr_split (y.k.1, .non) G with ⟨G1, t, G2, eG, hn1, ht⟩ | hn1
    · have tm : t ∈ G := by rw [eG]; simp
      obtain ⟨t1, t2, t3, _⟩ := gr_mem e tm
      have hl : lookK (kvsOf G) (encK (y.k.1, .non)) = some (.ref t.a) := by rw [eG]; exact look_split hn1 ht
      have htm := f3 _ _ (r2 t tm)
      have hym := f3 _ _ (r2 y ym)
      have uniq : ∀ u ∈ G, u.k = (y.k.1, .non) → u.m = t.m := fun u hu hu2 => by
        have a1 := mem_plain hu
        have a2 := mem_plain tm
        rw [e] at a1 a2
        have := nodup_key a1 a2 (by rw [hu2, ht])
        exact congrArg Prod.snd this
      simp only [hl, Option.getD_some]
      by_cases hnn : y.k.2 = .non
      · refine ⟨false, by simp [hnn], ?_⟩
        simp
        refine ⟨f2.trans f3, ?_⟩
        rintro p (hp | rfl) hp2
        · exact h4 p hp hp2
        · exact absurd hnn hp2
      · refine ⟨true, by simp [hnn], ?_⟩
        have pos : 0 < t.m.length := List.length_pos_iff.mpr t2
        simp [lenOf_lst htm, pos, -Bool.exists_bool]
        refine s_is_ahead g1 t1 hym htm (by unfold lim; omega) (by unfold lim; omega) t2 fun S3 f4 => ?_
        simp [-Bool.exists_bool]
        cases ea : ahead h y.m t.m with
        | true =>
          simp
          refine s_first_end g1 (f4 _ _ hym) (by unfold lim; omega) fun fe S4 f5 hfe => ?_
          refine s_last_begin t1 (f5 _ _ (f4 _ _ htm)) (by unfold lim; omega) t2 fun j S5 f6 hlb => ?_
          have a1 := mem_plain ym
          have a2 := mem_plain tm
          rw [e] at a1 a2
          cases fe with
          | none =>
            obtain ⟨i, hi, e', he', _⟩ := ahead_iff.mp ea
            rw [hfe i hi] at he'
            cases he'
          | some i =>
            exact q _ _ (f1.trans (lock_fr r.dic ((((f2.trans f3).trans f4).trans f5).trans f6))) (.late _ _ i j a1 hnn a2 ht hfe hlb ea)
        | false =>
          simp
          refine ⟨(f2.trans f3).trans f4, ?_⟩
          rintro p (hp | rfl) hp2 u hu hu2
          · exact h4 p hp hp2 u hu hu2
          · rw [uniq u hu hu2]
            exact ea
    · have hl : lookK (kvsOf G) (encK (y.k.1, .non)) = none := look_none hn1
      simp only [hl, Option.getD_none]
      have nxt : ∀ p : Gr, p ∈ done ∨ p = y → ¬p.k.2 = .non → ∀ u ∈ G, u.k = (p.k.1, .non) → ahead h p.m u.m = false := by
        rintro p (hp | rfl) hp2 u hu hu2
        · exact h4 p hp hp2 u hu hu2
        · exact absurd hu2 (hn1 u hu)
      by_cases hnn : y.k.2 = .non
      · refine ⟨false, by simp [hnn], ?_⟩
        simp
        exact ⟨f2.trans f3, nxt⟩
      · refine ⟨true, by simp [hnn], ?_⟩
        simp [lenOf_lst (get_new (S := S') (o := .lst [])), -Bool.exists_bool]
        exact ⟨f2.trans f3, nxt⟩
end
end K47
set_option Elab.async false
set_option linter.all false
set_option maxRecDepth 100000
set_option maxHeartbeats 1000000
/-! k47, plain. Part V: crossed, crossed_bar. -/
namespace K47
open PySem Ev
section
variable {k : Nat} {S : Store} {Q : D → Store → Prop}
abbrev sCrossed : Str := Str.ofString "crossed"
theorem s_crossed {h : List Cl} {g g' : List Nat} {n n' : Nat} (hg : GOk h g) (hg' : GOk h g') (hS : S[n]? = some (.lst (encI g))) (hS' : S[n']? = some (.lst (encI g'))) (hl : g.length ≤ lim) (hl' : g'.length ≤ lim) (hne : g ≠ []) (hne' : g' ≠ [])
    (a1 : ahead h g g' = true) (a2 : ahead h g' g = true)
    (q : ∀ (a b c d : Nat) S', Fr S S' → FE h g (some a) → LB h g b → LB h g' c → FE h g' (some d) → Q (.tup [.str sCrossed, .int (a : Nat), .int (b : Nat), .int (c : Nat), .int (d : Nat)]) S') :
    wR (C (k + 2) (Str.ofString "crossed") [encH h, .ref n, .ref n'] S) Q := by
  refine w_fn fn_crossed rfl ?_
  simp [f_crossed, startEnv, -Bool.exists_bool]
  refine s_first_end hg hS hl fun fe S1 f1 h1 => ?_
  refine s_first_end hg' (f1 _ _ hS') hl' fun fe' S2 f2 h2 => ?_
  simp [lim, -Bool.exists_bool]
  refine s_last_begin hg (f2 _ _ (f1 _ _ hS)) hl hne fun b S3 f3 h3 => ?_
  refine s_last_begin hg' (f3 _ _ (f2 _ _ (f1 _ _ hS'))) hl' hne' fun c S4 f4 h4 => ?_
  cases fe with
  | none =>
    obtain ⟨i, hi, e', he', _⟩ := ahead_iff.mp a1
    rw [h1 i hi] at he'
    cases he'
  | some a =>
    cases fe' with
    | none =>
      obtain ⟨i, hi, e', he', _⟩ := ahead_iff.mp a2
      rw [h2 i hi] at he'
      cases he'
    | some d => exact q a b c d S4 (((f1.trans f2).trans f3).trans f4) h1 h3 h4 h2
/-- what crossed_bar may answer -/
inductive CBar (h : List Cl) : D → Prop
  | non : (∀ p ∈ groups h, ∀ r ∈ groups h, p.1 ≠ r.1 → p.1.1 = r.1.1 → p.1.2 ≠ .non → r.1.2 ≠ .non → ahead h p.2 r.2 = true → ahead h r.2 p.2 = false) → CBar h .non
  | crossed (p r : Key × List Nat) (a b c d : Nat) : p ∈ groups h → r ∈ groups h → p.1 ≠ r.1 → p.1.1 = r.1.1 → p.1.2 ≠ .non → r.1.2 ≠ .non → FE h p.2 (some a) → LB h p.2 b → LB h r.2 c → FE h r.2 (some d) →
      ahead h p.2 r.2 = true → ahead h r.2 p.2 = true → CBar h (.tup [.str sCrossed, .int (a : Nat), .int (b : Nat), .int (c : Nat), .int (d : Nat)])
end
end K47
set_option Elab.async false
set_option linter.all false
set_option maxRecDepth 100000
set_option maxHeartbeats 1000000
/-! k47, plain. Part W: crossed_bar, raw_bar, bar. -/
namespace K47
open PySem Ev
section
variable {k : Nat} {S : Store} {Q : D → Store → Prop}
theorem look_mem {G : List Gr} {t : Gr} (nd : (G.map (·.k)).Nodup) (ht : t ∈ G) : lookK (kvsOf G) (encK t.k) = some (.ref t.a) := by
  rcases gr_split t.k G with ⟨G1, u, G2, rfl, h1, h2⟩ | h
  · rw [look_split h1 h2]
    rcases List.mem_append.mp ht with ht | ht
    · exact absurd rfl (h1 t ht)
    · rcases List.mem_cons.mp ht with rfl | ht
      · rfl
      · simp only [List.map_append, List.map_cons] at nd
        rw [List.nodup_append, List.nodup_cons] at nd
        exact absurd (by rw [h2]; exact List.mem_map.mpr ⟨t, ht, rfl⟩) nd.2.1.1
  · exact absurd rfl (h t ht)
theorem gr_nd {h : List Cl} {G : List Gr} (e : plainG G = groups h) : (G.map (·.k)).Nodup := by
  have := (groups_ok h).nd
  rw [← e] at this
  unfold plainG at this
  rw [List.map_map] at this
  exact this
theorem gr_keyOk {h : List Cl} {G : List Gr} {t : Gr} (hk : HOk h) (e : plainG G = groups h) (ht : t ∈ G) : keyOk (kvsOf G) (encK t.k) = true := by
  obtain ⟨_, _, _, x, hx, _, hx3⟩ := gr_mem e ht
  rw [← hx3]
  exact (tup_keys hk hx fun u hu => by
    obtain ⟨_, _, _, y, hy, _, hy3⟩ := gr_mem e hu
    exact ⟨y, hy, hy3⟩).1
theorem gr_nm {h : List Cl} {G : List Gr} {t : Gr} (hk : HOk h) (e : plainG G = groups h) (ht : t ∈ G) : nmOk t.k.1 ∧ tdOk t.k.2 := by
  obtain ⟨_, _, _, x, hx, _, hx3⟩ := gr_mem e ht
  rw [← hx3]
  exact ⟨(hk.cl x hx).nm, (hk.cl x hx).td⟩
def bad (h : List Cl) (p r : Gr) : Prop := p.k.1 = r.k.1 ∧ ahead h p.m r.m = true ∧ ahead h r.m p.m = true
theorem cut_take {xs : List D} {i : Nat} (h : i ≤ xs.length) : cut xs none (some (i : Int)) = xs.take i := by
  unfold cut sIx
  simp
  omega
theorem tellers_eq (G : List Gr) : G.filterMap (fun t => if t.k.2 = .non then none else some (encK t.k)) = (G.filter fun t => !decide (t.k.2 = .non)).map fun t => encK t.k := by
  induction G with
  | nil => rfl
  | cons t G ih =>
    rw [List.filterMap_cons, List.filter_cons]
    by_cases hnn : t.k.2 = .non <;> simp [hnn, ih]
theorem s_crossed_bar {h : List Cl} (hk : HOk h) (q : ∀ d S', Fr S S' → CBar h d → Q d S') : wR (C (k + 3) (Str.ofString "crossed_bar") [encH h] S) Q := by
  refine w_fn fn_crossed_bar rfl ?_
  simp [f_crossed_bar, startEnv, -Bool.exists_bool]
  refine s_groups_of hk fun S1 n G f1 hn r e => ?_
  have hk20 := hk.len
  have lG : G.length ≤ lim := by
    have := foldl_len (h := h) h.zipIdx []
    have e2 : (plainG G).length = G.length := plain_len G
    rw [e] at e2
    unfold groups groupsP at e2
    simp at this
    unfold lim
    omega
  refine w_lc_dic (n := n) (kvs := kvsOf G) G (fun t => encK t.k) (fun t => if t.k.2 = .non then none else some (encK t.k)) r.dic (by simp [lockOf, lockAt, dicOf, r.dic]) ?_ lG (fun y hy S2 f2 => ?_) fun S2 m f2 _ hm => ?_
  · simp [keys_at (get_set r.dic)]
  · simp [wipe, Tg.put, -Bool.exists_bool]
    by_cases hnn : y.k.2 = .non <;> simp [hnn, Fr.refl]
  rw [tellers_eq] at hm
  generalize hP : (G.filter fun t => !decide (t.k.2 = .non)) = P at hm
  have PG : ∀ t ∈ P, t ∈ G ∧ t.k.2 ≠ .non := fun t ht => by
    rw [← hP, List.mem_filter] at ht
    simpa using ht
  have GP : ∀ t ∈ G, t.k.2 ≠ .non → t ∈ P := fun t ht h2 => by
    rw [← hP, List.mem_filter]
    exact ⟨ht, by simpa using h2⟩
  have nd := gr_nd e
  refine w_for_ix P (fun i t => .tup [.int (i : Nat), encK t.k]) (fun done δ S' => ∃ a b c, δ = [some (encH h), some (.ref n), some (.ref m), a, b, c, none] ∧ Fr S2 S' ∧ ∀ p ∈ done, ∀ u ∈ done, p.k ≠ u.k → ¬ bad h p u) [(m, P.map fun t => encK t.k)] rfl ?_ ?_ ?_
  · simp [enumOf_lst hm, enumD_eq, Fr.refl]
  · rintro δ S' ⟨a, b, c, rfl, f3, h4⟩
    refine ⟨chk_one1 (f3 _ _ hm), ?_⟩
    simp
    refine q _ _ ((f1.trans f2).trans f3) (.non fun p hp u hu h1 h2 h3 h5 h6 => ?_)
    rw [← e] at hp hu
    obtain ⟨t, ht, rfl⟩ := List.mem_map.mp hp
    obtain ⟨v, hv, rfl⟩ := List.mem_map.mp hu
    have := h4 t (GP t ht h3) v (GP v hv h5) h1
    cases e7 : ahead h v.m t.m with
    | false => rfl
    | true => exact absurd ⟨h2, h6, e7⟩ this
  · rintro done y rest δ S' h1 ⟨a, b, c, rfl, f3, h4⟩
    refine ⟨chk_one1 (f3 _ _ hm), _, rfl, ?_⟩
    simp [setAll, -Bool.exists_bool]
    have il : done.length ≤ (P.map fun t => encK t.k).length := by rw [h1]; simp
    have tk : (P.map fun t => encK t.k).take done.length = done.map fun t => encK t.k := by rw [h1]; simp
    have hm3 := f3 _ _ hm
    have yP : y ∈ P := by rw [h1]; simp
    obtain ⟨yG, yn⟩ := PG y yP
    refine w_for_ix done (fun _ t => encK t.k) (fun dn δ S'' => ∃ c', δ = [some (encH h), some (.ref n), some (.ref m), some (.int done.length), some (encK y.k), c', none] ∧ Fr (S' ++ [Ob.lst (done.map fun t => encK t.k)]) S'' ∧ ∀ u ∈ dn, u.k ≠ y.k → ¬ bad h y u) [(S'.length, done.map fun t => encK t.k)] rfl ?_ ?_ ?_
    · simp [sl_lst hm3, cut_take il, tk, itOf_lst get_new, Fr.refl, map_zipIdx (f := fun t : Gr => encK t.k)]
    · rintro δ S'' ⟨c', rfl, f4, h5⟩
      refine ⟨chk_one1 (f4 _ _ get_new), ?_⟩
      simp
      refine ⟨(f3.trans Fr.app).trans f4, fun p hp u hu hne hb => ?_⟩
      rcases hp with hp | rfl <;> rcases hu with hu | rfl
      · exact h4 p hp u hu hne hb
      · exact h5 p hp hne ⟨hb.1.symm, hb.2.2, hb.2.1⟩
      · exact h5 u hu (Ne.symm hne) hb
      · exact hne rfl
    · rintro dn z rst δ S'' h2 ⟨c', rfl, f4, h5⟩
      refine ⟨chk_one1 (f4 _ _ get_new), _, rfl, ?_⟩
      have zP : z ∈ P := by rw [h1, h2]; simp
      obtain ⟨zG, zn⟩ := PG z zP
      have rr := (((r.fr f2).fr f3).fr Fr.app).fr f4
      obtain ⟨y1, y2, y3, _⟩ := gr_mem e yG
      obtain ⟨z1, z2, z3, _⟩ := gr_mem e zG
      have cn : cmpD .Eq (.str y.k.1) (.str z.k.1) S'' = some (decide (y.k.1 = z.k.1)) := by
        rw [cmp_eq (cln_nm (gr_nm hk e yG).1) (cln_nm (gr_nm hk e zG).1)]
        simp
      simp [cn, -Bool.exists_bool]
      have nxt : ¬ bad h y z → ∀ u : Gr, u ∈ dn ∨ u = z → ¬u.k = y.k → ¬bad h y u := fun nb u hu hne => by
        rcases hu with hu | rfl
        · exact h5 u hu hne
        · exact nb
      by_cases en : y.k.1 = z.k.1
      · simp only [if_pos en]
        have ly : ∀ {S5 : Store} {Q : D → Store → Prop}, Fr S'' S5 → (wR (ixD (.ref n) (encK y.k) S5) Q ↔ Q (.ref y.a) S5) := fun f => wp_dix (rr.fr f).dic (gr_keyOk hk e yG) (look_mem nd yG)
        have lz : ∀ {S5 : Store} {Q : D → Store → Prop}, Fr S'' S5 → (wR (ixD (.ref n) (encK z.k) S5) Q ↔ Q (.ref z.a) S5) := fun f => wp_dix (rr.fr f).dic (gr_keyOk hk e zG) (look_mem nd zG)
        rw [ly Fr.refl, lz Fr.refl]
        have limy : y.m.length ≤ lim := by unfold lim; omega
        have limz : z.m.length ≤ lim := by unfold lim; omega
        refine s_is_ahead y1 z1 (rr.lst y yG) (rr.lst z zG) limy limz z2 fun S3 f5 => ?_
        cases a1 : ahead h y.m z.m with
        | false =>
          simp
          exact ⟨f4.trans f5, nxt fun hb => by have := hb.2.1; rw [a1] at this; cases this⟩
        | true =>
          simp only [tru_bl, Option.some.injEq, exists_eq_left', if_true]
          rw [lz f5, ly f5]
          refine s_is_ahead z1 y1 (f5 _ _ (rr.lst z zG)) (f5 _ _ (rr.lst y yG)) limz limy y2 fun S4 f6 => ?_
          cases a2 : ahead h z.m y.m with
          | false =>
            simp
            exact ⟨(f4.trans f5).trans f6, nxt fun hb => by have := hb.2.2; rw [a2] at this; cases this⟩
          | true =>
            simp only [tru_bl, Option.some.injEq, exists_eq_left', if_true]
            have f7 := f5.trans f6
            rw [ly f7, lz f7]
            refine s_crossed y1 z1 (f7 _ _ (rr.lst y yG)) (f7 _ _ (rr.lst z zG)) limy limz y2 z2 a1 a2 fun ia ib ic id S5 f8 g1 g2 g3 g4 => ?_
            have m1 := mem_plain yG
            have m2 := mem_plain zG
            rw [e] at m1 m2
            have ne : y.k ≠ z.k := fun ek => by
              have ndP : (P.map (·.k)).Nodup := by
                rw [← hP]
                exact (List.filter_sublist.map _).nodup nd
              rw [h1, List.map_append, List.map_cons, List.nodup_append] at ndP
              exact ndP.2.2 z.k (List.mem_map.mpr ⟨z, by rw [h2]; simp, rfl⟩) y.k (.head _) ek.symm
            exact q _ _ (((((f1.trans f2).trans f3).trans Fr.app).trans f4).trans (f7.trans f8)) (.crossed _ _ ia ib ic id m1 m2 ne en yn zn g1 g2 g3 g4 a1 a2)
      · simp only [if_neg en]
        exact ⟨f4, nxt fun hb => en hb.1⟩
end
end K47
set_option Elab.async false
set_option linter.all false
set_option maxRecDepth 100000
set_option maxHeartbeats 1000000
/-! k47, plain. Part X: raw_bar, bar. -/
namespace K47
open PySem Ev
section
variable {k : Nat} {S : Store} {Q : D → Store → Prop}
/-- what raw_bar may answer -/
def RB (h : List Cl) (d : D) : Prop := (d ≠ .non ∧ (SB h d ∨ LBar h d ∨ CBar h d)) ∨ (d = .non ∧ SB h .non ∧ LBar h .non ∧ CBar h .non)
/-- the bars that are still to be looked at -/
def RBI (h : List Cl) (xs : List D) : Prop := (∃ a b c, xs = [a, b, c] ∧ SB h a ∧ LBar h b ∧ CBar h c) ∨ (∃ b c, xs = [b, c] ∧ SB h .non ∧ LBar h b ∧ CBar h c) ∨ (∃ c, xs = [c] ∧ SB h .non ∧ LBar h .non ∧ CBar h c) ∨
  (xs = [] ∧ SB h .non ∧ LBar h .non ∧ CBar h .non)
theorem RBI.next {h : List Cl} {x : D} {r : List D} (H : RBI h (x :: r)) : (x = .non ∧ RBI h r) ∨ RB h x := by
  by_cases e : x = .non
  · subst e
    left
    rcases H with ⟨a, b, c, e, h1, h2, h3⟩ | ⟨b, c, e, h1, h2, h3⟩ | ⟨c, e, h1, h2, h3⟩ | ⟨e, h1, h2, h3⟩
    · simp at e; obtain ⟨rfl, rfl⟩ := e; exact ⟨rfl, .inr (.inl ⟨b, c, rfl, h1, h2, h3⟩)⟩
    · simp at e; obtain ⟨rfl, rfl⟩ := e; exact ⟨rfl, .inr (.inr (.inl ⟨c, rfl, h1, h2, h3⟩))⟩
    · simp at e; obtain ⟨rfl, rfl⟩ := e; exact ⟨rfl, .inr (.inr (.inr ⟨rfl, h1, h2, h3⟩))⟩
    · cases e
  · right
    left
    refine ⟨e, ?_⟩
    rcases H with ⟨a, b, c, e, h1, h2, h3⟩ | ⟨b, c, e, h1, h2, h3⟩ | ⟨c, e, h1, h2, h3⟩ | ⟨e, h1, h2, h3⟩
    · simp at e; obtain ⟨rfl, rfl⟩ := e; exact .inl h1
    · simp at e; obtain ⟨rfl, rfl⟩ := e; exact .inr (.inl h2)
    · simp at e; obtain ⟨rfl, rfl⟩ := e; exact .inr (.inr h3)
    · cases e
theorem RBI.nil {h : List Cl} (H : RBI h []) : RB h .non := by
  rcases H with ⟨a, b, c, e, _⟩ | ⟨b, c, e, _⟩ | ⟨c, e, _⟩ | ⟨_, h⟩
  · cases e
  · cases e
  · cases e
  · exact .inr ⟨rfl, h⟩
theorem s_raw_bar {h : List Cl} (hk : HOk h) (q : ∀ d S', Fr S S' → RB h d → Q d S') : wR (C (k + 4) (Str.ofString "raw_bar") [encH h] S) Q := by
  refine w_fn fn_raw_bar rfl ?_
  simp [f_raw_bar, startEnv, -Bool.exists_bool]
  refine w_for (I := fun xs δ S' => ∃ a, δ = [some (encH h), a] ∧ Fr S S' ∧ RBI h xs) [] rfl ?_ ?_ ?_
  · simp [-Bool.exists_bool]
    refine s_single_bar hk fun d1 h1 => ?_
    refine s_late_bar hk fun d2 S2 f2 h2 => ?_
    refine s_crossed_bar hk fun d3 S3 f3 h3 => ?_
    simp [lim]
    exact ⟨f2.trans f3, .inl ⟨d1, d2, d3, rfl, h1, h2, h3⟩⟩
  · rintro δ S' ⟨a, rfl, f, h4⟩
    simp [chkOk]
    exact q _ _ f h4.nil
  · rintro x r δ S' ⟨a, rfl, f, h4⟩
    refine ⟨rfl, _, rfl, ?_⟩
    simp [-Bool.exists_bool]
    rcases h4.next with ⟨rfl, h5⟩ | h5
    · simp
      exact ⟨f, h5⟩
    · by_cases e : x = .non
      · subst e
        simp
        rcases h4.next with ⟨_, h6⟩ | h6
        · exact ⟨f, h6⟩
        · refine ⟨f, ?_⟩
          rcases h4 with ⟨a, b, c, e, h1, h2, h3⟩ | ⟨b, c, e, h1, h2, h3⟩ | ⟨c, e, h1, h2, h3⟩ | ⟨e, h1, h2, h3⟩
          · simp at e; obtain ⟨rfl, rfl⟩ := e; exact .inr (.inl ⟨b, c, rfl, h1, h2, h3⟩)
          · simp at e; obtain ⟨rfl, rfl⟩ := e; exact .inr (.inr (.inl ⟨c, rfl, h1, h2, h3⟩))
          · simp at e; obtain ⟨rfl, rfl⟩ := e; exact .inr (.inr (.inr ⟨rfl, h1, h2, h3⟩))
          · cases e
      · simp [e]
        exact q _ _ f h5
theorem s_bar {h : List Cl} (hk : HOk h) (q : ∀ d S', Fr S S' → RB h d → Q d S') : wR (C (k + 8) (Str.ofString "bar") [encH h] S) Q := by
  refine w_fn fn_bar rfl ?_
  simp [f_bar, startEnv, -Bool.exists_bool]
  refine s_check_history hk fun S1 f1 => ?_
  refine s_raw_bar hk fun d S2 f2 h2 => ?_
  exact q _ _ (f1.trans f2) h2
end
end K47
set_option Elab.async false
set_option linter.all false
set_option maxRecDepth 100000
set_option maxHeartbeats 1000000
/-! k47, plain. Part L: orders of the calls of a name; a bar bars them. -/
namespace K47
open PySem Ev
/-- the calls of a name in an order: what is left, what was written last, the order -/
def Lin : (Cl → Prop) → D → List Cl → Prop
  | L, _, [] => ∀ x, L x → x.e = none
  | L, v, x :: r => L x ∧ (x.w = true ∨ (x.e ≠ none ∧ x.told = v)) ∧ (∀ y, L y → ∀ e, y.e = some e → x.b ≤ e) ∧ Lin (fun y => L y ∧ y ≠ x) (if x.w = true then x.told else v) r
theorem Lin.congr : ∀ (r : List Cl) {L L' : Cl → Prop} {v : D}, (∀ x, L x ↔ L' x) → Lin L v r → Lin L' v r
  | [], L, L', v, h, H => fun x hx => H x ((h x).mpr hx)
  | x :: r, L, L', v, h, H => ⟨(h x).mp H.1, H.2.1, fun y hy => H.2.2.1 y ((h y).mpr hy), Lin.congr r (fun y => and_congr_left' (h y)) H.2.2.2⟩
/-- when u isn't what was written last, and no write of u is left, no ended read of u is -/
theorem lin_past : ∀ (r : List Cl) (L : Cl → Prop) (v u : D), Lin L v r → v ≠ u → (∀ x, L x → x.w = true → x.told ≠ u) → ∀ x, L x → x.w = false → x.told = u → x.e = none
  | [], L, v, u, H, _, _, x, hx, _, _ => H x hx
  | y :: r, L, v, u, ⟨h1, h2, h3, H⟩, hv, hw, x, hx, xw, xt => by
    by_cases e : x = y
    · subst e
      rcases h2 with h2 | ⟨_, h2⟩
      · rw [xw] at h2; cases h2
      · exact absurd (h2.symm.trans xt) hv
    · refine lin_past r _ _ u H ?_ (fun z hz => hw z hz.1) x ⟨hx, e⟩ xw xt
      split
      · rename_i yw; exact hw y h1 yw
      · exact hv
theorem lin_early : ∀ (r : List Cl) (L : Cl → Prop) (v u : D) (w x : Cl) (e : Int), Lin L v r → v ≠ u → L w → w.w = true → w.told = u → (∀ z, L z → z.w = true → z.told = u → z = w) → L x → x.w = false → x.told = u → x.e = some e → e < w.b → False
  | [], L, v, u, w, x, e, H, _, _, _, _, _, hx, _, _, xe, _ => by
    have := H x hx
    rw [xe] at this
    cases this
  | y :: r, L, v, u, w, x, e, ⟨h1, h2, h3, H⟩, hv, lw, ww, wt, hu, lx, xw, xt, xe, hlt => by
    by_cases e1 : y = w
    · subst e1
      have := h3 x lx e xe
      omega
    · cases yw : y.w with
      | true =>
        rw [if_pos yw] at H
        exact lin_early r _ _ u w x e H (fun e2 => e1 (hu y h1 yw e2)) ⟨lw, fun e2 => e1 e2.symm⟩ ww wt (fun z hz => hu z hz.1) ⟨lx, fun e2 => by rw [e2, yw] at xw; cases xw⟩ xw xt xe hlt
      | false =>
        rw [yw] at H
        rcases h2 with h2 | ⟨_, h2⟩
        · rw [yw] at h2; cases h2
        · exact lin_early r _ _ u w x e H hv ⟨lw, fun e2 => e1 e2.symm⟩ ww wt (fun z hz => hu z hz.1) ⟨lx, fun e2 => hv (by rw [← h2, ← e2, xt])⟩ xw xt xe hlt
theorem lin_in : ∀ (r : List Cl) (L : Cl → Prop) (v : D) (b d : Cl) (e : Int), Lin L v r → (∀ z, L z → z.w = true → z.told ≠ v) → L b → b.w = false → b.told = v → b.e ≠ none → L d → d.told ≠ v → d.e = some e → e < b.b → False
  | [], L, v, b, d, e, H, _, lb, _, _, be, _, _, _, _ => be (H b lb)
  | y :: r, L, v, b, d, e, ⟨h1, h2, h3, H⟩, hw, lb, bw, bt, be, ld, dt, de, hlt => by
    by_cases e1 : b = y
    · subst e1
      have := h3 d ld e de
      omega
    · cases yw : y.w with
      | true =>
        rw [if_pos yw] at H
        exact be (lin_past r _ _ v H (hw y h1 yw) (fun z hz => hw z hz.1) b ⟨lb, e1⟩ bw bt)
      | false =>
        rw [yw] at H
        rcases h2 with h2 | ⟨_, h2⟩
        · rw [yw] at h2; cases h2
        · exact lin_in r _ v b d e H (fun z hz => hw z hz.1) ⟨lb, e1⟩ bw bt be ⟨ld, fun e2 => dt (by rw [e2, h2])⟩ dt de hlt
theorem lin_cross : ∀ (r : List Cl) (L : Cl → Prop) (v p q : D) (a b c d : Cl) (ea ed : Int), Lin L v r → v ≠ p → v ≠ q → p ≠ q → (∀ z z', L z → L z' → z.w = true → z'.w = true → z.told = z'.told → z = z') → L a → L b → L c → L d →
    a.told = p → b.told = p → c.told = q → d.told = q → (b.w = false → b.e ≠ none) → (c.w = false → c.e ≠ none) → a.e = some ea → d.e = some ed → ea < c.b → ed < b.b → False
  | [], L, v, p, q, a, b, c, d, ea, ed, H, _, _, _, _, la, _, _, _, _, _, _, _, _, _, ae, _, _, _ => by
    have := H a la
    rw [ae] at this
    cases this
  | y :: r, L, v, p, q, a, b, c, d, ea, ed, ⟨h1, h2, h3, H⟩, vp, vq, pq, hu, la, lb, lc, ld, ta, tb, tc, td, hb, hc, ae, de, l1, l2 => by
    cases yw : y.w with
    | true =>
      rw [if_pos yw] at H
      by_cases e1 : y.told = p
      · by_cases e2 : b = y
        · subst e2
          have := h3 d ld ed de
          omega
        · have bw : b.w = false := by
            cases bw : b.w with
            | false => rfl
            | true => exact absurd (hu b y lb h1 bw yw (by rw [tb, e1])) e2
          rw [e1] at H
          exact lin_in r _ p b d ed H (fun z hz zw zt => hz.2 (hu z y hz.1 h1 zw yw (by rw [zt, e1]))) ⟨lb, e2⟩ bw tb (hb bw) ⟨ld, fun e3 => pq (by rw [← e1, ← e3, td])⟩ (by rw [td]; exact pq.symm) de l2
      · by_cases e2 : y.told = q
        · by_cases e3 : c = y
          · subst e3
            have := h3 a la ea ae
            omega
          · have cw : c.w = false := by
              cases cw : c.w with
              | false => rfl
              | true => exact absurd (hu c y lc h1 cw yw (by rw [tc, e2])) e3
            rw [e2] at H
            exact lin_in r _ q c a ea H (fun z hz zw zt => hz.2 (hu z y hz.1 h1 zw yw (by rw [zt, e2]))) ⟨lc, e3⟩ cw tc (hc cw) ⟨la, fun e3 => pq (by rw [← e2, ← e3, ta])⟩ (by rw [ta]; exact pq) ae l1
        · exact lin_cross r _ y.told p q a b c d ea ed H e1 e2 pq (fun z z' hz hz' => hu z z' hz.1 hz'.1) ⟨la, fun e => e1 (by rw [← e, ta])⟩ ⟨lb, fun e => e1 (by rw [← e, tb])⟩ ⟨lc, fun e => e2 (by rw [← e, tc])⟩ ⟨ld, fun e => e2 (by rw [← e, td])⟩ ta tb tc td hb hc ae de l1 l2
    | false =>
      rw [yw] at H
      rcases h2 with h2 | ⟨_, h2⟩
      · rw [yw] at h2; cases h2
      · exact lin_cross r _ v p q a b c d ea ed H vp vq pq (fun z z' hz hz' => hu z z' hz.1 hz'.1) ⟨la, fun e => vp (by rw [← h2, ← e, ta])⟩ ⟨lb, fun e => vp (by rw [← h2, ← e, tb])⟩ ⟨lc, fun e => vq (by rw [← h2, ← e, tc])⟩ ⟨ld, fun e => vq (by rw [← h2, ← e, td])⟩ ta tb tc td hb hc ae de l1 l2
/-! ### bars -/
theorem gr_at {h : List Cl} {p : Key × List Nat} {i : Nat} (hp : p ∈ groups h) (hi : i ∈ p.2) : ∃ x, h[i]? = some x ∧ cnt h x = true ∧ key x = p.1 := by
  obtain ⟨x, hx, h2, h3⟩ := ((groups_ok h).mem p hp i).mp hi
  refine ⟨x, ?_, h2, h3⟩
  have := List.mem_zipIdx (x := x) (i := i) (by simpa using hx)
  rw [this.2.2]
  simp
theorem gr_has {h : List Cl} {x : Cl} {i : Nat} (hx : h[i]? = some x) (hc : cnt h x = true) : ∃ p ∈ groups h, i ∈ p.2 ∧ p.1 = key x := by
  have hm : (x, i) ∈ h.zipIdx := by
    rw [List.mem_iff_getElem?]
    exact ⟨i, by simp [hx]⟩
  obtain ⟨p, hp, e⟩ := (groups_ok h).has x i hm hc
  exact ⟨p, hp, ((groups_ok h).mem p hp i).mpr ⟨x, hm, hc, e.symm⟩, e⟩
theorem cnt_read {h : List Cl} {x : Cl} (hc : cnt h x = true) (hw : x.w = false) : x.e ≠ none := by
  intro e
  simp [cnt, e, hw] at hc
theorem end_at {h : List Cl} {x : Cl} {i : Nat} (hx : h[i]? = some x) : endOf h i = x.e := by simp [endOf, hx]
theorem beg_at {h : List Cl} {x : Cl} {i : Nat} (hx : h[i]? = some x) : begOf h i = x.b := by simp [begOf, hx]
theorem HOk.uniq {h : List Cl} (hk : HOk h) {x y : Cl} (hx : x ∈ h) (hy : y ∈ h) (xw : x.w = true) (yw : y.w = true) (e : key x = key y) : x = y := by
  have nd := hk.wrs
  unfold K47.wrs at nd
  have hx2 : x ∈ h.filter (·.w) := List.mem_filter.mpr ⟨hx, xw⟩
  have hy2 : y ∈ h.filter (·.w) := List.mem_filter.mpr ⟨hy, yw⟩
  generalize h.filter (·.w) = l at *
  have e2 : D.tup [.str x.nm, x.told] = .tup [.str y.nm, y.told] := by
    have := Prod.ext_iff.mp e
    have t1 : x.nm = y.nm := this.1
    have t2 : x.told = y.told := this.2
    rw [t1, t2]
  clear hx hy hk
  induction l with
  | nil => cases hx2
  | cons z l ih =>
    rw [List.map_cons, List.nodup_cons] at nd
    rcases List.mem_cons.mp hx2 with h1 | h1 <;> rcases List.mem_cons.mp hy2 with h2 | h2
    · rw [h1, h2]
    · subst h1
      exact absurd (List.mem_map.mpr ⟨y, h2, e2.symm⟩) nd.1
    · subst h2
      exact absurd (List.mem_map.mpr ⟨x, h1, e2⟩) nd.1
    · exact ih nd.2 h1 h2
abbrev Named (h : List Cl) (nm : Str) : Cl → Prop := fun x => x ∈ h ∧ x.nm = nm
theorem bar_no {h : List Cl} (hk : HOk h) {d : D} (hd : d ≠ .non) (hb : SB h d ∨ LBar h d ∨ CBar h d) (hl : ∀ x ∈ h, ∃ rs, Lin (Named h x.nm) .non rs) : False := by
  have un : ∀ nm z z', Named h nm z → Named h nm z' → z.w = true → z'.w = true → z.told = z'.told → z = z' := fun nm z z' hz hz' w w' t => hk.uniq hz.1 hz'.1 w w' (by simp [hz.2, hz'.2, t])
  rcases hb with hb | hb | hb
  · cases hb with
    | non => exact hd rfl
    | strange i x hx ht hs =>
      have hm := List.mem_of_getElem? hx
      obtain ⟨rs, H⟩ := hl x hm
      simp only [told, Bool.and_eq_true, Bool.not_eq_true', decide_eq_false_iff_not] at ht
      have := lin_past rs _ .non x.told H (Ne.symm ht.2.2) (fun w hw ww wt => by
        have h3 := hs w hw.1
        rw [ww] at h3
        simp [same, wt, hw.2] at h3) x ⟨hm, rfl⟩ ht.1 rfl
      rw [this] at ht
      simp at ht
    | early i j x w e hx ht hj ww hs xe hlt =>
      have hm := List.mem_of_getElem? hx
      have wm := List.mem_of_getElem? hj
      obtain ⟨rs, H⟩ := hl x hm
      simp only [told, Bool.and_eq_true, Bool.not_eq_true', decide_eq_false_iff_not] at ht
      simp only [same, Bool.and_eq_true, decide_eq_true_eq] at hs
      exact lin_early rs _ .non x.told w x e H (Ne.symm ht.2.2) ⟨wm, hs.1⟩ ww hs.2 (fun z hz zw zt => un x.nm z w hz ⟨wm, hs.1⟩ zw ww (by rw [zt, hs.2])) ⟨hm, rfl⟩ ht.1 rfl xe hlt
  · cases hb with
    | non => exact hd rfl
    | late p r i j hp hpn hr hrk hfe hlb ha =>
      obtain ⟨i', hi', e, he, j', hj', hlt⟩ := ahead_iff.mp ha
      obtain ⟨x, hx, cx, kx⟩ := gr_at hp hi'
      obtain ⟨y, hy, cy, ky⟩ := gr_at hr hj'
      rw [end_at hx] at he
      rw [beg_at hy] at hlt
      have hm := List.mem_of_getElem? hx
      have ym := List.mem_of_getElem? hy
      rw [hrk] at ky
      have ky2 := Prod.ext_iff.mp ky
      have kx2 := Prod.ext_iff.mp kx
      simp at ky2 kx2
      obtain ⟨rs, H⟩ := hl x hm
      have yw : y.w = false := by
        cases yw : y.w with
        | false => rfl
        | true => exact absurd ky2.2 ((hk.cl y ym).wr yw)
      exact lin_in rs _ .non y x e H (fun z hz zw => (hk.cl z hz.1).wr zw) ⟨ym, by rw [ky2.1, kx2.1]⟩ yw ky2.2 (cnt_read cy yw) ⟨hm, rfl⟩ (by rw [kx2.2]; exact hpn) he hlt
  · cases hb with
    | non => exact hd rfl
    | crossed p r ia ib ic id hp hr hne hnm hpn hrn _ _ _ _ a1 a2 =>
      obtain ⟨i1, hi1, ea, he1, j1, hj1, hlt1⟩ := ahead_iff.mp a1
      obtain ⟨i2, hi2, ed, he2, j2, hj2, hlt2⟩ := ahead_iff.mp a2
      obtain ⟨a, ha, ca, ka⟩ := gr_at hp hi1
      obtain ⟨c, hc, cc, kc⟩ := gr_at hr hj1
      obtain ⟨d, hd', cd, kd⟩ := gr_at hr hi2
      obtain ⟨b, hb, cb, kb⟩ := gr_at hp hj2
      rw [end_at ha] at he1
      rw [end_at hd'] at he2
      rw [beg_at hc] at hlt1
      rw [beg_at hb] at hlt2
      have ka2 := Prod.ext_iff.mp ka
      have kb2 := Prod.ext_iff.mp kb
      have kc2 := Prod.ext_iff.mp kc
      have kd2 := Prod.ext_iff.mp kd
      simp at ka2 kb2 kc2 kd2
      obtain ⟨rs, H⟩ := hl a (List.mem_of_getElem? ha)
      have n1 : p.1.2 ≠ r.1.2 := fun e => hne (Prod.ext hnm e)
      exact lin_cross rs _ .non p.1.2 r.1.2 a b c d ea ed H (Ne.symm hpn) (Ne.symm hrn) n1 (un a.nm) ⟨List.mem_of_getElem? ha, rfl⟩ ⟨List.mem_of_getElem? hb, by rw [kb2.1, ka2.1]⟩ ⟨List.mem_of_getElem? hc, by rw [kc2.1, ka2.1, hnm]⟩ ⟨List.mem_of_getElem? hd', by rw [kd2.1, ka2.1, hnm]⟩
        ka2.2 kb2.2 kc2.2 kd2.2 (cnt_read cb) (cnt_read cc) he1 he2 hlt1 hlt2
/-! ### orders by places -/
def stepW' (h : List Cl) (nm : Str) (v : D) (i : Nat) : D := match h[i]? with
  | some x => if x.w = true ∧ x.nm = nm then x.told else v
  | none => v
/-- what was written last -/
def lastW (h : List Cl) (pre : List Nat) (nm : Str) : D := pre.foldl (stepW' h nm) .non
theorem lastW_snoc {h : List Cl} {pre : List Nat} {i : Nat} {nm : Str} : lastW h (pre ++ [i]) nm = stepW' h nm (lastW h pre nm) i := by
  unfold lastW
  rw [List.foldl_append]
  rfl
structure OrdI (h : List Cl) (row : List Nat) : Prop where
  lt : ∀ i ∈ row, i < h.length
  nd : row.Nodup
  all : ∀ i x, h[i]? = some x → x.e ≠ none → i ∈ row
  each : ∀ pre i post x, row = pre ++ i :: post → h[i]? = some x → (x.w = false → x.e ≠ none ∧ x.told = lastW h pre x.nm) ∧ ∀ j ∈ post, ∀ y, h[j]? = some y → y.nm = x.nm → ∀ e, y.e = some e → x.b ≤ e
theorem HOk.nodup {h : List Cl} (hk : HOk h) : h.Nodup := by
  have := hk.moms
  unfold K47.moms at this
  clear hk
  induction h with
  | nil => simp
  | cons x h ih =>
    rw [List.flatMap_cons, List.nodup_append] at this
    rw [List.nodup_cons]
    refine ⟨fun hx => ?_, ih this.2.1⟩
    have m : D.tup [.str x.nm, .int x.b] ∈ momsOf x := by unfold momsOf; exact .head _
    exact this.2.2 _ m _ (List.mem_flatMap.mpr ⟨x, hx, m⟩) rfl
theorem nodup_at {h : List Cl} (nd : h.Nodup) {i j : Nat} {x : Cl} (hi : h[i]? = some x) (hj : h[j]? = some x) : i = j := by
  have h1 := (List.getElem?_eq_some_iff.mp hi).1
  exact (List.getElem?_inj h1 nd).mp (hi.trans hj.symm)
theorem ord_lin' {h : List Cl} {row : List Nat} (hk : HOk h) (O : OrdI h row) (nm : Str) : ∀ (post pre : List Nat), row = pre ++ post → ∃ rs, Lin (fun x => x.nm = nm ∧ ∃ i : Nat, i ∉ pre ∧ h[i]? = some x) (lastW h pre nm) rs
  | [], pre, e => by
    refine ⟨[], fun x ⟨_, i, hi, hx⟩ => ?_⟩
    rw [List.append_nil] at e
    subst e
    cases ee : x.e with
    | none => rfl
    | some _ => exact absurd (O.all i x hx (by simp [ee])) hi
  | i :: post, pre, e => by
    obtain ⟨rs, H⟩ := ord_lin' hk O nm post (pre ++ [i]) (by simp [e])
    have hi : i < h.length := O.lt i (by simp [e])
    have hx : h[i]? = some h[i] := List.getElem?_eq_getElem hi
    generalize h[i] = x at hx
    have nd := O.nd
    rw [e, List.nodup_append] at nd
    have ip : i ∉ pre := fun hp => nd.2.2 i hp i (.head _) rfl
    rw [lastW_snoc] at H
    by_cases en : x.nm = nm
    · obtain ⟨a1, a2⟩ := O.each pre i post x e hx
      refine ⟨x :: rs, ⟨en, i, ip, hx⟩, ?_, ?_, ?_⟩
      · cases xw : x.w with
        | true => exact .inl rfl
        | false =>
          obtain ⟨a3, a4⟩ := a1 xw
          rw [en] at a4
          exact .inr ⟨a3, a4⟩
      · rintro y ⟨yn, j, hj, hy⟩ e' he'
        have hr := O.all j y hy (by simp [he'])
        rw [e] at hr
        rcases List.mem_append.mp hr with hr | hr
        · exact absurd hr hj
        · rcases List.mem_cons.mp hr with rfl | hr
          · rw [hx] at hy
            cases hy
            have := (hk.cl x (List.mem_of_getElem? hx)).en e' he'
            omega
          · exact a2 j hr y hy (by rw [yn, en]) e' he'
      · have e3 : stepW' h nm (lastW h pre nm) i = if x.w = true then x.told else lastW h pre nm := by
          unfold stepW'
          rw [hx]
          simp [en]
        rw [e3] at H
        refine H.congr rs fun y => ⟨?_, ?_⟩
        · rintro ⟨yn, j, hj, hy⟩
          simp at hj
          refine ⟨⟨yn, j, hj.1, hy⟩, ?_⟩
          rintro rfl
          exact hj.2 (nodup_at hk.nodup hy hx)
        · rintro ⟨⟨yn, j, hj, hy⟩, hne⟩
          refine ⟨yn, j, ?_, hy⟩
          simp
          refine ⟨hj, ?_⟩
          rintro rfl
          rw [hx] at hy
          cases hy
          exact hne rfl
    · have e3 : stepW' h nm (lastW h pre nm) i = lastW h pre nm := by
        unfold stepW'
        rw [hx]
        simp [en]
      rw [e3] at H
      refine ⟨rs, H.congr rs fun y => ⟨?_, ?_⟩⟩
      · rintro ⟨yn, j, hj, hy⟩
        simp at hj
        exact ⟨yn, j, hj.1, hy⟩
      · rintro ⟨yn, j, hj, hy⟩
        refine ⟨yn, j, ?_, hy⟩
        simp
        refine ⟨hj, ?_⟩
        rintro rfl
        rw [hx] at hy
        cases hy
        exact en yn
theorem ord_lin {h : List Cl} {row : List Nat} (hk : HOk h) (O : OrdI h row) (nm : Str) : ∃ rs, Lin (Named h nm) .non rs := by
  obtain ⟨rs, H⟩ := ord_lin' hk O nm row [] rfl
  refine ⟨rs, H.congr rs fun x => ⟨?_, ?_⟩⟩
  · rintro ⟨xn, i, _, hx⟩
    exact ⟨List.mem_of_getElem? hx, xn⟩
  · rintro ⟨hx, xn⟩
    obtain ⟨i, hi⟩ := List.mem_iff_getElem?.mp hx
    exact ⟨xn, i, by simp, hi⟩
end K47
set_option Elab.async false
set_option linter.all false
set_option maxRecDepth 100000
set_option maxHeartbeats 1000000
/-! k47, plain. Part N: tail, name_order. -/
namespace K47
open PySem Ev
def wAt (h : List Cl) (i : Nat) : Bool := ((h[i]?).map (·.w)).getD false
theorem wAt_eq {h : List Cl} {i : Nat} (hi : i < h.length) : wAt h i = h[i].w := by simp [wAt, hi]
def rdPs (h : List Cl) (g : List Nat) : List (Int × Int) := (g.filter fun i => !wAt h i).map fun i => (begOf h i, (i : Int))
/-- a group's calls, its write first, its reads as they began -/
def tl (h : List Cl) (g : List Nat) : List Nat := g.filter (wAt h) ++ ((rdPs h g).mergeSort pairLe).map fun p => p.2.toNat
theorem rdPs_mem {h : List Cl} {g : List Nat} {p : Int × Int} : p ∈ rdPs h g ↔ ∃ i ∈ g, wAt h i = false ∧ p = (begOf h i, (i : Int)) := by
  unfold rdPs
  rw [List.mem_map]
  constructor
  · rintro ⟨i, hi, rfl⟩
    rw [List.mem_filter] at hi
    exact ⟨i, hi.1, by simpa using hi.2, rfl⟩
  · rintro ⟨i, hi, hw, rfl⟩
    exact ⟨i, List.mem_filter.mpr ⟨hi, by simpa using hw⟩, rfl⟩
theorem rs_eq (h : List Cl) (g : List Nat) : ((rdPs h g).mergeSort pairLe).map (fun p => D.int p.2) = encI (((rdPs h g).mergeSort pairLe).map fun p => p.2.toNat) := by
  unfold encI
  rw [List.map_map]
  refine List.map_congr_left fun p hp => ?_
  obtain ⟨i, _, _, rfl⟩ := rdPs_mem.mp (List.mem_mergeSort.mp hp)
  simp
theorem rdPs_eq (h : List Cl) (g : List Nat) : (g.filterMap fun i => if wAt h i = true then none else some (ofPair (begOf h i, (i : Int)))) = (rdPs h g).map ofPair := by
  unfold rdPs
  induction g with
  | nil => rfl
  | cons i g ih =>
    rw [List.filterMap_cons, List.filter_cons, ih]
    cases wAt h i <;> simp
theorem wrs_eq' (h : List Cl) (g : List Nat) : (g.filterMap fun i => if wAt h i = true then some (D.int (i : Nat)) else none) = encI (g.filter (wAt h)) := by
  induction g with
  | nil => rfl
  | cons i g ih =>
    rw [List.filterMap_cons, List.filter_cons, ih]
    cases wAt h i <;> simp
theorem tl_len {h : List Cl} {g : List Nat} : (tl h g).length ≤ 2 * g.length := by
  unfold tl rdPs
  have h1 := List.length_filter_le (wAt h) g
  have h2 := List.length_filter_le (fun i => !wAt h i) g
  simp
  omega
section
variable {k : Nat} {S : Store} {Q : D → Store → Prop}
theorem s_tail {h : List Cl} {g : List Nat} {n : Nat} (hg : GOk h g) (hS : S[n]? = some (.lst (encI g))) (hl : g.length ≤ 1000) (q : ∀ m S', Fr S S' → S[m]? = none → S'[m]? = some (.lst (encI (tl h g))) → Q (.ref m) S') :
    wR (C (k + 1) (Str.ofString "tail") [encH h, .ref n] S) Q := by
  refine w_fn fn_tail rfl ?_
  simp [f_tail, startEnv, -Bool.exists_bool]
  refine w_lc g (fun i => .int (i : Nat)) (fun i => if wAt h i = true then none else some (ofPair (begOf h i, (i : Int)))) (by exact lock_lst rfl hS) ?_ (by unfold lim; omega) (fun i hi S2 h2 => ?_) fun S1 a f1 _ h3 => ?_
  · simp [keysOf_lst hS, chk_one1 hS, Fr.refl]
  · have hi2 := hg i hi
    simp [wipe, Tg.put, map_enc_ix hi2, begOf_eq hi2, wAt_eq hi2, lim, Fr.refl, ofPair, -Bool.exists_bool]
    cases h[i].w <;> simp [Fr.refl]
  rw [rdPs_eq] at h3
  rw [wp_sortedL h3]
  have f2 : Fr S1 (S1 ++ [Ob.lst (((rdPs h g).mergeSort pairLe).map ofPair)]) := Fr.app
  have hr : (S1 ++ [Ob.lst (((rdPs h g).mergeSort pairLe).map ofPair)])[S1.length]? = some (.lst (((rdPs h g).mergeSort pairLe).map ofPair)) := get_new
  have hn : S[S1.length]? = none := none_of_fr f1 get_len
  generalize S1.length = b at hr hn
  generalize S1 ++ [Ob.lst (((rdPs h g).mergeSort pairLe).map ofPair)] = S2 at f2 hr
  have hS2 := f2 _ _ (f1 _ _ hS)
  refine w_lc g (fun i => .int (i : Nat)) (fun i => if wAt h i = true then some (.int (i : Nat)) else none) (by exact lock_lst rfl hS2) ?_ (by unfold lim; omega) (fun i hi S3 h4 => ?_) fun S3 c f3 hc1 hc => ?_
  · simp [keysOf_lst hS2, chk_one1 hS2, Fr.refl]
  · have hi2 := hg i hi
    simp [wipe, Tg.put, map_enc_ix hi2, wAt_eq hi2, lim, Fr.refl, -Bool.exists_bool]
  rw [wrs_eq'] at hc
  have hr3 := f3 _ _ hr
  have lr : ((rdPs h g).mergeSort pairLe).length ≤ g.length := by
    simp [rdPs, List.length_filter_le]
  refine w_lc ((rdPs h g).mergeSort pairLe) ofPair (fun p => some (.int p.2)) (by exact lock_lst rfl hr3) ?_ (by unfold lim; omega) (fun p hp S4 h4 => ?_) fun S4 d f4 hd1 hd => ?_
  · simp [keysOf_lst hr3, chk_one1 hr3, Fr.refl]
  · simp [wipe, Tg.put, ofPair, setAll, Fr.refl]
  rw [List.filterMap_eq_map', rs_eq] at hd
  have lw := List.length_filter_le (wAt h) g
  rw [bin_addL (f4 _ _ hc) hd]
  refine ⟨by simp [lim]; simp at lr; omega, ?_⟩
  have f14 := ((f1.trans f2).trans f3).trans f4
  refine q _ _ (f14.trans Fr.app) (none_of_fr f14 get_len) ?_
  rw [get_new]
  simp [tl]
end
/-! ### name_order -/
/-- a great begin of a group -/
def mx (h : List Cl) (g : List Nat) : Int := (g.map (begOf h)).foldr max (-1000000000000000)
theorem exists_min {α : Type} (f : α → Int) : ∀ l : List α, l ≠ [] → ∃ a ∈ l, ∀ b ∈ l, f a ≤ f b
  | [], h => absurd rfl h
  | [a], _ => ⟨a, by simp, by simp⟩
  | a :: b :: l, _ => by
    obtain ⟨c, hc, h1⟩ := exists_min f (b :: l) (by simp)
    by_cases e : f a ≤ f c
    · exact ⟨a, by simp, fun d hd => by
        rcases List.mem_cons.mp hd with rfl | hd
        · exact Int.le_refl _
        · exact Int.le_trans e (h1 d hd)⟩
    · exact ⟨c, .tail _ hc, fun d hd => by
        rcases List.mem_cons.mp hd with rfl | hd
        · omega
        · exact h1 d hd⟩
theorem exists_last (h : List Cl) : ∀ g : List Nat, g ≠ [] → ∃ i ∈ g, ∀ j ∈ g, begOf h j ≤ begOf h i := by
  intro g hg
  obtain ⟨i, hi, h1⟩ := exists_min (fun i => - begOf h i) g hg
  exact ⟨i, hi, fun j hj => by have := h1 j hj; omega⟩
/-- where no two groups are ahead of each other, some group has none ahead of it -/
theorem exists_free {h : List Cl} {L : List Gr} (hne : L ≠ []) (ne : ∀ t ∈ L, t.m ≠ []) (anti : ∀ p ∈ L, ∀ r ∈ L, p.m ≠ r.m → ahead h p.m r.m = true → ahead h r.m p.m = false) :
    ∃ t ∈ L, ∀ p ∈ L, p.m ≠ t.m → ahead h p.m t.m = false := by
  have hb : ∃ B : Gr → Int, ∀ t ∈ L, (∃ i ∈ t.m, B t = begOf h i) ∧ ∀ j ∈ t.m, begOf h j ≤ B t := by
    refine ⟨fun t => if e : t.m = [] then 0 else begOf h (exists_last h t.m e).choose, fun t ht => ?_⟩
    have e := ne t ht
    simp only [dif_neg e]
    have := (exists_last h t.m e).choose_spec
    exact ⟨⟨_, this.1, rfl⟩, this.2⟩
  obtain ⟨B, hB⟩ := hb
  obtain ⟨t, ht, h1⟩ := exists_min B L hne
  by_cases c1 : ∀ p ∈ L, p.m ≠ t.m → ahead h p.m t.m = false
  · exact ⟨t, ht, c1⟩
  · simp only [Classical.not_forall] at c1
    obtain ⟨p, hp, pn, pa⟩ := c1
    rw [Bool.not_eq_false] at pa
    refine ⟨p, hp, fun r hr rn => ?_⟩
    cases ra : ahead h r.m p.m with
    | false => rfl
    | true =>
      -- r ahead of p ahead of t
      obtain ⟨i, hi, e, he, j, hj, hlt⟩ := ahead_iff.mp pa
      obtain ⟨b, hb, hb2⟩ := (hB r hr).1
      have hno := anti r hr p hp rn ra
      have : begOf h b ≤ e := by
        apply Int.not_lt.mp
        intro hlt2
        have := ahead_iff.mpr ⟨i, hi, e, he, b, hb, hlt2⟩
        rw [hno] at this
        cases this
      have h2 := (hB t ht).2 j hj
      have h3 := h1 r hr
      omega
section
variable {k : Nat} {S : Store} {Q : D → Store → Prop}
/-- none of the later ones is ahead of an earlier one -/
abbrev Lined (h : List Cl) (gs : List Gr) : Prop := gs.Pairwise fun p r => ahead h r.m p.m = false
theorem fm_len {h : List Cl} : ∀ (gs : List Gr), (∀ t ∈ gs, t.m.length ≤ 20) → (gs.flatMap fun t => tl h t.m).length ≤ gs.length * 40
  | [], _ => by simp
  | t :: gs, hl => by
    have := fm_len (h := h) gs fun u hu => hl u (.tail _ hu)
    have h1 := tl_len (h := h) (g := t.m)
    have h2 := hl t (.head _)
    rw [List.flatMap_cons, List.length_append, List.length_cons]
    omega
theorem recv_rem' {n : Nat} {xs : List D} (h : S[n]? = some (.lst xs)) : recvOk .remove (.ref n) S = true := by simp [recvOk, lstOf, h]
abbrev encG (L : List Gr) : List D := L.map fun t => .ref t.a
theorem m_rem {n : Nat} {L1 L2 : List Gr} {t : Gr} (h : S[n]? = some (.lst (encG (L1 ++ t :: L2)))) (hl : ∀ u ∈ L1 ++ t :: L2, S[u.a]? = some (.lst (encI u.m))) (hn : ∀ u ∈ L1, u.m ≠ t.m) : methD .remove (.ref n) [.ref t.a] S = .ok .non (S.set n (.lst (encG (L1 ++ L2)))) := by
  have e1 : toPy S 60 (.ref t.a) = some (pyI t.m) := toPy_I (hl t (by simp))
  have e2 : optAll ((encG (L1 ++ t :: L2)).map (toPy S 60)) = some (((L1 ++ t :: L2).map (·.m)).map pyI) := by
    have : (encG (L1 ++ t :: L2)).map (toPy S 60) = (L1 ++ t :: L2).map fun u => some (pyI u.m) := by
      unfold encG
      rw [List.map_map]
      exact List.map_congr_left fun u hu => toPy_I (hl u hu)
    rw [this, optAll_map, List.map_map]
    rfl
  have e3 : findEq (pyI t.m) (((L1 ++ t :: L2).map (·.m)).map pyI) = some L1.length := by
    rw [List.map_append, List.map_cons]
    have := findEq_at (x := t.m) (l1 := L1.map (·.m)) (l2 := L2.map (·.m)) (by
      intro hm
      obtain ⟨u, hu, e⟩ := List.mem_map.mp hm
      exact hn u hu e)
    rw [this]
    simp
  have e4 : (encG (L1 ++ t :: L2)).eraseIdx L1.length = encG (L1 ++ L2) := by
    unfold encG
    rw [List.map_append, List.map_cons, List.eraseIdx_append_of_length_le (by simp)]
    simp
  simp only [methD, mRemove, lstOf_lst h, e1, e2, e3, e4]
theorem first_split {α : Type} {p : α → Bool} : ∀ {L : List α}, (∃ t ∈ L, p t = true) → ∃ t r, L.filter p = t :: r ∧ t ∈ L ∧ p t = true
  | L, ⟨t, ht, hp⟩ => by
    cases e : L.filter p with
    | nil =>
      have := List.mem_filter.mpr ⟨ht, hp⟩
      rw [e] at this
      cases this
    | cons u r =>
      have : u ∈ L.filter p := by rw [e]; exact .head _
      rw [List.mem_filter] at this
      exact ⟨u, r, rfl, this⟩
theorem wp_ix0 {d x : D} {xs : List D} (hd : seqOf S d = some (x :: xs)) : wR (ixD d (.int 0) S) Q ↔ Q x S := wp_ix (i := 0) hd rfl
/-- another one left is ahead of it -/
def busy (h : List Cl) (L : List Gr) (t : Gr) : Bool := (L.filterMap fun u => if u.m = t.m then none else some (ahead h u.m t.m)).any id
theorem busy_iff {h : List Cl} {L : List Gr} {t : Gr} : busy h L t = true ↔ ∃ u ∈ L, u.m ≠ t.m ∧ ahead h u.m t.m = true := by
  unfold busy
  rw [List.any_eq_true]
  constructor
  · rintro ⟨b, hb, h2⟩
    obtain ⟨u, hu, h3⟩ := List.mem_filterMap.mp hb
    split at h3
    · cases h3
    · rename_i e
      cases h3
      exact ⟨u, hu, e, h2⟩
  · rintro ⟨u, hu, e, h2⟩
    exact ⟨true, List.mem_filterMap.mpr ⟨u, hu, by rw [if_neg e, h2]⟩, rfl⟩
theorem free_eq (h : List Cl) (L : List Gr) (p : Gr → Bool) : (L.filterMap fun t => if p t = true then none else some (D.ref t.a)) = encG (L.filter fun t => !p t) := by
  induction L with
  | nil => rfl
  | cons i g ih =>
    rw [List.filterMap_cons, List.filter_cons, ih]
    cases p i <;> simp
theorem s_name_order {h : List Cl} {gs : List Gr} {g : Nat} (hS : S[g]? = some (.lst (encG gs))) (hr : ∀ t ∈ gs, S[t.a]? = some (.lst (encI t.m)) ∧ GOk h t.m ∧ t.m ≠ [] ∧ t.m.length ≤ 20) (hl : gs.length ≤ 7) (nd : (gs.map (·.m)).Nodup)
    (anti : ∀ p ∈ gs, ∀ r ∈ gs, p.m ≠ r.m → ahead h p.m r.m = true → ahead h r.m p.m = false)
    (q : ∀ m S' gs', Fr S S' → S[m]? = none → gs'.Perm gs → Lined h gs' → S'[m]? = some (.lst (encI (gs'.flatMap fun t => tl h t.m))) → Q (.ref m) S') : wR (C (k + 3) (Str.ofString "name_order") [encH h, .ref g] S) Q := by
  refine w_fn fn_name_order rfl ?_
  simp [f_name_order, startEnv, lim, seqOf_lst hS, -Bool.exists_bool]
  have c0 : C = fun k => callN fns con 8 k := rfl
  refine w_while gs.length (show gs.length < 8 by omega) (I := fun m δ S' => ∃ L gs' a, δ = [some (encH h), some (.ref g), some (.ref S.length), some (.ref (S.length + 1)), a, none, none] ∧ Fr S S' ∧ S'[S.length]? = some (.lst (encG L)) ∧ S'[S.length + 1]? = some (.lst (encI (gs'.flatMap fun t => tl h t.m))) ∧
    m = L.length ∧ (gs' ++ L).Perm gs ∧ Lined h gs' ∧ ∀ p ∈ gs', ∀ r ∈ L, ahead h r.m p.m = false) ?_ ?_
  · refine ⟨gs, [], none, by simp, Fr.app, by simp, by simp, rfl, by simp, by simp, by simp⟩
  rintro m δ S' ⟨L, gs', a, rfl, f, hL, hF, rfl, pm, ln, hah⟩
  have Lgs : ∀ t ∈ L, t ∈ gs := fun t ht => pm.mem_iff.mp (List.mem_append_right _ ht)
  have gl : gs'.length + L.length ≤ 7 := by
    have := pm.length_eq
    simp at this
    omega
  simp [lenOf_lst hL, -Bool.exists_bool]
  by_cases hne : L = []
  · subst hne
    simp
    rw [List.append_nil] at pm
    exact q _ _ _ f (by simp) pm ln hF
  have pos : 0 < L.length := List.length_pos_iff.mpr hne
  simp only [pos, decide_true, if_true]
  obtain ⟨m', hm'⟩ : ∃ m', L.length = m' + 1 := ⟨L.length - 1, by omega⟩
  refine ⟨m', hm', ?_⟩
  have lim7 : L.length ≤ lim := by unfold lim; omega
  have LS : ∀ {S3 : Store}, Fr S' S3 → ∀ t ∈ L, S3[t.a]? = some (.lst (encI t.m)) := fun f3 t ht => f3 _ _ (f _ _ (hr t (Lgs t ht)).1)
  refine w_lc L (fun t => .ref t.a) (fun t => if busy h L t = true then none else some (.ref t.a)) (by exact lock_lst rfl hL) ?_ lim7 (fun t ht S2 f2 => ?_) fun S2 fr f2 hfn hfr => ?_
  · simp [keysOf_lst hL, chk_one1 hL, Fr.refl]
  · have hL2 := f2 _ _ hL
    simp [wipe, Tg.put, -Bool.exists_bool]
    refine w_anyC L (fun t => .ref t.a) (fun u => if u.m = t.m then none else some (ahead h u.m t.m)) (by exact lock_lst rfl hL2) ?_ lim7 (fun u hu S3 f3 => ?_) fun S3 f3 => ?_
    · simp [keysOf_lst hL2, chk_one1 hL2, Fr.refl]
    · have hu3 := LS (f2.trans f3) u hu
      have ht3 := LS (f2.trans f3) t ht
      simp [wipe, Tg.put, cmp_ne_I hu3 ht3, -Bool.exists_bool]
      by_cases e : u.m = t.m
      · simp [e, Fr.refl]
      · simp [e, -Bool.exists_bool]
        obtain ⟨_, u2, u3, u4⟩ := hr u (Lgs u hu)
        obtain ⟨_, t2, t3, t4⟩ := hr t (Lgs t ht)
        refine s_is_ahead u2 t2 hu3 ht3 (by unfold lim; omega) (by unfold lim; omega) t3 fun S4 f4 => ?_
        exact ⟨rfl, f4⟩
    · rw [show (L.filterMap fun u => if u.m = t.m then none else some (ahead h u.m t.m)).any id = busy h L t from rfl]
      cases busy h L t <;> simp [f3]
  rw [free_eq h] at hfr
  obtain ⟨t0, ht0, hfree⟩ := exists_free hne (fun t ht => (hr t (Lgs t ht)).2.2.1) (fun p hp r hr' => anti p (Lgs p hp) r (Lgs r hr'))
  have nb : ∃ t ∈ L, (!busy h L t) = true := ⟨t0, ht0, by
    rw [Bool.not_eq_true', ← Bool.not_eq_true, busy_iff]
    rintro ⟨u, hu, h1, h2⟩
    rw [hfree u hu h1] at h2
    cases h2⟩
  obtain ⟨t, rst, e1, ht, hb⟩ := first_split nb
  rw [e1] at hfr
  rw [Bool.not_eq_true', ← Bool.not_eq_true, busy_iff] at hb
  have hfree2 : ∀ u ∈ L, u.m ≠ t.m → ahead h u.m t.m = false := fun u hu h1 => by
    cases ea : ahead h u.m t.m with
    | false => rfl
    | true => exact absurd ⟨u, hu, h1, ea⟩ hb
  have hF2 := f2 _ _ hF
  obtain ⟨_, t2, t3, t4⟩ := hr t (Lgs t ht)
  have p0 : ∀ {S3 : Store} {Q : D → Store → Prop}, Fr S2 S3 → (wR (ixD (.ref fr) (.int 0) S3) Q ↔ Q (.ref t.a) S3) := fun f3 => wp_ix (i := 0) (seqOf_lst (f3 _ _ hfr)) rfl
  refine ⟨recv_ext hF2, ?_⟩
  rw [p0 Fr.refl]
  refine s_tail t2 (LS f2 t ht) (by omega) fun n S3 f3 hn1 hn => ?_
  have hF3 := f3 _ _ hF2
  have lF : (gs'.flatMap fun t => tl h t.m).length ≤ gs'.length * 40 := fm_len gs' fun u hu => (hr u (pm.mem_iff.mp (List.mem_append_left _ hu))).2.2.2
  have lT := tl_len (h := h) (g := t.m)
  rw [m_ext hF3 hn (by simp [lim]; simp at lF; omega)]
  simp only [wR_ok]
  have nL : S.length + 1 ≠ S.length := by omega
  have hL3 := f3 _ _ (f2 _ _ hL)
  have nn : n ≠ S.length + 1 := fun e => by rw [e, hF2] at hn1; cases hn1
  have nfr : fr ≠ S.length + 1 := fun e => by rw [e, hF] at hfn; cases hfn
  have hL4 : (S3.set (S.length + 1) (.lst (encI (gs'.flatMap fun t => tl h t.m) ++ encI (tl h t.m))))[S.length]? = some (.lst (encG L)) := by
    rw [List.getElem?_set_ne nL]
    exact hL3
  have hfr4 : (S3.set (S.length + 1) (.lst (encI (gs'.flatMap fun t => tl h t.m) ++ encI (tl h t.m))))[fr]? = some (.lst (encG (t :: rst))) := by
    rw [List.getElem?_set_ne nfr.symm]
    exact f3 _ _ hfr
  have hF4 : (S3.set (S.length + 1) (.lst (encI (gs'.flatMap fun t => tl h t.m) ++ encI (tl h t.m))))[S.length + 1]? = some (.lst (encI (gs'.flatMap fun t => tl h t.m) ++ encI (tl h t.m))) := get_set hF3
  have f4 : Fr S (S3.set (S.length + 1) (.lst (encI (gs'.flatMap fun t => tl h t.m) ++ encI (tl h t.m)))) := ((f.trans f2).trans f3).set (List.getElem?_eq_none (by omega))
  generalize S3.set (S.length + 1) (.lst (encI (gs'.flatMap fun t => tl h t.m) ++ encI (tl h t.m))) = S4 at hL4 hfr4 hF4 f4
  refine ⟨recv_rem' hL4, ?_⟩
  rw [wp_ix0 (seqOf_lst hfr4)]
  obtain ⟨L1, L2, eL⟩ := List.append_of_mem ht
  have ndL : (L.map (·.m)).Nodup := by
    have := (pm.map (·.m)).nodup_iff.mpr nd
    rw [List.map_append, List.nodup_append] at this
    exact this.2.1
  have hno : ∀ u ∈ L1, u.m ≠ t.m := fun u hu e => by
    rw [eL, List.map_append, List.map_cons, List.nodup_append] at ndL
    exact ndL.2.2 u.m (List.mem_map.mpr ⟨u, hu, rfl⟩) t.m (.head _) e
  rw [eL] at hL4
  rw [m_rem hL4 (fun u hu => f4 _ _ (hr u (Lgs u (by rw [eL]; exact hu))).1) hno, wR_ok]
  have sub : ∀ u ∈ L1 ++ L2, u ∈ L := fun u hu => by
    rw [eL]
    simp at hu ⊢
    rcases hu with hu | hu
    · exact .inl hu
    · exact .inr (.inr hu)
  have pm2 : (gs' ++ [t] ++ (L1 ++ L2)).Perm gs := by
    refine List.Perm.trans ?_ pm
    rw [eL, List.append_assoc]
    refine List.Perm.append_left gs' ?_
    exact (List.perm_middle (a := t) (l₁ := L1) (l₂ := L2)).symm
  simp [-Bool.exists_bool]
  refine ⟨f4.set (by simp), L1 ++ L2, by rw [get_set hL4]; simp, gs' ++ [t], ?_, ?_, pm2, ?_, ?_⟩
  · rw [hF4]
    simp
  · have : L.length = L1.length + L2.length + 1 := by rw [eL]; simp; omega
    simp
    omega
  · unfold Lined
    rw [List.pairwise_append]
    refine ⟨ln, by simp, fun p hp u hu => ?_⟩
    simp at hu
    subst hu
    exact hah p hp u ht
  · intro p hp u hu
    have uL := sub u (by simpa using hu)
    rcases List.mem_append.mp hp with hp | hp
    · exact hah p hp u uL
    · simp at hp
      subst hp
      refine hfree2 u uL fun e => ?_
      rw [eL, List.map_append, List.map_cons, List.nodup_append, List.nodup_cons] at ndL
      simp at hu
      rcases hu with hu | hu
      · exact hno u hu e
      · exact ndL.2.1.1 (by rw [← e]; exact List.mem_map.mpr ⟨u, hu, rfl⟩)
end
end K47
set_option Elab.async false
set_option linter.all false
set_option maxRecDepth 100000
set_option maxHeartbeats 1000000
/-! k47, plain. Part O: groups in a row are a right order. -/
namespace K47
open PySem Ev
theorem mem_tl {h : List Cl} {g : List Nat} {i : Nat} : i ∈ tl h g ↔ i ∈ g := by
  unfold tl
  rw [List.mem_append, List.mem_filter, List.mem_map]
  constructor
  · rintro (⟨h1, _⟩ | ⟨p, hp, rfl⟩)
    · exact h1
    · obtain ⟨i, hi, _, rfl⟩ := rdPs_mem.mp (List.mem_mergeSort.mp hp)
      simpa using hi
  · intro hi
    cases e : wAt h i with
    | true => exact .inl ⟨hi, rfl⟩
    | false => exact .inr ⟨(begOf h i, (i : Int)), List.mem_mergeSort.mpr (rdPs_mem.mpr ⟨i, hi, e, rfl⟩), by simp⟩
theorem mem_rs {h : List Cl} {g : List Nat} {i : Nat} : i ∈ ((rdPs h g).mergeSort pairLe).map (fun p => p.2.toNat) ↔ i ∈ g ∧ wAt h i = false := by
  rw [List.mem_map]
  constructor
  · rintro ⟨p, hp, rfl⟩
    obtain ⟨i, hi, h2, rfl⟩ := rdPs_mem.mp (List.mem_mergeSort.mp hp)
    simpa using ⟨hi, h2⟩
  · rintro ⟨hi, e⟩
    exact ⟨(begOf h i, (i : Int)), List.mem_mergeSort.mpr (rdPs_mem.mpr ⟨i, hi, e, rfl⟩), by simp⟩
theorem tl_nodup {h : List Cl} {g : List Nat} (nd : g.Nodup) : (tl h g).Nodup := by
  unfold tl
  rw [List.nodup_append]
  refine ⟨List.filter_sublist.nodup nd, ?_, ?_⟩
  · have e : (((rdPs h g).mergeSort pairLe).map fun p => p.2.toNat).Perm (g.filter fun i => !wAt h i) := by
      refine ((List.mergeSort_perm _ _).map _).trans ?_
      unfold rdPs
      rw [List.map_map]
      have : ((fun p : Int × Int => p.2.toNat) ∘ fun (i : Nat) => (begOf h i, (i : Int))) = id := by
        funext i
        simp
      rw [this, List.map_id]
    rw [e.nodup_iff]
    exact List.filter_sublist.nodup nd
  · intro a ha b hb e
    subst e
    rw [List.mem_filter] at ha
    have := (mem_rs.mp hb).2
    rw [ha.2] at this
    cases this
/-- writes stand ahead of reads -/
theorem tl_wr {h : List Cl} {g : List Nat} : (tl h g).Pairwise fun a b => wAt h b = true → wAt h a = true := by
  unfold tl
  rw [List.pairwise_append]
  refine ⟨?_, ?_, ?_⟩
  · refine List.Pairwise.imp_of_mem (R := fun _ _ => True) (fun {a b} ha hb _ _ => (List.mem_filter.mp ha).2) ?_
    exact List.pairwise_of_forall fun _ _ => trivial
  · refine List.Pairwise.imp_of_mem (R := fun _ _ => True) (fun {a b} ha hb _ h2 => ?_) (List.pairwise_of_forall fun _ _ => trivial)
    rw [(mem_rs.mp hb).2] at h2
    cases h2
  · intro a ha b hb _
    exact (List.mem_filter.mp ha).2
theorem tl_sorted {h : List Cl} {g : List Nat} : (((rdPs h g).mergeSort pairLe).map fun p => p.2.toNat).Pairwise fun a b => begOf h a ≤ begOf h b := by
  rw [List.pairwise_map]
  refine List.Pairwise.imp_of_mem (fun {a b} ha hb hab => ?_) (List.pairwise_mergeSort pairLe_trans1 pairLe_total1 (rdPs h g))
  obtain ⟨i, _, _, rfl⟩ := rdPs_mem.mp (List.mem_mergeSort.mp ha)
  obtain ⟨j, _, _, rfl⟩ := rdPs_mem.mp (List.mem_mergeSort.mp hb)
  simp [pairLe] at hab ⊢
  omega
/-- not behind: the first may stand ahead of the second -/
def Nb (h : List Cl) (i j : Nat) : Prop := ∀ x y, h[i]? = some x → h[j]? = some y → y.nm = x.nm → ∀ e, y.e = some e → x.b ≤ e
theorem wAt_at {h : List Cl} {i : Nat} {x : Cl} (hx : h[i]? = some x) : wAt h i = x.w := by simp [wAt, hx]
theorem tl_nb {h : List Cl} (hk : HOk h) (sb : SB h .non) {p : Key × List Nat} (hp : p ∈ groups h) : (tl h p.2).Pairwise (Nb h) := by
  have un : ∀ i j x y, i ∈ p.2 → j ∈ p.2 → h[i]? = some x → h[j]? = some y → x.w = true → y.w = true → x = y := fun i j x y hi hj hx hy xw yw => by
    obtain ⟨x', hx', _, kx⟩ := gr_at hp hi
    obtain ⟨y', hy', _, ky⟩ := gr_at hp hj
    rw [hx] at hx'
    rw [hy] at hy'
    cases hx'
    cases hy'
    exact hk.uniq (List.mem_of_getElem? hx) (List.mem_of_getElem? hy) xw yw (by rw [kx, ky])
  have be : ∀ j (y : Cl), h[j]? = some y → ∀ e, y.e = some e → y.b < e := fun j y hy e he => (hk.cl y (List.mem_of_getElem? hy)).en e he
  unfold tl
  rw [List.pairwise_append]
  refine ⟨?_, ?_, ?_⟩
  · refine List.Pairwise.imp_of_mem (fun {a b} ha hb hab => ?_) (((groups_ok h).asc p hp).filter _)
    intro x y hx hy _ e he
    rw [List.mem_filter] at ha hb
    have e1 := un a b x y ha.1 hb.1 hx hy (by rw [← wAt_at hx]; exact ha.2) (by rw [← wAt_at hy]; exact hb.2)
    subst e1
    have := be _ _ hx e he
    omega
  · refine List.Pairwise.imp_of_mem (fun {a b} ha hb hab => ?_) tl_sorted
    intro x y hx hy _ e he
    rw [beg_at hx, beg_at hy] at hab
    have := be _ _ hy e he
    omega
  · intro a ha b hb x y hx hy _ e he
    rw [List.mem_filter] at ha
    have hb := mem_rs.mp hb
    obtain ⟨x', hx', cx, kx⟩ := gr_at hp ha.1
    obtain ⟨y', hy', cy, ky⟩ := gr_at hp hb.1
    rw [hx] at hx'
    rw [hy] at hy'
    cases hx'
    cases hy'
    have xw : x.w = true := by rw [← wAt_at hx]; exact ha.2
    have yw : y.w = false := by rw [← wAt_at hy]; exact hb.2
    have kk : key x = key y := kx.trans ky.symm
    have kt : x.told = y.told := congrArg Prod.snd kk
    have xm := List.mem_of_getElem? hx
    have ym := List.mem_of_getElem? hy
    have yt : told y = true := by
      simp [told, yw, he]
      rw [← kt]
      exact (hk.cl x xm).wr xw
    cases sb with
    | non sb =>
      obtain ⟨j, w, hj, ww, hs, h2⟩ := sb y ym yt
      simp only [same, Bool.and_eq_true, decide_eq_true_eq] at hs
      have : w = x := hk.uniq (List.mem_of_getElem? hj) xm ww xw (by
        rw [kk]
        exact Prod.ext hs.1 hs.2)
      subst this
      exact h2 e he
/-- all groups, one behind another -/
structure Blocks (h : List Cl) (bs : PG) : Prop where
  mem : ∀ p, p ∈ bs ↔ p ∈ groups h
  nd : (bs.map (·.1)).Nodup
  ln : bs.Pairwise fun p r => p.1.1 = r.1.1 → ahead h r.2 p.2 = false ∧ r.1.2 ≠ .non
abbrev rowOf (h : List Cl) (bs : PG) : List Nat := bs.flatMap fun p => tl h p.2
theorem flatMap_split {α β : Type} {f : α → List β} : ∀ {bs : List α} {pre post : List β} {i : β}, bs.flatMap f = pre ++ i :: post → ∃ B1 p B2 t1 t2, bs = B1 ++ p :: B2 ∧ f p = t1 ++ i :: t2 ∧ pre = B1.flatMap f ++ t1 ∧ post = t2 ++ B2.flatMap f
  | [], pre, post, i, e => by simp at e
  | p :: bs, pre, post, i, e => by
    rw [List.flatMap_cons, List.append_eq_append_iff] at e
    rcases e with ⟨a, h1, h2⟩ | ⟨a, h1, h2⟩
    · obtain ⟨B1, q, B2, t1, t2, e1, e2, e3, e4⟩ := flatMap_split h2
      exact ⟨p :: B1, q, B2, t1, t2, by rw [e1]; rfl, e2, by rw [h1, e3]; simp, e4⟩
    · cases a with
      | nil =>
        simp at h1 h2
        obtain ⟨B1, q, B2, t1, t2, e1, e2, e3, e4⟩ := flatMap_split (bs := bs) (pre := []) h2.symm
        exact ⟨p :: B1, q, B2, t1, t2, by rw [e1]; rfl, e2, by rw [List.flatMap_cons, List.append_assoc, ← e3, h1]; simp, e4⟩
      | cons b a =>
        simp at h2
        obtain ⟨rfl, h2⟩ := h2
        exact ⟨[], p, bs, pre, a, rfl, h1, by simp, h2⟩
theorem last_none {h : List Cl} {nm : Str} : ∀ {b : List Nat} {v : D}, (∀ j ∈ b, ∀ y, h[j]? = some y → y.w = true → y.nm = nm → False) → b.foldl (stepW' h nm) v = v
  | [], v, _ => rfl
  | j :: b, v, H => by
    rw [List.foldl_cons]
    have : stepW' h nm v j = v := by
      unfold stepW'
      split
      · rename_i y hy
        split
        · rename_i e
          exact (H j (.head _) y hy e.1 e.2).elim
        · rfl
      · rfl
    rw [this]
    exact last_none fun i hi => H i (.tail _ hi)
theorem last_all {h : List Cl} {nm : Str} {v : D} : ∀ {b : List Nat} {v0 : D}, (∀ j ∈ b, ∀ y, h[j]? = some y → y.w = true → y.nm = nm → y.told = v) → (v0 = v ∨ ∃ j ∈ b, ∃ y, h[j]? = some y ∧ y.w = true ∧ y.nm = nm) → b.foldl (stepW' h nm) v0 = v
  | [], v0, _, h2 => by
    rcases h2 with h2 | ⟨j, hj, _⟩
    · exact h2
    · cases hj
  | j :: b, v0, H, h2 => by
    rw [List.foldl_cons]
    refine last_all (fun i hi => H i (.tail _ hi)) ?_
    by_cases hj : ∃ y, h[j]? = some y ∧ y.w = true ∧ y.nm = nm
    · obtain ⟨y, hy, yw, yn⟩ := hj
      left
      simp only [stepW', hy]
      rw [if_pos ⟨yw, yn⟩]
      exact H j (.head _) y hy yw yn
    · rcases h2 with h2 | ⟨i, hi, h3⟩
      · left
        unfold stepW'
        split
        · rename_i y hy
          rw [if_neg fun e => hj ⟨y, hy, e⟩]
          exact h2
        · exact h2
      · rcases List.mem_cons.mp hi with rfl | hi
        · exact absurd h3 hj
        · exact .inr ⟨i, hi, h3⟩
theorem blocks_ord {h : List Cl} (hk : HOk h) {bs : PG} (B : Blocks h bs) (sb : SB h .non) : OrdI h (rowOf h bs) := by
  have I := groups_ok h
  have mg : ∀ i p, p ∈ bs → i ∈ tl h p.2 → ∃ x, h[i]? = some x ∧ cnt h x = true ∧ key x = p.1 := fun i p hp hi => gr_at ((B.mem p).mp hp) (mem_tl.mp hi)
  refine ⟨fun i hi => ?_, ?_, fun i x hx xe => ?_, fun pre i post x e hx => ?_⟩
  · obtain ⟨p, hp, hi⟩ := List.mem_flatMap.mp hi
    obtain ⟨x, hx, _⟩ := mg i p hp hi
    exact (List.getElem?_eq_some_iff.mp hx).1
  · unfold List.Nodup rowOf
    rw [List.pairwise_flatMap]
    refine ⟨fun p hp => tl_nodup ((I.asc p ((B.mem p).mp hp)).imp fun h => Nat.ne_of_lt h), ?_⟩
    have := B.nd
    unfold List.Nodup at this
    rw [List.pairwise_map] at this
    refine List.Pairwise.imp_of_mem (fun {p r} hp hr hpr i hi j hj e => ?_) this
    subst e
    obtain ⟨x, hx, _, kx⟩ := mg i p hp hi
    obtain ⟨y, hy, _, ky⟩ := mg i r hr hj
    rw [hx] at hy
    cases hy
    exact hpr (kx.symm.trans ky)
  · have hc : cnt h x = true := by
      cases ee : x.e with
      | none => exact absurd ee xe
      | some e => simp [cnt, ee]
    obtain ⟨p, hp, hi, _⟩ := gr_has hx hc
    exact List.mem_flatMap.mpr ⟨p, (B.mem p).mpr hp, mem_tl.mpr hi⟩
  · have nb : (rowOf h bs).Pairwise (Nb h) := by
      unfold rowOf
      rw [List.pairwise_flatMap]
      refine ⟨fun p hp => tl_nb hk sb ((B.mem p).mp hp), List.Pairwise.imp_of_mem (fun {p r} hp hr hpr i hi j hj => ?_) B.ln⟩
      intro x y hx hy hn e he
      obtain ⟨x', hx', _, kx⟩ := mg i p hp hi
      obtain ⟨y', hy', _, ky⟩ := mg j r hr hj
      rw [hx] at hx'
      rw [hy] at hy'
      cases hx'
      cases hy'
      have kn : p.1.1 = r.1.1 := by rw [← kx, ← ky]; exact hn.symm
      have ha := (hpr kn).1
      apply Int.not_lt.mp
      intro hlt
      have : ahead h r.2 p.2 = true := ahead_iff.mpr ⟨j, mem_tl.mp hj, e, by rw [end_at hy, he], i, mem_tl.mp hi, by rw [beg_at hx]; exact hlt⟩
      rw [ha] at this
      cases this
    rw [e, List.pairwise_append, List.pairwise_cons] at nb
    refine ⟨fun xw => ?_, fun j hj y hy hn e he => nb.2.1.1 j hj x y hx hy hn e he⟩
    obtain ⟨B1, p, B2, t1, t2, e1, e2, e3, e4⟩ := flatMap_split e
    have hp : p ∈ bs := by rw [e1]; simp
    have hpg := (B.mem p).mp hp
    have hi : i ∈ tl h p.2 := by rw [e2]; simp
    obtain ⟨x', hx', cx, kx⟩ := mg i p hp hi
    rw [hx] at hx'
    cases hx'
    refine ⟨cnt_read cx xw, ?_⟩
    have xm := List.mem_of_getElem? hx
    have B1p : ∀ r ∈ B1, r ∈ bs ∧ (r.1.1 = p.1.1 → p.1.2 ≠ .non) := fun r hr => by
      refine ⟨by rw [e1]; simp [hr], fun hn => ?_⟩
      have := B.ln
      rw [e1, List.pairwise_append] at this
      exact (this.2.2 r hr p (.head _) hn).2
    rw [e3]
    by_cases hnn : p.1.2 = .non
    · have xt : x.told = .non := by rw [← hnn, ← kx]
      rw [xt]
      unfold lastW
      rw [last_none]
      intro j hj y hy yw yn
      rcases List.mem_append.mp hj with hj | hj
      · obtain ⟨r, hr, hj⟩ := List.mem_flatMap.mp hj
        obtain ⟨y', hy', _, ky⟩ := mg j r (B1p r hr).1 hj
        rw [hy] at hy'
        cases hy'
        exact (B1p r hr).2 (by rw [← ky, ← kx]; exact yn) hnn
      · obtain ⟨y', hy', _, ky⟩ := mg j p hp (by rw [e2]; simp [hj])
        rw [hy] at hy'
        cases hy'
        have yt : y.told = .non := by rw [← hnn, ← ky]
        exact (hk.cl y (List.mem_of_getElem? hy)).wr yw yt
    · have xt : x.told = p.1.2 := by rw [← kx]
      have ht : told x = true := by
        have := cnt_read cx xw
        simp only [told, xw, Bool.not_false, Bool.true_and, Bool.and_eq_true, Bool.not_eq_true', decide_eq_false_iff_not]
        refine ⟨?_, by rw [xt]; exact hnn⟩
        cases ee : x.e with
        | none => exact absurd ee this
        | some _ => rfl
      cases sb with
      | non sb =>
        obtain ⟨j, w, hj, ww, hs, _⟩ := sb x xm ht
        have hs2 := hs
        simp only [same, Bool.and_eq_true, decide_eq_true_eq] at hs2
        have kw : key w = key x := Prod.ext hs2.1 hs2.2
        have cw : cnt h w = true := by
          unfold cnt
          rw [Bool.or_eq_true, Bool.and_eq_true, List.any_eq_true]
          refine .inr ⟨ww, x, xm, ?_⟩
          simp only [told, Bool.and_eq_true] at ht
          simp [xw, ht.2.1, same, hs2]
        obtain ⟨r, hr, hjr, hrk⟩ := gr_has hj cw
        have : r = p := nodup_key hr hpg (by rw [hrk, kw, kx])
        subst this
        have jt : j ∈ t1 := by
          have h1 := mem_tl (h := h).mpr hjr
          have h2 := tl_wr (h := h) (g := r.2)
          rw [e2] at h1 h2
          rcases List.mem_append.mp h1 with h1 | h1
          · exact h1
          · exfalso
            have wj : wAt h j = true := by rw [wAt_at hj]; exact ww
            have wi : wAt h i = false := by rw [wAt_at hx]; exact xw
            rcases List.mem_cons.mp h1 with h1 | h1
            · rw [h1, wi] at wj
              cases wj
            · rw [List.pairwise_append, List.pairwise_cons] at h2
              have := h2.2.1.1 j h1 wj
              rw [wi] at this
              cases this
        unfold lastW
        rw [List.foldl_append, last_all (v := x.told)]
        · intro j' hj' y hy yw yn
          obtain ⟨y', hy', _, ky⟩ := mg j' r hp (by rw [e2]; simp [hj'])
          rw [hy] at hy'
          cases hy'
          rw [xt, ← ky]
        · exact .inr ⟨j, jt, w, hj, ww, hs2.1⟩
end K47
set_option Elab.async false
set_option linter.all false
set_option maxRecDepth 100000
set_option maxHeartbeats 1000000
/-! k47, plain. Part Y: right_order answers. -/
namespace K47
open PySem Ev
theorem putK_old {kvs : List (D × D)} {k v v' : D} (h : ∃ v', (k, v') ∈ kvs ∧ v' = v) (nd : (kvs.map (·.1)).Nodup) : putK kvs k v = kvs := by
  obtain ⟨v', h, rfl⟩ := h
  induction kvs with
  | nil => cases h
  | cons q r ih =>
    simp only [List.map_cons, List.nodup_cons] at nd
    unfold putK
    by_cases e : q.1 = k
    · rw [if_pos e]
      rcases List.mem_cons.mp h with h | h
      · rw [← h]
      · exact absurd (List.mem_map.mpr ⟨_, h, e.symm⟩) nd.1
    · rw [if_neg e]
      rcases List.mem_cons.mp h with h | h
      · exact absurd (by rw [← h]) e
      · rw [ih nd.2 h]
abbrev setKv (v : D) (ks : List Str) : List (D × D) := ks.map fun x => (.str x, v)
theorem setKv_keys {v : D} {ks : List Str} : (setKv v ks).map (·.1) = ks.map D.str := by
  unfold setKv
  rw [List.map_map]
  rfl
theorem nodup_str {ks : List Str} (nd : ks.Nodup) : (ks.map D.str).Nodup := by
  unfold List.Nodup at *
  rw [List.pairwise_map]
  exact nd.imp fun h e => h (by cases e; rfl)
theorem putAll_set {α : Type} {f : α → Str} {v : D} : ∀ (ys : List α) (ks : List Str), ks.Nodup → ∃ ks' : List Str, putAll (fun y => .str (f y)) (fun _ => v) ys (setKv v ks) = setKv v ks' ∧ ks'.Nodup ∧ (∀ x, x ∈ ks' ↔ x ∈ ks ∨ ∃ y ∈ ys, f y = x) ∧ ks'.length ≤ ks.length + ys.length
  | [], ks, nd => ⟨ks, rfl, nd, by simp, by simp⟩
  | y :: ys, ks, nd => by
    have e : putAll (fun y => D.str (f y)) (fun _ => v) (y :: ys) (setKv v ks) = putAll (fun y => D.str (f y)) (fun _ => v) ys (putK (setKv v ks) (.str (f y)) v) := rfl
    rw [e]
    by_cases hy : f y ∈ ks
    · rw [putK_old (v' := v) ⟨v, List.mem_map.mpr ⟨_, hy, rfl⟩, rfl⟩ (by rw [setKv_keys]; exact nodup_str nd)]
      obtain ⟨ks', h1, h2, h3, h4⟩ := putAll_set (f := f) (v := v) ys ks nd
      refine ⟨ks', h1, h2, fun x => ?_, by simp; omega⟩
      rw [h3]
      constructor
      · rintro (h | ⟨z, hz, rfl⟩)
        · exact .inl h
        · exact .inr ⟨z, .tail _ hz, rfl⟩
      · rintro (h | ⟨z, hz, rfl⟩)
        · exact .inl h
        · rcases List.mem_cons.mp hz with rfl | hz
          · exact .inl hy
          · exact .inr ⟨z, hz, rfl⟩
    · have e2 : putK (setKv v ks) (.str (f y)) v = setKv v (ks ++ [f y]) := by
        rw [putK_new1]
        · simp
        · intro p hp e
          obtain ⟨x, hx, rfl⟩ := List.mem_map.mp hp
          simp at e
          exact hy (e ▸ hx)
      rw [e2]
      obtain ⟨ks', h1, h2, h3, h4⟩ := putAll_set (f := f) (v := v) ys (ks ++ [f y]) (by
        rw [List.nodup_append]
        refine ⟨nd, by simp, fun a ha b hb e => ?_⟩
        simp at hb
        subst hb
        exact hy (e ▸ ha))
      refine ⟨ks', h1, h2, fun x => ?_, by simp at h4 ⊢; omega⟩
      rw [h3]
      constructor
      · rintro (h | ⟨z, hz, rfl⟩)
        · rcases List.mem_append.mp h with h | h
          · exact .inl h
          · simp at h
            exact .inr ⟨y, .head _, h.symm⟩
        · exact .inr ⟨z, .tail _ hz, rfl⟩
      · rintro (h | ⟨z, hz, rfl⟩)
        · exact .inl (List.mem_append_left _ h)
        · rcases List.mem_cons.mp hz with rfl | hz
          · exact .inl (by simp)
          · exact .inr ⟨z, hz, rfl⟩
theorem gr_len {h : List Cl} {G : List Gr} (e : plainG G = groups h) : G.length ≤ h.length := by
  have := foldl_len (h := h) h.zipIdx []
  have e2 : (plainG G).length = G.length := plain_len G
  rw [e] at e2
  unfold groups groupsP at e2
  simp at this
  omega
theorem tl_nil {h : List Cl} : tl h [] = [] := by simp [tl, rdPs]
/-- the groups that were put in a row, of the names that are done -/
structure Part (h : List Cl) (done : List Str) (bs : PG) : Prop where
  mem : ∀ p, p ∈ bs ↔ p ∈ groups h ∧ p.1.1 ∈ done
  nd : (bs.map (·.1)).Nodup
  ln : bs.Pairwise fun p r => p.1.1 = r.1.1 → ahead h r.2 p.2 = false ∧ r.1.2 ≠ .non
/-- one more name: its group of nothing, then its groups in line -/
theorem Part.next {h : List Cl} {done : List Str} {bs N : PG} {gs : List Gr} {nm : Str} (P : Part h done bs) (hn : nm ∉ done) (hN : ∀ p, p ∈ N ↔ p ∈ groups h ∧ p.1 = (nm, .non)) (lN : N.length ≤ 1)
    (hg : ∀ p, p ∈ plainG gs ↔ p ∈ groups h ∧ p.1.1 = nm ∧ p.1.2 ≠ .non) (ng : ((plainG gs).map (·.1)).Nodup) (lg : Lined h gs) (lb : LBar h .non) : Part h (done ++ [nm]) (bs ++ N ++ plainG gs) := by
  have nB : ∀ p ∈ bs, p.1.1 ≠ nm := fun p hp e => hn (e ▸ ((P.mem p).mp hp).2)
  have nN : (N.map (·.1)).Nodup ∧ N.Pairwise fun p r => p.1.1 = r.1.1 → ahead h r.2 p.2 = false ∧ r.1.2 ≠ .non := by
    match N, lN with
    | [], _ => simp
    | [_], _ => simp
  refine ⟨fun p => ?_, ?_, ?_⟩
  · rw [List.mem_append, List.mem_append, P.mem, hN, hg]
    constructor
    · rintro ((⟨h1, h2⟩ | ⟨h1, h2⟩) | ⟨h1, h2, _⟩)
      · exact ⟨h1, List.mem_append_left _ h2⟩
      · exact ⟨h1, by rw [h2]; simp⟩
      · exact ⟨h1, by rw [h2]; simp⟩
    · rintro ⟨h1, h2⟩
      rcases List.mem_append.mp h2 with h2 | h2
      · exact .inl (.inl ⟨h1, h2⟩)
      · simp at h2
        by_cases e : p.1.2 = .non
        · exact .inl (.inr ⟨h1, Prod.ext h2 e⟩)
        · exact .inr ⟨h1, h2, e⟩
  · rw [List.map_append, List.map_append, List.nodup_append, List.nodup_append]
    refine ⟨⟨P.nd, nN.1, ?_⟩, ng, ?_⟩
    · intro a ha b hb e
      subst e
      obtain ⟨p, hp, rfl⟩ := List.mem_map.mp ha
      obtain ⟨r, hr, e⟩ := List.mem_map.mp hb
      exact nB p hp (by rw [← e, ((hN r).mp hr).2])
    · intro a ha b hb e
      subst e
      obtain ⟨r, hr, e⟩ := List.mem_map.mp hb
      have := (hg r).mp hr
      rcases List.mem_append.mp ha with ha | ha
      · obtain ⟨p, hp, rfl⟩ := List.mem_map.mp ha
        exact nB p hp (by rw [← e, this.2.1])
      · obtain ⟨p, hp, rfl⟩ := List.mem_map.mp ha
        exact this.2.2 (by rw [e, ((hN p).mp hp).2])
  · rw [List.pairwise_append, List.pairwise_append]
    refine ⟨⟨P.ln, nN.2, ?_⟩, ?_, ?_⟩
    · intro p hp r hr e
      exact absurd (by rw [e, ((hN r).mp hr).2]) (nB p hp)
    · unfold plainG
      rw [List.pairwise_map]
      refine List.Pairwise.imp_of_mem (fun {p r} hp hr hpr _ => ?_) lg
      exact ⟨hpr, ((hg _).mp (List.mem_map.mpr ⟨r, hr, rfl⟩)).2.2⟩
    · intro p hp r hr e
      have h2 := (hg r).mp hr
      rcases List.mem_append.mp hp with hp | hp
      · exact absurd (by rw [e, h2.2.1]) (nB p hp)
      · have h1 := (hN p).mp hp
        cases lb with
        | non lb => exact ⟨lb r h2.1 h2.2.2 p h1.1 (by rw [h1.2, h2.2.1]), h2.2.2⟩
end K47
set_option Elab.async false
set_option linter.all false
set_option maxRecDepth 100000
set_option maxHeartbeats 1000000
/-! k47, plain. Part Z: right_order answers. -/
namespace K47
open PySem Ev
section
variable {k : Nat} {S : Store} {Q : D → Store → Prop}
def isOf (nm : Str) (t : Gr) : Bool := decide (t.k.1 = nm) && !decide (t.k.2 = .non)
theorem isOf_eq (G : List Gr) (nm : Str) : (G.filterMap fun t => if isOf nm t = true then some (encK t.k) else none) = (G.filter (isOf nm)).map fun t => encK t.k := by
  induction G with
  | nil => rfl
  | cons t G ih =>
    rw [List.filterMap_cons, List.filter_cons, ih]
    cases isOf nm t <;> simp
def Short (h : List Cl) (bs : PG) (n : Nat) : Prop := (rowOf h bs).length ≤ n
theorem s_right_order {h : List Cl} (hk : HOk h) (h6 : h.length ≤ 6) (q1 : ∀ d S', Fr S S' → d ≠ .non → RB h d → Q .non S') (q2 : ∀ m S' row, Fr S S' → S'[m]? = some (.lst (encI row)) → RB h .non → OrdI h row → Q (.ref m) S') :
    wR (C (k + 8) (Str.ofString "right_order") [encH h] S) Q := by
  refine w_fn fn_right_order rfl ?_
  simp [f_right_order, startEnv, -Bool.exists_bool]
  refine s_check_history hk fun S1 f1 => ?_
  refine s_raw_bar hk fun d S2 f2 rb => ?_
  by_cases hd : d = .non
  case neg =>
    refine ⟨true, by simp [hd], ?_⟩
    simp
    exact q1 d S2 (f1.trans f2) hd rb
  subst hd
  refine ⟨false, by simp, ?_⟩
  simp [-Bool.exists_bool]
  have rb' := rb
  rcases rb' with ⟨h1, _⟩ | ⟨_, sb, lb, cb⟩
  · exact absurd rfl h1
  refine s_groups_of hk fun S3 n G f3 _ r e => ?_
  have lG := gr_len e
  have limG : G.length ≤ lim := by unfold lim; omega
  refine w_dc_dic (n := n) (kvs := kvsOf G) G (fun t => encK t.k) (fun t => .str t.k.1) (fun _ => .bl true) r.dic (by simp [lockOf, lockAt, dicOf, r.dic]) ?_ limG ?_ (fun y hy S4 f4 => ?_) fun S4 a f4 _ ha => ?_
  · simp [keys_at (get_set r.dic)]
  · left
    intro x hx
    obtain ⟨t, _, rfl⟩ := List.mem_map.mp hx
    rfl
  · refine ⟨_, rfl, ?_⟩
    simp [wipe, Fr.refl]
  obtain ⟨ks, e1, ndk, mk, lk⟩ := putAll_set (f := fun t : Gr => t.k.1) (v := .bl true) G [] (by simp)
  have e1' : putAll (fun t : Gr => D.str t.k.1) (fun _ => D.bl true) G [] = setKv (.bl true) ks := e1
  rw [e1'] at ha
  have lk7 : ks.length ≤ 6 := by simp at lk; omega
  rw [wp_sortedD (vs := fun _ => .bl true) ha (by omega)]
  have pn := List.mergeSort_perm ks strLe
  generalize ks.mergeSort strLe = ns at pn
  have ndn : ns.Nodup := pn.nodup_iff.mpr ndk
  have mn : ∀ x, x ∈ ns ↔ ∃ t ∈ G, t.k.1 = x := fun x => by rw [pn.mem_iff, mk]; simp
  have ln6 : ns.length ≤ 6 := by rw [pn.length_eq]; exact lk7
  have r5 : GRep (S4 ++ [Ob.lst (ns.map D.str)]) n false G := ((r.fr f4).fr Fr.app)
  have hns : (S4 ++ [Ob.lst (ns.map D.str)])[S4.length]? = some (.lst (ns.map D.str)) := get_new
  have f05 : Fr S (S4 ++ [Ob.lst (ns.map D.str)]) := (((f1.trans f2).trans f3).trans f4).trans Fr.app
  generalize S4 ++ [Ob.lst (ns.map D.str)] = S5 at r5 hns f05
  generalize S4.length = nr at hns
  refine w_for_ix ns (fun _ nm => .str nm) (fun done δ S' => ∃ a b bs, δ = [some (encH h), some (.ref n), some (.ref nr), some (.ref S5.length), a, b, none] ∧ Fr S5 S' ∧ S'[S5.length]? = some (.lst (encI (rowOf h bs))) ∧ Part h done bs ∧ Short h bs (done.length * 400)) [(nr, ns.map D.str)] ?_ ?_ ?_ ?_
  · exact lock_lst rfl (Fr.app _ _ hns)
  · have h0 : (S5 ++ [Ob.lst []])[nr]? = some (.lst (ns.map D.str)) := Fr.app _ _ hns
    simp [keysOf_lst h0, map_zipIdx (f := fun nm : Str => D.str nm)]
    exact ⟨Fr.app, [], by simp, ⟨by simp, by simp, by simp⟩, by simp [Short]⟩
  · rintro δ S' ⟨a, b, bs, rfl, f6, hF, P, _⟩
    refine ⟨chk_one1 (f6 _ _ hns), ?_⟩
    simp
    refine q2 _ _ _ (f05.trans f6) hF rb (blocks_ord hk ⟨fun p => ?_, P.nd, P.ln⟩ sb)
    rw [P.mem]
    refine ⟨fun h => h.1, fun h => ⟨h, ?_⟩⟩
    rw [mn]
    rw [← e] at h
    obtain ⟨t, ht, rfl⟩ := List.mem_map.mp h
    exact ⟨t, ht, rfl⟩
  · rintro done nm rest δ S' eN ⟨a, b, bs, rfl, f6, hF, P, lB⟩
    refine ⟨chk_one1 (f6 _ _ hns), _, rfl, ?_⟩
    unfold Short at lB
    have nmn : nm ∈ ns := by rw [eN]; simp
    have nmd : nm ∉ done := fun hd => by
      rw [eN, List.nodup_append] at ndn
      exact ndn.2.2 nm hd nm (.head _) rfl
    have ld : done.length ≤ 6 := by
      rw [eN] at ln6
      simp at ln6
      omega
    obtain ⟨t0, ht0, et0⟩ := (mn nm).mp nmn
    have nmok : nmOk nm := et0 ▸ (gr_nm hk e ht0).1
    have r6 := r5.fr f6
    simp [recv_ext hF, recv_get r6.dic, lim, -Bool.exists_bool]
    have kt : tupK (encK (nm, .non)) = true := by simp [encK, tupK, nestK, nestKs]
    have ko : keyOk (kvsOf G) (encK (nm, .non)) = true := by
      unfold keyOk
      simp only [kt, Bool.true_and, Bool.or_eq_true, List.all_eq_true]
      refine .inr fun p hp => ?_
      obtain ⟨u, hu, rfl⟩ := List.mem_map.mp hp
      exact tupK_td (gr_nm hk e hu).2
    have f7 : Fr S' (S' ++ [Ob.lst []]) := Fr.app
    rw [show D.tup [D.str nm, D.non] = encK (nm, .non) from rfl, m_get2 (f7 _ _ r6.dic) ko, wR_ok]
    -- the group of nothing
    have hN : ∃ (N : PG) (ga : Nat) (gm : List Nat), (lookK (kvsOf G) (encK (nm, .non))).getD (.ref S'.length) = .ref ga ∧ (S' ++ [Ob.lst []])[ga]? = some (.lst (encI gm)) ∧ GOk h gm ∧ gm.length ≤ 20 ∧ rowOf h N = tl h gm ∧ (∀ p, p ∈ N ↔ p ∈ groups h ∧ p.1 = (nm, .non)) ∧ N.length ≤ 1 := by
      rcases gr_split (nm, .non) G with ⟨G1, t, G2, eG, hn1, ht⟩ | hn1
      · have tm : t ∈ G := by rw [eG]; simp
        obtain ⟨t1, t2, t3, _⟩ := gr_mem e tm
        refine ⟨[(t.k, t.m)], t.a, t.m, ?_, f7 _ _ (r6.lst t tm), t1, by omega, by simp, fun p => ?_, by simp⟩
        · rw [eG, look_split hn1 ht]
          rfl
        · have h2 := mem_plain tm
          rw [e] at h2
          rw [List.mem_singleton]
          constructor
          · rintro rfl
            exact ⟨h2, ht⟩
          · rintro ⟨h3, h4⟩
            exact nodup_key h3 h2 (by rw [h4]; exact ht.symm)
      · refine ⟨[], S'.length, [], ?_, by simp, (fun i hi => absurd hi List.not_mem_nil), by simp, by simp [tl_nil], fun p => ?_, by simp⟩
        · rw [look_none hn1]
          rfl
        · simp
          intro hp hy
          rw [← e] at hp
          obtain ⟨t, ht, rfl⟩ := List.mem_map.mp hp
          exact hn1 t ht hy
    obtain ⟨N, ga, gm, e2, hga, gok, g20, rN, mN, lN⟩ := hN
    rw [e2]
    refine s_tail gok hga (by omega) fun n1 S7 f8 _ hn1 => ?_
    have hF7 := f8 _ _ (f7 _ _ hF)
    have ltl := tl_len (h := h) (g := gm)
    rw [m_ext hF7 hn1 (by simp [lim]; simp at lB; omega), wR_ok]
    have f9 : Fr S5 (S7.set S5.length (.lst (encI (rowOf h bs) ++ encI (tl h gm)))) := ((f6.trans f7).trans f8).set get_len
    have hF8 : (S7.set S5.length (.lst (encI (rowOf h bs) ++ encI (tl h gm))))[S5.length]? = some (.lst (encI (rowOf h bs) ++ encI (tl h gm))) := get_set hF7
    generalize S7.set S5.length (.lst (encI (rowOf h bs) ++ encI (tl h gm))) = S8 at f9 hF8
    have r8 := r5.fr f9
    -- the name's groups
    refine w_lc_dic (n := n) (kvs := kvsOf G) G (fun t => encK t.k) (fun t => if isOf nm t = true then some (encK t.k) else none) r8.dic (by simp [lockOf, lockAt, dicOf, r8.dic]) ?_ limG (fun y hy S9 f10 => ?_) fun S9 m f10 _ hm => ?_
    · simp [keys_at (get_set r8.dic)]
    · have cn : cmpD .Eq (.str y.k.1) (.str nm) S9 = some (decide (y.k.1 = nm)) := by
        rw [cmp_eq (cln_nm (gr_nm hk e hy).1) (cln_nm nmok)]
        simp
      simp [wipe, Tg.put, cn, isOf, -Bool.exists_bool]
      by_cases h1 : y.k.1 = nm <;> by_cases h2 : y.k.2 = .non <;> simp [h1, h2, Fr.refl]
    rw [isOf_eq] at hm
    have hF9 := f10 _ _ hF8
    simp [recv_ext hF9, -Bool.exists_bool]
    have r9 := r8.fr f10
    generalize hP : G.filter (isOf nm) = gs at hm
    have PG : ∀ t ∈ gs, t ∈ G ∧ t.k.1 = nm ∧ t.k.2 ≠ .non := fun t ht => by
      rw [← hP, List.mem_filter] at ht
      simpa [isOf] using ht
    have GP : ∀ t ∈ G, t.k.1 = nm → t.k.2 ≠ .non → t ∈ gs := fun t ht h1 h2 => by
      rw [← hP, List.mem_filter]
      exact ⟨ht, by simp [isOf, h1, h2]⟩
    have lgs : gs.length ≤ 6 := by
      rw [← hP]
      have := List.length_filter_le (isOf nm) G
      omega
    have nd := gr_nd e
    refine w_lc gs (fun t => encK t.k) (fun t => some (.ref t.a)) (by exact lock_lst rfl hm) ?_ (by unfold lim; omega) (fun y hy S10 f11 => ?_) fun S10 g f11 _ hg => ?_
    · simp [keysOf_lst hm, chk_one1 hm, Fr.refl]
    · simp [wipe, Tg.put, -Bool.exists_bool]
      rw [wp_dix (r9.fr f11).dic (gr_keyOk hk e (PG y hy).1) (look_mem nd (PG y hy).1)]
      exact ⟨rfl, Fr.refl⟩
    rw [List.filterMap_eq_map'] at hg
    have r10 := r9.fr f11
    have ndgs : (gs.map (·.k)).Nodup := by
      rw [← hP]
      exact (List.filter_sublist.map _).nodup nd
    have kn : ∀ p ∈ gs, ∀ u ∈ gs, p.m = u.m → p.k = u.k := fun p hp u hu em => by
      obtain ⟨_, p2, _, _⟩ := gr_mem e (PG p hp).1
      obtain ⟨i, hi⟩ := List.exists_mem_of_ne_nil _ p2
      have m1 := mem_plain (PG p hp).1
      have m2 := mem_plain (PG u hu).1
      rw [e] at m1 m2
      obtain ⟨x, hx, _, kx⟩ := gr_at m1 hi
      obtain ⟨y, hy, _, ky⟩ := gr_at m2 (by rw [← em]; exact hi)
      rw [hx] at hy
      cases hy
      exact kx.symm.trans ky
    refine s_name_order (gs := gs) hg (fun t ht => ?_) (by omega) ?_ ?_ fun m2 S11 gs' f12 _ pm ln hm2 => ?_
    · obtain ⟨t1, t2, t3, _⟩ := gr_mem e (PG t ht).1
      exact ⟨r10.lst t (PG t ht).1, t1, t2, by omega⟩
    · unfold List.Nodup at ndgs ⊢
      rw [List.pairwise_map] at ndgs ⊢
      exact List.Pairwise.imp_of_mem (fun {p u} hp hu hpu em => hpu (kn p hp u hu em)) ndgs
    · intro p hp u hu hne ha
      have m1 := mem_plain (PG p hp).1
      have m2 := mem_plain (PG u hu).1
      rw [e] at m1 m2
      cases cb with
      | non cb =>
        refine cb _ m1 _ m2 (fun ek => hne ?_) (by rw [(PG p hp).2.1, (PG u hu).2.1]) (PG p hp).2.2 (PG u hu).2.2 ha
        exact congrArg Prod.snd (nodup_key m1 m2 ek)
    have hF11 := f12 _ _ (f11 _ _ hF9)
    have lgs' : gs'.length ≤ 6 := by rw [pm.length_eq]; exact lgs
    have lfm : (gs'.flatMap fun t => tl h t.m).length ≤ gs'.length * 40 := fm_len gs' fun u hu => by
      obtain ⟨_, _, t3, _⟩ := gr_mem e (PG u (pm.mem_iff.mp hu)).1
      omega
    rw [m_ext hF11 hm2 (by simp [lim]; simp at lB lfm; omega), wR_ok]
    simp
    have eR : rowOf h (bs ++ N ++ plainG gs') = rowOf h bs ++ tl h gm ++ gs'.flatMap fun t => tl h t.m := by
      unfold rowOf plainG
      rw [List.flatMap_append, List.flatMap_append, List.flatMap_map]
      unfold rowOf at rN
      rw [rN]
    refine ⟨((((f9.trans f10).trans f11).trans f12)).set get_len, bs ++ N ++ plainG gs', ?_, P.next nmd mN lN (fun p => ?_) ?_ ln lb, ?_⟩
    · rw [eR]
      have := get_set (o' := .lst (encI (rowOf h bs) ++ encI (tl h gm) ++ encI (gs'.flatMap fun t => tl h t.m))) hF11
      simpa using this
    · constructor
      · intro hp
        obtain ⟨t, ht, rfl⟩ := List.mem_map.mp hp
        have h1 := PG t (pm.mem_iff.mp ht)
        have h2 := mem_plain h1.1
        rw [e] at h2
        exact ⟨h2, h1.2⟩
      · rintro ⟨h1, h2, h3⟩
        rw [← e] at h1
        obtain ⟨t, ht, rfl⟩ := List.mem_map.mp h1
        exact List.mem_map.mpr ⟨t, pm.mem_iff.mpr (GP t ht h2 h3), rfl⟩
    · have e3 : (plainG gs').map (·.1) = gs'.map (·.k) := by
        unfold plainG
        rw [List.map_map]
        rfl
      rw [e3]
      exact (pm.map _).nodup_iff.mpr ndgs
    · unfold Short
      rw [eR, List.length_append, List.length_append]
      omega
end
end K47
set_option Elab.async false
set_option linter.all false
set_option maxRecDepth 100000
set_option maxHeartbeats 1000000
/-! k47, plain. Part AA: are_behind, are_told. -/
namespace K47
open PySem Ev
section
variable {k : Nat} {S : Store} {Q : D → Store → Prop}
theorem cut_takeI {xs : List Nat} {i : Nat} (h : i ≤ xs.length) : cut (encI xs) none (some (i : Int)) = encI (xs.take i) := by
  rw [cut_take (by simpa using h)]
  simp
theorem s_are_behind {h : List Cl} (hk : HOk h) {row : List Nat} {n : Nat} (hg : GOk h row) (hS : S[n]? = some (.lst (encI row))) (q : ∀ b S', Fr S S' → (b = true ↔ row.Pairwise (Nb h)) → Q (.bl b) S') :
    wR (C (k + 1) (Str.ofString "are_behind") [encH h, .ref n] S) Q := by
  refine w_fn fn_are_behind rfl ?_
  simp [f_are_behind, startEnv, -Bool.exists_bool]
  refine w_for_ix row (fun i y => .tup [.int (i : Nat), .int (y : Nat)]) (fun done δ S' => ∃ a b c d, δ = [some (encH h), some (.ref n), a, b, c, d] ∧ Fr S S' ∧ done.Pairwise (Nb h)) [(n, encI row)] rfl ?_ ?_ ?_
  · simp [enumOf_lst hS, enumD_eq (fun (i : Nat) => D.int (i : Int)), Fr.refl]
  · rintro δ S' ⟨a, b, c, d, rfl, f, h4⟩
    refine ⟨chk_one1 (f _ _ hS), ?_⟩
    simp
    exact q true S' f (by simp [h4])
  · rintro done y rest δ S' h1 ⟨a, b, c, d, rfl, f, h4⟩
    refine ⟨chk_one1 (f _ _ hS), _, rfl, ?_⟩
    simp [setAll, -Bool.exists_bool]
    have hS' := f _ _ hS
    have il : done.length ≤ row.length := by rw [h1]; simp
    have tk : row.take done.length = done := by rw [h1]; simp
    have hy : y < h.length := hg y (by rw [h1]; simp)
    refine w_for_ix done (fun _ o => .int (o : Nat)) (fun dn δ S'' => ∃ c d, δ = [some (encH h), some (.ref n), some (.int done.length), some (.int y), c, d] ∧ Fr (S' ++ [Ob.lst (encI done)]) S'' ∧ ∀ o ∈ dn, Nb h o y) [(S'.length, encI done)] rfl ?_ ?_ ?_
    · simp only [ws_val, w_sl, w_var, w_none, w_some]
      simp [sl_lst hS', -List.map_append]
      rw [cut_takeI il, tk]
      simp [itOf_lst get_new, Fr.refl, map_zipIdx (f := fun o : Nat => D.int (o : Int))]
    · rintro δ S'' ⟨c, d, rfl, f2, h5⟩
      refine ⟨chk_one1 (f2 _ _ get_new), ?_⟩
      simp
      refine ⟨(f.trans Fr.app).trans f2, ?_⟩
      rw [List.pairwise_append]
      exact ⟨h4, by simp, fun o ho z hz => by simp at hz; subst hz; exact h5 o ho⟩
    · rintro dn o rst δ S'' h2 ⟨c, d, rfl, f2, h5⟩
      refine ⟨chk_one1 (f2 _ _ get_new), _, rfl, ?_⟩
      have ho : o < h.length := hg o (by rw [h1, h2]; simp)
      have cn : cmpD .Eq (.str h[y].nm) (.str h[o].nm) S'' = some (decide (h[y].nm = h[o].nm)) := by
        rw [cmp_eq (cln_nm (hk.cl _ (List.getElem_mem hy)).nm) (cln_nm (hk.cl _ (List.getElem_mem ho)).nm)]
        simp
      simp [map_enc_ix hy, map_enc_ix ho, cn, -Bool.exists_bool]
      have good : Nb h o y → ∀ o' : Nat, o' ∈ dn ∨ o' = o → Nb h o' y := fun hb o' ho' => by
        rcases ho' with ho' | rfl
        · exact h5 o' ho'
        · exact hb
      have gx := get_ok ho
      have gy := get_ok hy
      by_cases e1 : h[y].nm = h[o].nm
      · rw [if_pos e1]
        cases e2 : h[y].e with
        | none =>
          simp [encO]
          refine ⟨f2, good ?_⟩
          intro x z hx hz _ e he
          rw [gy] at hz
          cases hz
          rw [e2] at he
          cases he
        | some e =>
          simp [encO, -Bool.exists_bool]
          by_cases e3 : e < h[o].b
          · simp [e3]
            refine q false S'' ((f.trans Fr.app).trans f2) ?_
            simp
            intro hp
            rw [h1, h2] at hp
            rw [List.pairwise_append] at hp
            have := hp.2.2 o (by simp) y (.head _) _ _ gx gy e1 e e2
            omega
          · simp [e3]
            refine ⟨f2, good ?_⟩
            intro x z hx hz _ e' he
            rw [gx] at hx
            rw [gy] at hz
            cases hx
            cases hz
            rw [e2] at he
            cases he
            omega
      · simp [e1]
        refine ⟨f2, good ?_⟩
        intro x z hx hz hn e' he
        rw [gx] at hx
        rw [gy] at hz
        cases hx
        cases hz
        exact absurd hn e1
/-! ### what a row tells -/
def Told (h : List Cl) (row : List Nat) : Prop := ∀ pre i post x, row = pre ++ i :: post → h[i]? = some x → x.w = false → x.told = lastW h pre x.nm
/-- a dict of what was written last -/
structure LastD (h : List Cl) (pre : List Nat) (kvs : List (D × D)) : Prop where
  keys : ∀ p ∈ kvs, ∃ nm, p.1 = .str nm
  len : kvs.length ≤ pre.length
  look : ∀ nm, (lookK kvs (.str nm)).getD .non = lastW h pre nm
theorem LastD.key {h : List Cl} {pre : List Nat} {kvs : List (D × D)} (L : LastD h pre kvs) (nm : Str) : keyOk kvs (.str nm) = true := by
  unfold keyOk
  simp only [leafK, Bool.true_and, Bool.or_eq_true, List.all_eq_true]
  left
  intro p hp
  obtain ⟨nm, e⟩ := L.keys p hp
  rw [e]
theorem lookK_put {kvs : List (D × D)} {k v k' : D} : lookK (putK kvs k v) k' = if k = k' then some v else lookK kvs k' := by
  induction kvs with
  | nil =>
    unfold putK lookK
    by_cases e : k = k' <;> simp [e]
  | cons p r ih =>
    unfold putK
    by_cases e : p.1 = k
    · rw [if_pos e]
      unfold lookK
      by_cases e2 : k = k' <;> simp [e, e2]
    · rw [if_neg e]
      unfold lookK at ih ⊢
      by_cases e2 : p.1 = k'
      · have : ¬ k = k' := fun e3 => e (e2.trans e3.symm)
        simp [e2, this]
      · simp [e2, ih]
theorem LastD.read {h : List Cl} {pre : List Nat} {kvs : List (D × D)} {i : Nat} {x : Cl} (L : LastD h pre kvs) (hx : h[i]? = some x) (hw : x.w = false) : LastD h (pre ++ [i]) kvs := by
  refine ⟨L.keys, by have := L.len; simp; omega, fun nm => ?_⟩
  rw [lastW_snoc, L.look]
  simp [stepW', hx, hw]
theorem LastD.write {h : List Cl} {pre : List Nat} {kvs : List (D × D)} {i : Nat} {x : Cl} (L : LastD h pre kvs) (hx : h[i]? = some x) (hw : x.w = true) : LastD h (pre ++ [i]) (putK kvs (.str x.nm) x.told) := by
  refine ⟨fun p hp => ?_, ?_, fun nm => ?_⟩
  · rcases putK_mem p hp with e | e
    · exact ⟨_, e⟩
    · exact L.keys p e
  · have := L.len
    have := putK_len1 (kvs := kvs) (k := .str x.nm) (v := x.told)
    simp
    omega
  · rw [lastW_snoc, lookK_put, ← L.look]
    by_cases e : x.nm = nm <;> simp [stepW', hx, hw, e]
theorem lastW_td {h : List Cl} (hk : HOk h) (pre : List Nat) (nm : Str) : tdOk (lastW h pre nm) := by
  unfold lastW
  suffices ∀ (l : List Nat) (v : D), tdOk v → tdOk (l.foldl (stepW' h nm) v) from this pre _ (.inl rfl)
  intro l
  induction l with
  | nil => exact fun v h => h
  | cons i l ih =>
    intro v hv
    rw [List.foldl_cons]
    refine ih _ ?_
    unfold stepW'
    split
    · rename_i x hx
      split
      · exact (hk.cl x (List.mem_of_getElem? hx)).td
      · exact hv
    · exact hv
theorem Told.snoc {h : List Cl} {done : List Nat} {i : Nat} (T : Told h done) (H : ∀ x, h[i]? = some x → x.w = false → x.told = lastW h done x.nm) : Told h (done ++ [i]) := by
  intro pre j post x e hx hw
  rcases List.append_eq_append_iff.mp e with ⟨a, h1, h2⟩ | ⟨a, h1, h2⟩
  · cases a with
    | nil =>
      simp at h1 h2
      obtain ⟨rfl, _⟩ := h2
      subst h1
      exact H x hx hw
    | cons b a => simp at h2
  · cases a with
    | nil =>
      simp at h1 h2
      obtain ⟨rfl, _⟩ := h2
      subst h1
      exact H x hx hw
    | cons b a =>
      simp at h2
      obtain ⟨rfl, rfl⟩ := h2
      exact T pre _ a x h1 hx hw
theorem setIx_dic {n : Nat} {kvs : List (D × D)} {i v : D} (h : S[n]? = some (.dic kvs false)) (hk : keyOk kvs i = true) (hl : kvs.length < lim) : setIxD (.ref n) i v S = .ok () (S.set n (.dic (putK kvs i v) false)) := by
  simp [setIxD, h, hk, hl]
theorem s_are_told {h : List Cl} (hk : HOk h) {row : List Nat} {n : Nat} (hg : GOk h row) (hl : row.length ≤ 1000) (hS : S[n]? = some (.lst (encI row))) (q : ∀ b S', Fr S S' → (b = true ↔ Told h row) → Q (.bl b) S') :
    wR (C (k + 1) (Str.ofString "are_told") [encH h, .ref n] S) Q := by
  refine w_fn fn_are_told rfl ?_
  simp [f_are_told, startEnv, -Bool.exists_bool]
  refine w_for_ix row (fun _ y => .int (y : Nat)) (fun done δ S' => ∃ a b c d e g kvs, δ = [some (encH h), some (.ref n), some (.ref S.length), a, b, c, d, e, g] ∧ Fr S S' ∧ S'[S.length]? = some (.dic kvs false) ∧ LastD h done kvs ∧ Told h done) [(n, encI row)] (by exact lock_lst rfl (Fr.app _ _ hS)) ?_ ?_ ?_
  · simp [keysOf_lst (Fr.app (T := [Ob.dic [] false]) _ _ hS), map_zipIdx (f := fun o : Nat => D.int (o : Int))]
    refine ⟨Fr.app, ⟨by simp, by simp, fun nm => rfl⟩, ?_⟩
    intro pre i post x e
    simp at e
  · rintro δ S' ⟨a, b, c, d, e, g, kvs, rfl, f, hd, L, T⟩
    refine ⟨chk_one1 (f _ _ hS), ?_⟩
    simp
    exact q true S' f (by simp [T])
  · rintro done y rest δ S' h1 ⟨a, b, c, d, e, g, kvs, rfl, f, hd, L, T⟩
    refine ⟨chk_one1 (f _ _ hS), _, rfl, ?_⟩
    have hy : y < h.length := hg y (by rw [h1]; simp)
    have gy := get_ok hy
    have cy := hk.cl _ (List.getElem_mem hy)
    simp [map_enc_ix hy, setAll, -Bool.exists_bool]
    generalize h[y] = x at *
    cases hw : x.w with
    | true =>
      simp
      have ll : kvs.length < lim := by
        have := L.len
        have : done.length ≤ row.length := by rw [h1]; simp
        unfold lim
        omega
      rw [setIx_dic hd (L.key _) ll, wR_ok]
      refine ⟨f.set get_len, _, get_set hd, L.write gy hw, T.snoc fun x' hx' hw' => ?_⟩
      rw [gy] at hx'
      cases hx'
      rw [hw] at hw'
      cases hw'
    | false =>
      simp [recv_get hd, -Bool.exists_bool]
      rw [m_get1 hd (L.key _), wR_ok]
      rw [L.look, cmp_ne (cln_td cy.td) (cln_td (lastW_td hk done x.nm))]
      by_cases e1 : x.told = lastW h done x.nm
      · simp [e1, -Bool.exists_bool]
        refine ⟨f, kvs, hd, L.read gy hw, T.snoc fun x' hx' hw' => ?_⟩
        rw [gy] at hx'
        cases hx'
        exact e1
      · simp [e1, -Bool.exists_bool]
        refine q false S' f ?_
        simp
        intro T'
        exact e1 (T' done y rest x h1 gy hw)
end
end K47
set_option Elab.async false
set_option linter.all false
set_option maxRecDepth 100000
set_option maxHeartbeats 1000000
/-! k47, plain. Part AB: is_right_order. -/
namespace K47
open PySem Ev
theorem ordI_iff {h : List Cl} {row : List Nat} : OrdI h row ↔ GOk h row ∧ row.Nodup ∧ (∀ i x, h[i]? = some x → (x.e ≠ none → i ∈ row) ∧ (x.e = none → x.w = false → i ∉ row)) ∧ row.Pairwise (Nb h) ∧ Told h row := by
  constructor
  · intro O
    have pw : ∀ (post pre : List Nat), row = pre ++ post → post.Pairwise (Nb h) := by
      intro post
      induction post with
      | nil => intro _ _; simp
      | cons i post ih =>
        intro pre e
        rw [List.pairwise_cons]
        refine ⟨fun j hj x y hx hy hn e' he => ?_, ih (pre ++ [i]) (by simp [e])⟩
        exact (O.each pre i post x e hx).2 j hj y hy hn e' he
    refine ⟨O.lt, O.nd, fun i x hx => ⟨O.all i x hx, fun he hw hi => ?_⟩, pw row [] rfl, fun pre i post x e hx hw => ((O.each pre i post x e hx).1 hw).2⟩
    obtain ⟨pre, post, e⟩ := List.append_of_mem hi
    exact ((O.each pre i post x e hx).1 hw).1 he
  · rintro ⟨h1, h2, h3, h4, h5⟩
    refine ⟨h1, h2, fun i x hx he => (h3 i x hx).1 he, fun pre i post x e hx => ⟨fun hw => ⟨fun he => ?_, h5 pre i post x e hx hw⟩, fun j hj y hy hn e' he => ?_⟩⟩
    · exact (h3 i x hx).2 he hw (by rw [e]; simp)
    · rw [e, List.pairwise_append, List.pairwise_cons] at h4
      exact h4.2.1.1 j hj x y hx hy hn e' he
theorem encI_inj {a b : List Nat} (h : encI a = encI b) : a = b := by
  unfold encI at h
  induction a generalizing b with
  | nil => cases b with
    | nil => rfl
    | cons _ _ => simp at h
  | cons x a ih => cases b with
    | nil => simp at h
    | cons y b =>
      simp at h
      rw [ih (by simpa using h.2)]
      have := h.1
      rw [show x = y by omega]
theorem mem_encI {a : List Nat} {i : Nat} : D.int (i : Int) ∈ encI a ↔ i ∈ a := by
  unfold encI
  rw [List.mem_map]
  constructor
  · rintro ⟨j, hj, e⟩
    simp at e
    rw [← show j = i by omega]
    exact hj
  · intro hi
    exact ⟨i, hi, rfl⟩
theorem idx_of {h : List Cl} : ∀ {xs : List D}, (xs.all fun x => isB x 0 ((h.length : Int) - 1)) = true → ∃ row, xs = encI row ∧ GOk h row
  | [], _ => ⟨[], rfl, fun i hi => absurd hi List.not_mem_nil⟩
  | x :: xs, H => by
    rw [List.all_cons, Bool.and_eq_true] at H
    obtain ⟨row, rfl, g⟩ := idx_of H.2
    cases x with
    | int i =>
      have := H.1
      simp [isB] at this
      refine ⟨i.toNat :: row, ?_, fun j hj => ?_⟩
      · unfold encI
        rw [List.map_cons, Int.toNat_of_nonneg this.1]
      · rcases List.mem_cons.mp hj with rfl | hj
        · omega
        · exact g j hj
    | _ => simp [isB] at H
theorem idx_all {h : List Cl} {row : List Nat} (g : GOk h row) : ((encI row).all fun x => isB x 0 ((h.length : Int) - 1)) = true := by
  rw [List.all_eq_true]
  intro x hx
  obtain ⟨i, hi, rfl⟩ := List.mem_map.mp hx
  have := g i hi
  simp [isB]
  omega
/-- things that may be an order -/
inductive OTh (S : Store) : D → Prop
  | no (d : D) (t : String) : tyOf S d = some t → isInst t "list" = false → OTh S d
  | lst (n : Nat) (xs : List D) : S[n]? = some (.lst xs) → xs.length ≤ 100 → (∀ x ∈ xs, ∃ t, ∀ S, tyOf S x = some t) → OTh S (.ref n)
def IsO (h : List Cl) (S : Store) (d : D) : Prop := ∃ n row, d = .ref n ∧ S[n]? = some (.lst (encI row)) ∧ OrdI h row
theorem not_isO {h : List Cl} {S : Store} {d : D} {t : String} (h1 : tyOf S d = some t) (h2 : isInst t "list" = false) : ¬ IsO h S d := by
  rintro ⟨n, row, rfl, h3, _⟩
  rw [tyOf_lst h3] at h1
  cases h1
  simp at h2
theorem putK_klen {kvs : List (D × D)} {k v : D} : (putK kvs k v).map (·.1) = if k ∈ kvs.map (·.1) then kvs.map (·.1) else kvs.map (·.1) ++ [k] := by
  induction kvs with
  | nil => simp [putK]
  | cons p r ih =>
    unfold putK
    by_cases e : p.1 = k
    · simp [e]
    · have e' : ¬ k = p.1 := fun h => e h.symm
      rw [if_neg e, List.map_cons, ih]
      by_cases e2 : k ∈ r.map (·.1)
      · simp only [if_pos e2, List.map_cons, List.mem_cons, e2, or_true, if_true]
      · simp only [if_neg e2, List.map_cons, List.mem_cons, e2, e', or_false, if_false, List.cons_append]
theorem putAll_le {α : Type} {key val : α → D} : ∀ {ys : List α} {acc : List (D × D)}, (putAll key val ys acc).length ≤ acc.length + ys.length
  | [], acc => by simp [putAll]
  | y :: ys, acc => by
    have := putAll_le (key := key) (val := val) (ys := ys) (acc := putK acc (key y) (val y))
    have := putK_len1 (kvs := acc) (k := key y) (v := val y)
    unfold putAll at *
    rw [List.foldl_cons, List.length_cons]
    omega
theorem putAll_len {α : Type} {key val : α → D} : ∀ {ys : List α} {acc : List (D × D)}, (acc.map (·.1)).Nodup → ((putAll key val ys acc).length = acc.length + ys.length ↔ (acc.map (·.1) ++ ys.map key).Nodup)
  | [], acc, nd => by simp [putAll, nd]
  | y :: ys, acc, nd => by
    have e0 : putAll key val (y :: ys) acc = putAll key val ys (putK acc (key y) (val y)) := rfl
    rw [e0]
    have kl := putK_klen (kvs := acc) (k := key y) (v := val y)
    by_cases e : key y ∈ acc.map (·.1)
    · rw [if_pos e] at kl
      have hle := putAll_le (key := key) (val := val) (ys := ys) (acc := putK acc (key y) (val y))
      have hl : (putK acc (key y) (val y)).length = acc.length := by
        have := congrArg List.length kl
        simpa using this
      constructor
      · intro h
        rw [List.length_cons] at h
        omega
      · intro h
        rw [List.map_cons, List.nodup_append] at h
        exact absurd rfl (h.2.2 _ e _ (.head _))
    · rw [if_neg e] at kl
      have ih := putAll_len (key := key) (val := val) (ys := ys) (acc := putK acc (key y) (val y)) (by
        rw [kl, List.nodup_append]
        refine ⟨nd, by simp, fun a ha b hb e2 => ?_⟩
        simp at hb
        subst hb
        exact e (e2 ▸ ha))
      have hl : (putK acc (key y) (val y)).length = acc.length + 1 := by
        have := congrArg List.length kl
        simpa using this
      rw [hl, kl] at ih
      rw [List.map_cons, List.length_cons]
      simp only [List.append_assoc, List.singleton_append] at ih
      rw [← ih]
      omega
section
variable {k : Nat} {S : Store} {Q : D → Store → Prop}
theorem nodup_encI {row : List Nat} : (encI row).Nodup ↔ row.Nodup := by
  unfold encI List.Nodup
  rw [List.pairwise_map]
  constructor
  · exact fun h => h.imp fun h1 e => h1 (by rw [e])
  · exact fun h => h.imp fun h1 e => h1 (by simp at e; omega)
theorem s_is_right_order {h : List Cl} (hk : HOk h) {d : D} (hd : OTh S d) (q : ∀ b S', Fr S S' → (b = true ↔ IsO h S d) → Q (.bl b) S') : wR (C (k + 8) (Str.ofString "is_right_order") [encH h, d] S) Q := by
  refine w_fn fn_is_right_order rfl ?_
  simp [f_is_right_order, startEnv, -Bool.exists_bool]
  refine s_check_history hk fun S1 f1 => ?_
  cases hd with
  | no _ t h1 h2 =>
    have h1' : tyOf S1 d = some t := by
      cases d with
      | ref n =>
        simp only [tyOf] at h1 ⊢
        split at h1
        · rename_i e; rw [f1 _ _ e]; exact h1
        · rename_i e; rw [f1 _ _ e]; exact h1
        · cases h1
      | _ => exact h1
    refine ⟨t, h1', ?_⟩
    simp [h2]
    exact q false S1 f1 (by simp [not_isO h1 h2])
  | lst n xs hS hl he =>
    have hS1 := f1 _ _ hS
    refine ⟨_, tyOf_lst hS1, ?_⟩
    simp [-Bool.exists_bool]
    have lim100 : xs.length ≤ lim := by unfold lim; omega
    refine w_all xs id (fun x => isB x 0 ((h.length : Int) - 1)) (by exact lock_lst rfl hS1) ?_ lim100 (fun y hy S2 f2 => ?_) fun S2 f2 => ?_
    · simp [keysOf_lst hS1, chk_one1 hS1, Fr.refl]
    · refine ⟨_, rfl, ?_⟩
      simp [wipe, -Bool.exists_bool]
      obtain ⟨t, ht⟩ := he y hy
      exact s_is_index (ht S2) ⟨rfl, Fr.refl⟩
    cases ea : xs.all fun x => isB x 0 ((h.length : Int) - 1) with
    | false =>
      simp
      refine q false S2 (f1.trans f2) ?_
      simp
      rintro ⟨n', row, e, h3, O⟩
      cases e
      rw [hS] at h3
      cases h3
      rw [idx_all O.lt] at ea
      cases ea
    | true =>
      obtain ⟨row, rfl, g⟩ := idx_of ea
      simp [-Bool.exists_bool]
      have hS2 := f2 _ _ hS1
      have f02 := f1.trans f2
      have l100 : row.length ≤ 100 := by simpa using hl
      have isO : ∀ b : Bool, (b = true ↔ OrdI h row) → (b = true ↔ IsO h S (.ref n)) := fun b hb => by
        rw [hb]
        constructor
        · exact fun O => ⟨n, row, rfl, hS, O⟩
        · rintro ⟨n', row', e, h3, O⟩
          cases e
          rw [hS] at h3
          simp only [Option.some.injEq, Ob.lst.injEq] at h3
          rw [encI_inj h3]
          exact O
      refine w_dc row (fun i => .int (i : Nat)) (fun i => .int (i : Nat)) (fun _ => .bl true) (by exact lock_lst rfl hS2) ?_ (by unfold lim; omega) (.inl ?_) (fun y hy S3 f3 => ?_) fun S3 m f3 _ hm => ?_
      · simp [keysOf_lst hS2, chk_one1 hS2, Fr.refl]
      · intro x hx
        obtain ⟨i, _, rfl⟩ := List.mem_map.mp hx
        rfl
      · refine ⟨_, rfl, ?_⟩
        simp [wipe, Fr.refl]
      have hS3 := f3 _ _ hS2
      simp [lenOf_dic hm, lenOf_lst hS3, -Bool.exists_bool]
      have pl := putAll_len (key := fun i : Nat => D.int (i : Int)) (val := fun _ => D.bl true) (ys := row) (acc := []) (by simp)
      simp at pl
      have nd2 : ((putAll (fun i : Nat => D.int (i : Int)) (fun _ => D.bl true) row []).length : Int) = (row.length : Int) ↔ row.Nodup := by
        rw [← nodup_encI, ← pl]
        omega
      by_cases hnd : row.Nodup
      case neg =>
        refine ⟨true, by rw [decide_eq_false (fun e => hnd (nd2.mp e))]; rfl, ?_⟩
        rw [if_pos rfl]
        exact q false S3 (f02.trans f3) (isO false (by simp; exact fun O => hnd O.nd))
      refine ⟨false, by rw [decide_eq_true (nd2.mpr hnd)]; rfl, ?_⟩
      rw [if_neg (by simp)]
      refine w_for_ix h (fun i y => .tup [.int (i : Nat), enc y]) (fun done δ S' => ∃ a b, δ = [some (encH h), some (.ref n), some (.int h.length), a, b] ∧ Fr S3 S' ∧ ∀ (i : Nat) x, done[i]? = some x → (x.e ≠ none → i ∈ row) ∧ (x.e = none → x.w = false → i ∉ row)) [] rfl ?_ ?_ ?_
      · simp [enumD_eq, Fr.refl]
      · rintro δ S' ⟨a, b, rfl, f4, h4⟩
        simp [chkOk, -Bool.exists_bool]
        have hS4 := f4 _ _ hS3
        refine s_are_behind hk g hS4 fun b1 S5 f5 hb1 => ?_
        have f05 := (f02.trans f3).trans (f4.trans f5)
        cases b1 with
        | false =>
          simp
          refine q false S5 f05 (isO false ?_)
          simp at hb1 ⊢
          exact fun O => hb1 (ordI_iff.mp O).2.2.2.1
        | true =>
          simp [-Bool.exists_bool]
          refine s_are_told hk g (by omega) (f5 _ _ hS4) fun b2 S6 f6 hb2 => ?_
          refine q b2 S6 (f05.trans f6) (isO b2 ?_)
          rw [hb2, ordI_iff]
          exact ⟨fun T => ⟨g, hnd, h4, hb1.mp rfl, T⟩, fun O => O.2.2.2.2⟩
      · rintro done y rest δ S' h1 ⟨a, b, rfl, f4, h4⟩
        refine ⟨rfl, _, rfl, ?_⟩
        have hS4 := f4 _ _ hS3
        have hy : h[done.length]? = some y := by simp [h1]
        have ci : ∀ {S : Store}, S[n]? = some (.lst (encI row)) → cmpD .In (.int (done.length : Nat)) (.ref n) S = some (decide (done.length ∈ row)) := fun hS => by
          rw [cmp_in (cln_int) (seqOf_lst hS) (fun x hx => by obtain ⟨i, _, rfl⟩ := List.mem_map.mp hx; exact cln_int)]
          simp only [mem_encI]
        have cni : ∀ {S : Store}, S[n]? = some (.lst (encI row)) → cmpD .NotIn (.int (done.length : Nat)) (.ref n) S = some (!decide (done.length ∈ row)) := fun hS => by
          rw [cmp_nin (cln_int) (seqOf_lst hS) (fun x hx => by obtain ⟨i, _, rfl⟩ := List.mem_map.mp hx; exact cln_int)]
          simp only [mem_encI]
        simp [setAll, ci hS4, cni hS4, -Bool.exists_bool]
        have good : ((y.e ≠ none → done.length ∈ row) ∧ (y.e = none → y.w = false → done.length ∉ row)) → ∀ (i : Nat) x, (done ++ [y])[i]? = some x → (x.e ≠ none → i ∈ row) ∧ (x.e = none → x.w = false → i ∉ row) := fun hy2 i x hx => by
          rw [List.getElem?_append] at hx
          split at hx
          · exact h4 i x hx
          · rename_i hi
            have hi2 : i - done.length = 0 := by
              have := (List.getElem?_eq_some_iff.mp hx).1
              simp at this
              omega
            rw [hi2] at hx
            simp at hx
            subst hx
            have : i = done.length := by omega
            subst this
            exact hy2
        have bad : ¬ ((y.e ≠ none → done.length ∈ row) ∧ (y.e = none → y.w = false → done.length ∉ row)) → ¬ OrdI h row := fun hn O => hn ((ordI_iff.mp O).2.2.1 _ y hy)
        have f04 := (f02.trans f3).trans f4
        cases he : y.e with
        | none =>
          cases hw : y.w with
          | true =>
            simp
            exact ⟨f4, good (by simp [he, hw])⟩
          | false =>
            by_cases hi : done.length ∈ row
            · simp [hi]
              exact q false S' f04 (isO false (by simp; exact bad (by simp [he, hw, hi])))
            · simp [hi]
              exact ⟨f4, good (by simp [he, hi])⟩
        | some e =>
          by_cases hi : done.length ∈ row
          · simp [hi]
            exact ⟨f4, good (by simp [he, hi])⟩
          · simp [hi]
            exact q false S' f04 (isO false (by simp; exact bad (by simp [he, hi])))
end
end K47
set_option Elab.async false
set_option linter.all false
set_option maxRecDepth 100000
set_option maxHeartbeats 1000000
/-! k47, plain. Part AC: the law's own look at an order. -/
namespace K47
open PySem Ev
theorem rangeD0 (n : Nat) : rangeD 0 (n : Int) = (List.range n).map fun (i : Nat) => D.int (i : Int) := by
  unfold rangeD
  simp
theorem rangeOk0 {n : Nat} (h : n ≤ 1000) : rangeOk 0 (n : Int) = true := by
  simp [rangeOk]
  omega
theorem zip_range {α : Type} : ∀ (l : List α) (m : Nat), (l.zipIdx m).map (fun p => D.int ((p.2 : Nat) : Int)) = (List.range l.length).map fun (i : Nat) => D.int ((i + m : Nat) : Int)
  | [], m => rfl
  | x :: l, m => by
    rw [List.zipIdx_cons, List.map_cons, zip_range l (m + 1), List.length_cons, List.range_succ_eq_map, List.map_cons, List.map_map]
    simp
    intro a _
    omega
theorem cut_dropI {xs : List Nat} {i : Nat} (h : i ≤ xs.length) : cut (encI xs) (some (i : Int)) none = encI (xs.drop i) := by
  unfold cut sIx
  have e : (if (i : Int) < 0 then max ((i : Int) + ((encI xs).length : Int)) 0 else min (i : Int) ((encI xs).length : Int)).toNat = i := by
    rw [if_neg (by omega), List.length_map]
    omega
  simp only [e]
  rw [List.take_of_length_le (by simp)]
  unfold encI
  rw [List.map_drop]
def Ech (h : List Cl) (pre : List Nat) (i : Nat) (post : List Nat) : Prop := ∀ x, h[i]? = some x → (x.w = false → x.e ≠ none ∧ x.told = lastW h pre x.nm) ∧ ∀ j ∈ post, ∀ y, h[j]? = some y → y.nm = x.nm → ∀ e, y.e = some e → x.b ≤ e
/-- ended calls of a name among some -/
def behind (h : List Cl) (nm : Str) (post : List Nat) : List Cl := post.filterMap fun j => (h[j]?).bind fun y => if y.nm = nm ∧ y.e.isSome = true then some y else none
theorem behind_mem {h : List Cl} {nm : Str} {post : List Nat} {y : Cl} : y ∈ behind h nm post ↔ ∃ j ∈ post, h[j]? = some y ∧ y.nm = nm ∧ y.e.isSome = true := by
  unfold behind
  rw [List.mem_filterMap]
  constructor
  · rintro ⟨j, hj, h1⟩
    obtain ⟨z, hz, h2⟩ := Option.bind_eq_some_iff.mp h1
    split at h2
    · rename_i e
      cases h2
      exact ⟨j, hj, hz, e⟩
    · cases h2
  · rintro ⟨j, hj, h1, h2⟩
    exact ⟨j, hj, by rw [h1]; simp [h2]⟩
section
variable {k : Nat} {S : Store} {Q : D → Store → Prop}
theorem optAll_int {row : List Nat} : optAll ((encI row).map intOf) = some (row.map fun (i : Nat) => (i : Int)) := by
  have : (encI row).map intOf = row.map fun (i : Nat) => some (i : Int) := by
    unfold encI
    rw [List.map_map]
    rfl
  rw [this, optAll_map]
theorem firsts_mem {α : Type} [DecidableEq α] {a : α} : ∀ {l : List α}, a ∈ firsts l ↔ a ∈ l
  | [] => by simp [firsts]
  | b :: l => by
    unfold firsts
    rw [List.mem_cons, List.mem_filter, firsts_mem, List.mem_cons]
    by_cases e : a = b <;> simp [e]
theorem firsts_nodup {α : Type} [DecidableEq α] : ∀ {l : List α}, (firsts l).Nodup
  | [] => by simp [firsts]
  | b :: l => by
    unfold firsts
    rw [List.nodup_cons]
    exact ⟨by simp [List.mem_filter], List.filter_sublist.nodup firsts_nodup⟩
theorem firsts_len {α : Type} [DecidableEq α] : ∀ {l : List α}, (firsts l).length ≤ l.length ∧ ((firsts l).length = l.length ↔ l.Nodup)
  | [] => by simp [firsts]
  | b :: l => by
    have ih := firsts_len (l := l)
    have hle := List.length_filter_le (fun c => decide (c ≠ b)) (firsts l)
    unfold firsts
    rw [List.length_cons, List.length_cons, List.nodup_cons, ← ih.2]
    refine ⟨by omega, ?_⟩
    constructor
    · intro e
      refine ⟨fun hb => ?_, by omega⟩
      have e2 : ((firsts l).filter fun c => decide (c ≠ b)).length = (firsts l).length := by omega
      rw [List.length_filter_eq_length_iff] at e2
      have := e2 b (firsts_mem.mpr hb)
      simp at this
    · rintro ⟨hb, e⟩
      rw [List.filter_eq_self.mpr fun a ha => by
        simp
        rintro rfl
        exact hb (firsts_mem.mp ha)]
      omega
theorem wp_lenSet {n : Nat} {row : List Nat} (h : S[n]? = some (.lst (encI row))) (hl : row.length < 4000) : wR (primD .lenSet [.ref n] S) Q ↔ Q (.int ((firsts (row.map fun (i : Nat) => (i : Int))).length : Nat)) S := by
  simp [primD, pLenSet, lstOf_lst h, optAll_int, hl, -List.map_map]
theorem nodup_int {row : List Nat} : (row.map fun (i : Nat) => (i : Int)).Nodup ↔ row.Nodup := by
  unfold List.Nodup
  rw [List.pairwise_map]
  constructor
  · exact fun h => h.imp fun h1 e => h1 (by rw [e])
  · exact fun h => h.imp fun h1 e => h1 (by omega)
@[simp] theorem eq_rr : cmpD .Eq (.str sRead) (.str sRead) S = some true := by rw [cmp_eq] <;> simp
@[simp] theorem eq_wr : cmpD .Eq (.str sWrite) (.str sRead) S = some false := by rw [cmp_eq] <;> simp [rw_ne.symm]
@[simp] theorem eq_ww : cmpD .Eq (.str sWrite) (.str sWrite) S = some true := by rw [cmp_eq] <;> simp
@[simp] theorem eq_rw : cmpD .Eq (.str sRead) (.str sWrite) S = some false := by rw [cmp_eq] <;> simp [rw_ne]
theorem w_seq {c : Ev.Ctx} {δ : Ev.Env} {s : Sm} {r : Sms} {Q : Out → Store → Prop} (P : Out → Store → Prop) (h1 : wR (evS c s δ S) P) (h2 : ∀ o S1, P o S1 → thenO (fun δ' S' => wR (evSs c r δ' S') Q) Q o S1) : wR (evSs c (.cons s r) δ S) Q := by
  rw [w_scons]
  exact wR_mono h1 h2
theorem s_law_is_order {h : List Cl} (hk : HOk h) {d : D} (hd : OTh S d) (q : ∀ b S', Fr S S' → (b = true ↔ IsO h S d) → Q (.bl b) S') : wR (C (k + 8) (Str.ofString "_law_is_order") [encH h, d] S) Q := by
  refine w_fn fn__law_is_order rfl ?_
  simp [f__law_is_order, startEnv, -Bool.exists_bool]
  cases hd with
  | no _ t h1 h2 =>
    refine ⟨t, h1, ?_⟩
    simp [h2]
    exact q false S Fr.refl (by simp [not_isO h1 h2])
  | lst n xs hS hl he =>
    refine ⟨_, tyOf_lst hS, ?_⟩
    simp [-Bool.exists_bool]
    have lim100 : xs.length ≤ lim := by unfold lim; omega
    refine w_all xs id (fun x => isB x 0 ((h.length : Int) - 1)) (by exact lock_lst rfl hS) ?_ lim100 (fun y hy S2 f2 => ?_) fun S2 f2 => ?_
    · simp [keysOf_lst hS, chk_one1 hS, Fr.refl]
    · refine ⟨_, rfl, ?_⟩
      simp [wipe, -Bool.exists_bool]
      obtain ⟨t, ht⟩ := he y hy
      refine s_law_is_int (ht S2) ?_
      cases y with
      | int i =>
        simp [isI, isB, -Bool.exists_bool]
        by_cases e1 : 0 ≤ i
        · by_cases e2 : i < (h.length : Int)
          · simp [e1, e2, Fr.refl]
            omega
          · simp [e1, e2, Fr.refl]
            omega
        · simp [e1, Fr.refl]
      | _ => simp [isI, isB, Fr.refl]
    cases ea : xs.all fun x => isB x 0 ((h.length : Int) - 1) with
    | false =>
      simp
      refine q false S2 f2 ?_
      simp
      rintro ⟨n', row, e, h3, O⟩
      cases e
      rw [hS] at h3
      cases h3
      rw [idx_all O.lt] at ea
      cases ea
    | true =>
      obtain ⟨row, rfl, g⟩ := idx_of ea
      simp [-Bool.exists_bool]
      have hS2 := f2 _ _ hS
      have l100 : row.length ≤ 100 := by simpa using hl
      have isO : ∀ b : Bool, (b = true ↔ OrdI h row) → (b = true ↔ IsO h S (.ref n)) := fun b hb => by
        rw [hb]
        constructor
        · exact fun O => ⟨n, row, rfl, hS, O⟩
        · rintro ⟨n', row', e, h3, O⟩
          cases e
          rw [hS] at h3
          simp only [Option.some.injEq, Ob.lst.injEq] at h3
          rw [encI_inj h3]
          exact O
      rw [wp_lenSet hS2 (by omega)]
      simp [lenOf_lst hS2, -Bool.exists_bool]
      have fl := firsts_len (l := row.map fun (i : Nat) => (i : Int))
      rw [nodup_int, List.length_map] at fl
      by_cases hnd : row.Nodup
      case neg =>
        rw [if_pos (by
          have : (firsts (row.map fun (i : Nat) => (i : Int))).length ≠ row.length := fun e => hnd (fl.2.mp e)
          omega)]
        exact q false S2 f2 (isO false (by simp; exact fun O => hnd O.nd))
      rw [if_neg (by rw [fl.2.mpr hnd]; omega)]
      have lh := hk.len
      refine w_for_ix (List.range h.length) (fun _ i => .int (i : Nat)) (fun done δ S' => ∃ a, δ = [some (encH h), some (.ref n), a, none, none, none, none, none, none, none, none, none] ∧ Fr S2 S' ∧ ∀ i ∈ done, ∀ x, h[i]? = some x → x.e ≠ none → i ∈ row) [] (by rfl) ?_ ?_ ?_
      · simp [rangeOk0 (show h.length ≤ 1000 by omega), rangeD0, Fr.refl, map_zipIdx (f := fun i : Nat => D.int (i : Int))]
      · rintro δ S' ⟨a, rfl, f3, h4⟩
        refine ⟨rfl, ?_⟩
        have hS3 := f3 _ _ hS2
        have h4' : ∀ i x, h[i]? = some x → x.e ≠ none → i ∈ row := fun i x hx => h4 i (List.mem_range.mpr (List.getElem?_eq_some_iff.mp hx).1) x hx
        simp [-Bool.exists_bool]
        have f02 := f2.trans f3
        have hd0 : (S' ++ [Ob.dic [] false])[S'.length]? = some (.dic [] false) := get_new
        have f03 : Fr S (S' ++ [Ob.dic [] false]) := f02.trans Fr.app
        have hS4 := Fr.app (T := [Ob.dic [] false]) _ _ hS3
        have dn : S'[S'.length]? = none := get_len
        refine w_for_ix row (fun i _ => .int (i : Nat)) (fun done δ S'' => ∃ a b c d e g i j kvs, δ = [some (encH h), some (.ref n), a, some (.ref S'.length), b, c, d, e, g, i, j, none] ∧ Fr S' S'' ∧ S''[S'.length]? = some (.dic kvs false) ∧ LastD h done kvs ∧ ∀ pre i post, row = pre ++ i :: post → pre.length < done.length → Ech h pre i post) [] (by rfl) ?_ ?_ ?_
        · simp [lenOf_lst hS4, rangeOk0 (show row.length ≤ 1000 by omega), rangeD0]
          refine ⟨by have := zip_range row 0; simpa using this.symm, Fr.app, ⟨by simp, by simp, fun nm => rfl⟩⟩
        · rintro δ S'' ⟨a, b, c, d, e, g2, i, j, kvs, rfl, f4, hd, L, T⟩
          refine ⟨rfl, ?_⟩
          simp
          refine q true S'' (f02.trans f4) (isO true (by
            simp
            exact ⟨g, hnd, h4', fun pre i post x e hx => T pre i post e (by rw [e]; simp) x hx⟩))
        · rintro done y rest δ S'' h1 ⟨a, b, c, d, e, g2, i, j, kvs, rfl, f4, hd, L, T⟩
          refine ⟨rfl, _, rfl, ?_⟩
          have hS5 := f4 _ _ hS3
          have hy : y < h.length := g y (by rw [h1]; simp)
          have gy := get_ok hy
          have cy := hk.cl _ (List.getElem_mem hy)
          have hr : (encI row)[done.length]? = some (.int (y : Nat)) := by rw [h1]; simp
          have f05 := f02.trans f4
          have bad : ¬ Ech h done y rest → ¬ OrdI h row := fun hn O => hn fun x hx => O.each done y rest x h1 hx
          refine w_seq (fun o S1 => o = .nx [some (encH h), some (.ref n), a, some (.ref S'.length), some (.int done.length), some (.str (if h[y].w = true then sWrite else sRead)), some (.str h[y].nm), some h[y].told, some (.int h[y].b), some (encO h[y].e), j, none] ∧ S'' = S1) ?_ ?_
          · simp [wp_ix (seqOf_lst hS5) hr, map_enc_ix hy, setAll, -Bool.exists_bool]
          rintro _ _ ⟨rfl, rfl⟩
          generalize h[y] = x at *
          rw [thenO_nx]
          refine w_seq (fun o S1 => S'' = S1 ∧ ((o = .nx [some (encH h), some (.ref n), a, some (.ref S'.length), some (.int done.length), some (.str (if x.w = true then sWrite else sRead)), some (.str x.nm), some x.told, some (.int x.b), some (encO x.e), j, none] ∧ (x.w = false → x.e ≠ none ∧ x.told = lastW h done x.nm)) ∨ (o = .rt (.bl false) ∧ ¬ (x.w = false → x.e ≠ none ∧ x.told = lastW h done x.nm)))) ?_ ?_
          · cases hw : x.w with
            | true => simp
            | false =>
              cases hee : x.e with
              | none => simp
              | some ee =>
                simp [recv_get hd, -Bool.exists_bool]
                rw [m_get1 hd (L.key _), wR_ok]
                rw [L.look, cmp_ne (cln_td cy.td) (cln_td (lastW_td hk done x.nm))]
                by_cases e1 : x.told = lastW h done x.nm <;> simp [e1]
          rintro _ _ ⟨rfl, ⟨rfl, rd⟩ | ⟨rfl, rd⟩⟩
          case inr =>
            rw [thenO_rt]
            exact q false _ f05 (isO false (by
              simp
              exact bad fun E => rd (E x gy).1))
          rw [thenO_nx]
          refine w_seq (fun o S1 => ∃ m, o = .nx [some (encH h), some (.ref n), a, some (.ref S'.length), some (.int done.length), some (.str (if x.w = true then sWrite else sRead)), some (.str x.nm), some x.told, some (.int x.b), some (encO x.e), some (.ref m), none] ∧ Fr S'' S1 ∧ S1[m]? = some (.lst ((behind h x.nm rest).map enc))) ?_ ?_
          · have il : done.length + 1 ≤ row.length := by rw [h1]; simp
            have dr : row.drop (done.length + 1) = rest := by rw [h1]; simp
            have lr : rest.length ≤ 100 := by rw [h1] at l100; simp at l100; omega
            have bq : rest.filterMap (fun j => ((h[j]?).bind fun y => if y.nm = x.nm ∧ y.e.isSome = true then some y else none).map enc) = (behind h x.nm rest).map enc := by
              unfold behind
              rw [List.map_filterMap]
            rw [w_set]
            refine w_lc rest (fun j => .int (j : Nat)) (fun j => ((h[j]?).bind fun y => if y.nm = x.nm ∧ y.e.isSome = true then some y else none).map enc) rfl ?_ (by unfold lim; omega) (fun j hj S6 f6 => ?_) fun S6 m f6 _ hm => ?_
            · simp [sl_lst hS5, -List.map_append]
              rw [show ((done.length : Int) + 1) = ((done.length + 1 : Nat) : Int) by omega, cut_dropI il, dr]
              simp [itOf_lst get_new, chk_one1 get_new, Fr.app]
            · have hj2 : j < h.length := g j (by rw [h1]; simp [hj])
              have gj := get_ok hj2
              have cn : cmpD .Eq (.str h[j].nm) (.str x.nm) S6 = some (decide (h[j].nm = x.nm)) := by
                rw [cmp_eq (cln_nm (hk.cl _ (List.getElem_mem hj2)).nm) (cln_nm cy.nm)]
                simp
              simp [wipe, Tg.put, map_enc_ix hj2, cn, gj, -Bool.exists_bool]
              by_cases e1 : h[j].nm = x.nm
              · cases e2 : h[j].e <;> simp [e1, Fr.refl]
              · simp [e1, Fr.refl]
            · rw [bq] at hm
              refine ⟨m, ?_, f6, hm⟩
              simp
          rintro _ S6 ⟨m, rfl, f6, hm⟩
          rw [thenO_nx]
          refine w_seq (fun o S1 => Fr S6 S1 ∧ ((o = .nx [some (encH h), some (.ref n), a, some (.ref S'.length), some (.int done.length), some (.str (if x.w = true then sWrite else sRead)), some (.str x.nm), some x.told, some (.int x.b), some (encO x.e), some (.ref m), none] ∧ ∀ j ∈ rest, ∀ y, h[j]? = some y → y.nm = x.nm → ∀ e, y.e = some e → x.b ≤ e) ∨ (o = .rt (.bl false) ∧ ¬ ∀ j ∈ rest, ∀ y, h[j]? = some y → y.nm = x.nm → ∀ e, y.e = some e → x.b ≤ e))) ?_ ?_
          · rw [w_ifs]
            have lb : (behind h x.nm rest).length ≤ 100 := by
              have := List.length_filterMap_le (fun j => (h[j]?).bind fun y => if y.nm = x.nm ∧ y.e.isSome = true then some y else none) rest
              have lr : rest.length ≤ 100 := by rw [h1] at l100; simp at l100; omega
              unfold behind
              omega
            refine w_any (behind h x.nm rest) enc (fun y => match y.e with | some e => decide (e < x.b) | none => false) (by exact lock_lst rfl hm) ?_ (by unfold lim; omega) (fun y hy S7 f7 => ?_) fun S7 f7 => ?_
            · simp [keysOf_lst hm, chk_one1 hm, Fr.refl]
            · refine ⟨_, rfl, ?_⟩
              obtain ⟨j, hj, hj2, hj3, hj4⟩ := behind_mem.mp hy
              obtain ⟨e, he⟩ := Option.isSome_iff_exists.mp hj4
              simp [wipe, he, encO, Fr.refl]
              omega
            · have key : ((behind h x.nm rest).any fun y => match y.e with | some e => decide (e < x.b) | none => false) = true ↔ ¬ ∀ j ∈ rest, ∀ y, h[j]? = some y → y.nm = x.nm → ∀ e, y.e = some e → x.b ≤ e := by
                rw [List.any_eq_true]
                constructor
                · rintro ⟨y, hy, h2⟩ hall
                  obtain ⟨j, hj, hj2, hj3, hj4⟩ := behind_mem.mp hy
                  obtain ⟨e, he⟩ := Option.isSome_iff_exists.mp hj4
                  have := hall j hj y hj2 hj3 e he
                  rw [he] at h2
                  simp at h2
                  omega
                · intro hn
                  simp only [Classical.not_forall] at hn
                  obtain ⟨j, hj, y, hj2, hj3, e, he, hlt⟩ := hn
                  refine ⟨y, behind_mem.mpr ⟨j, hj, hj2, hj3, by simp [he]⟩, ?_⟩
                  rw [he]
                  simp
                  omega
              generalize ((behind h x.nm rest).any fun y => match y.e with | some e => decide (e < x.b) | none => false) = bb at key
              cases bb with
              | false =>
                simp only [tru_bl, Option.some.injEq, exists_eq_left', Bool.false_eq_true, if_false, w_snil]
                refine ⟨f7, .inl ⟨trivial, ?_⟩⟩
                exact Classical.not_not.mp fun hn => by have := key.mpr hn; cases this
              | true =>
                simp only [tru_bl, Option.some.injEq, exists_eq_left', if_true, w_scons, w_ret, w_lit, thenO_rt]
                exact ⟨f7, .inr ⟨trivial, key.mp rfl⟩⟩
          rintro _ S7 ⟨f7, ⟨rfl, nl⟩ | ⟨rfl, nl⟩⟩
          case inr =>
            rw [thenO_rt]
            exact q false _ ((f05.trans f6).trans f7) (isO false (by
              simp
              exact bad fun E => nl (E x gy).2))
          rw [thenO_nx]
          have T' : ∀ pre i post, row = pre ++ i :: post → pre.length < done.length + 1 → Ech h pre i post := fun pre i post e hl => by
            by_cases e1 : pre.length < done.length
            · exact T pre i post e e1
            · obtain ⟨rfl, e2⟩ := List.append_inj (h1.symm.trans e) (by omega)
              simp at e2
              obtain ⟨rfl, rfl⟩ := e2
              intro x' hx'
              rw [gy] at hx'
              cases hx'
              exact ⟨rd, nl⟩
          have hd7 := f7 _ _ (f6 _ _ hd)
          have f47 := (f4.trans f6).trans f7
          cases hw : x.w with
          | true =>
            simp
            have ll : kvs.length < lim := by
              have := L.len
              have : done.length ≤ row.length := by rw [h1]; simp
              unfold lim
              omega
            rw [setIx_dic hd7 (L.key _) ll, wR_ok]
            exact ⟨f47.set dn, _, get_set hd7, L.write gy hw, T'⟩
          | false =>
            simp
            exact ⟨f47, kvs, hd7, L.read gy hw, T'⟩
      · rintro done y rest δ S' h1 ⟨a, rfl, f3, h4⟩
        refine ⟨rfl, _, rfl, ?_⟩
        have hS3 := f3 _ _ hS2
        have hy : y < h.length := List.mem_range.mp (by rw [h1]; simp)
        have gy := get_ok hy
        have cni : ∀ {S : Store}, S[n]? = some (.lst (encI row)) → cmpD .NotIn (.int (y : Nat)) (.ref n) S = some (!decide (y ∈ row)) := fun hS => by
          rw [cmp_nin (cln_int) (seqOf_lst hS) (fun x hx => by obtain ⟨i, _, rfl⟩ := List.mem_map.mp hx; exact cln_int)]
          simp only [mem_encI]
        simp [map_enc_ix hy, cni hS3, -Bool.exists_bool]
        generalize h[y] = x at gy
        have good : (x.e ≠ none → y ∈ row) → ∀ i ∈ done ++ [y], ∀ x, h[i]? = some x → x.e ≠ none → i ∈ row := fun hy2 i hi z hz he => by
          rcases List.mem_append.mp hi with hi | hi
          · exact h4 i hi z hz he
          · simp at hi
            subst hi
            rw [gy] at hz
            cases hz
            exact hy2 he
        cases he : x.e with
        | none =>
          simp
          exact ⟨f3, by simpa using good (by simp [he])⟩
        | some e =>
          by_cases hi : y ∈ row
          · simp [hi]
            exact ⟨f3, by simpa using good (by simp [hi])⟩
          · simp [hi]
            exact q false S' (f2.trans f3) (isO false (by simp; exact fun O => hi (O.all y x gy (by simp [he]))))
end
end K47
set_option Elab.async false
set_option linter.all false
set_option maxRecDepth 100000
set_option maxHeartbeats 1000000
/-! k47, plain. Part AD: is_bar. -/
namespace K47
open PySem Ev
abbrev sOther : Str := Str.ofString "other"
def wdOk (w : Str) : Prop := w = sStr ∨ w = sEarly ∨ w = sLate ∨ w = sCrossed ∨ w = sOther
theorem cln_wd {w : Str} {n : Nat} (h : wdOk w) : cln n (.str w) = true := by
  have : PyData.strOk w = true := by rcases h with rfl | rfl | rfl | rfl | rfl <;> kernel_rfl
  cases n <;> exact this
theorem wd1 : sStr ≠ sEarly := by decide
theorem wd2 : sStr ≠ sLate := by decide
theorem wd3 : sStr ≠ sCrossed := by decide
theorem wd4 : sEarly ≠ sLate := by decide
theorem wd5 : sEarly ≠ sCrossed := by decide
theorem wd6 : sLate ≠ sCrossed := by decide
theorem wd7 : sStr ≠ sOther := by decide
theorem wd8 : sEarly ≠ sOther := by decide
theorem wd9 : sLate ≠ sOther := by decide
theorem wd10 : sCrossed ≠ sOther := by decide
def tls (x : Cl) : Bool := !decide (x.told = .non) && (x.w || x.e.isSome)
/-- x ended ahead of y's begin -/
def ahC (x y : Cl) : Bool := match x.e with
  | some e => decide (e < y.b)
  | none => false
def late2 (x y : Cl) : Bool := decide (x.nm = y.nm) && tls x && (!y.w && (y.e.isSome && decide (y.told = .non))) && ahC x y
def cross4 (a b c d : Cl) : Bool := (tls a && tls b && tls c && tls d) && (decide (b.nm = a.nm) && decide (c.nm = a.nm) && decide (d.nm = a.nm)) && (decide (a.told = b.told) && decide (c.told = d.told) && !decide (a.told = c.told)) && (ahC a c && ahC d b)
def single (h : List Cl) (early : Bool) (x : Cl) : Bool := told x && (match wrOf h x with
  | none => !early
  | some j => early && (match h[j]? with
    | some w => ahC x w
    | none => false))
/-- the calls of a row are a bar -/
def barC (h : List Cl) (w : Str) (cs : List Cl) : Bool := match cs with
  | [x] => (decide (w = sStr) && single h false x) || (decide (w = sEarly) && single h true x)
  | [x, y] => decide (w = sLate) && late2 x y
  | [a, b, c, d] => decide (w = sCrossed) && cross4 a b c d
  | _ => false
def callsOf (h : List Cl) (row : List Nat) : List Cl := row.filterMap fun i => h[i]?
theorem calls_len {h : List Cl} : ∀ {row : List Nat}, GOk h row → (callsOf h row).length = row.length
  | [], _ => rfl
  | i :: row, g => by
    have := calls_len (h := h) (row := row) fun j hj => g j (.tail _ hj)
    unfold callsOf at *
    rw [List.filterMap_cons, get_ok (g i (.head _))]
    simp [this]
theorem calls_mem {h : List Cl} {row : List Nat} {x : Cl} (hx : x ∈ callsOf h row) : x ∈ h := by
  obtain ⟨i, _, hi⟩ := List.mem_filterMap.mp hx
  exact List.mem_of_getElem? hi
theorem calls_at {h : List Cl} {row : List Nat} (g : GOk h row) {i j : Nat} (hj : row[i]? = some j) : (callsOf h row)[i]? = h[j]? := by
  induction row generalizing i with
  | nil => simp at hj
  | cons a row ih =>
    have e : callsOf h (a :: row) = h[a]'(g a (.head _)) :: callsOf h row := by
      unfold callsOf
      rw [List.filterMap_cons, get_ok (g a (.head _))]
    rw [e]
    cases i with
    | zero =>
      simp at hj
      subst hj
      simp [get_ok (g a (.head _))]
    | succ i =>
      simp at hj ⊢
      exact ih (fun j hj => g j (.tail _ hj)) hj
/-- the row of a thing's places -/
def rowOfD (n : Nat) (ds : List D) : Option (List Nat) := if (ds.all fun x => isB x 0 ((n : Int) - 1)) = true then some (ds.map fun d => match d with
  | .int i => i.toNat
  | _ => 0) else none
/-- a thing is a bar -/
def isBar (h : List Cl) (d : D) : Bool := match d with
  | .tup (.str w :: ds) => match rowOfD h.length ds with
    | some row => barC h w (callsOf h row)
    | none => false
  | _ => false
theorem rowOfD_encI {h : List Cl} {row : List Nat} (g : GOk h row) : rowOfD h.length (encI row) = some row := by
  unfold rowOfD
  rw [if_pos (idx_all g)]
  congr 1
  unfold encI
  rw [List.map_map]
  have : ((fun d => match d with | .int i => i.toNat | _ => 0) ∘ fun (i : Nat) => D.int (i : Int)) = id := by
    funext i
    simp
  rw [this, List.map_id]
def smp : D → Prop
  | .int _ => True
  | .bl _ => True
  | .non => True
  | _ => False
theorem smp_ty {x : D} (h : smp x) : ∃ t, ∀ S, tyOf S x = some t := by
  cases x <;> first | exact h.elim | exact ⟨_, fun _ => rfl⟩
/-- things that may be a bar -/
inductive BTh (S : Store) : D → Prop
  | no (d : D) (t : String) : tyOf S d = some t → isInst t "tuple" = false → BTh S d
  | nil : BTh S (.tup [])
  | tup (w : Str) (ds : List D) : wdOk w → ds.length ≤ 100 → (∀ x ∈ ds, smp x) → BTh S (.tup (.str w :: ds))
theorem isBar_no {h : List Cl} {S : Store} {d : D} {t : String} (h1 : tyOf S d = some t) (h2 : isInst t "tuple" = false) : isBar h d = false := by
  cases d with
  | tup ds => simp at h1; subst h1; simp at h2
  | _ => rfl
section
variable {k : Nat} {S : Store} {Q : D → Store → Prop}
theorem s_tells {x : Cl} (q : Q (.bl (tls x)) S) : wR (C (k + 1) (Str.ofString "tells") [enc x] S) Q := by
  refine w_fn fn_tells rfl ?_
  simp [f_tells, startEnv, -Bool.exists_bool]
  unfold tls at q
  by_cases e1 : x.told = .non
  · simp [e1] at q ⊢
    exact q
  · cases hw : x.w <;> simp [e1, hw] at q ⊢
    · cases he : x.e <;> simp [he] at q ⊢ <;> exact q
    · exact q
theorem s_is_single {h : List Cl} (hk : HOk h) {x : Cl} (hx : x ∈ h) {early : Bool} (q : Q (.bl (single h early x)) S) : wR (C (k + 2) (Str.ofString "is_single") [encH h, .str (if early = true then sEarly else sStr), enc x] S) Q := by
  refine w_fn fn_is_single rfl ?_
  have e0 : cmpD .Eq (.str (if early = true then sEarly else sStr)) (.str sStr) S = some (!early) := by
    rw [cmp_eq (cln_wd (by cases early <;> simp [wdOk])) (cln_wd (by simp [wdOk]))]
    cases early <;> simp [wd1.symm]
  simp [f_is_single, startEnv, -Bool.exists_bool]
  unfold single told at q
  cases hw : x.w with
  | true =>
    simp [hw] at q ⊢
    exact q
  | false =>
    cases he : x.e with
    | none =>
      simp [hw, he] at q ⊢
      exact q
    | some e =>
      by_cases ht : x.told = .non
      · simp [hw, he, ht] at q ⊢
        exact q
      · simp [ht, -Bool.exists_bool]
        refine s_writer_of hk (hk.cl x hx) ?_
        simp [hw, he, ht] at q
        simp only [e0, Option.some.injEq, exists_eq_left']
        cases ew : wrOf h x with
        | none =>
          rw [ew] at q
          cases early <;> simp [encN] at q ⊢ <;> exact q
        | some j =>
          obtain ⟨w, hj, _, _⟩ := wrOf_some ew
          rw [ew] at q
          cases early
          · simp [encN] at q ⊢
            exact q
          · simp [encN, hj, ahC, he, encH_ix hj, encO] at q ⊢
            by_cases hlt : e < w.b
            · exact .inr ⟨hlt, by simpa [hlt] using q⟩
            · exact .inl ⟨by omega, by simpa [hlt] using q⟩
theorem s_is_late {x y : Cl} (hx : ClOk x) (hy : ClOk y) (q : Q (.bl (late2 x y)) S) : wR (C (k + 2) (Str.ofString "is_late") [enc x, enc y] S) Q := by
  refine w_fn fn_is_late rfl ?_
  have cn : cmpD .NotEq (.str x.nm) (.str y.nm) S = some (!decide (x.nm = y.nm)) := by
    rw [cmp_ne (cln_nm hx.nm) (cln_nm hy.nm)]
    simp
  simp [f_is_late, startEnv, cn, -Bool.exists_bool]
  unfold late2 at q
  by_cases e1 : x.nm = y.nm
  · refine ⟨false, by simp [e1], ?_⟩
    simp [-Bool.exists_bool]
    refine s_tells ?_
    simp [e1] at q
    cases et : tls x with
    | false =>
      simp [et] at q ⊢
      exact q
    | true =>
      simp [et] at q ⊢
      cases he : x.e with
      | none =>
        simp [ahC, he] at q ⊢
        exact q
      | some e =>
        simp [ahC, he] at q ⊢
        cases hw : y.w <;> simp [hw] at q ⊢
        · cases hye : y.e <;> simp [hye] at q ⊢
          · exact q
          · by_cases ht : y.told = .non <;> simp [ht, encO] at q ⊢
            · by_cases hlt : e < y.b
              · exact .inr ⟨hlt, by simpa [hlt] using q⟩
              · exact .inl ⟨by omega, by simpa [hlt] using q⟩
            · exact q
        · exact q
  · refine ⟨true, by simp [e1], ?_⟩
    simp [e1] at q ⊢
    exact q
theorem s_is_crossed {a b c d : Cl} {n : Nat} (ha : ClOk a) (hb : ClOk b) (hc : ClOk c) (hd : ClOk d) (hS : S[n]? = some (.lst [enc a, enc b, enc c, enc d])) (q : ∀ S', Fr S S' → Q (.bl (cross4 a b c d)) S') : wR (C (k + 2) (Str.ofString "is_crossed") [.ref n] S) Q := by
  refine w_fn fn_is_crossed rfl ?_
  simp [f_is_crossed, startEnv, seqOf_lst hS, setAll, -Bool.exists_bool]
  refine w_all [a, b, c, d] enc (fun x => tls x && decide (x.nm = a.nm)) (by exact lock_lst rfl hS) ?_ (by simp [lim]) (fun y hy S2 f2 => ?_) fun S2 f2 => ?_
  · simp [keysOf_lst hS, chk_one1 hS, Fr.refl]
  · refine ⟨_, rfl, ?_⟩
    have hy' : ClOk y := by simp at hy; rcases hy with rfl | rfl | rfl | rfl <;> assumption
    have cn : cmpD .Eq (.str y.nm) (.str a.nm) S2 = some (decide (y.nm = a.nm)) := by
      rw [cmp_eq (cln_nm hy'.nm) (cln_nm ha.nm)]
      simp
    simp [wipe, -Bool.exists_bool]
    refine s_tells ?_
    cases tls y <;> simp [cn, Fr.refl]
  replace q := q S2 f2
  unfold cross4 at q
  have cq : ∀ {x y : Cl}, ClOk x → ClOk y → cmpD .NotEq x.told y.told S2 = some (!decide (x.told = y.told)) := fun hx hy => cmp_ne (cln_td hx.td) (cln_td hy.td)
  have ce : ∀ {x y : Cl}, ClOk x → ClOk y → cmpD .Eq x.told y.told S2 = some (decide (x.told = y.told)) := fun hx hy => cmp_eq (cln_td hx.td) (cln_td hy.td)
  have ea : (([a, b, c, d].all fun x => tls x && decide (x.nm = a.nm))) = ((tls a && tls b && tls c && tls d) && (decide (b.nm = a.nm) && decide (c.nm = a.nm) && decide (d.nm = a.nm))) := by
    simp
    cases tls a <;> cases tls b <;> cases tls c <;> cases tls d <;> simp [Bool.and_assoc]
  rw [ea]
  cases e1 : ((tls a && tls b && tls c && tls d) && (decide (b.nm = a.nm) && decide (c.nm = a.nm) && decide (d.nm = a.nm))) with
  | false =>
    rw [e1] at q
    simp at q ⊢
    exact q
  | true =>
    rw [e1] at q
    simp [-Bool.exists_bool] at q ⊢
    cases hea : a.e with
    | none =>
      simp [ahC, hea] at q ⊢
      exact q
    | some xa =>
      cases hed : d.e with
      | none =>
        simp [ahC, hea, hed] at q ⊢
        exact q
      | some xd =>
        simp [ahC, hea, hed, cq ha hb, cq hc hd, ce ha hc, encO, -Bool.exists_bool] at q ⊢
        by_cases t1 : a.told = b.told
        · by_cases t2 : c.told = d.told
          · by_cases t3 : a.told = c.told
            · refine ⟨false, by simp [t1], ?_⟩
              simp
              refine .inl ⟨t2, ?_⟩
              rw [if_pos t3]
              simp [t3] at q
              exact q
            · refine ⟨false, by simp [t1], ?_⟩
              simp
              refine .inl ⟨t2, ?_⟩
              rw [if_neg t3]
              simp [t1, t2] at q
              have t4 : ¬ b.told = d.told := by rw [← t1, ← t2]; exact t3
              simp [t4] at q
              by_cases l1 : xa < c.b
              · simp [l1] at q ⊢
                exact q
              · simp [l1] at q ⊢
                exact q
          · refine ⟨false, by simp [t1], ?_⟩
            simp
            refine .inr ⟨t2, ?_⟩
            simp [t2] at q
            exact q
        · refine ⟨true, by simp [t1], ?_⟩
          simp [t1] at q ⊢
          exact q
end
end K47
set_option Elab.async false
set_option linter.all false
set_option maxRecDepth 100000
set_option maxHeartbeats 1000000
/-! k47, plain. Part AE: is_bar, and the law's own look at a bar. -/
namespace K47
open PySem Ev
theorem tyOf_fr {S S' : Store} {d : D} {t : String} (f : Fr S S') (h : tyOf S d = some t) : tyOf S' d = some t := by
  cases d with
  | ref n =>
    simp only [tyOf] at h ⊢
    split at h
    · rename_i e; rw [f _ _ e]; exact h
    · rename_i e; rw [f _ _ e]; exact h
    · cases h
  | _ => exact h
theorem wd_eq {S : Store} {a b : Str} (ha : wdOk a) (hb : wdOk b) : cmpD .Eq (.str a) (.str b) S = some (decide (a = b)) := by
  rw [cmp_eq (cln_wd ha) (cln_wd hb)]
  simp
theorem wd_ne {S : Store} {a b : Str} (ha : wdOk a) (hb : wdOk b) : cmpD .NotEq (.str a) (.str b) S = some (!decide (a = b)) := by
  rw [cmp_ne (cln_wd ha) (cln_wd hb)]
  simp
theorem wd_in {S : Store} {a b c : Str} (ha : wdOk a) (hb : wdOk b) (hc : wdOk c) : cmpD .In (.str a) (.tup [.str b, .str c]) S = some (decide (a = b) || decide (a = c)) := by
  rw [cmp_in (xs := [.str b, .str c]) (cln_wd ha) rfl (by simp [cln_wd hb, cln_wd hc])]
  simp
theorem ok1 : wdOk sStr := .inl rfl
theorem ok2 : wdOk sEarly := .inr (.inl rfl)
theorem ok3 : wdOk sLate := .inr (.inr (.inl rfl))
theorem ok4 : wdOk sCrossed := .inr (.inr (.inr (.inl rfl)))
theorem cut_1n {x : D} {xs : List D} : cut (x :: xs) (some 1) none = xs := by
  unfold cut sIx
  simp
  rw [show min 1 ((xs.length : Int) + 1) = 1 by omega]
  simp
section
variable {k : Nat} {S : Store} {Q : D → Store → Prop}
theorem s_is_bar {h : List Cl} (hk : HOk h) {d : D} (hd : BTh S d) (q : ∀ S', Fr S S' → Q (.bl (isBar h d)) S') : wR (C (k + 8) (Str.ofString "is_bar") [encH h, d] S) Q := by
  refine w_fn fn_is_bar rfl ?_
  simp [f_is_bar, startEnv, -Bool.exists_bool]
  refine s_check_history hk fun S1 f1 => ?_
  cases hd with
  | no _ t h1 h2 =>
    refine ⟨t, tyOf_fr f1 h1, ?_⟩
    simp [h2]
    have := q S1 f1
    rw [isBar_no h1 h2] at this
    exact this
  | nil =>
    simp
    exact q S1 f1
  | tup w ds hw hl he =>
    simp [-Bool.exists_bool]
    have lim100 : ds.length ≤ lim := by unfold lim; omega
    cases ds with
    | nil =>
      simp
      have := q S1 f1
      have e : isBar h (.tup [.str w]) = false := by simp [isBar, rowOfD, callsOf, barC]
      rw [e] at this
      exact this
    | cons x xs =>
    generalize hds : x :: xs = ds at *
    have hpos : ¬ ((ds.length : Int) + 1 < 2) := by rw [← hds]; simp; omega
    simp only [if_neg hpos]
    refine w_all ds id (fun x => isB x 0 ((h.length : Int) - 1)) (by rfl) ?_ lim100 (fun y hy S2 f2 => ?_) fun S2 f2 => ?_
    · simp [cut_1n, chkOk, Fr.refl]
    · refine ⟨_, rfl, ?_⟩
      simp [wipe, -Bool.exists_bool]
      obtain ⟨t, ht⟩ := smp_ty (he y hy)
      exact s_is_index (ht S2) ⟨rfl, Fr.refl⟩
    cases ea : ds.all fun x => isB x 0 ((h.length : Int) - 1) with
    | false =>
      simp
      have e : isBar h (.tup (.str w :: ds)) = false := by simp [isBar, rowOfD, ea]
      have := q S2 (f1.trans f2)
      rw [e] at this
      exact this
    | true =>
    obtain ⟨row, rfl, g⟩ := idx_of ea
    have eb : isBar h (.tup (.str w :: encI row)) = barC h w (callsOf h row) := by simp [isBar, rowOfD_encI g]
    rw [eb] at q
    simp [-Bool.exists_bool]
    refine w_lc row (fun i => .int (i : Nat)) (fun i => (h[i]?).map enc) (by rfl) ?_ (by simpa using lim100) (fun i hi S3 f3 => ?_) fun S3 m f3 _ hm => ?_
    · simp [cut_1n, chkOk, Fr.refl]
    · have hi2 := g i hi
      simp [wipe, Tg.put, map_enc_ix hi2, get_ok hi2, Fr.refl]
    have em : row.filterMap (fun i => (h[i]?).map enc) = (callsOf h row).map enc := by
      unfold callsOf
      rw [List.map_filterMap]
    rw [em] at hm
    have f03 := (f1.trans f2).trans f3
    have cl := calls_len g
    have cm : ∀ x ∈ callsOf h row, x ∈ h := fun x hx => calls_mem hx
    generalize callsOf h row = cs at *
    simp [lim, wd_in hw ok2 ok1, -Bool.exists_bool]
    have rl : row.length ≠ 0 := by
      have := congrArg List.length hds
      simp at this
      omega
    match cs, cl, cm, hm, q with
    | [], cl, _, _, _ => exact absurd cl.symm rl
    | [x], cl, cm, hm, q =>
      have hx := cm x (by simp)
      have l1 : (row.length : Int) = 1 := by simp at cl; omega
      replace q := q S3 f03
      simp only [barC] at q
      rcases hw with rfl | rfl | rfl | rfl | rfl
      · simp [wd1, l1, -Bool.exists_bool]
        refine s_is_tuple_of ?_
        simp [l1, wp_ix0 (seqOf_lst hm), -Bool.exists_bool]
        refine s_is_single (early := false) hk hx ?_
        simpa [wd1] using q
      · simp [wd1.symm, l1, -Bool.exists_bool]
        refine s_is_tuple_of ?_
        simp [l1, wp_ix0 (seqOf_lst hm), -Bool.exists_bool]
        refine s_is_single (early := true) hk hx ?_
        simpa [wd1.symm] using q
      · simp [wd2.symm, wd4.symm, wd_eq ok3 ok3, l1, -Bool.exists_bool]
        refine s_is_tuple_of ?_
        simp [l1, -Bool.exists_bool]
        simpa [wd2.symm, wd4.symm] using q
      · simp [wd3.symm, wd5.symm, wd6.symm, wd_eq ok4 ok3, wd_eq ok4 ok4, l1, -Bool.exists_bool]
        refine s_is_tuple_of ?_
        simp [l1, -Bool.exists_bool]
        simpa [wd3.symm, wd5.symm] using q
      · have ok5 : wdOk sOther := .inr (.inr (.inr (.inr rfl)))
        simp [wd7.symm, wd8.symm, wd9.symm, wd10.symm, wd_eq ok5 ok3, wd_eq ok5 ok4, -Bool.exists_bool]
        simpa [wd7.symm, wd8.symm] using q
    | [x, y], cl, cm, hm, q =>
      have hx := hk.cl _ (cm x (by simp))
      have hy := hk.cl _ (cm y (by simp))
      have l1 : (row.length : Int) = 2 := by simp at cl; omega
      replace q := q S3 f03
      simp only [barC] at q
      have ok5 : wdOk sOther := .inr (.inr (.inr (.inr rfl)))
      rcases hw with rfl | rfl | rfl | rfl | rfl
      · simp [wd1, wd1.symm, -Bool.exists_bool]
        refine s_is_tuple_of ?_
        have ne : ¬ ((row.length : Int) + 1 = 2) := by omega
        simp [ne, -Bool.exists_bool]
        simpa [wd1, wd2, wd3, wd4, wd5] using q
      · simp [wd1, wd1.symm, -Bool.exists_bool]
        refine s_is_tuple_of ?_
        have ne : ¬ ((row.length : Int) + 1 = 2) := by omega
        simp [ne, -Bool.exists_bool]
        simpa [wd1, wd2, wd3, wd4, wd5] using q
      · simp [wd2.symm, wd4.symm, wd_eq ok3 ok3, -Bool.exists_bool]
        refine s_is_tuple_of ?_
        have ne : (row.length : Int) + 1 = 3 := by omega
        have hm0 : (([x, y].map enc)[0]? : Option D) = some (enc x) := rfl
        have hm1 : (([x, y].map enc)[1]? : Option D) = some (enc y) := rfl
        have p0 : ∀ {Q : D → Store → Prop}, wR (ixD (.ref m) (.int 0) S3) Q ↔ Q (enc x) S3 := wp_ix (i := 0) (seqOf_lst hm) hm0
        have p1 : ∀ {Q : D → Store → Prop}, wR (ixD (.ref m) (.int 1) S3) Q ↔ Q (enc y) S3 := wp_ix (i := 1) (seqOf_lst hm) hm1
        simp [ne, p0, p1, -Bool.exists_bool]
        refine s_is_late hx hy ?_
        simpa using q
      · simp [wd3.symm, wd5.symm, wd6.symm, wd_eq ok4 ok3, wd_eq ok4 ok4, -Bool.exists_bool]
        refine s_is_tuple_of ?_
        have ne : ¬ ((row.length : Int) + 1 = 5) := by omega
        simp [ne, -Bool.exists_bool]
        simpa [wd6.symm] using q
      · simp [wd7.symm, wd8.symm, wd9.symm, wd10.symm, wd_eq ok5 ok3, wd_eq ok5 ok4, -Bool.exists_bool]
        simpa [wd9.symm, wd10.symm] using q
    | [x, y, z], cl, cm, hm, q =>
      have l1 : (row.length : Int) = 3 := by simp at cl; omega
      have q1 := q S3 f03
      simp only [barC] at q1
      have ok5 : wdOk sOther := .inr (.inr (.inr (.inr rfl)))
      rcases hw with rfl | rfl | rfl | rfl | rfl
      · simp [wd1, wd1.symm, -Bool.exists_bool]
        refine s_is_tuple_of ?_
        have ne : ¬ ((row.length : Int) + 1 = 2) := by omega
        simp [ne, -Bool.exists_bool]
        simpa [wd1, wd2, wd3, wd4, wd5] using q1
      · simp [wd1, wd1.symm, -Bool.exists_bool]
        refine s_is_tuple_of ?_
        have ne : ¬ ((row.length : Int) + 1 = 2) := by omega
        simp [ne, -Bool.exists_bool]
        simpa [wd1, wd2, wd3, wd4, wd5] using q1
      · simp [wd2.symm, wd4.symm, wd_eq ok3 ok3, -Bool.exists_bool]
        refine s_is_tuple_of ?_
        have ne : ¬ ((row.length : Int) + 1 = 3) := by omega
        simp [ne, -Bool.exists_bool]
        simpa [wd6] using q1
      · simp [wd3.symm, wd5.symm, wd6.symm, wd_eq ok4 ok3, wd_eq ok4 ok4, -Bool.exists_bool]
        refine s_is_tuple_of ?_
        have ne : ¬ ((row.length : Int) + 1 = 5) := by omega
        simp [ne, -Bool.exists_bool]
        simpa [wd6.symm] using q1
      · simp [wd7.symm, wd8.symm, wd9.symm, wd10.symm, wd_eq ok5 ok3, wd_eq ok5 ok4, -Bool.exists_bool]
        simpa [wd9.symm, wd10.symm] using q1
    | [a, b, c, d], cl, cm, hm, q =>
      have ha := hk.cl _ (cm a (by simp))
      have hb := hk.cl _ (cm b (by simp))
      have hc := hk.cl _ (cm c (by simp))
      have hd := hk.cl _ (cm d (by simp))
      have l1 : (row.length : Int) = 4 := by simp at cl; omega
      have q0 := q
      replace q := q S3 f03
      simp only [barC] at q0
      simp only [barC] at q
      have ok5 : wdOk sOther := .inr (.inr (.inr (.inr rfl)))
      rcases hw with rfl | rfl | rfl | rfl | rfl
      · simp [wd1, wd1.symm, -Bool.exists_bool]
        refine s_is_tuple_of ?_
        have ne : ¬ ((row.length : Int) + 1 = 2) := by omega
        simp [ne, -Bool.exists_bool]
        simpa [wd1, wd2, wd3, wd4, wd5] using q
      · simp [wd1, wd1.symm, -Bool.exists_bool]
        refine s_is_tuple_of ?_
        have ne : ¬ ((row.length : Int) + 1 = 2) := by omega
        simp [ne, -Bool.exists_bool]
        simpa [wd1, wd2, wd3, wd4, wd5] using q
      · simp [wd2.symm, wd4.symm, wd_eq ok3 ok3, -Bool.exists_bool]
        refine s_is_tuple_of ?_
        have ne : ¬ ((row.length : Int) + 1 = 3) := by omega
        simp [ne, -Bool.exists_bool]
        simpa [wd6] using q
      · simp [wd3.symm, wd5.symm, wd6.symm, wd_eq ok4 ok3, wd_eq ok4 ok4, -Bool.exists_bool]
        refine s_is_tuple_of ?_
        have ne : (row.length : Int) + 1 = 5 := by omega
        simp [ne, -Bool.exists_bool]
        refine s_is_crossed ha hb hc hd hm fun S4 f4 => ?_
        simpa using q0 S4 (f03.trans f4)
      · simp [wd7.symm, wd8.symm, wd9.symm, wd10.symm, wd_eq ok5 ok3, wd_eq ok5 ok4, -Bool.exists_bool]
        simpa [wd9.symm, wd10.symm] using q
    | a :: b :: c :: d :: e :: r, cl, cm, hm, q =>
      have l1 : (row.length : Int) = 5 + r.length := by simp at cl; omega
      have q1 := q S3 f03
      simp only [barC] at q1
      have ok5 : wdOk sOther := .inr (.inr (.inr (.inr rfl)))
      rcases hw with rfl | rfl | rfl | rfl | rfl
      · simp [wd1, wd1.symm, -Bool.exists_bool]
        refine s_is_tuple_of ?_
        have ne : ¬ ((row.length : Int) + 1 = 2) := by omega
        simp [ne, -Bool.exists_bool]
        simpa [wd1, wd2, wd3, wd4, wd5] using q1
      · simp [wd1, wd1.symm, -Bool.exists_bool]
        refine s_is_tuple_of ?_
        have ne : ¬ ((row.length : Int) + 1 = 2) := by omega
        simp [ne, -Bool.exists_bool]
        simpa [wd1, wd2, wd3, wd4, wd5] using q1
      · simp [wd2.symm, wd4.symm, wd_eq ok3 ok3, -Bool.exists_bool]
        refine s_is_tuple_of ?_
        have ne : ¬ ((row.length : Int) + 1 = 3) := by omega
        simp [ne, -Bool.exists_bool]
        simpa [wd6] using q1
      · simp [wd3.symm, wd5.symm, wd6.symm, wd_eq ok4 ok3, wd_eq ok4 ok4, -Bool.exists_bool]
        refine s_is_tuple_of ?_
        have ne : ¬ ((row.length : Int) + 1 = 5) := by omega
        simp [ne, -Bool.exists_bool]
        simpa [wd6.symm] using q1
      · simp [wd7.symm, wd8.symm, wd9.symm, wd10.symm, wd_eq ok5 ok3, wd_eq ok5 ok4, -Bool.exists_bool]
        simpa [wd9.symm, wd10.symm] using q1
end
end K47
set_option Elab.async false
set_option linter.all false
set_option maxRecDepth 100000
set_option maxHeartbeats 1000000
/-! k47, plain. Part AF: the law's own look at a bar. -/
namespace K47
open PySem Ev
theorem fm_filter (p : Nat → Bool) (l : List Nat) : (l.filterMap fun i => if p i = true then some (D.int (i : Nat)) else none) = encI (l.filter p) := by
  induction l with
  | nil => rfl
  | cons i l ih =>
    rw [List.filterMap_cons, List.filter_cons, ih]
    cases p i <;> simp
/-- the writers of what a call tells -/
def wrsOf (h : List Cl) (x : Cl) : List Nat := ((List.range h.length).filter (wAt h)).filter fun i => match h[i]? with
  | some y => same y x
  | none => false
theorem wrsOf_mem {h : List Cl} {x : Cl} {i : Nat} : i ∈ wrsOf h x ↔ ∃ y, h[i]? = some y ∧ (y.w && same y x) = true := by
  unfold wrsOf
  rw [List.mem_filter, List.mem_filter, List.mem_range]
  constructor
  · rintro ⟨⟨h1, h2⟩, h3⟩
    rw [get_ok h1] at h3
    rw [wAt_eq h1] at h2
    exact ⟨h[i], get_ok h1, by rw [h2]; exact h3⟩
  · rintro ⟨y, hy, h2⟩
    rw [Bool.and_eq_true] at h2
    refine ⟨⟨(List.getElem?_eq_some_iff.mp hy).1, by rw [wAt_at hy]; exact h2.1⟩, ?_⟩
    rw [hy]
    exact h2.2
theorem wrsOf_asc {h : List Cl} {x : Cl} : (wrsOf h x).Pairwise (· < ·) := ((List.pairwise_lt_range).filter _).filter _
theorem wrsOf_head {h : List Cl} {x : Cl} : (wrsOf h x).head? = wrOf h x := by
  cases e : wrsOf h x with
  | nil =>
    symm
    refine List.findIdx?_eq_none_iff.mpr fun y hy => ?_
    obtain ⟨i, hi⟩ := List.mem_iff_getElem?.mp hy
    cases e2 : (y.w && same y x) with
    | false => rfl
    | true =>
      have : i ∈ wrsOf h x := wrsOf_mem.mpr ⟨y, hi, e2⟩
      rw [e] at this
      cases this
  | cons j r =>
    symm
    have hj : j ∈ wrsOf h x := by rw [e]; exact .head _
    obtain ⟨y, hy, h2⟩ := wrsOf_mem.mp hj
    have hl := (List.getElem?_eq_some_iff.mp hy).1
    refine List.findIdx?_eq_some_iff_getElem.mpr ⟨hl, ?_, fun i hi => ?_⟩
    · have := (List.getElem?_eq_some_iff.mp hy).2
      rw [this]
      exact h2
    · intro e3
      have hi2 : i < h.length := by omega
      have : i ∈ wrsOf h x := wrsOf_mem.mpr ⟨_, get_ok hi2, e3⟩
      rw [e] at this
      have asc := wrsOf_asc (h := h) (x := x)
      rw [e, List.pairwise_cons] at asc
      rcases List.mem_cons.mp this with rfl | this
      · omega
      · have := asc.1 i this
        omega
section
variable {k : Nat} {S : Store} {Q : D → Store → Prop}
theorem s_law_ended_read {h : List Cl} {i : Nat} {x : Cl} (hx : h[i]? = some x) (q : Q (.bl (!x.w && x.e.isSome)) S) : wR (C (k + 1) (Str.ofString "_law_ended_read") [encH h, .int (i : Nat)] S) Q := by
  refine w_fn fn__law_ended_read rfl ?_
  simp [f__law_ended_read, startEnv, encH_ix hx, -Bool.exists_bool]
  cases hw : x.w
  · cases he : x.e <;> simp [hw, he] at q ⊢ <;> exact q
  · simp [hw] at q ⊢
    exact q
theorem s_law_tells {h : List Cl} (hk : HOk h) {i : Nat} {x : Cl} (hx : h[i]? = some x) (q : Q (.bl (tls x)) S) : wR (C (k + 2) (Str.ofString "_law_tells") [encH h, .int (i : Nat)] S) Q := by
  refine w_fn fn__law_tells rfl ?_
  have cx := hk.cl x (List.mem_of_getElem? hx)
  simp [f__law_tells, startEnv, encH_ix hx, -Bool.exists_bool]
  unfold tls at q
  cases hw : x.w with
  | true =>
    simp [hw, cx.wr hw] at q ⊢
    exact q
  | false =>
    simp [-Bool.exists_bool]
    refine s_law_ended_read hx ?_
    cases he : x.e with
    | none => simp [hw, he] at q ⊢; exact q
    | some e => by_cases ht : x.told = .non <;> simp [hw, he, ht] at q ⊢ <;> exact q
theorem s_law_ahead {h : List Cl} {i j : Nat} {x y : Cl} (hx : h[i]? = some x) (hy : h[j]? = some y) (q : Q (.bl (ahC x y)) S) : wR (C (k + 1) (Str.ofString "_law_ahead") [encH h, .int (i : Nat), .int (j : Nat)] S) Q := by
  refine w_fn fn__law_ahead rfl ?_
  simp [f__law_ahead, startEnv, encH_ix hx, encH_ix hy, -Bool.exists_bool]
  unfold ahC at q
  cases he : x.e with
  | none => simp [he] at q ⊢; exact q
  | some e => simp [he, encO, -Bool.exists_bool] at q ⊢; exact q
theorem toPy_smp {S : Store} {n : Nat} {x : D} (h : smp x) : ∃ p, toPy S n x = some p := by
  cases x <;> first | exact h.elim | (cases n <;> exact ⟨_, rfl⟩)
theorem optAll_some {α β : Type} {f : α → Option β} : ∀ {l : List α}, (∀ x ∈ l, ∃ p, f x = some p) → ∃ ps, optAll (l.map f) = some ps ∧ ps.length = l.length
  | [], _ => ⟨[], rfl, rfl⟩
  | x :: l, h => by
    obtain ⟨p, hp⟩ := h x (.head _)
    obtain ⟨ps, h1, h2⟩ := optAll_some (l := l) fun y hy => h y (.tail _ hy)
    exact ⟨p :: ps, by simp [optAll, hp, h1], by simp [h2]⟩
theorem ne_nilT {S : Store} {w : Str} {ds : List D} (hw : wdOk w) (hs : ∀ x ∈ ds, smp x) : cmpD .Eq (.tup (.str w :: ds)) (.tup []) S = some false := by
  obtain ⟨ps, h1, h2⟩ := optAll_some (f := toPy S 59) (l := .str w :: ds) fun x hx => by
    rcases List.mem_cons.mp hx with rfl | hx
    · exact ⟨_, toPy_cln _ _ (cln_wd hw)⟩
    · exact toPy_smp (hs x hx)
  have e1 : toPy S 60 (.tup (.str w :: ds)) = some (.tuple ps) := by
    simp only [toPy, h1, Option.map_some]
  have e2 : toPy S 60 (.tup []) = some (.tuple []) := rfl
  simp only [cmpD, eqD, e1, e2]
  cases ps with
  | nil => simp at h2
  | cons p ps => simp [PyData.eqv, PyData.eqvAll]
theorem cmp_eq_I {a b : Nat} {m m' : List Nat} (h : S[a]? = some (.lst (m.map fun (i : Nat) => D.int (i : Int)))) (h' : S[b]? = some (.lst (m'.map fun (i : Nat) => D.int (i : Int)))) : cmpD .Eq (.ref a) (.ref b) S = some (decide (m = m')) := by
  simp only [cmpD, eqD, toPy_I h, toPy_I h', eqv_pyI]
theorem s_law_is_bar {h : List Cl} (hk : HOk h) {d : D} (hd : BTh S d) (q : ∀ S', Fr S S' → Q (.bl (isBar h d)) S') : wR (C (k + 4) (Str.ofString "_law_is_bar") [encH h, d] S) Q := by
  refine w_fn fn__law_is_bar rfl ?_
  simp [f__law_is_bar, startEnv, -Bool.exists_bool]
  cases hd with
  | no _ t h1 h2 =>
    refine ⟨t, h1, ?_⟩
    simp [h2]
    have := q S Fr.refl
    rw [isBar_no h1 h2] at this
    exact this
  | nil =>
    have : cmpD .Eq (.tup []) (.tup []) S = some true := rfl
    simp [lim, this]
    exact q S Fr.refl
  | tup w ds hw hl he =>
    simp [lim, ne_nilT hw he, -Bool.exists_bool]
    have lim100 : ds.length ≤ lim := by unfold lim; omega
    refine w_all ds id (fun x => isB x 0 ((h.length : Int) - 1)) (by rfl) ?_ lim100 (fun y hy S2 f2 => ?_) fun S2 f2 => ?_
    · simp [cut_1n, chkOk, Fr.refl]
    · refine ⟨_, rfl, ?_⟩
      simp [wipe, -Bool.exists_bool]
      obtain ⟨t, ht⟩ := smp_ty (he y hy)
      refine s_law_is_int (ht S2) ?_
      cases y with
      | int i =>
        simp [isI, isB, -Bool.exists_bool]
        by_cases e1 : 0 ≤ i
        · by_cases e2 : i < (h.length : Int)
          · simp [e1, e2, Fr.refl]
            omega
          · simp [e1, e2, Fr.refl]
            omega
        · simp [e1, Fr.refl]
      | _ => simp [isI, isB, Fr.refl]
    cases ea : ds.all fun x => isB x 0 ((h.length : Int) - 1) with
    | false =>
      simp
      have e : isBar h (.tup (.str w :: ds)) = false := by simp [isBar, rowOfD, ea]
      have := q S2 f2
      rw [e] at this
      exact this
    | true =>
    obtain ⟨row, rfl, g⟩ := idx_of ea
    have eb : isBar h (.tup (.str w :: encI row)) = barC h w (callsOf h row) := by simp [isBar, rowOfD_encI g]
    rw [eb] at q
    simp [cut_1n, setAll, -Bool.exists_bool]
    have lh := hk.len
    refine w_lc (List.range h.length) (fun i => .int (i : Nat)) (fun i => if wAt h i = true then some (.int (i : Nat)) else none) (by rfl) ?_ (by simp [lim]; omega) (fun i hi S3 f3 => ?_) fun S3 m f3 _ hm => ?_
    · simp [rangeOk0 (show h.length ≤ 1000 by omega), rangeD0, chkOk, Fr.refl]
    · have hi2 := List.mem_range.mp hi
      simp [wipe, Tg.put, map_enc_ix hi2, wAt_eq hi2, -Bool.exists_bool]
      cases h[i].w <;> simp [Fr.refl]
    rw [wrs_eq'] at hm
    have f03 := f2.trans f3
    have ok5 : wdOk sOther := .inr (.inr (.inr (.inr rfl)))
    rw [show cmpD .In (.str w) (.tup [.str (Str.ofString "strange"), .str (Str.ofString "early")]) S3 = some (decide (w = sStr) || decide (w = sEarly)) from wd_in hw ok1 ok2]
    rw [show cmpD .Eq (.str w) (.str (Str.ofString "late")) S3 = some (decide (w = sLate)) from wd_eq hw ok3]
    rw [show cmpD .NotEq (.str w) (.str (Str.ofString "crossed")) S3 = some (!decide (w = sCrossed)) from wd_ne hw ok4]
    have q1 := q S3 f03
    match row, g, q, q1 with
    | [], g, q, q1 =>
      have eq1 : barC h w (callsOf h []) = false := rfl
      have q2 : Q (.bl false) S3 := by rw [eq1] at q1; exact q1
      rcases hw with rfl | rfl | rfl | rfl | rfl <;> simp [wd1, wd2, wd3, wd4, wd5, wd6, wd7, wd8, wd9, wd10, wd1.symm, wd2.symm, wd3.symm, wd4.symm, wd5.symm, wd6.symm, wd7.symm, wd8.symm, wd9.symm, wd10.symm] <;> exact q2
    | [i], g, q, q1 =>
      have gi := get_ok (g i (by simp))
      have cx := hk.cl _ (List.getElem_mem (g i (by simp)))
      generalize h[i]'(g i (by simp)) = x at gi cx
      have eC : callsOf h [i] = [x] := by simp [callsOf, gi]
      have q2 : Q (.bl (barC h w [x])) S3 := by rw [eC] at q1; exact q1
      simp only [barC] at q2
      rcases hw with rfl | rfl | rfl | rfl | rfl
      · simp [wd1, wd2, wd3, wd4, wd5, wd6, wd7, wd8, wd9, wd10, wd1.symm, wd2.symm, wd3.symm, wd4.symm, wd5.symm, wd6.symm, wd7.symm, wd8.symm, wd9.symm, wd10.symm, -Bool.exists_bool]
        refine s_law_ended_read gi ?_
        have qq : Q (.bl (single h false x)) S3 := by simpa [wd1, wd2, wd3, wd4, wd5, wd6, wd7, wd8, wd9, wd10, wd1.symm, wd2.symm, wd3.symm, wd4.symm, wd5.symm, wd6.symm, wd7.symm, wd8.symm, wd9.symm, wd10.symm] using q2
        unfold single told at qq
        cases xw : x.w with
        | true =>
          simp [xw] at qq ⊢
          exact qq
        | false =>
        cases xe : x.e with
        | none =>
          simp [xw, xe] at qq ⊢
          exact qq
        | some e =>
        by_cases xt : x.told = .non
        · simp [xw, xe, xt, encH_ix gi] at qq ⊢
          exact qq
        simp [xt, encH_ix gi, -Bool.exists_bool]
        refine w_lc ((List.range h.length).filter (wAt h)) (fun i => .int (i : Nat)) (fun i => if (match h[i]? with | some y => same y x | none => false) = true then some (.int (i : Nat)) else none) (by exact lock_lst rfl hm) ?_ (Nat.le_trans (List.length_filter_le _ _) (by simp [lim]; omega)) (fun j hj S4 f4 => ?_) fun S4 m2 f4 _ hm2 => ?_
        · simp [keysOf_lst hm, chk_one1 hm, Fr.refl]
        · have hj2 := List.mem_range.mp (List.mem_filter.mp hj).1
          simp [wipe, Tg.put, map_enc_ix hj2, encH_ix gi, cmp_key (hk.cl _ (List.getElem_mem hj2)) cx, get_ok hj2, -Bool.exists_bool]
          cases same h[j] x <;> simp [Fr.refl]
        have e3 : (((List.range h.length).filter (wAt h)).filterMap fun i => if (match h[i]? with | some y => same y x | none => false) = true then some (D.int (i : Nat)) else none) = encI (wrsOf h x) := by
          exact fm_filter _ _
        rw [e3] at hm2
        have f4' : Fr S4 (S4 ++ [Ob.lst []]) := Fr.app
        have h0 : (S4 ++ [Ob.lst []])[S4.length]? = some (.lst (encI [])) := get_new
        have hd := wrsOf_head (h := h) (x := x)
        have f04 := (f03.trans f4).trans f4'
        simp [cmp_eq_I (f4' _ _ hm2) h0, wd_eq ok1 ok1]
        have q3 := q _ f04
        have eC : callsOf h [i] = [x] := by simp [callsOf, gi]
        rw [eC] at q3
        have qq : Q (.bl (single h false x)) (S4 ++ [Ob.lst []]) := by simpa [barC, wd1] using q3
        unfold single told at qq
        rw [← hd] at qq
        cases ew : wrsOf h x <;> simp [ew, xw, xe, xt] at qq ⊢ <;> exact qq
      · simp [wd1, wd2, wd3, wd4, wd5, wd6, wd7, wd8, wd9, wd10, wd1.symm, wd2.symm, wd3.symm, wd4.symm, wd5.symm, wd6.symm, wd7.symm, wd8.symm, wd9.symm, wd10.symm, -Bool.exists_bool]
        refine s_law_ended_read gi ?_
        have qq : Q (.bl (single h true x)) S3 := by simpa [wd1, wd2, wd3, wd4, wd5, wd6, wd7, wd8, wd9, wd10, wd1.symm, wd2.symm, wd3.symm, wd4.symm, wd5.symm, wd6.symm, wd7.symm, wd8.symm, wd9.symm, wd10.symm] using q2
        unfold single told at qq
        cases xw : x.w with
        | true =>
          simp [xw] at qq ⊢
          exact qq
        | false =>
        cases xe : x.e with
        | none =>
          simp [xw, xe] at qq ⊢
          exact qq
        | some e =>
        by_cases xt : x.told = .non
        · simp [xw, xe, xt, encH_ix gi] at qq ⊢
          exact qq
        simp [xt, encH_ix gi, -Bool.exists_bool]
        refine w_lc ((List.range h.length).filter (wAt h)) (fun i => .int (i : Nat)) (fun i => if (match h[i]? with | some y => same y x | none => false) = true then some (.int (i : Nat)) else none) (by exact lock_lst rfl hm) ?_ (Nat.le_trans (List.length_filter_le _ _) (by simp [lim]; omega)) (fun j hj S4 f4 => ?_) fun S4 m2 f4 _ hm2 => ?_
        · simp [keysOf_lst hm, chk_one1 hm, Fr.refl]
        · have hj2 := List.mem_range.mp (List.mem_filter.mp hj).1
          simp [wipe, Tg.put, map_enc_ix hj2, encH_ix gi, cmp_key (hk.cl _ (List.getElem_mem hj2)) cx, get_ok hj2, -Bool.exists_bool]
          cases same h[j] x <;> simp [Fr.refl]
        have e3 : (((List.range h.length).filter (wAt h)).filterMap fun i => if (match h[i]? with | some y => same y x | none => false) = true then some (D.int (i : Nat)) else none) = encI (wrsOf h x) := by
          exact fm_filter _ _
        rw [e3] at hm2
        have f4' : Fr S4 (S4 ++ [Ob.lst []]) := Fr.app
        have h0 : (S4 ++ [Ob.lst []])[S4.length]? = some (.lst (encI [])) := get_new
        have hd := wrsOf_head (h := h) (x := x)
        have f04 := (f03.trans f4).trans f4'
        simp [cmp_ne_I (f4' _ _ hm2) h0, wd_eq ok2 ok1, wd1.symm, -Bool.exists_bool]
        have q3 := q _ f04
        have eC : callsOf h [i] = [x] := by simp [callsOf, gi]
        rw [eC] at q3
        have qq : Q (.bl (single h true x)) (S4 ++ [Ob.lst []]) := by simpa [barC, wd1.symm] using q3
        unfold single told at qq
        rw [← hd] at qq
        cases ew : wrsOf h x with
        | nil =>
          refine ⟨false, by simp, ?_⟩
          simp [ew, xw, xe, xt] at qq ⊢
          exact qq
        | cons j r =>
          refine ⟨true, by simp, ?_⟩
          simp [ew, xw, xe, xt] at qq ⊢
          rw [ew] at hm2
          rw [wp_ix0 (seqOf_lst (f4' _ _ hm2))]
          have hj : j ∈ wrsOf h x := by rw [ew]; exact .head _
          obtain ⟨y, hy, _⟩ := wrsOf_mem.mp hj
          refine s_law_ahead gi hy ?_
          rw [hy] at qq
          exact qq
      all_goals simp [wd1, wd2, wd3, wd4, wd5, wd6, wd7, wd8, wd9, wd10, wd1.symm, wd2.symm, wd3.symm, wd4.symm, wd5.symm, wd6.symm, wd7.symm, wd8.symm, wd9.symm, wd10.symm] at q2 ⊢
      all_goals exact q2
    | [i, j], g, q, q1 =>
      have gi := get_ok (g i (by simp))
      have gj := get_ok (g j (by simp))
      have cx := hk.cl _ (List.getElem_mem (g i (by simp)))
      have cy := hk.cl _ (List.getElem_mem (g j (by simp)))
      generalize h[i]'(g i (by simp)) = x at gi cx
      generalize h[j]'(g j (by simp)) = y at gj cy
      have eC : callsOf h [i, j] = [x, y] := by simp [callsOf, gi, gj]
      have q2 : Q (.bl (barC h w [x, y])) S3 := by rw [eC] at q1; exact q1
      simp only [barC] at q2
      rcases hw with rfl | rfl | rfl | rfl | rfl
      case inr.inr.inl =>
        have qq : Q (.bl (late2 x y)) S3 := by simpa using q2
        have cn : cmpD .NotEq (.str x.nm) (.str y.nm) S3 = some (!decide (x.nm = y.nm)) := by
          rw [cmp_ne (cln_nm cx.nm) (cln_nm cy.nm)]
          simp
        simp [wd1, wd2, wd3, wd4, wd5, wd6, wd7, wd8, wd9, wd10, wd1.symm, wd2.symm, wd3.symm, wd4.symm, wd5.symm, wd6.symm, wd7.symm, wd8.symm, wd9.symm, wd10.symm, encH_ix gi, encH_ix gj, cn, -Bool.exists_bool]
        unfold late2 at qq
        by_cases en : x.nm = y.nm
        case neg =>
          refine ⟨true, by simp [en], ?_⟩
          simp [en] at qq ⊢
          exact qq
        refine ⟨false, by simp [en], ?_⟩
        simp [-Bool.exists_bool]
        refine s_law_tells hk gi ?_
        simp [en] at qq
        cases et : tls x with
        | false =>
          simp [et] at qq ⊢
          exact qq
        | true =>
        simp [et, -Bool.exists_bool] at qq ⊢
        refine s_law_ended_read gj ?_
        cases yw : y.w with
        | true =>
          simp [yw] at qq ⊢
          exact qq
        | false =>
        cases ye : y.e with
        | none =>
          simp [yw, ye] at qq ⊢
          exact qq
        | some e =>
        by_cases yt : y.told = .non
        · simp [yw, ye, yt, encH_ix gj] at qq ⊢
          exact s_law_ahead gi gj qq
        · simp [yw, ye, yt, encH_ix gj] at qq ⊢
          exact qq
      all_goals simp [wd1, wd2, wd3, wd4, wd5, wd6, wd7, wd8, wd9, wd10, wd1.symm, wd2.symm, wd3.symm, wd4.symm, wd5.symm, wd6.symm, wd7.symm, wd8.symm, wd9.symm, wd10.symm] at q2 ⊢
      all_goals exact q2
    | [i, j, l], g, q, q1 =>
      have eq1 : barC h w (callsOf h [i, j, l]) = false := by
        simp [callsOf, get_ok (g i (by simp)), get_ok (g j (by simp)), get_ok (g l (by simp)), barC]
      have q2 : Q (.bl false) S3 := by rw [eq1] at q1; exact q1
      rcases hw with rfl | rfl | rfl | rfl | rfl <;> simp [wd1, wd2, wd3, wd4, wd5, wd6, wd7, wd8, wd9, wd10, wd1.symm, wd2.symm, wd3.symm, wd4.symm, wd5.symm, wd6.symm, wd7.symm, wd8.symm, wd9.symm, wd10.symm] <;> exact q2
    | [ia, ib, ic, id], g, q, q1 =>
      have ga := get_ok (g ia (by simp))
      have ca := hk.cl _ (List.getElem_mem (g ia (by simp)))
      generalize h[ia]'(g ia (by simp)) = a at ga ca
      have gb := get_ok (g ib (by simp))
      have cb := hk.cl _ (List.getElem_mem (g ib (by simp)))
      generalize h[ib]'(g ib (by simp)) = b at gb cb
      have gc := get_ok (g ic (by simp))
      have cc := hk.cl _ (List.getElem_mem (g ic (by simp)))
      generalize h[ic]'(g ic (by simp)) = c at gc cc
      have gd := get_ok (g id (by simp))
      have cd := hk.cl _ (List.getElem_mem (g id (by simp)))
      generalize h[id]'(g id (by simp)) = d at gd cd
      have eC : callsOf h [ia, ib, ic, id] = [a, b, c, d] := by simp [callsOf, ga, gb, gc, gd]
      have q2 : Q (.bl (barC h w [a, b, c, d])) S3 := by rw [eC] at q1; exact q1
      simp only [barC] at q2
      rcases hw with rfl | rfl | rfl | rfl | rfl
      case inr.inr.inr.inl =>
        rw [eC] at q
        have q9 : ∀ S', Fr S S' → Q (.bl (cross4 a b c d)) S' := fun S' f => by simpa [barC] using q S' f
        simp [wd1, wd2, wd3, wd4, wd5, wd6, wd7, wd8, wd9, wd10, wd1.symm, wd2.symm, wd3.symm, wd4.symm, wd5.symm, wd6.symm, wd7.symm, wd8.symm, wd9.symm, wd10.symm, -Bool.exists_bool]
        refine w_all [ia, ib, ic, id] (fun i => .int (i : Nat)) (fun i => match h[i]? with | some x => tls x | none => false) (by exact lock_tup rfl) ?_ (by simp [lim]) (fun i hi S4 f4 => ?_) fun S4 f4 => ?_
        · simp [chkOk, Fr.refl]
        · refine ⟨_, rfl, ?_⟩
          simp [wipe, -Bool.exists_bool]
          have gi := get_ok (g i hi)
          refine s_law_tells hk gi ?_
          simp [gi, Fr.refl]
        have qq := q9 S4 (f03.trans f4)
        have ea : ([ia, ib, ic, id].all fun i => match h[i]? with | some x => tls x | none => false) = (tls a && tls b && tls c && tls d) := by
          simp [ga, gb, gc, gd, Bool.and_assoc]
        rw [ea]
        unfold cross4 at qq
        cases et : (tls a && tls b && tls c && tls d) with
        | false =>
          rw [et] at qq
          simp at qq ⊢
          exact qq
        | true =>
        rw [et] at qq
        have ck : ∀ {x y : Cl}, ClOk x → ClOk y → cmpD .NotEq (.tup [.str x.nm, x.told]) (.tup [.str y.nm, y.told]) S4 = some (!same x y) := fun hx hy => by
          rw [cmp_ne (by simp [cln, cln_nm' hx.nm, cln_td hx.td]) (by simp [cln, cln_nm' hy.nm, cln_td hy.td])]
          simp [same]
        have cn : cmpD .NotEq (.str a.nm) (.str c.nm) S4 = some (!decide (a.nm = c.nm)) := by
          rw [cmp_ne (cln_nm ca.nm) (cln_nm cc.nm)]
          simp
        have ct : cmpD .NotEq a.told c.told S4 = some (!decide (a.told = c.told)) := cmp_ne (cln_td ca.td) (cln_td cc.td)
        simp [setAll, encH_ix ga, encH_ix gb, encH_ix gc, encH_ix gd, ck ca cb, ck cc cd, cn, ct, -Bool.exists_bool] at qq ⊢
        have z : (decide (b.nm = a.nm) && decide (c.nm = a.nm) && decide (d.nm = a.nm) && (decide (a.told = b.told) && decide (c.told = d.told) && !decide (a.told = c.told)) && (ahC a c && ahC d b)) = (same a b && (same c d && (decide (a.nm = c.nm) && (!decide (a.told = c.told) && (ahC a c && ahC d b))))) := by
          rw [Bool.eq_iff_iff]
          simp only [same, Bool.and_eq_true, decide_eq_true_eq, Bool.not_eq_true', decide_eq_false_iff_not]
          constructor
          · rintro ⟨⟨⟨⟨h1, h2⟩, h3⟩, ⟨h4, h5⟩, h6⟩, h7⟩
            exact ⟨⟨h1.symm, h4⟩, ⟨by rw [h2, h3], h5⟩, h2.symm, h6, h7⟩
          · rintro ⟨⟨h1, h4⟩, ⟨h3, h5⟩, h2, h6, h7⟩
            exact ⟨⟨⟨⟨h1.symm, h2.symm⟩, by rw [← h3, h2]⟩, ⟨h4, h5⟩, h6⟩, h7⟩
        rw [z] at qq
        cases e1 : same a b with
        | false =>
          refine ⟨true, by simp, ?_⟩
          simpa [e1] using qq
        | true =>
        refine ⟨false, by simp, ?_⟩
        rw [if_neg (by simp)]
        cases e2 : same c d with
        | false =>
          refine ⟨true, by simp, ?_⟩
          simpa [e1, e2] using qq
        | true =>
        refine ⟨false, by simp, ?_⟩
        rw [if_neg (by simp)]
        by_cases e3 : a.nm = c.nm
        case neg =>
          refine ⟨true, by simp [e3], ?_⟩
          simpa [e1, e2, e3] using qq
        refine ⟨false, by simp [e3], ?_⟩
        rw [if_neg (by simp)]
        by_cases e4 : a.told = c.told
        case pos =>
          refine ⟨false, by simp [e4], ?_⟩
          simpa [e1, e2, e3, e4] using qq
        refine ⟨true, by simp [e4], ?_⟩
        rw [if_pos rfl]
        refine s_law_ahead ga gc ?_
        cases e5 : ahC a c with
        | false =>
          simp
          simpa [e5] using qq
        | true =>
          simp only [tru_bl, Option.some.injEq, exists_eq_left', if_true]
          refine s_law_ahead gd gb ?_
          simpa [e1, e2, e3, e4, e5] using qq
      all_goals simp [wd1, wd2, wd3, wd4, wd5, wd6, wd7, wd8, wd9, wd10, wd1.symm, wd2.symm, wd3.symm, wd4.symm, wd5.symm, wd6.symm, wd7.symm, wd8.symm, wd9.symm, wd10.symm] at q2 ⊢
      all_goals exact q2
    | i1 :: i2 :: i3 :: i4 :: i5 :: r, g, q, q1 =>
      have eq1 : barC h w (callsOf h (i1 :: i2 :: i3 :: i4 :: i5 :: r)) = false := by
        simp [callsOf, get_ok (g i1 (by simp)), get_ok (g i2 (by simp)), get_ok (g i3 (by simp)), get_ok (g i4 (by simp)), get_ok (g i5 (by simp)), barC]
      have q2 : Q (.bl false) S3 := by rw [eq1] at q1; exact q1
      have n1 : ¬ ((r.length : Int) + 1 + 1 + 1 + 1 + 1 = 1) := by omega
      have n2 : ¬ ((r.length : Int) + 1 + 1 + 1 + 1 + 1 = 2) := by omega
      have n4 : ¬ ((r.length : Int) + 1 + 1 + 1 + 1 + 1 = 4) := by omega
      rcases hw with rfl | rfl | rfl | rfl | rfl <;> simp [n1, n2, n4, wd1, wd2, wd3, wd4, wd5, wd6, wd7, wd8, wd9, wd10, wd1.symm, wd2.symm, wd3.symm, wd4.symm, wd5.symm, wd6.symm, wd7.symm, wd8.symm, wd9.symm, wd10.symm] <;> exact q2
end
end K47
set_option Elab.async false
set_option linter.all false
set_option maxRecDepth 100000
set_option maxHeartbeats 1000000
/-! k47, plain. Part AG: the law's trying of all orders. -/
namespace K47
open PySem Ev
def leftN (n : Nat) (done : List Nat) : List Nat := (List.range n).filter fun i => !decide (i ∈ done)
theorem leftN_mem {n : Nat} {done : List Nat} {i : Nat} : i ∈ leftN n done ↔ i < n ∧ i ∉ done := by
  unfold leftN
  rw [List.mem_filter, List.mem_range]
  simp
theorem leftN_next {n : Nat} {done : List Nat} {y : Nat} (hy : y ∈ leftN n done) : (leftN n (done ++ [y])).length < (leftN n done).length := by
  have e : leftN n (done ++ [y]) = (leftN n done).filter fun i => !decide (i = y) := by
    unfold leftN
    rw [List.filter_filter]
    congr 1
    funext i
    by_cases h1 : i = y <;> by_cases h2 : i ∈ done <;> simp [h1, h2]
  rw [e, List.length_filter_lt_length_iff_exists]
  exact ⟨y, hy, by simp⟩
/-- the calls that aren't done -/
def Lf (cs : List Cl) (done : List Nat) : Cl → Prop := fun x => ∃ i : Nat, i ∉ done ∧ cs[i]? = some x
abbrev Goes (cs : List Cl) (done : List Nat) (last : D) : Prop := ∃ rs, Lin (Lf cs done) last rs
theorem Lf_iff {cs : List Cl} {done : List Nat} {x : Cl} : Lf cs done x ↔ ∃ i ∈ leftN cs.length done, cs[i]? = some x := by
  constructor
  · rintro ⟨i, h1, h2⟩
    exact ⟨i, leftN_mem.mpr ⟨(List.getElem?_eq_some_iff.mp h2).1, h1⟩, h2⟩
  · rintro ⟨i, h1, h2⟩
    exact ⟨i, (leftN_mem.mp h1).2, h2⟩
theorem Lf_next {cs : List Cl} {done : List Nat} {y : Nat} {x : Cl} (nd : cs.Nodup) (hy : cs[y]? = some x) (z : Cl) : (Lf cs done z ∧ z ≠ x) ↔ Lf cs (done ++ [y]) z := by
  constructor
  · rintro ⟨⟨i, h1, h2⟩, hne⟩
    refine ⟨i, ?_, h2⟩
    simp
    refine ⟨h1, ?_⟩
    rintro rfl
    rw [hy] at h2
    cases h2
    exact hne rfl
  · rintro ⟨i, h1, h2⟩
    simp at h1
    refine ⟨⟨i, h1.1, h2⟩, ?_⟩
    rintro rfl
    exact h1.2 (nodup_at nd h2 hy)
section
variable {k : Nat}
theorem encC_ix {S : Store} {Q : D → Store → Prop} {cs : List Cl} {a i : Nat} (hS : S[a]? = some (.lst (cs.map enc))) (hi : i < cs.length) : wR (ixD (.ref a) (.int (i : Nat)) S) Q ↔ Q (enc cs[i]) S := wp_ix (seqOf_lst hS) (by simp [hi])
theorem s_goes {cs : List Cl} (hcs : ∀ x ∈ cs, ClOk x) (nd : cs.Nodup) (hl : cs.length ≤ 20) (n : Nat) {done : List Nat} {last : D} {S : Store} {Q : D → Store → Prop} {a b : Nat} (hln : (leftN cs.length done).length ≤ n) (hdn : n + done.length ≤ 100) (htd : tdOk last)
    (hSa : S[a]? = some (.lst (cs.map enc))) (hSb : S[b]? = some (.lst (encI done))) (q : ∀ bl S', Fr S S' → (bl = true ↔ Goes cs done last) → Q (.bl bl) S') : wR (C (k + n + 1) (Str.ofString "_law_goes") [.ref a, .ref b, last] S) Q := by
    refine w_fn fn__law_goes rfl ?_
    simp [f__law_goes, startEnv, -Bool.exists_bool]
    have limL : (leftN cs.length done).length ≤ lim := by unfold lim; omega
    refine w_lc (List.range cs.length) (fun i => .int (i : Nat)) (fun i => if (!decide (i ∈ done)) = true then some (.int (i : Nat)) else none) (by rfl) ?_ (by simp [lim]; omega) (fun i hi S2 f2 => ?_) fun S2 l f2 _ hl2 => ?_
    · simp [lenOf_lst hSa, rangeOk0 (show cs.length ≤ 1000 by omega), rangeD0, chkOk, Fr.refl]
    · have hSb2 := f2 _ _ hSb
      have cni : cmpD .NotIn (.int (i : Nat)) (.ref b) S2 = some (!decide (i ∈ done)) := by
        rw [cmp_nin (cln_int) (seqOf_lst hSb2) (fun x hx => by obtain ⟨i, _, rfl⟩ := List.mem_map.mp hx; exact cln_int)]
        simp only [mem_encI]
      simp [wipe, Tg.put, cni, -Bool.exists_bool]
      by_cases e : i ∈ done <;> simp [e, Fr.refl]
    rw [fm_filter] at hl2
    rw [show (List.range cs.length).filter (fun i => !decide (i ∈ done)) = leftN cs.length done from rfl] at hl2
    have hSa2 := f2 _ _ hSa
    refine w_any (leftN cs.length done) (fun i => .int (i : Nat)) (fun i => match cs[i]? with | some x => x.e.isSome | none => false) (by exact lock_lst rfl hl2) ?_ limL (fun i hi S3 f3 => ?_) fun S3 f3 => ?_
    · simp [keysOf_lst hl2, chk_one1 hl2, Fr.refl]
    · refine ⟨_, rfl, ?_⟩
      have hi2 := (leftN_mem.mp hi).1
      simp [wipe, encC_ix (f3 _ _ hSa2) hi2, hi2, -Bool.exists_bool]
      cases cs[i].e <;> simp [Fr.refl]
    have anyIff : ((leftN cs.length done).any fun i => match cs[i]? with | some x => x.e.isSome | none => false) = true ↔ ∃ x, Lf cs done x ∧ x.e ≠ none := by
      rw [List.any_eq_true]
      constructor
      · rintro ⟨i, hi, h2⟩
        have hi2 := (leftN_mem.mp hi).1
        have gi : cs[i]? = some cs[i] := List.getElem?_eq_getElem hi2
        rw [gi] at h2
        refine ⟨cs[i], Lf_iff.mpr ⟨i, hi, gi⟩, fun e => ?_⟩
        simp [e] at h2
      · rintro ⟨x, hx, he⟩
        obtain ⟨i, hi, gi⟩ := Lf_iff.mp hx
        refine ⟨i, hi, ?_⟩
        rw [gi]
        cases ee : x.e with
        | none => exact absurd ee he
        | some _ => simp [ee]
    cases ea : ((leftN cs.length done).any fun i => match cs[i]? with | some x => x.e.isSome | none => false) with
    | false =>
      simp
      refine q true S3 (f2.trans f3) ?_
      simp
      refine ⟨[], fun x hx => ?_⟩
      cases ee : x.e with
      | none => rfl
      | some e =>
        have := anyIff.mpr ⟨x, hx, by simp [ee]⟩
        rw [ea] at this
        cases this
    | true =>
    simp [-Bool.exists_bool]
    have hl3 := f3 _ _ hl2
    refine w_for_ix (leftN cs.length done) (fun _ i => .int (i : Nat)) (fun dn δ S' => ∃ c d e, δ = [some (.ref a), some (.ref b), some last, some (.ref l), c, d, e, none] ∧ Fr S3 S' ∧ ∀ y ∈ dn, ∀ x, cs[y]? = some x → ¬ ∃ rs, Lin (Lf cs done) last (x :: rs)) [(l, encI (leftN cs.length done))] (by exact lock_lst rfl hl3) ?_ ?_ ?_
    · simp [keysOf_lst hl3, Fr.refl, map_zipIdx (f := fun i : Nat => D.int (i : Int))]
    · rintro δ S' ⟨c, d, e, rfl, f4, h4⟩
      refine ⟨chk_one1 (f4 _ _ hl3), ?_⟩
      simp
      refine q false S' ((f2.trans f3).trans f4) ?_
      simp
      intro rs H
      cases rs with
      | nil =>
        obtain ⟨x, hx, he⟩ := anyIff.mp ea
        exact he (H x hx)
      | cons x rs =>
        obtain ⟨y, hy, gy⟩ := Lf_iff.mp H.1
        exact h4 y hy x gy ⟨rs, H⟩
    · rintro dn y rest δ S' h1 ⟨c, d, e, rfl, f4, h4⟩
      refine ⟨chk_one1 (f4 _ _ hl3), _, rfl, ?_⟩
      have hyL : y ∈ leftN cs.length done := by rw [h1]; simp
      have hy2 := (leftN_mem.mp hyL).1
      have gy : cs[y]? = some cs[y] := List.getElem?_eq_getElem hy2
      have cx := hcs _ (List.getElem_mem hy2)
      have hSa4 := f4 _ _ (f3 _ _ hSa2)
      have hl4 := f4 _ _ hl3
      refine w_seq (fun o S1 => o = .nx [some (.ref a), some (.ref b), some last, some (.ref l), some (.int y), some (enc cs[y]), e, none] ∧ S' = S1) ?_ ?_
      · simp [encC_ix hSa4 hy2, -Bool.exists_bool]
      rintro _ _ ⟨rfl, rfl⟩
      rw [thenO_nx]
      generalize cs[y] = x at gy cx
      refine w_seq (fun o S1 => o = .nx [some (.ref a), some (.ref b), some last, some (.ref l), some (.int y), some (enc x), some (.bl ((leftN cs.length done).any fun i => match cs[i]? with | some z => ahC z x | none => false)), none] ∧ Fr S' S1) ?_ ?_
      · rw [w_set]
        refine w_any (leftN cs.length done) (fun i => .int (i : Nat)) (fun i => match cs[i]? with | some z => ahC z x | none => false) (by exact lock_lst rfl hl4) ?_ limL (fun i hi S5 f5 => ?_) fun S5 f5 => ⟨rfl, f5⟩
        · simp [keysOf_lst hl4, chk_one1 hl4, Fr.refl]
        · refine ⟨_, rfl, ?_⟩
          have hi2 := (leftN_mem.mp hi).1
          simp [wipe, encC_ix (f5 _ _ hSa4) hi2, hi2, -Bool.exists_bool]
          unfold ahC
          cases cs[i].e <;> simp [encO, Fr.refl]
      rintro _ S5 ⟨rfl, f5⟩
      rw [thenO_nx]
      have lateIff : ((leftN cs.length done).any fun i => match cs[i]? with | some z => ahC z x | none => false) = true ↔ ∃ z, Lf cs done z ∧ ∃ e, z.e = some e ∧ e < x.b := by
        rw [List.any_eq_true]
        constructor
        · rintro ⟨i, hi, h2⟩
          have hi2 := (leftN_mem.mp hi).1
          have gi : cs[i]? = some cs[i] := List.getElem?_eq_getElem hi2
          rw [gi] at h2
          simp only [ahC] at h2
          split at h2
          · rename_i e he
            exact ⟨cs[i], Lf_iff.mpr ⟨i, hi, gi⟩, e, he, by simpa using h2⟩
          · cases h2
        · rintro ⟨z, hz, e, he, hlt⟩
          obtain ⟨i, hi, gi⟩ := Lf_iff.mp hz
          refine ⟨i, hi, ?_⟩
          rw [gi]
          simp [ahC, he, hlt]
      generalize ((leftN cs.length done).any fun i => match cs[i]? with | some z => ahC z x | none => false) = late at lateIff
      have lx : Lf cs done x := Lf_iff.mpr ⟨y, hyL, gy⟩
      have good : (¬ ∃ rs, Lin (Lf cs done) last (x :: rs)) → ∀ y' : Nat, y' ∈ dn ∨ y' = y → ∀ x', cs[y']? = some x' → ∀ rs, ¬ Lin (Lf cs done) last (x' :: rs) := fun hn y' hy' x' hx' => by
        rcases hy' with hy' | rfl
        · exact fun rs H => h4 y' hy' x' hx' ⟨rs, H⟩
        · rw [gy] at hx'
          cases hx'
          exact fun rs H => hn ⟨rs, H⟩
      have f25 := ((f2.trans f3).trans f4).trans f5
      have cne : cmpD .NotEq x.told last S5 = some (!decide (x.told = last)) := cmp_ne (cln_td cx.td) (cln_td htd)
      refine w_seq (fun o S1 => S5 = S1 ∧ ((o = .nx [some (.ref a), some (.ref b), some last, some (.ref l), some (.int y), some (enc x), some (.bl late), none] ∧ (x.w = true ∨ (x.e ≠ none ∧ x.told = last)) ∧ late = false) ∨ (o = .ct [some (.ref a), some (.ref b), some last, some (.ref l), some (.int y), some (enc x), some (.bl late), none] ∧ ¬ ((x.w = true ∨ (x.e ≠ none ∧ x.told = last)) ∧ late = false)))) ?_ ?_
      · cases hw : x.w with
        | true => cases late <;> simp [hw]
        | false =>
          cases he : x.e with
          | none => cases late <;> simp [hw, he]
          | some e => 
            have cnl : cmpD .NotEq last last S5 = some false := by rw [cmp_ne (cln_td htd) (cln_td htd)]; simp
            by_cases et : x.told = last <;> cases late <;> simp [hw, he, cne, et, cnl]
      rintro _ _ ⟨rfl, ⟨rfl, ok1, ok2⟩ | ⟨rfl, bad⟩⟩
      case inr =>
        rw [thenO_ct, turnO_ct]
        refine ⟨_, _, _, rfl, f4.trans f5, ?_⟩
        simp
        refine good ?_
        rintro ⟨rs, H⟩
        refine bad ⟨H.2.1, ?_⟩
        cases late with
        | false => rfl
        | true =>
          obtain ⟨z, hz, e, he, hlt⟩ := lateIff.mp rfl
          have := H.2.2.1 z hz e he
          omega
      rw [thenO_nx]
      subst ok2
      have nl : ∀ z, Lf cs done z → ∀ e, z.e = some e → x.b ≤ e := fun z hz e he => by
        apply Int.not_lt.mp
        intro hlt
        have := lateIff.mpr ⟨z, hz, e, he, hlt⟩
        cases this
      have npos : 0 < (leftN cs.length done).length := List.length_pos_of_mem hyL
      obtain ⟨n', rfl⟩ : ∃ n', n = n' + 1 := ⟨n - 1, by omega⟩
      have hSb5 := f25 _ _ hSb
      have hSa5 := f5 _ _ hSa4
      simp [-Bool.exists_bool]
      refine ⟨by simp [lim], ?_⟩
      rw [bin_addL (Fr.app _ _ hSb5) get_new]
      refine ⟨by simp [lim]; omega, ?_⟩
      have hSa6 := Fr.app (T := [Ob.lst [.int (y : Int)]]) _ _ hSa5
      have f26 : Fr S5 (S5 ++ [Ob.lst [.int (y : Int)]]) := Fr.app
      generalize S5 ++ [Ob.lst [.int (y : Int)]] = S6 at hSa6 f26
      have hd7 : (S6 ++ [Ob.lst (encI done ++ [D.int (y : Int)])])[S6.length]? = some (.lst (encI (done ++ [y]))) := by
        rw [get_new]
        simp
      have hSa7 := Fr.app (T := [Ob.lst (encI done ++ [D.int (y : Int)])]) _ _ hSa6
      have f67 : Fr S6 (S6 ++ [Ob.lst (encI done ++ [D.int (y : Int)])]) := Fr.app
      generalize S6 ++ [Ob.lst (encI done ++ [D.int (y : Int)])] = S7 at hd7 hSa7 f67
      have hln' : (leftN cs.length (done ++ [y])).length ≤ n' := by
        have := leftN_next hyL
        omega
      have f27 := (f25.trans f26).trans f67
      have fin : ∀ last', tdOk last' → last' = (if x.w = true then x.told else last) → wR (C (k + n' + 1) (Str.ofString "_law_goes") [.ref a, .ref S6.length, last'] S7) fun d S1 => ∃ kk, tru S1 d = some kk ∧ if kk = true then Q (.bl true) S1 else Fr S3 S1 ∧ ∀ (y' : Nat), y' ∈ dn ∨ y' = y → ∀ x', cs[y']? = some x' → ∀ rs, ¬ Lin (Lf cs done) last (x' :: rs) := fun last' ht' el => by
        refine s_goes hcs nd hl n' hln' (by simp; omega) ht' hSa7 hd7 fun bl S8 f8 hbl => ?_
        refine ⟨bl, rfl, ?_⟩
        cases bl with
        | true =>
          simp
          refine q true S8 (f27.trans f8) ?_
          simp
          obtain ⟨rs, H⟩ := hbl.mp rfl
          refine ⟨x :: rs, lx, ok1, nl, ?_⟩
          rw [← el]
          exact H.congr rs fun z => (Lf_next nd gy z).symm
        | false =>
          simp
          refine ⟨((f4.trans f5).trans f26).trans (f67.trans f8), good ?_⟩
          rintro ⟨rs, H⟩
          have := hbl.mpr ⟨rs, by
            have := H.2.2.2
            rw [← el] at this
            exact this.congr rs fun z => Lf_next nd gy z⟩
          cases this
      cases hw : x.w with
      | true =>
        rw [if_pos rfl]
        exact fin x.told cx.td (by rw [if_pos hw])
      | false =>
        rw [if_neg (by simp)]
        exact fin last htd (by rw [if_neg (by simp [hw])])
termination_by n
end
end K47
set_option Elab.async false
set_option linter.all false
set_option maxRecDepth 100000
set_option maxHeartbeats 1000000
/-! k47, plain. Part AH: the law's own word on a history. -/
namespace K47
open PySem Ev
section
variable {k : Nat} {S : Store} {Q : D → Store → Prop}
theorem wp_sortedSet {n : Nat} {ks : List Str} (h : S[n]? = some (.lst (ks.map D.str))) (hl : ks.length < 64) : wR (primD .sortedSet [.ref n] S) Q ↔ Q (.ref S.length) (S ++ [.lst (((firsts ks).mergeSort strLe).map .str)]) := by
  have e : (ks.map D.str).map strOf = ks.map fun x => some x := by rw [List.map_map]; rfl
  simp only [primD, pSortedSet, lstOf_lst h, Option.bind_some, e, optAll_map (fun x => x), List.map_id', hl, if_true, wR_ok]
theorem s_law_is_right {h : List Cl} (hk : HOk h) (h6 : h.length ≤ 6) (q : ∀ bl S', Fr S S' → (bl = true ↔ ∀ x ∈ h, ∃ rs, Lin (Named h x.nm) .non rs) → Q (.bl bl) S') : wR (C (k + 10) (Str.ofString "_law_is_right") [encH h] S) Q := by
  refine w_fn fn__law_is_right rfl ?_
  simp [f__law_is_right, startEnv, -Bool.exists_bool]
  have limh : h.length ≤ lim := by unfold lim; omega
  have hns := (List.mergeSort_perm (firsts (h.map (·.nm))) strLe)
  have nsm : ∀ nm, nm ∈ (firsts (h.map (·.nm))).mergeSort strLe ↔ ∃ x ∈ h, x.nm = nm := fun nm => by
    rw [hns.mem_iff, firsts_mem, List.mem_map]
  generalize hN : (firsts (h.map (·.nm))).mergeSort strLe = ns at nsm
  refine w_forE rfl ?_
  simp only [ws_val]
  rw [w_prim (by decide) (by decide)]
  simp only [w_cons, w_nil]
  refine w_lc h enc (fun x => some (.str x.nm)) (by exact lock_tup rfl) ?_ limh (fun y hy S2 f2 => ?_) fun S2 m f2 _ hm => ?_
  · simp [chkOk, Fr.refl]
  · simp [wipe, Tg.put, Fr.refl]
  have e0 : h.filterMap (fun x => some (D.str x.nm)) = (h.map (·.nm)).map D.str := by
    rw [List.filterMap_eq_map', List.map_map]
    rfl
  rw [e0] at hm
  rw [wp_sortedSet hm (by simp; omega), hN]
  have hn3 : (S2 ++ [Ob.lst (ns.map D.str)])[S2.length]? = some (.lst (ns.map D.str)) := get_new
  have f3 : Fr S (S2 ++ [Ob.lst (ns.map D.str)]) := f2.trans Fr.app
  generalize S2 ++ [Ob.lst (ns.map D.str)] = S3 at hn3 f3
  generalize S2.length = nr at hn3
  refine ⟨_, itOf_lst hn3, ?_⟩
  refine go_ix ns (fun _ nm => .str nm) (fun done δ S' => ∃ a, δ = [some (encH h), a, none] ∧ Fr S3 S' ∧ ∀ nm ∈ done, ∃ rs, Lin (Named h nm) .non rs) ?_ ?_ ?_ ?_
  · exact (map_zipIdx (f := fun nm : Str => D.str nm)).symm
  · exact ⟨_, rfl, Fr.refl, by simp⟩
  · rintro δ S' ⟨a, rfl, f4, h4⟩
    refine ⟨chk_one1 (f4 _ _ hn3), ?_⟩
    simp
    refine q true S' (f3.trans f4) ?_
    simp
    exact fun x hx => h4 x.nm ((nsm _).mpr ⟨x, hx, rfl⟩)
  · rintro done nm rest δ S' h1 ⟨a, rfl, f4, h4⟩
    refine ⟨chk_one1 (f4 _ _ hn3), _, rfl, ?_⟩
    obtain ⟨x0, hx0, en⟩ := (nsm nm).mp (by rw [h1]; simp)
    have nmok : nmOk nm := en ▸ (hk.cl x0 hx0).nm
    simp [-Bool.exists_bool]
    refine w_lc h enc (fun x => if decide (x.nm = nm) = true then some (enc x) else none) (by exact lock_tup rfl) ?_ limh (fun y hy S5 f5 => ?_) fun S5 b f5 _ hb => ?_
    · simp [chkOk, Fr.refl]
    · have cn : cmpD .Eq (.str y.nm) (.str nm) S5 = some (decide (y.nm = nm)) := by
        rw [cmp_eq (cln_nm (hk.cl y hy).nm) (cln_nm nmok)]
        simp
      simp [wipe, Tg.put, cn, -Bool.exists_bool]
      by_cases e : y.nm = nm <;> simp [e, Fr.refl]
    have e1 : h.filterMap (fun x => if decide (x.nm = nm) = true then some (enc x) else none) = (h.filter fun x => decide (x.nm = nm)).map enc := by
      rw [← List.filterMap_eq_filter, List.map_filterMap]
      congr 1
      funext x
      by_cases e : x.nm = nm <;> simp [e, Option.guard]
    rw [e1] at hb
    generalize hcs : (h.filter fun x => decide (x.nm = nm)) = cs at hb
    have csm : ∀ x, x ∈ cs ↔ Named h nm x := fun x => by rw [← hcs, List.mem_filter, decide_eq_true_eq]
    have csl : cs.length ≤ 6 := by
      rw [← hcs]
      have := List.length_filter_le (fun x => decide (x.nm = nm)) h
      omega
    have csn : cs.Nodup := by rw [← hcs]; exact List.filter_sublist.nodup hk.nodup
    have hb6 := Fr.app (T := [Ob.lst []]) _ _ hb
    have ln6 : (leftN cs.length []).length ≤ 6 := by
      unfold leftN
      have := List.length_filter_le (fun i => !decide (i ∈ ([] : List Nat))) (List.range cs.length)
      simp at this ⊢
      omega
    refine s_goes (k := k + 2) (fun x hx => hk.cl x ((csm x).mp hx).1) csn (by omega) 6 (done := []) ln6 (by simp) (.inl rfl) hb6 get_new fun bl S7 f7 hbl => ?_
    have lfm : ∀ x, Lf cs [] x ↔ Named h nm x := fun x => by
      rw [← csm]
      constructor
      · rintro ⟨i, _, hi⟩
        exact List.mem_of_getElem? hi
      · intro hx
        obtain ⟨i, hi⟩ := List.mem_iff_getElem?.mp hx
        exact ⟨i, by simp, hi⟩
    have go : (∃ rs, Lin (Named h nm) .non rs) ↔ bl = true := by
      rw [hbl]
      exact ⟨fun ⟨rs, H⟩ => ⟨rs, H.congr rs fun x => (lfm x).symm⟩, fun ⟨rs, H⟩ => ⟨rs, H.congr rs lfm⟩⟩
    have f47 := (f4.trans f5).trans (Fr.app.trans f7)
    cases bl with
    | false =>
      simp
      refine q false S7 (f3.trans f47) ?_
      simp
      refine ⟨x0, hx0, fun rs H => ?_⟩
      rw [en] at H
      have := go.mp ⟨rs, H⟩
      cases this
    | true =>
      simp
      refine ⟨f47, ?_⟩
      rintro nm' (h' | rfl)
      · exact h4 nm' h'
      · exact go.mpr rfl
end
end K47
set_option Elab.async false
set_option linter.all false
set_option maxRecDepth 100000
set_option maxHeartbeats 1000000
/-! k47, plain. Part AI: the law's hand, draws. -/
namespace K47
open PySem Ev
/-- what stands, stands; but some may change -/
def FrX (ns : List Nat) (S S' : Store) : Prop := ∀ (i : Nat) (o : Ob), i ∉ ns → S[i]? = some o → S'[i]? = some o
theorem FrX.refl {ns : List Nat} {S : Store} : FrX ns S S := fun _ _ _ h => h
theorem FrX.trans {ns : List Nat} {S S' S'' : Store} (a : FrX ns S S') (b : FrX ns S' S'') : FrX ns S S'' := fun i o hi h => b i o hi (a i o hi h)
theorem FrX.of {ns : List Nat} {S S' : Store} (a : Fr S S') : FrX ns S S' := fun i o _ h => a i o h
theorem FrX.mono {ns ms : List Nat} {S S' : Store} (a : FrX ns S S') (h : ∀ i ∈ ns, i ∈ ms) : FrX ms S S' := fun i o hi hS => a i o (fun hn => hi (h i hn)) hS
theorem FrX.set {ns : List Nat} {S S' : Store} {n : Nat} {o : Ob} (a : FrX ns S S') (hn : n ∈ ns) : FrX ns S (S'.set n o) := fun i o' hi h => by
  have : n ≠ i := fun e => hi (e ▸ hn)
  rw [List.getElem?_set_ne this]
  exact a i o' hi h
theorem FrX.setNew {ns : List Nat} {S S' : Store} {n : Nat} {o : Ob} (a : FrX ns S S') (hn : S[n]? = none) : FrX ns S (S'.set n o) := fun i o' hi h => by
  have : n ≠ i := fun e => by rw [← e, hn] at h; cases h
  rw [List.getElem?_set_ne this]
  exact a i o' hi h
/-- the law's hand -/
structure HV (S : Store) (n c : Nat) (cells : List Int) (p g s t : Int) : Prop where
  hand : S[n]? = some (.lst [.ref c, .int p, .int g, .int s, .int t])
  cell : S[c]? = some (.lst (cells.map .int))
  p0 : 0 ≤ p
  g0 : 0 ≤ g
  pos : ∀ x ∈ cells, 0 ≤ x
def Hnd (S : Store) (n c : Nat) : Prop := ∃ cells p g s t, HV S n c cells p g s t
theorem HV.ne {S : Store} {n c : Nat} {cells : List Int} {p g s t : Int} (h : HV S n c cells p g s t) : n ≠ c := fun e => by
  have h1 := h.hand
  rw [e, h.cell] at h1
  cases cells <;> simp at h1
theorem HV.put {S : Store} {n c : Nat} {cells : List Int} {p g s t p' g' s' t' : Int} (h : HV S n c cells p g s t) (hp : 0 ≤ p') (hg : 0 ≤ g') : HV (S.set n (.lst [.ref c, .int p', .int g', .int s', .int t'])) n c cells p' g' s' t' :=
  ⟨get_set h.hand, by rw [List.getElem?_set_ne h.ne]; exact h.cell, hp, hg, h.pos⟩
theorem Hnd.fr {S S' : Store} {n c : Nat} (h : Hnd S n c) (f : Fr S S') : Hnd S' n c := by
  obtain ⟨cells, p, g, s, t, h⟩ := h
  exact ⟨cells, p, g, s, t, f _ _ h.hand, f _ _ h.cell, h.p0, h.g0, h.pos⟩
theorem Hnd.frX {S S' : Store} {n c : Nat} {ns : List Nat} (h : Hnd S n c) (f : FrX ns S S') (hn : n ∉ ns) (hc : c ∉ ns) : Hnd S' n c := by
  obtain ⟨cells, p, g, s, t, h⟩ := h
  exact ⟨cells, p, g, s, t, f _ _ hn h.hand, f _ _ hc h.cell, h.p0, h.g0, h.pos⟩
section
variable {S : Store} {Q : Unit → Store → Prop}
theorem setIx_lst {n k : Nat} {xs : List D} {v : D} (h : S[n]? = some (.lst xs)) (hk : k < xs.length) : setIxD (.ref n) (.int (k : Nat)) v S = .ok () (S.set n (.lst (xs.set k v))) := by
  simp [setIxD, h, ixN_nat hk]
end
section
variable {k : Nat} {S : Store} {Q : D → Store → Prop}
@[simp] theorem bin_pow18 : binD .Pow (.int 10) (.int 18) S = .ok (.int 1000000000000000000) S := by simp [binD, powD]
theorem s_law_draw {n c : Nat} {many : Int} (h1 : 0 < many) (h2 : many < 1073741824) (hh : Hnd S n c) (q : ∀ d S', 0 ≤ d → d < many → FrX [n] S S' → Hnd S' n c → Q (.int d) S') : wR (C (k + 1) (Str.ofString "_law_draw") [.ref n, .int many] S) Q := by
  refine w_fn fn__law_draw rfl ?_
  obtain ⟨cells, p, g, s, t, H⟩ := hh
  have h0 : ∀ {S : Store} {xs : List D} {Q : D → Store → Prop} {i : Nat} {x : D}, S[n]? = some (.lst xs) → xs[i]? = some x → (wR (ixD (.ref n) (.int (i : Nat)) S) Q ↔ Q x S) := fun h hx => wp_ix (seqOf_lst h) hx
  have i0 : ∀ {S : Store} {Q : D → Store → Prop} {c : Nat} {cells : List Int} {p g s t : Int}, HV S n c cells p g s t → (wR (ixD (.ref n) (.int 0) S) Q ↔ Q (.ref c) S) := fun h => h0 (i := 0) h.hand rfl
  have i1 : ∀ {S : Store} {Q : D → Store → Prop} {c : Nat} {cells : List Int} {p g s t : Int}, HV S n c cells p g s t → (wR (ixD (.ref n) (.int 1) S) Q ↔ Q (.int p) S) := fun h => h0 (i := 1) h.hand rfl
  have i2 : ∀ {S : Store} {Q : D → Store → Prop} {c : Nat} {cells : List Int} {p g s t : Int}, HV S n c cells p g s t → (wR (ixD (.ref n) (.int 2) S) Q ↔ Q (.int g) S) := fun h => h0 (i := 2) h.hand rfl
  have i3 : ∀ {S : Store} {Q : D → Store → Prop} {c : Nat} {cells : List Int} {p g s t : Int}, HV S n c cells p g s t → (wR (ixD (.ref n) (.int 3) S) Q ↔ Q (.int s) S) := fun h => h0 (i := 3) h.hand rfl
  have i4 : ∀ {S : Store} {Q : D → Store → Prop} {c : Nat} {cells : List Int} {p g s t : Int}, HV S n c cells p g s t → (wR (ixD (.ref n) (.int 4) S) Q ↔ Q (.int t) S) := fun h => h0 (i := 4) h.hand rfl
  have s1 : ∀ {S : Store} {c : Nat} {cells : List Int} {p g s t v : Int}, HV S n c cells p g s t → setIxD (.ref n) (.int 1) (.int v) S = .ok () (S.set n (.lst [.ref c, .int v, .int g, .int s, .int t])) := fun h => setIx_lst (k := 1) h.hand (by simp)
  have s2 : ∀ {S : Store} {c : Nat} {cells : List Int} {p g s t v : Int}, HV S n c cells p g s t → setIxD (.ref n) (.int 2) (.int v) S = .ok () (S.set n (.lst [.ref c, .int p, .int v, .int s, .int t])) := fun h => setIx_lst (k := 2) h.hand (by simp)
  have s3 : ∀ {S : Store} {c : Nat} {cells : List Int} {p g s t v : Int}, HV S n c cells p g s t → setIxD (.ref n) (.int 3) (.int v) S = .ok () (S.set n (.lst [.ref c, .int p, .int g, .int v, .int t])) := fun h => setIx_lst (k := 3) h.hand (by simp)
  have s4 : ∀ {S : Store} {c : Nat} {cells : List Int} {p g s t v : Int}, HV S n c cells p g s t → setIxD (.ref n) (.int 4) (.int v) S = .ok () (S.set n (.lst [.ref c, .int p, .int g, .int s, .int v])) := fun h => setIx_lst (k := 4) h.hand (by simp)
  refine w_seq (fun o S1 => ∃ a p g s t, o = .nx [some (.ref n), some (.int many), a, none, none] ∧ HV S1 n c cells p g s t ∧ FrX [n] S S1) ?_ ?_
  · simp [f__law_draw, startEnv, i2 H, -Bool.exists_bool]
    by_cases hg : g = 0
    · simp [hg, i1 H, i0 H, lenOf_lst H.cell, -Bool.exists_bool]
      by_cases hp : p < cells.length
      · have hp2 : p.toNat < cells.length := by have := H.p0; omega
        have hc : (cells.map D.int)[p.toNat]? = some (.int cells[p.toNat]) := by simp [hp2]
        have hx := H.pos _ (List.getElem_mem hp2)
        simp [hp, i1 H, i0 H, wp_ixZ (seqOf_lst H.cell) H.p0 hc, s1 H, -Bool.exists_bool]
        generalize cells[p.toNat] = x at hx
        have H2 := H.put (p' := p + 1) (g' := g) (s' := s) (t' := t) (by have := H.p0; omega) H.g0
        have f2 : FrX [n] S (S.set n (.lst [.ref c, .int (p + 1), .int g, .int s, .int t])) := FrX.refl.set (by simp)
        generalize S.set n (.lst [.ref c, .int (p + 1), .int g, .int s, .int t]) = S2 at H2 f2
        simp [i3 H2, s3 H2, -Bool.exists_bool]
        have H3 := H2.put (p' := p + 1) (g' := g) (s' := (s * 69621 + x + 11) % 2147483629) (t' := t) (by have := H.p0; omega) H.g0
        have f3 : FrX [n] S (S2.set n (.lst [.ref c, .int (p + 1), .int g, .int ((s * 69621 + x + 11) % 2147483629), .int t])) := f2.set (by simp)
        generalize S2.set n (.lst [.ref c, .int (p + 1), .int g, .int ((s * 69621 + x + 11) % 2147483629), .int t]) = S3 at H3 f3
        by_cases hb : 1000000000000000000 ≤ x
        · simp [hb, s2 H3]
          exact ⟨⟨_, _, _, _, H3.put (by have := H.p0; omega) hx⟩, f3.set (by simp)⟩
        · simp [hb]
          exact ⟨⟨_, _, _, _, H3⟩, f3⟩
      · simp [hp]
        exact ⟨⟨_, _, _, _, H⟩, FrX.refl⟩
    · simp [hg]
      exact ⟨⟨_, _, _, _, H⟩, FrX.refl⟩
  rintro _ S1 ⟨a, p, g, s, t, rfl, H1, f1⟩
  rw [thenO_nx]
  simp [i2 H1, -Bool.exists_bool]
  have q := q
  by_cases hg : 0 < g
  · simp [hg, i2 H1, h1, h2, s2 H1]
    refine q _ _ (Int.emod_nonneg _ (by omega)) (Int.emod_lt_of_pos _ h1) (f1.set (by simp)) ?_
    exact ⟨_, _, _, _, _, H1.put H1.p0 (Int.ediv_nonneg (by omega) (by omega))⟩
  · simp [hg, i4 H1, s4 H1, -Bool.exists_bool]
    have H2 := H1.put (p' := p) (g' := g) (s' := s) (t' := t + 1) H1.p0 H1.g0
    have f2 : FrX [n] S (S1.set n (.lst [.ref c, .int p, .int g, .int s, .int (t + 1)])) := f1.set (by simp)
    generalize S1.set n (.lst [.ref c, .int p, .int g, .int s, .int (t + 1)]) = S2 at H2 f2
    simp [i3 H2, i4 H2, -Bool.exists_bool]
    generalize hx : (s + 7919 * (t + 1)) * 48271 % 2147483647 = x
    have x1 : 0 ≤ x := by rw [← hx]; exact Int.emod_nonneg _ (by omega)
    have x2 : x < 2147483647 := by rw [← hx]; exact Int.emod_lt_of_pos _ (by omega)
    generalize hy : x * (x / 1009 + 69621) % 2147483647 = y
    have y1 : 0 ≤ y := by rw [← hy]; exact Int.emod_nonneg _ (by omega)
    have y2 : y < 2147483647 := by rw [← hy]; exact Int.emod_lt_of_pos _ (by omega)
    refine ⟨.inl ⟨by omega, by omega⟩, .inl ⟨by omega, by omega⟩, h1, ?_⟩
    exact q _ _ (Int.emod_nonneg _ (by omega)) (Int.emod_lt_of_pos _ h1) f2 ⟨_, _, _, _, _, H2⟩
end
end K47
set_option Elab.async false
set_option linter.all false
set_option maxRecDepth 100000
set_option maxHeartbeats 1000000
/-! k47, plain. Part AJ: the law's hand, a drawn call. -/
namespace K47
open PySem Ev
section
variable {k : Nat} {S : Store} {Q : D → Store → Prop}
theorem cut_takeD {xs : List D} {i : Nat} : cut xs none (some (i : Int)) = xs.take i := by
  have e : sIx xs.length xs.length (some (i : Int)) = min i xs.length := by
    unfold sIx
    simp only
    rw [if_neg (by omega)]
    omega
  unfold cut
  rw [e]
  simp only [sIx, List.drop_zero, Nat.sub_zero]
  by_cases h : i ≤ xs.length
  · rw [Nat.min_eq_left h]
  · rw [Nat.min_eq_right (by omega), List.take_of_length_le (by omega), List.take_of_length_le (by omega)]
theorem s_law_hand {ns : List Int} (hl : ns.length ≤ 63) (q : ∀ S' n c, Fr S S' → S[n]? = none → Hnd S' n c → Q (.ref n) S') : wR (C (k + 1) (Str.ofString "_law_hand") [.rol (ns.map .int)] S) Q := by
  refine w_fn fn__law_hand rfl ?_
  simp [f__law_hand, startEnv, -Bool.exists_bool]
  refine w_lc ns (fun i => .int i) (fun i => some (.int (if i < 0 then -i else i))) (by rfl) ?_ (by unfold lim; omega) (fun i hi S2 f2 => ?_) fun S2 m f2 hm0 hm => ?_
  · have e : cut (ns.map D.int) none (some 63) = ns.map D.int := by
      have := cut_takeD (xs := ns.map D.int) (i := 63)
      rw [List.take_of_length_le (by simpa using hl)] at this
      exact this
    simp [e, itOf_lst get_new, chk_one1 get_new, Fr.app]
  · simp [wipe, Tg.put, Fr.refl]
  rw [List.filterMap_eq_map'] at hm
  simp [lenOf_lst hm, lim]
  refine q _ _ m (f2.trans Fr.app) (none_of_fr f2 get_len) ⟨ns.map fun i => if i < 0 then -i else i, 0, 0, 1 + ns.length, 0, get_new, ?_, by omega, by omega, fun x hx => ?_⟩
  · rw [Fr.app _ _ hm]
    simp
  · obtain ⟨i, _, rfl⟩ := List.mem_map.mp hx
    split <;> omega
theorem Hnd.ne_int {S : Store} {n c m : Nat} {ms : List Int} (h : Hnd S n c) (hm : S[m]? = some (.lst (ms.map .int))) : m ≠ n := fun e => by
  obtain ⟨cells, p, g, s, t, h⟩ := h
  have := h.hand
  rw [← e, hm] at this
  cases ms <;> simp at this
theorem recv_pop' {n : Nat} {xs : List D} (h : S[n]? = some (.lst xs)) : recvOk .pop (.ref n) S = true := by simp [recvOk, lstOf, h]
theorem int_nodup {xs : List Int} : (xs.map D.int).Nodup ↔ xs.Nodup := by
  unfold List.Nodup
  rw [List.pairwise_map]
  constructor
  · exact fun h => h.imp fun h1 e => h1 (by rw [e])
  · exact fun h => h.imp fun h1 e => h1 (by cases e; rfl)
theorem eraseIdx_nodup {xs : List Int} {j : Nat} (nd : xs.Nodup) (hj : j < xs.length) : (xs.eraseIdx j).Nodup ∧ ∀ x, x ∈ xs.eraseIdx j ↔ x ∈ xs ∧ x ≠ xs[j] := by
  refine ⟨(List.eraseIdx_sublist xs j).nodup nd, fun x => ?_⟩
  rw [List.mem_eraseIdx_iff_getElem]
  constructor
  · rintro ⟨i, hi, h1, rfl⟩
    refine ⟨List.getElem_mem _, fun e => h1 ?_⟩
    exact (List.getElem_inj nd).mp e
  · rintro ⟨hx, hne⟩
    obtain ⟨i, hi, rfl⟩ := List.getElem_of_mem hx
    exact ⟨i, hi, fun e => hne (by subst e; rfl), rfl⟩
/-- what a drawn call takes of the moments -/
structure Took (ms ms' : List Int) (b : Int) (e : Option Int) : Prop where
  bm : b ∈ ms
  em : ∀ y, e = some y → y ∈ ms ∧ b < y
  mem : ∀ x ∈ ms', x ∈ ms ∧ x ≠ b ∧ e ≠ some x
  nd : ms'.Nodup
  len : ms.length ≤ ms'.length + 2
  le : ms'.length ≤ ms.length
theorem s_law_call {n c m : Nat} {ms : List Int} (hh : Hnd S n c) (mc : m ≠ c) (hm : S[m]? = some (.lst (ms.map .int))) (nd : ms.Nodup) (hp : 0 < ms.length) (hl : ms.length ≤ 1000)
    (q : ∀ b e ms' S', FrX [n, m] S S' → Hnd S' n c → S'[m]? = some (.lst (ms'.map .int)) → Took ms ms' b e → Q (.tup [.int b, encO e]) S') : wR (C (k + 2) (Str.ofString "_law_call") [.ref n, .ref m, .non] S) Q := by
  refine w_fn fn__law_call rfl ?_
  have nm := hh.ne_int hm
  simp [f__law_call, startEnv, recv_pop' hm, lenOf_lst hm, -Bool.exists_bool]
  refine s_law_draw (by omega) (by omega) hh fun d S1 d0 d1 f1 hh1 => ?_
  obtain ⟨j, rfl⟩ := Int.eq_ofNat_of_zero_le d0
  have hj : j < ms.length := by omega
  have hm1 := f1 m _ (by simpa using nm) hm
  have hj2 : (ms.map D.int)[j]? = some (.int ms[j]) := by simp [hj]
  rw [m_pop hm1 hj2 (by simp [lim]; omega), wR_ok]
  obtain ⟨nd1, mem1⟩ := eraseIdx_nodup nd hj
  have len1 : (ms.eraseIdx j).length = ms.length - 1 := List.length_eraseIdx_of_lt hj
  have bm : ms[j] ∈ ms := List.getElem_mem hj
  have e1 : (ms.map D.int).eraseIdx j = (ms.eraseIdx j).map D.int := by
    apply List.ext_getElem?
    intro i
    simp only [List.getElem?_eraseIdx, List.getElem?_map]
    split <;> rfl
  rw [e1]
  generalize ms[j] = b at bm mem1
  generalize ms.eraseIdx j = ms1 at nd1 mem1 len1
  have hm2 : (S1.set m (.lst (ms1.map D.int)))[m]? = some (.lst (ms1.map D.int)) := get_set hm1
  have f2 : FrX [n, m] S (S1.set m (.lst (ms1.map D.int))) := (f1.mono (by simp)).set (by simp)
  have hh2 : Hnd (S1.set m (.lst (ms1.map D.int))) n c := hh1.frX (ns := [m]) (FrX.refl.set (by simp)) (by simpa using nm.symm) (by simpa using mc.symm)
  generalize S1.set m (.lst (ms1.map D.int)) = S2 at hm2 f2 hh2
  refine w_lc ms1 (fun x => .int x) (fun x => if decide (b < x) = true then some (.int x) else none) (by exact lock_lst rfl hm2) ?_ (by unfold lim; omega) (fun x hx S3 f3 => ?_) fun S3 l f3 hl0 hl3 => ?_
  · simp [keysOf_lst hm2, chk_one1 hm2, Fr.refl]
  · simp [wipe, Tg.put, -Bool.exists_bool]
    by_cases e : b < x <;> simp [e, Fr.refl]
    omega
  have e2 : ms1.filterMap (fun x => if decide (b < x) = true then some (D.int x) else none) = (ms1.filter fun x => decide (b < x)).map D.int := by
    rw [← List.filterMap_eq_filter, List.map_filterMap]
    congr 1
    funext x
    by_cases e : b < x <;> simp [e, Option.guard]
  rw [e2] at hl3
  have ltm : ∀ x, x ∈ (ms1.filter fun x => decide (b < x)) ↔ x ∈ ms1 ∧ b < x := fun x => by rw [List.mem_filter, decide_eq_true_eq]
  have ltl := List.length_filter_le (fun x => decide (b < x)) ms1
  generalize (ms1.filter fun x => decide (b < x)) = lt at hl3 ltm ltl
  have f23 : FrX [n, m] S S3 := f2.trans (FrX.of f3)
  have hh3 := hh2.fr f3
  have hm3 := f3 _ _ hm2
  have hl4 := Fr.app (T := [Ob.lst []]) _ _ hl3
  have h04 : (S3 ++ [Ob.lst []])[S3.length]? = some (.lst []) := get_new
  have cne : cmpD .NotEq (.ref l) (.ref S3.length) (S3 ++ [Ob.lst []]) = some (!decide (lt.map D.int = [])) := cmp_ne_C hl4 h04 (fun x hx => by obtain ⟨i, _, rfl⟩ := List.mem_map.mp hx; exact cln_int) (by simp)
  have hm4 := Fr.app (T := [Ob.lst []]) _ _ hm3
  have hh4 := hh3.fr (Fr.app (T := [Ob.lst []]))
  have f24 : FrX [n, m] S (S3 ++ [Ob.lst []]) := f23.trans (FrX.of Fr.app)
  simp [cne, -Bool.exists_bool]
  generalize S3 ++ [Ob.lst []] = S4 at hm4 hh4 f24 hl4
  have noEnd : Took ms ms1 b none := ⟨bm, by simp, fun x hx => ⟨((mem1 x).mp hx).1, ((mem1 x).mp hx).2, by simp⟩, nd1, by omega, by omega⟩
  cases lt with
  | nil =>
    refine ⟨false, by simp, ?_⟩
    simp [lim]
    exact q b none ms1 S4 f24 hh4 hm4 noEnd
  | cons z r =>
  generalize hz : z :: r = lt at *
  have lp : 0 < lt.length := by rw [← hz]; simp
  refine ⟨true, by simp [← hz], ?_⟩
  simp [-Bool.exists_bool]
  refine s_law_draw (by omega) (by omega) hh4 fun d S5 d0 d1 f5 hh5 => ?_
  have hm5 := f5 m _ (by simpa using nm) hm4
  have nl : l ≠ n := hh4.ne_int hl4
  have hl5 := f5 l _ (by simpa using nl) hl4
  have f25 : FrX [n, m] S S5 := f24.trans (f5.mono (by simp))
  simp [-Bool.exists_bool]
  by_cases hd : 0 < d
  case neg =>
    simp [hd, lim]
    exact q b none ms1 S5 f25 hh5 hm5 noEnd
  simp [hd, lenOf_lst hl5, -Bool.exists_bool]
  refine s_law_draw (by split <;> omega) (by split <;> omega) hh5 fun d S6 d0 d1 f6 hh6 => ?_
  obtain ⟨j2, rfl⟩ := Int.eq_ofNat_of_zero_le d0
  have hj3 : j2 < lt.length := by split at d1 <;> omega
  have hl6 := f6 l _ (by simpa using nl) hl5
  have hm6 := f6 m _ (by simpa using nm) hm5
  have hj4 : (lt.map D.int)[j2]? = some (.int lt[j2]) := by simp [hj3]
  rw [wp_ix (seqOf_lst hl6) hj4]
  have ym := (ltm _).mp (List.getElem_mem hj3)
  generalize lt[j2] = y at ym
  obtain ⟨L1, L2, eL⟩ := List.append_of_mem ym.1
  have ndL := nd1
  rw [eL, List.nodup_append, List.nodup_cons] at ndL
  have hm6' : S6[m]? = some (.lst (L1.map D.int ++ .int y :: L2.map D.int)) := by rw [hm6, eL]; simp
  simp [recv_rem' hm6, -Bool.exists_bool]
  rw [m_remC hm6' (fun z hz => by
    rw [← List.map_cons, ← List.map_append] at hz
    obtain ⟨i, _, rfl⟩ := List.mem_map.mp hz
    exact cln_int) (fun h => by
    obtain ⟨i, hi, e⟩ := List.mem_map.mp h
    cases e
    exact ndL.2.2 _ hi _ (.head _) rfl), wR_ok]
  simp [lim]
  refine q b (some y) (L1 ++ L2) _ ((f25.trans (f6.mono (by simp))).set (by simp)) (hh6.frX (ns := [m]) (FrX.refl.set (by simp)) (by simpa using nm.symm) (by simpa using mc.symm)) (by rw [get_set hm6]; simp) ⟨bm, fun y' e => ?_, fun x hx => ?_, ?_, ?_, ?_⟩
  · cases e
    exact ⟨((mem1 _).mp ym.1).1, ym.2⟩
  · have hx1 : x ∈ ms1 := by
      rw [eL]
      rcases List.mem_append.mp hx with h | h
      · exact List.mem_append_left _ h
      · exact List.mem_append_right _ (.tail _ h)
    refine ⟨((mem1 x).mp hx1).1, ((mem1 x).mp hx1).2, fun e => ?_⟩
    cases e
    rcases List.mem_append.mp hx with h | h
    · exact ndL.2.2 _ h _ (.head _) rfl
    · exact ndL.2.1.1 h
  · rw [List.nodup_append]
    exact ⟨ndL.1, ndL.2.1.2, fun a ha b hb => ndL.2.2 a ha b (.tail _ hb)⟩
  · have := congrArg List.length eL
    simp at this ⊢
    omega
  · have := congrArg List.length eL
    simp at this ⊢
    omega
end
end K47
set_option Elab.async false
set_option linter.all false
set_option maxRecDepth 100000
set_option maxHeartbeats 1000000
/-! k47, plain. Part AK: a drawn read. -/
namespace K47
open PySem Ev
abbrev encP (p : Str × Int) : D := .tup [.str p.1, .int p.2]
abbrev encW (W : List (Str × Int)) : List D := W.map encP
def WOk (W : List (Str × Int)) : Prop := W.length ≤ 100 ∧ ∀ p ∈ W, nmOk p.1 ∧ 0 ≤ p.2 ∧ p.2 ≤ 1000
theorem WOk.td {W : List (Str × Int)} (h : WOk W) {p : Str × Int} (hp : p ∈ W) : tdOk (encP p) := .inr (.inr ⟨p.1, p.2, (h.2 p hp).1, (h.2 p hp).2.1, (h.2 p hp).2.2, rfl⟩)
/-- the same call, but for what it tells -/
structure Alike (x y : Cl) : Prop where
  w : y.w = x.w
  nm : y.nm = x.nm
  b : y.b = x.b
  e : y.e = x.e
  wr : x.w = true → y = x
  td : x.w = false → tdOk y.told
section
variable {k : Nat} {S : Store} {Q : D → Store → Prop}
theorem encW_ne {S : Store} {n c wr : Nat} {W : List (Str × Int)} (h : Hnd S n c) (hm : S[wr]? = some (.lst (encW W))) : wr ≠ n := fun e => by
  obtain ⟨cells, p, g, s, t, h⟩ := h
  have := h.hand
  rw [← e, hm] at this
  cases W <;> simp at this
theorem s_law_read {n c wr : Nat} {W : List (Str × Int)} {x : Cl} (hh : Hnd S n c) (hw : S[wr]? = some (.lst (encW W))) (hW : WOk W) (hnm : nmOk x.nm) (q : ∀ y S', FrX [n] S S' → Hnd S' n c → Alike x y → Q (enc y) S') :
    wR (C (k + 2) (Str.ofString "_law_read") [.ref n, enc x, .ref wr] S) Q := by
  refine w_fn fn__law_read rfl ?_
  cases xw : x.w with
  | true =>
    simp [f__law_read, startEnv, xw, -Bool.exists_bool]
    exact q x S FrX.refl hh ⟨rfl, rfl, rfl, rfl, fun _ => rfl, fun h => by rw [xw] at h; cases h⟩
  | false =>
  have wn := encW_ne hh hw
  refine w_seq (fun o S1 => o = .nx [some (.ref n), some (enc x), some (.ref wr), none, none] ∧ S = S1) ?_ ?_
  · simp [f__law_read, startEnv, xw]
  rintro _ _ ⟨rfl, rfl⟩
  rw [thenO_nx]
  refine w_seq (fun o S1 => ∃ l V, o = .nx [some (.ref n), some (enc x), some (.ref wr), some (.ref l), none] ∧ Fr S S1 ∧ S1[l]? = some (.lst (encW V)) ∧ (∀ p ∈ V, p ∈ W) ∧ V.length ≤ W.length) ?_ ?_
  · rw [w_set]
    have lW : W.length ≤ lim := by have := hW.1; unfold lim; omega
    refine w_lc W encP (fun p => if decide (p.1 = x.nm) = true then some (encP p) else none) (by exact lock_lst rfl hw) ?_ lW (fun p hp S2 f2 => ?_) fun S2 l f2 _ hl => ?_
    · simp [keysOf_lst hw, chk_one1 hw, Fr.refl]
    · have cn : cmpD .Eq (.str p.1) (.str x.nm) S2 = some (decide (p.1 = x.nm)) := by
        rw [cmp_eq (cln_nm (hW.2 p hp).1) (cln_nm hnm)]
        simp
      simp [wipe, Tg.put, cn, -Bool.exists_bool]
      by_cases e : p.1 = x.nm <;> simp [e, Fr.refl]
    have e2 : W.filterMap (fun p => if decide (p.1 = x.nm) = true then some (encP p) else none) = encW (W.filter fun p => decide (p.1 = x.nm)) := by
      unfold encW
      rw [← List.filterMap_eq_filter, List.map_filterMap]
      congr 1
      funext p
      by_cases e : p.1 = x.nm <;> simp [e, Option.guard]
    rw [e2] at hl
    exact ⟨l, _, rfl, f2, hl, fun p hp => (List.mem_filter.mp hp).1, List.length_filter_le _ _⟩
  rintro _ S2 ⟨l, V, rfl, f2, hl, Vm, Vl⟩
  rw [thenO_nx]
  have hl4 := Fr.app (T := [Ob.lst []]) _ _ hl
  have h04 : (S2 ++ [Ob.lst []])[S2.length]? = some (.lst []) := get_new
  have cne : cmpD .NotEq (.ref l) (.ref S2.length) (S2 ++ [Ob.lst []]) = some (!decide (encW V = [])) := cmp_ne_C hl4 h04 (fun z hz => by
    obtain ⟨p, hp, rfl⟩ := List.mem_map.mp hz
    exact cln_td (n := 49) (hW.td (Vm p hp))) (by simp)
  have hh4 := hh.fr (f2.trans (Fr.app (T := [Ob.lst []])))
  have f24 : FrX [n] S (S2 ++ [Ob.lst []]) := FrX.of (f2.trans Fr.app)
  refine w_seq (fun o S1 => o = .nx [some (.ref n), some (enc x), some (.ref wr), some (.ref l), some .non] ∧ S2 = S1) ?_ ?_
  · simp
  rintro _ _ ⟨rfl, rfl⟩
  rw [thenO_nx]
  refine w_seq (fun o S1 => ∃ td, o = .nx [some (.ref n), some (enc x), some (.ref wr), some (.ref l), some td] ∧ tdOk td ∧ FrX [n] S S1 ∧ Hnd S1 n c) ?_ ?_
  · simp [cne, -Bool.exists_bool]
    generalize S2 ++ [Ob.lst []] = S4 at hh4 f24 hl4
    cases V with
    | nil =>
      refine ⟨false, by simp, ?_⟩
      simp
      exact ⟨.inl rfl, f24, hh4⟩
    | cons z r =>
    generalize hz : z :: r = V at *
    have lp : 0 < V.length := by rw [← hz]; simp
    have ll := hW.1
    refine ⟨true, by simp [← hz], ?_⟩
    simp [-Bool.exists_bool]
    refine s_law_draw (by omega) (by omega) hh4 fun d S5 d0 d1 f5 hh5 => ?_
    simp [-Bool.exists_bool]
    have nl : l ≠ n := encW_ne hh4 hl4
    have hl5 := f5 l _ (by simpa using nl) hl4
    by_cases hd : 0 < d
    case neg =>
      simp [hd]
      exact ⟨.inl rfl, f24.trans f5, hh5⟩
    simp [hd, lenOf_lst hl5, -Bool.exists_bool]
    refine s_law_draw (by omega) (by omega) hh5 fun d S6 d0 d1 f6 hh6 => ?_
    obtain ⟨j, rfl⟩ := Int.eq_ofNat_of_zero_le d0
    have hj : j < V.length := by omega
    have hl6 := f6 l _ (by simpa using nl) hl5
    have hj4 : (encW V)[j]? = some (encP V[j]) := by simp [hj]
    rw [wp_ix (seqOf_lst hl6) hj4]
    exact ⟨hW.td (Vm _ (List.getElem_mem hj)), (f24.trans f5).trans f6, hh6⟩
  rintro _ S3 ⟨td, rfl, htd, f3, hh3⟩
  rw [thenO_nx]
  simp [-Bool.exists_bool]
  refine s_law_draw (by omega) (by omega) hh3 fun d S5 d0 d1 f5 hh5 => ?_
  have fin : ∀ td', tdOk td' → Q (.tup [.str sRead, .str x.nm, td', .int x.b, encO x.e]) S5 := fun td' h' => by
    have := q ⟨x.w, x.nm, td', x.b, x.e⟩ S5 (f3.trans f5) hh5 ⟨rfl, rfl, rfl, rfl, (fun h => by rw [xw] at h; cases h), fun _ => h'⟩
    unfold enc at this
    simpa [xw] using this
  by_cases hd : d = 0
  · simp [hd, lim, xw]
    exact fin _ (.inr (.inl rfl))
  · simp [hd, lim, xw]
    exact fin _ htd
end
end K47
set_option Elab.async false
set_option linter.all false
set_option maxRecDepth 100000
set_option maxHeartbeats 1000000
/-! k47, plain. Part AL: a drawn history. -/
namespace K47
open PySem Ev
theorem FrX.new {S S' S'' : Store} {ns ms : List Nat} (a : FrX ns S S') (b : FrX ms S' S'') (h : ∀ m ∈ ms, m ∈ ns ∨ S[m]? = none) : FrX ns S S'' := fun i o hi hS => by
  refine b i o (fun hm => ?_) (a i o hi hS)
  rcases h i hm with h | h
  · exact hi h
  · rw [h] at hS
    cases hS
def al : List Cl → List Cl → Prop
  | [], [] => True
  | x :: a, y :: b => Alike x y ∧ al a b
  | _, _ => False
theorem al_snoc : ∀ {a b : List Cl} {x y : Cl}, al a b → Alike x y → al (a ++ [x]) (b ++ [y])
  | [], [], x, y, _, h => ⟨h, trivial⟩
  | _ :: a, _ :: b, x, y, h, h2 => ⟨h.1, al_snoc h.2 h2⟩
  | [], _ :: _, _, _, h, _ => h.elim
  | _ :: _, [], _, _, h, _ => h.elim
theorem al_moms : ∀ {a b : List Cl}, al a b → moms b = moms a
  | [], [], _ => rfl
  | x :: a, y :: b, h => by
    have := al_moms h.2
    unfold moms at this ⊢
    rw [List.flatMap_cons, List.flatMap_cons, this]
    congr 1
    unfold momsOf
    rw [h.1.nm, h.1.b, h.1.e]
  | [], _ :: _, h => h.elim
  | _ :: _, [], h => h.elim
theorem al_wrs : ∀ {a b : List Cl}, al a b → wrs b = wrs a
  | [], [], _ => rfl
  | x :: a, y :: b, h => by
    have := al_wrs h.2
    unfold wrs at this ⊢
    rw [List.filter_cons, List.filter_cons, h.1.w]
    cases hw : x.w with
    | true =>
      have e := h.1.wr hw
      subst e
      simp [this]
    | false => simp [this]
  | [], _ :: _, h => h.elim
  | _ :: _, [], h => h.elim
theorem al_len : ∀ {a b : List Cl}, al a b → b.length = a.length
  | [], [], _ => rfl
  | x :: a, y :: b, h => by simp [al_len h.2]
  | [], _ :: _, h => h.elim
  | _ :: _, [], h => h.elim
theorem al_ok : ∀ {a b : List Cl}, al a b → (∀ x ∈ a, ClOk x) → ∀ y ∈ b, ClOk y
  | [], [], _, _ => by simp
  | x :: a, y :: b, h, H => by
    intro z hz
    rcases List.mem_cons.mp hz with rfl | hz
    · have hx := H x (.head _)
      cases hw : x.w with
      | true => rw [h.1.wr hw]; exact hx
      | false =>
        refine ⟨by rw [h.1.nm]; exact hx.nm, h.1.td hw, fun h' => ?_, fun e he => ?_⟩
        · rw [h.1.w, hw] at h'
          cases h'
        · rw [h.1.e] at he
          rw [h.1.b]
          exact hx.en e he
    · exact al_ok h.2 (fun u hu => H u (.tail _ hu)) z hz
  | [], _ :: _, h, _ => h.elim
  | _ :: _, [], h, _ => h.elim
def momI (h : List Cl) : List Int := h.flatMap fun x => x.b :: x.e.toList
def sndD : D → D
  | .tup [_, y] => y
  | _ => .non
theorem moms_snd : ∀ h : List Cl, (moms h).map sndD = (momI h).map D.int
  | [] => rfl
  | x :: h => by
    have := moms_snd h
    unfold moms momI at *
    rw [List.flatMap_cons, List.flatMap_cons, List.map_append, List.map_append, this]
    congr 1
    unfold momsOf
    cases x.e <;> rfl
theorem moms_nodup {h : List Cl} (nd : (momI h).Nodup) : (moms h).Nodup := by
  have h2 := int_nodup.mpr nd
  rw [← moms_snd] at h2
  unfold List.Nodup at *
  rw [List.pairwise_map] at h2
  exact h2.imp fun h3 e => h3 (by rw [e])
/-- a history while it is drawn: the calls, what was written, the moments left -/
structure DI (n : Nat) (hs : List Cl) (W : List (Str × Int)) (ms : List Int) : Prop where
  len : hs.length = n
  cl : ∀ x ∈ hs, ClOk x
  mom : (momI hs ++ ms).Nodup
  W : W.length ≤ n ∧ ∀ p ∈ W, nmOk p.1 ∧ 0 ≤ p.2 ∧ p.2 ≤ 1000
  tell : ∀ x ∈ hs, x.w = true → ∃ i : Int, x.told = encP (x.nm, i) ∧ i < n
  wrs : (wrs hs).Nodup
theorem DI.next {n : Nat} {hs : List Cl} {W : List (Str × Int)} {ms ms' : List Int} {b : Int} {e : Option Int} {nm : Str} (H : DI n hs W ms) (hn : n ≤ 100) (hnm : nmOk nm) (T : Took ms ms' b e) (w : Bool) :
    DI (n + 1) (hs ++ [⟨w, nm, if w = true then encP (nm, (n : Int)) else .non, b, e⟩]) (if w = true then W ++ [(nm, (n : Int))] else W) ms' := by
  have nd0 := H.mom
  rw [List.nodup_append] at nd0
  refine ⟨by simp [H.len], fun x hx => ?_, ?_, ?_, fun x hx hw => ?_, ?_⟩
  · rcases List.mem_append.mp hx with hx | hx
    · exact H.cl x hx
    · simp at hx
      subst hx
      refine ⟨hnm, ?_, ?_, fun y hy => (T.em y hy).2⟩
      · cases w
        · exact .inl rfl
        · exact .inr (.inr ⟨nm, n, hnm, by omega, by omega, rfl⟩)
      · intro hw
        dsimp only at hw
        subst hw
        simp
  · have e1 : momI (hs ++ [⟨w, nm, if w = true then encP (nm, (n : Int)) else .non, b, e⟩]) = momI hs ++ (b :: e.toList) := by simp [momI]
    rw [e1, List.append_assoc, List.nodup_append]
    have nb : ∀ y, e = some y → b ≠ y := fun y hy h => by have := (T.em y hy).2; omega
    refine ⟨nd0.1, ?_, ?_⟩
    · rw [List.nodup_append]
      refine ⟨?_, T.nd, ?_⟩
      · cases e with
        | none => simp
        | some y => simpa using nb y rfl
      · intro x hx y hy h
        subst h
        have := T.mem x hy
        rcases List.mem_cons.mp hx with rfl | hx
        · exact this.2.1 rfl
        · cases e with
          | none => simp at hx
          | some z =>
            simp at hx
            subst hx
            exact this.2.2 rfl
    · intro x hx y hy h
      subst h
      refine nd0.2.2 x hx x ?_ rfl
      rcases List.mem_append.mp hy with hy | hy
      · rcases List.mem_cons.mp hy with rfl | hy
        · exact T.bm
        · cases e with
          | none => simp at hy
          | some z =>
            simp at hy
            subst hy
            exact (T.em x rfl).1
      · exact (T.mem x hy).1
  · cases w with
    | false =>
      simp
      exact ⟨by have := H.W.1; omega, fun a b h => H.W.2 (a, b) h⟩
    | true =>
      simp
      refine ⟨H.W.1, fun a b h => ?_⟩
      rcases h with h | ⟨rfl, rfl⟩
      · exact H.W.2 (a, b) h
      · exact ⟨hnm, by omega, by omega⟩
  · rcases List.mem_append.mp hx with hx | hx
    · obtain ⟨i, h1, h2⟩ := H.tell x hx hw
      exact ⟨i, h1, by omega⟩
    · simp at hx
      subst hx
      dsimp only at hw
      subst hw
      exact ⟨n, by simp, by omega⟩
  · unfold K47.wrs
    rw [List.filter_append, List.map_append, List.nodup_append]
    refine ⟨H.wrs, ?_, fun a ha c hc e => ?_⟩
    · cases w <;> simp
    · subst e
      obtain ⟨x, hx, rfl⟩ := List.mem_map.mp ha
      rw [List.mem_filter] at hx
      obtain ⟨i, h1, h2⟩ := H.tell x hx.1 hx.2
      cases w with
      | false => simp at hc
      | true =>
        simp at hc
        rw [h1] at hc
        simp at hc
        omega
end K47
set_option Elab.async false
set_option linter.all false
set_option maxRecDepth 100000
set_option maxHeartbeats 1000000
/-! k47, plain. Part AM: a drawn history answers. -/
namespace K47
open PySem Ev
section
variable {k : Nat} {S : Store} {Q : D → Store → Prop}
theorem map_int_range {n : Nat} (f : Int → Int) : (List.range n).map (fun (i : Nat) => D.int (f (i : Int))) = ((List.range n).map fun (i : Nat) => f (i : Int)).map D.int := by
  rw [List.map_map]
  rfl
theorem range3_nodup (n : Nat) : ((List.range n).map fun (i : Nat) => 3 * (i : Int) - 5).Nodup := by
  unfold List.Nodup
  rw [List.pairwise_map]
  exact List.nodup_range.imp fun h e => h (by omega)
def NmL (names : List Str) : Prop := names ≠ [] ∧ names.length ≤ 10 ∧ ∀ x ∈ names, nmOk x
theorem s_law_history {n c nl : Nat} {names : List Str} (hh : Hnd S n c) (hN : NmL names) (hnl : S[nl]? = some (.lst (names.map .str))) (q : ∀ h S', FrX [n] S S' → Hnd S' n c → HOk h → h.length ≤ 6 → Q (encH h) S') :
    wR (C (k + 3) (Str.ofString "_law_history") [.ref n, .int 6, .ref nl] S) Q := by
  refine w_fn fn__law_history rfl ?_
  have nln : nl ≠ n := fun e => by
    obtain ⟨cells, p, g, s, t, h⟩ := hh
    have := h.hand
    rw [← e, hnl] at this
    cases names <;> simp at this
  -- how many
  refine w_seq (fun o S1 => ∃ many : Nat, o = .nx [some (.ref n), some (.int 6), some (.ref nl), some (.int many), none, none, none, none, none, none, none, none, none] ∧ 1 ≤ many ∧ many ≤ 6 ∧ FrX [n] S S1 ∧ Hnd S1 n c) ?_ ?_
  · simp [f__law_history, startEnv, -Bool.exists_bool]
    refine s_law_draw (by omega) (by omega) hh fun d S1 d0 d1 f1 hh1 => ?_
    simp
    exact ⟨(1 + d).toNat, by omega, by omega, by omega, f1, hh1⟩
  rintro _ S1 ⟨many, rfl, m1, m6, f1, hh1⟩
  rw [thenO_nx]
  -- the moments
  refine w_seq (fun o S2 => ∃ (m : Nat) (ms : List Int), o = .nx [some (.ref n), some (.int 6), some (.ref nl), some (.int many), some (.ref m), none, none, none, none, none, none, none, none] ∧ FrX [n] S S2 ∧ Hnd S2 n c ∧ S1[m]? = none ∧ S2[m]? = some (.lst (ms.map .int)) ∧ ms.Nodup ∧ 2 * many ≤ ms.length ∧ ms.length ≤ 100) ?_ ?_
  · rw [w_set]
    refine w_lcE rfl ?_
    simp [-Bool.exists_bool]
    refine s_law_draw (by omega) (by omega) hh1 fun d S2 d0 d1 f2 hh2 => ?_
    obtain ⟨j, rfl⟩ := Int.eq_ofNat_of_zero_le d0
    rw [bin_add, wR_ok]
    refine ⟨_, rfl, ?_, ?_⟩
    · simp [rangeOk]
      omega
    have e0 : 2 * (many : Int) + (j : Int) = ((2 * many + j : Nat) : Int) := by omega
    refine lcgo (List.range (2 * many + j)) (fun i => .int (i : Nat)) (fun i => some (.int (3 * (i : Int) - 5))) ?_ (by rfl) (by simp [lim]; omega) (fun y hy S3 f3 => ?_) fun S3 m f3 hm0 hm => ?_
    · rw [e0, rangeD0]
    · simp [wipe, Tg.put, Fr.refl]
    rw [List.filterMap_eq_map', map_int_range (fun i => 3 * i - 5)] at hm
    refine ⟨m, rfl, (f1.trans f2).trans (FrX.of f3), hh2.fr f3, ?_, _, hm, range3_nodup _, by simp, by simp; omega⟩
    apply Nat.le_of_not_lt
    intro hlt
    have e := List.getElem?_eq_getElem hlt
    by_cases em : m = n
    · subst em
      obtain ⟨cells, p, g, s, t, h⟩ := hh2
      have := h.hand
      rw [hm0] at this
      cases this
    · have := f2 m _ (by simpa using em) e
      rw [hm0] at this
      cases this
  rintro _ S2 ⟨m, ms, rfl, f2, hh2, hm0, hm, nd, mlo, mhi⟩
  rw [thenO_nx]
  -- the two lists
  refine w_seq (fun o S3 => o = .nx [some (.ref n), some (.int 6), some (.ref nl), some (.int many), some (.ref m), some (.ref S2.length), some (.ref (S2.length + 1)), none, none, none, none, none, none] ∧ S3 = S2 ++ [.lst []] ++ [.lst []]) ?_ ?_
  · simp [setAll, lim]
  rintro _ S3 ⟨rfl, eS3⟩
  rw [thenO_nx]
  have S1S : ∀ {i : Nat}, S1[i]? = none → S[i]? = none := fun {i} h => by
    cases e : S[i]? with
    | none => rfl
    | some o =>
      by_cases em : i = n
      · subst em
        obtain ⟨cells, p, g, s, t, h'⟩ := hh1
        rw [h'.hand] at h
        cases h
      · have := f1 i o (by simpa using em) e
        rw [h] at this
        cases this
  have S2S : ∀ {i : Nat}, S2[i]? = none → S[i]? = none := fun {i} h => by
    cases e : S[i]? with
    | none => rfl
    | some o =>
      by_cases em : i = n
      · subst em
        obtain ⟨cells, p, g, s, t, h'⟩ := hh2
        rw [h'.hand] at h
        cases h
      · have := f2 i o (by simpa using em) e
        rw [h] at this
        cases this
  have hm0S := S1S hm0
  have mc : m ≠ c := fun e => by
    obtain ⟨cells, p, g, s, t, h⟩ := hh1
    rw [e, h.cell] at hm0
    cases hm0
  have hfd : S3[S2.length]? = some (.lst []) := by rw [eS3]; simp
  have hwr : S3[S2.length + 1]? = some (.lst []) := by rw [eS3]; simp
  have f23 : Fr S2 S3 := by rw [eS3]; exact Fr.app.trans Fr.app
  have fd0 : S[S2.length]? = none := S2S get_len
  have wr0 : S[S2.length + 1]? = none := S2S (List.getElem?_eq_none (by omega))
  have hc2 : ∃ o, S2[c]? = some o := by
    obtain ⟨cells, p, g, s, t, h⟩ := hh2
    exact ⟨_, h.cell⟩
  have hn2 : ∃ o, S2[n]? = some o := by
    obtain ⟨cells, p, g, s, t, h⟩ := hh2
    exact ⟨_, h.hand⟩
  have lt_of : ∀ {i : Nat}, (∃ o, S2[i]? = some o) → i < S2.length := fun ⟨o, h⟩ => (List.getElem?_eq_some_iff.mp h).1
  have cl := lt_of hc2
  have nlt := lt_of hn2
  have mlt := lt_of ⟨_, hm⟩
  have hm3 := f23 _ _ hm
  have hh3 := hh2.fr f23
  have f3 := f2.trans (FrX.of f23)
  generalize hfdn : S2.length = fd at *
  clear eS3 f23
  have fdm : fd ≠ m := by omega
  have wrm : fd + 1 ≠ m := by omega
  refine w_seq (fun o S4 => ∃ a b d e g hs W ms', o = .nx [some (.ref n), some (.int 6), some (.ref nl), some (.int many), some (.ref m), some (.ref fd), some (.ref (fd + 1)), a, b, d, e, g, none] ∧ FrX [n] S S4 ∧ Hnd S4 n c ∧ S4[fd]? = some (.lst (hs.map enc)) ∧ S4[fd + 1]? = some (.lst (encW W)) ∧ DI many hs W ms') ?_ ?_
  · refine w_for_ix (List.range many) (fun _ i => .int (i : Nat)) (fun done δ S4 => ∃ a b d e g hs W ms', δ = [some (.ref n), some (.int 6), some (.ref nl), some (.int many), some (.ref m), some (.ref fd), some (.ref (fd + 1)), a, b, d, e, g, none] ∧ FrX [n] S S4 ∧ Hnd S4 n c ∧ S4[m]? = some (.lst (ms'.map .int)) ∧ S4[fd]? = some (.lst (hs.map enc)) ∧ S4[fd + 1]? = some (.lst (encW W)) ∧ DI done.length hs W ms' ∧ 2 * (many - done.length) ≤ ms'.length ∧ ms'.length ≤ 100) [] rfl ?_ ?_ ?_
    · rw [ws_range, w_lit, w_var]
      refine ⟨_, rfl, 0, many, rfl, rfl, rangeOk0 (by omega), rfl, ?_, none, none, none, none, none, [], [], ms, rfl, f3, hh3, hm3, hfd, hwr, ⟨rfl, by simp, by simpa [momI] using nd, by simp, by simp, by simp [K47.wrs]⟩, by simpa using mlo, mhi⟩
      rw [rangeD0]
      exact (map_zipIdx (f := fun i : Nat => D.int (i : Int))).symm
    · rintro δ S4 ⟨a, b, d, e, g, hs, W, ms', rfl, h1, h2, h3, h4, h5, h6, _⟩
      refine ⟨rfl, a, b, d, e, g, hs, W, ms', rfl, h1, h2, h4, h5, ?_⟩
      simpa using h6
    · rintro done y rest δ S4 eR ⟨a, b, d, e, g, hs, W, ms', rfl, f4, hh4, hm4, hfd4, hwr4, H, lo, hi⟩
      have ey : y = done.length := by
        have := congrArg (fun l => l[done.length]?) eR
        simp at this
        have hl := congrArg List.length eR
        simp at hl
        rw [List.getElem?_range (by omega)] at this
        simpa using this.symm
      subst ey
      have ldone : done.length < many := by
        have hl := congrArg List.length eR
        simp at hl
        omega
      refine ⟨rfl, _, rfl, ?_⟩
      have hnl4 := f4 nl _ (by simpa using nln) hnl
      have Nl := hN.2.1
      have Np : 0 < names.length := List.length_pos_iff.mpr hN.1
      simp [lenOf_lst hnl4, -Bool.exists_bool]
      refine s_law_draw (by omega) (by omega) hh4 fun r S5 r0 r1 f5 hh5 => ?_
      obtain ⟨j, rfl⟩ := Int.eq_ofNat_of_zero_le r0
      have hj : j < names.length := by omega
      have hnl5 := f5 nl _ (by simpa using nln) hnl4
      have hnm := hN.2.2 _ (List.getElem_mem hj)
      rw [wp_ix (seqOf_lst hnl5) (show (names.map D.str)[j]? = some (.str names[j]) by simp [hj])]
      generalize names[j] = nm at hnm
      have mn : m ≠ n := hh4.ne_int hm4
      have fdn : fd ≠ n := by omega
      have wrn : fd + 1 ≠ n := by omega
      have hm5 := f5 m _ (by simpa using mn) hm4
      refine s_law_call hh5 mc hm5 (List.nodup_append.mp H.mom).2.1 (by omega) (by omega) fun bb ee ms2 S6 f6 hh6 hm6 T => ?_
      have hfd6 := f6 fd _ (by simp [fdn, fdm]) (f5 fd _ (by simpa using fdn) hfd4)
      have hwr6 := f6 (fd + 1) _ (by simp [wrn, wrm]) (f5 (fd + 1) _ (by simpa using wrn) hwr4)
      have f46 : FrX [n] S S6 := (f4.trans f5).new f6 (fun i hi => by
        simp at hi
        rcases hi with rfl | rfl
        · exact .inl (by simp)
        · exact .inr hm0S)
      simp [setAll, -Bool.exists_bool]
      refine s_law_draw (by omega) (by omega) hh6 fun r2 S7 _ _ f7 hh7 => ?_
      have hm7 := f7 m _ (by simpa using mn) hm6
      have hfd7 := f7 fd _ (by simpa using fdn) hfd6
      have hwr7 := f7 (fd + 1) _ (by simpa using wrn) hwr6
      have f47 := f46.trans f7
      have lo2 : 2 * (many - (done.length + 1)) ≤ ms2.length := by have := T.len; omega
      have hi2 : ms2.length ≤ 100 := by have := T.le; omega
      have fw : fd ≠ fd + 1 := by omega
      have wc : fd + 1 ≠ c := by omega
      have fc : fd ≠ c := by omega
      have lhs : hs.length < lim := by rw [H.len]; unfold lim; omega
      have lW : W.length < lim := by have := H.W.1; unfold lim; omega
      by_cases hr : r2 = 0
      · subst hr
        have DN := H.next (by omega) hnm T true
        have hwr8 : (S7.set (fd + 1) (.lst (encW W ++ [encP (nm, (done.length : Int))])))[fd + 1]? = some (.lst (encW (W ++ [(nm, (done.length : Int))]))) := by
          rw [get_set hwr7]
          simp
        have f8 : FrX [fd + 1] S7 (S7.set (fd + 1) (.lst (encW W ++ [encP (nm, (done.length : Int))]))) := FrX.refl.set (by simp)
        simp [lim, recv_app hwr7, -Bool.exists_bool]
        rw [m_app hwr7 (by simpa using lW), wR_ok]
        generalize S7.set (fd + 1) (.lst (encW W ++ [encP (nm, (done.length : Int))])) = S8 at hwr8 f8
        have hfd8 := f8 fd _ (by simpa using fw) hfd7
        have hh8 := hh7.frX f8 (by simpa using wrn.symm) (by simpa using wc.symm)
        have hm8 := f8 m _ (by simpa using wrm.symm) hm7
        refine ⟨recv_app hfd8, ?_⟩
        rw [m_app hfd8 (by simpa using lhs), wR_ok]
        have f9 : FrX [fd] S8 (S8.set fd (.lst (hs.map enc ++ [.tup [.str sWrite, .str nm, encP (nm, (done.length : Int)), .int bb, encO ee]]))) := FrX.refl.set (by simp)
        have hfd9 : (S8.set fd (.lst (hs.map enc ++ [.tup [.str sWrite, .str nm, encP (nm, (done.length : Int)), .int bb, encO ee]])))[fd]? = some (.lst ((hs ++ [Cl.mk true nm (encP (nm, (done.length : Int))) bb ee]).map enc)) := by
          rw [get_set hfd8]
          simp [enc]
        refine ⟨?_, hh8.frX f9 (by simpa using fdn.symm) (by simpa using fc.symm), _, _, ms2, f9 m _ (by simpa using fdm.symm) hm8, hfd9, f9 (fd + 1) _ (by simpa using fw.symm) hwr8, by simpa using DN, by simpa using lo2, hi2⟩
        exact (f47.new f8 (fun i hi => .inr (by simp at hi; subst hi; exact wr0))).new f9 (fun i hi => .inr (by simp at hi; subst hi; exact fd0))
      · have DN := H.next (by omega) hnm T false
        simp [hr, lim, recv_app hfd7, -Bool.exists_bool]
        rw [m_app hfd7 (by simpa using lhs), wR_ok]
        have f9 : FrX [fd] S7 (S7.set fd (.lst (hs.map enc ++ [.tup [.str sRead, .str nm, .non, .int bb, encO ee]]))) := FrX.refl.set (by simp)
        have hfd9 : (S7.set fd (.lst (hs.map enc ++ [.tup [.str sRead, .str nm, .non, .int bb, encO ee]])))[fd]? = some (.lst ((hs ++ [Cl.mk false nm .non bb ee]).map enc)) := by
          rw [get_set hfd7]
          simp [enc]
        refine ⟨?_, hh7.frX f9 (by simpa using fdn.symm) (by simpa using fc.symm), _, _, ms2, f9 m _ (by simpa using fdm.symm) hm7, hfd9, f9 (fd + 1) _ (by simpa using fw.symm) hwr7, by simpa using DN, by simpa using lo2, hi2⟩
        exact f47.new f9 (fun i hi => .inr (by simp at hi; subst hi; exact fd0))
  rintro _ S4 ⟨a, b, d, e, g, hs, W, ms', rfl, f4, hh4, hfd4, hwr4, H⟩
  rw [thenO_nx]
  have WO : WOk W := ⟨by have := H.W.1; omega, H.W.2⟩
  have hl6 : hs.length ≤ 6 := by rw [H.len]; exact m6
  have wrn : fd + 1 ≠ n := by omega
  have fdn : fd ≠ n := by omega
  simp only [w_scons, w_ret]
  rw [w_prim (by decide) (by decide)]
  simp only [w_cons, w_nil]
  refine w_lcE (by exact lock_lst rfl hfd4) ?_
  simp [keysOf_lst hfd4, -Bool.exists_bool]
  refine lcgo_gen (J := fun dn acc S5 => ∃ h', acc = h'.map enc ∧ al dn h' ∧ FrX [n] S4 S5 ∧ Hnd S5 n c ∧ S5[S4.length]? = some (.lst acc)) hs enc rfl ⟨[], rfl, trivial, FrX.of Fr.app, hh4.fr Fr.app, get_new⟩ ?_ ?_ ?_
  · rintro dn acc S5 ⟨h', rfl, h1, h2, h3, h4⟩
    exact ⟨chk_one1 (h2 fd _ (by simpa using fdn) hfd4), h4⟩
  · rintro d1 y d2 acc S5 eh ⟨h', rfl, h1, h2, h3, h4⟩
    have ym : y ∈ hs := by rw [eh]; simp
    simp [wipe, Tg.put, -Bool.exists_bool]
    have l4n : S4.length ≠ n := fun e => by
      obtain ⟨cells, p, g, s, t, h⟩ := hh4
      have := h.hand
      rw [← e, List.getElem?_eq_none (Nat.le_refl _)] at this
      cases this
    have l4c : S4.length ≠ c := fun e => by
      obtain ⟨cells, p, g, s, t, h⟩ := hh4
      have := h.cell
      rw [← e, List.getElem?_eq_none (Nat.le_refl _)] at this
      cases this
    refine s_law_read h3 (h2 (fd + 1) _ (by simpa using wrn) hwr4) WO (H.cl y ym).nm fun y' S6 f6 hh6 A => ?_
    have h46 := f6 S4.length _ (by simpa using l4n) h4
    have hl := al_len h1
    refine ⟨h46, ?_, h' ++ [y'], by simp, al_snoc h1 A, (h2.trans f6).setNew get_len, hh6.frX (ns := [S4.length]) (FrX.refl.set (by simp)) (by simpa using l4n.symm) (by simpa using l4c.symm), by rw [get_set h46]⟩
    have := congrArg List.length eh
    simp [lim] at this ⊢
    omega
  · rintro acc S5 ⟨h', rfl, h1, h2, h3, h4⟩
    rw [wp_tupL h4]
    refine q h' S5 (f4.trans h2) h3 ⟨?_, al_ok h1 H.cl, ?_, ?_⟩ ?_
    · rw [al_len h1]; omega
    · rw [al_moms h1]
      exact moms_nodup (List.nodup_append.mp H.mom).1
    · rw [al_wrs h1]
      exact H.wrs
    · rw [al_len h1]
      exact hl6
end
end K47
set_option Elab.async false
set_option linter.all false
set_option maxRecDepth 100000
set_option maxHeartbeats 1000000
/-! k47, plain. Part AN: things that may be an order. -/
namespace K47
open PySem Ev
section
variable {c : Ev.Ctx} {δ : Ev.Env} {S : Store} {n : List Nat}
/-- a list of plain things -/
def LP (n : List Nat) (l : Nat) (S : Store) (d : D) : Prop := ∃ r xs, d = .ref r ∧ r ∉ n ∧ S[r]? = some (.lst xs) ∧ xs.length ≤ l ∧ ∀ x ∈ xs, smp x
theorem LP.fr {l : Nat} {S S' : Store} {d : D} (f : Fr S S') (h : LP n l S d) : LP n l S' d := by
  obtain ⟨r, xs, h1, h2, h3, h4⟩ := h
  exact ⟨r, xs, h1, h2, f _ _ h3, h4⟩
/-- an expression makes a list of plain things -/
def LE (c : Ev.Ctx) (δ : Ev.Env) (S : Store) (n : List Nat) (l : Nat) (e : E) : Prop := ∀ S1, Fr S S1 → wR (evE c e δ S1) fun d S2 => Fr S1 S2 ∧ LP n l S2 d
def EO (c : Ev.Ctx) (δ : Ev.Env) (e : Option E) : Prop := ∀ S1, wR (evO c e δ S1) fun _ S2 => S2 = S1
theorem new_ne {S S1 : Store} (hn : ∀ m ∈ n, ∃ o, S[m]? = some o) (f : Fr S S1) : S1.length ∉ n := fun e => by
  obtain ⟨o, h⟩ := hn _ e
  have := f _ _ h
  rw [List.getElem?_eq_none (Nat.le_refl _)] at this
  cases this
theorem cut_sub {xs : List D} {lo hi : Option Int} : (cut xs lo hi).length ≤ xs.length ∧ ∀ x ∈ cut xs lo hi, x ∈ xs := by
  unfold cut
  refine ⟨?_, fun x hx => List.mem_of_mem_drop (List.mem_of_mem_take hx)⟩
  simp
  omega
theorem le_sl {l : Nat} {a : E} {lo hi : Option E} (hn : ∀ m ∈ n, ∃ o, S[m]? = some o) (ha : LE c δ S n l a) (h1 : EO c δ lo) (h2 : EO c δ hi) : LE c δ S n l (.sl a lo hi) := by
  intro S1 f1
  rw [w_sl]
  refine wR_mono (ha S1 f1) fun d S2 ⟨f2, r, xs, e, h3, h4, h5, h6⟩ => ?_
  refine wR_mono (h1 S2) fun i S3 e3 => ?_
  subst e3
  refine wR_mono (h2 S3) fun j S4 e4 => ?_
  subst e4
  subst e
  rw [sl_lst h4, wR_ok]
  exact ⟨f2.trans Fr.app, S4.length, _, rfl, new_ne hn (f1.trans f2), get_new, Nat.le_trans cut_sub.1 h5, fun x hx => h6 x (cut_sub.2 x hx)⟩
theorem le_rev {l : Nat} {a : E} (hn : ∀ m ∈ n, ∃ o, S[m]? = some o) (ha : LE c δ S n l a) : LE c δ S n l (.rev a) := by
  intro S1 f1
  rw [w_rev]
  refine wR_mono (ha S1 f1) fun d S2 ⟨f2, r, xs, e, h3, h4, h5, h6⟩ => ?_
  subst e
  rw [rev_lst h4, wR_ok]
  exact ⟨f2.trans Fr.app, S2.length, _, rfl, new_ne hn (f1.trans f2), get_new, by simpa using h5, fun x hx => h6 x (by simpa using hx)⟩
theorem le_add {l m : Nat} {a b : E} (hn : ∀ m ∈ n, ∃ o, S[m]? = some o) (ha : LE c δ S n l a) (hb : LE c δ S n m b) (hl : l + m ≤ 1000) : LE c δ S n (l + m) (.bin .Add a b) := by
  intro S1 f1
  rw [w_bin]
  refine wR_mono (ha S1 f1) fun d S2 ⟨f2, r, xs, e, h3, h4, h5, h6⟩ => ?_
  refine wR_mono (hb S2 (f1.trans f2)) fun d' S3 ⟨f3, r', xs', e', h3', h4', h5', h6'⟩ => ?_
  subst e e'
  rw [bin_addL (f3 _ _ h4) h4']
  refine ⟨by unfold lim; omega, (f2.trans f3).trans Fr.app, S3.length, _, rfl, new_ne hn ((f1.trans f2).trans f3), get_new, by simp; omega, fun x hx => ?_⟩
  rcases List.mem_append.mp hx with hx | hx
  · exact h6 x hx
  · exact h6' x hx
theorem LE.mono {l m : Nat} {e : E} (h : LE c δ S n l e) (hl : l ≤ m) : LE c δ S n m e := fun S1 f1 => wR_mono (h S1 f1) fun d S2 ⟨f2, r, xs, e, h3, h4, h5, h6⟩ => ⟨f2, r, xs, e, h3, h4, Nat.le_trans h5 hl, h6⟩
/-- a thing that may be an order, other than the hand -/
def OT (n : List Nat) (S : Store) (d : D) : Prop := OTh S d ∧ ∀ m ∈ n, d ≠ .ref m
theorem OTh.fr {S S' : Store} {d : D} (f : Fr S S') (h : OTh S d) : OTh S' d := by
  cases h with
  | no _ t h1 h2 => exact .no _ t (tyOf_fr f h1) h2
  | lst m xs h1 h2 h3 => exact .lst m xs (f _ _ h1) h2 h3
theorem OTh.frX {S S' : Store} {d : D} (f : FrX n S S') (h : OTh S d) (hne : ∀ m ∈ n, d ≠ .ref m) : OTh S' d := by
  cases h with
  | no _ t h1 h2 =>
    refine .no _ t ?_ h2
    cases d with
    | ref m =>
      have hm : m ∉ n := fun h => hne m h rfl
      simp only [tyOf] at h1 ⊢
      split at h1
      · rename_i e; rw [f _ _ hm e]; exact h1
      · rename_i e; rw [f _ _ hm e]; exact h1
      · cases h1
    | _ => exact h1
  | lst m xs h1 h2 h3 =>
    have hm : m ∉ n := fun h => hne m h rfl
    exact .lst m xs (f _ _ hm h1) h2 h3
theorem LP.ot {l : Nat} {d : D} (h : LP n l S d) (hl : l ≤ 100) : OT n S d := by
  obtain ⟨r, xs, rfl, h2, h3, h4, h5⟩ := h
  exact ⟨.lst r xs h3 (by omega) fun x hx => smp_ty (h5 x hx), fun m hm e => h2 (by cases e; exact hm)⟩
theorem le_lst {es : List E} {ds : List D} (hn : ∀ m ∈ n, ∃ o, S[m]? = some o) (he : ∀ S1, wR (evEs c es δ S1) fun ds' S2 => ds' = ds ∧ S2 = S1) (hl : ds.length ≤ 1000) (hs : ∀ x ∈ ds, smp x) : LE c δ S n ds.length (.lst es) := by
  intro S1 f1
  rw [w_lst]
  refine wR_mono (he S1) fun ds' S2 ⟨e1, e2⟩ => ?_
  subst e1 e2
  exact ⟨by unfold lim; omega, Fr.app, _, _, rfl, new_ne hn f1, get_new, Nat.le_refl _, hs⟩
theorem LE.ot {l : Nat} {e : E} (h : LE c δ S n l e) (hl : l ≤ 100) : ∀ S1, Fr S S1 → wR (evE c e δ S1) fun d S2 => Fr S1 S2 ∧ OT n S2 d := fun S1 f1 => wR_mono (h S1 f1) fun d S2 ⟨f2, h2⟩ => ⟨f2, h2.ot hl⟩
theorem OT.fr {S S' : Store} {d : D} (f : Fr S S') (h : OT n S d) : OT n S' d := ⟨h.1.fr f, h.2⟩
theorem ot_no {d : D} {t : String} (h1 : tyOf S d = some t) (h2 : isInst t "list" = false) (h3 : ∀ m, d ≠ .ref m) : OT n S d := ⟨.no d t h1 h2, fun m _ => h3 m⟩
theorem evEs_P {P : Store → D → Prop} (mono : ∀ S S' d, Fr S S' → P S d → P S' d) : ∀ {es : List E} {S : Store}, (∀ e ∈ es, ∀ S1, Fr S S1 → wR (evE c e δ S1) fun d S2 => Fr S1 S2 ∧ P S2 d) → wR (evEs c es δ S) fun ds S' => Fr S S' ∧ ds.length = es.length ∧ ∀ d ∈ ds, P S' d
  | [], S, _ => by simp [Fr.refl]
  | e :: es, S, h => by
    rw [w_cons]
    refine wR_mono (h e (.head _) S Fr.refl) fun d S1 ⟨f1, p⟩ => ?_
    refine wR_mono (evEs_P mono (es := es) (S := S1) fun e' he' S2 f2 => h e' (.tail _ he') S2 (f1.trans f2)) fun ds S2 ⟨f2, hl, hp⟩ => ⟨f1.trans f2, by simp [hl], fun d' hd' => ?_⟩
    rcases List.mem_cons.mp hd' with rfl | hd'
    · exact mono _ _ _ f2 p
    · exact hp d' hd'
end
section
variable {k : Nat} {S : Store} {Q : D → Store → Prop}
theorem s_law_bent_order {n c many : Nat} {td : D} (hh : Hnd S n c) (hm : many ≤ 20) (ht : td = .non ∨ ∃ t row, td = .ref t ∧ S[t]? = some (.lst (encI row)) ∧ row.length ≤ 20) (q : ∀ d S', FrX [n] S S' → Hnd S' n c → OTh S' d → Q d S') :
    wR (C (k + 2) (Str.ofString "_law_bent_order") [.ref n, td, .int (many : Nat)] S) Q := by
  refine w_fn fn__law_bent_order rfl ?_
  refine w_seq (fun o S1 => ∃ r row, o = .nx [some (.ref n), some td, some (.int (many : Nat)), some (.ref r), none, none] ∧ Fr S S1 ∧ S1[r]? = some (.lst (encI row)) ∧ row.length ≤ 20) ?_ ?_
  · rcases ht with rfl | ⟨t, row, rfl, h1, h2⟩
    · simp [f__law_bent_order, startEnv, rangeOk0 (show many ≤ 1000 by omega), -List.getElem?_append_right]
      refine ⟨Fr.app, List.range many, by rw [rangeD0], by simpa using hm⟩
    · simp [f__law_bent_order, startEnv, Fr.refl]
      exact ⟨row, h1, h2⟩
  rintro _ S1 ⟨r, row, rfl, f1, hr, hl⟩
  rw [thenO_nx]
  have hh1 := hh.fr f1
  have rn : r ≠ n := fun e => by
    obtain ⟨cells, p, g, s, t, h⟩ := hh1
    have := h.hand
    rw [← e, hr] at this
    cases row <;> simp at this
  refine w_seq (fun o S2 => ∃ at' : Int, o = .nx [some (.ref n), some td, some (.int (many : Nat)), some (.ref r), some (.int at'), none] ∧ FrX [n] S1 S2 ∧ Hnd S2 n c) ?_ ?_
  · simp [lenOf_lst hr, -Bool.exists_bool]
    refine s_law_draw (by omega) (by omega) hh1 fun d S2 d0 d1 f2 hh2 => ?_
    exact ⟨⟨d, rfl⟩, f2, hh2⟩
  rintro _ S2 ⟨at', rfl, f2, hh2⟩
  rw [thenO_nx]
  have hr2 := f2 r _ (by simpa using rn) hr
  have hn2 : ∃ o, S2[n]? = some o := by
    obtain ⟨cells, p, g, s, t, h⟩ := hh2
    exact ⟨_, h.hand⟩
  have nn2 : ∀ m ∈ [n], ∃ o, S2[m]? = some o := by simpa using hn2
  -- the first seven
  refine w_seq (fun o S3 => ∃ (l : Nat) (ds : List D), o = .nx [some (.ref n), some td, some (.int (many : Nat)), some (.ref r), some (.int at'), some (.ref l)] ∧ Fr S2 S3 ∧ S2[l]? = none ∧ S3[l]? = some (.lst ds) ∧ ds.length = 7 ∧ ∀ d ∈ ds, OT [n, l] S3 d) ?_ ?_
  · generalize hδ : [some (D.ref n), some td, some (.int (many : Nat)), some (.ref r), some (.int at'), (none : Option D)] = δ
    have v2 : δ[2]? = some (some (.int (many : Nat))) := by rw [← hδ]; rfl
    have v3 : δ[3]? = some (some (.ref r)) := by rw [← hδ]; rfl
    have v4 : δ[4]? = some (some (.int at')) := by rw [← hδ]; rfl
    have row_le : LE ⟨C (k + 1), con, 8⟩ δ S2 [n] 20 (.var 3) := fun S3 f3 => by
      rw [w_var]
      refine ⟨_, v3, Fr.refl, r, _, rfl, by simpa using rn, f3 _ _ hr2, by simpa using hl, fun x hx => ?_⟩
      obtain ⟨i, _, rfl⟩ := List.mem_map.mp hx
      trivial
    have e4 : EO ⟨C (k + 1), con, 8⟩ δ (some (.var 4)) := fun S3 => by simp [v4]
    have e41 : EO ⟨C (k + 1), con, 8⟩ δ (some (.bin .Add (.var 4) (.lit (.int 1)))) := fun S3 => by simp [v4]
    have e1 : EO ⟨C (k + 1), con, 8⟩ δ (some (.lit (.int 1))) := fun S3 => by simp
    have e0 : EO ⟨C (k + 1), con, 8⟩ δ none := fun S3 => by simp
    rw [w_set, w_lst]
    refine wR_mono (evEs_P (P := OT [n]) (fun _ _ _ f h => h.fr f) fun e he S3 f3 => ?_) fun ds S3 ⟨f3, l3, h3⟩ => ?_
    · simp only [List.mem_cons, List.not_mem_nil, or_false] at he
      rcases he with rfl | rfl | rfl | rfl | rfl | rfl | rfl
      · exact row_le.ot (by omega) S3 f3
      · exact (le_rev nn2 row_le).ot (by omega) S3 f3
      · exact (le_add nn2 (le_sl nn2 row_le e0 e4) (le_sl nn2 row_le e41 e0) (by omega)).ot (by omega) S3 f3
      · exact (le_add nn2 row_le (le_sl nn2 row_le e0 e1) (by omega)).ot (by omega) S3 f3
      · simp [v3]
        rw [wp_tupL (f3 _ _ hr2)]
        exact ⟨Fr.refl, ot_no (t := "tuple") rfl (by decide) (by simp)⟩
      · simp
        exact ⟨Fr.refl, ot_no (t := "NoneType") rfl (by decide) (by simp)⟩
      · have lm : LE ⟨C (k + 1), con, 8⟩ δ S2 [n] 1 (.lst [.var 2]) := le_lst (ds := [.int (many : Nat)]) nn2 (fun S3 => by simp [v2]) (by simp) (by simp [smp])
        exact (le_add nn2 (le_add nn2 (le_sl nn2 row_le e0 e4) lm (by omega)) (le_sl nn2 row_le e4 e0) (by omega)).ot (by omega) S3 f3
    · refine ⟨by rw [l3]; simp [lim], S3.length, ds, by rw [← hδ]; rfl, f3.trans Fr.app, none_of_fr f3 get_len, get_new, by rw [l3]; rfl, fun d hd => ⟨(h3 d hd).1.fr Fr.app, fun m hm => ?_⟩⟩
      rcases List.mem_cons.mp hm with rfl | hm
      · exact (h3 d hd).2 _ (by simp)
      · simp at hm
        subst hm
        rintro rfl
        cases (h3 _ hd).1 with
        | no _ t h1 h2 => simp [tyOf, get_len] at h1
        | lst _ xs h1 _ _ => rw [get_len] at h1; cases h1
  rintro _ S3 ⟨l, ds, rfl, f3, hl0, hl3, dl, hds⟩
  rw [thenO_nx]
  have hr3 := f3 _ _ hr2
  have hh3 := hh2.fr f3
  have ln : l ≠ n := fun e => by
    obtain ⟨o, h⟩ := hn2
    rw [← e, hl0] at h
    cases h
  have rl : r ≠ l := fun e => by rw [← e, hr2] at hl0; cases hl0
  have nn3 : ∀ m ∈ [n, l], ∃ o, S3[m]? = some o := by
    intro m hm
    simp at hm
    rcases hm with rfl | rfl
    · obtain ⟨o, h⟩ := hn2
      exact ⟨o, f3 _ _ h⟩
    · exact ⟨_, hl3⟩
  -- all of them
  refine w_seq (fun o S4 => ∃ (ds : List D), o = .nx [some (.ref n), some td, some (.int (many : Nat)), some (.ref r), some (.int at'), some (.ref l)] ∧ FrX [l] S3 S4 ∧ S4[l]? = some (.lst ds) ∧ ds.length = 14 ∧ ∀ d ∈ ds, OT [n, l] S4 d) ?_ ?_
  · generalize hδ : [some (D.ref n), some td, some (.int (many : Nat)), some (.ref r), some (.int at'), some (D.ref l)] = δ
    have v2 : δ[2]? = some (some (.int (many : Nat))) := by rw [← hδ]; rfl
    have v3 : δ[3]? = some (some (.ref r)) := by rw [← hδ]; rfl
    have v4 : δ[4]? = some (some (.int at')) := by rw [← hδ]; rfl
    have v5 : δ[5]? = some (some (.ref l)) := by rw [← hδ]; rfl
    have row_le : LE ⟨C (k + 1), con, 8⟩ δ S3 [n, l] 20 (.var 3) := fun S4 f4 => by
      rw [w_var]
      refine ⟨_, v3, Fr.refl, r, _, rfl, by simp [rn, rl], f4 _ _ hr3, by simpa using hl, fun x hx => ?_⟩
      obtain ⟨i, _, rfl⟩ := List.mem_map.mp hx
      trivial
    have e4 : EO ⟨C (k + 1), con, 8⟩ δ (some (.var 4)) := fun S3 => by simp [v4]
    have e42 : EO ⟨C (k + 1), con, 8⟩ δ (some (.bin .Add (.var 4) (.lit (.int 2)))) := fun S3 => by simp [v4]
    have e0 : EO ⟨C (k + 1), con, 8⟩ δ none := fun S3 => by simp
    rw [w_expr, w_meth, w_var]
    refine ⟨_, v5, recv_ext hl3, ?_⟩
    rw [w_cons, w_lst]
    refine wR_mono (evEs_P (P := OT [n, l]) (fun _ _ _ f h => h.fr f) fun e he S4 f4 => ?_) fun ds2 S4 ⟨f4, l4, h4⟩ => ?_
    · simp only [List.mem_cons, List.not_mem_nil, or_false] at he
      rcases he with rfl | rfl | rfl | rfl | rfl | rfl | rfl
      · exact (le_lst (ds := [.bl true]) nn3 (fun S3 => by simp) (by simp) (by simp [smp])).ot (by simp) S4 f4
      · exact (le_add nn3 (le_add nn3 (le_sl nn3 row_le e0 e4) (le_rev nn3 (le_sl nn3 row_le e4 e42)) (by omega)) (le_sl nn3 row_le e42 e0) (by omega)).ot (by omega) S4 f4
      · exact (le_lst (ds := []) nn3 (fun S3 => by simp) (by simp) (by simp [smp])).ot (by simp) S4 f4
      · rw [w_dic]
        refine ⟨Fr.app, .no _ "dict" (tyOf_dic get_new) (by decide), fun m hm e => ?_⟩
        cases e
        exact new_ne nn3 f4 hm
      · simp
        exact ⟨Fr.refl, ot_no (t := "str") rfl (by decide) (by simp)⟩
      · exact (le_lst (ds := [.non]) nn3 (fun S3 => by simp) (by simp) (by simp [smp])).ot (by simp) S4 f4
      · have lm : LE ⟨C (k + 1), con, 8⟩ δ S3 [n, l] 1 (.lst [.neg (.lit (.int 1))]) := le_lst (ds := [.int (-1)]) nn3 (fun S3 => by simp) (by simp) (by simp [smp])
        exact (le_add nn3 (le_sl nn3 row_le e0 e4) lm (by omega)).ot (by omega) S4 f4
    · have l7 : ds2.length = 7 := by rw [l4]; rfl
      refine ⟨by rw [l7]; simp [lim], ?_⟩
      rw [w_nil, m_ext (Fr.app _ _ (f4 _ _ hl3)) get_new (by rw [dl, l7]; simp [lim]), wR_ok]
      have f5 : FrX [l] S4 ((S4 ++ [Ob.lst ds2]).set l (.lst (ds ++ ds2))) := (FrX.of Fr.app).set (by simp)
      refine ⟨ds ++ ds2, by rw [← hδ], (FrX.of f4).trans f5, get_set (Fr.app _ _ (f4 _ _ hl3)), by simp [dl, l7], fun d hd => ?_⟩
      have hd2 : OT [n, l] S4 d := by
        rcases List.mem_append.mp hd with hd | hd
        · exact (hds d hd).fr f4
        · exact h4 d hd
      exact ⟨hd2.1.frX f5 (fun m hm => hd2.2 m (by simp at hm; simp [hm])), hd2.2⟩
  rintro _ S4 ⟨ds, rfl, f4, hl4, dl4, hds4⟩
  rw [thenO_nx]
  have nlc : l ≠ c := fun e => by
    obtain ⟨cells, p, g, s, t, h⟩ := hh2
    rw [e, h.cell] at hl0
    cases hl0
  have hh4 := hh3.frX f4 (by simpa using ln.symm) (by simpa using nlc.symm)
  simp [-Bool.exists_bool]
  refine s_law_draw (by omega) (by omega) hh4 fun d S5 d0 d1 f5 hh5 => ?_
  obtain ⟨j, rfl⟩ := Int.eq_ofNat_of_zero_le d0
  have hj : j < ds.length := by omega
  have hl5 := f5 l _ (by simpa using ln) hl4
  rw [wp_ix (seqOf_lst hl5) (List.getElem?_eq_getElem hj)]
  have ot := hds4 _ (List.getElem_mem hj)
  have Sl0 : S[l]? = none := by
    cases e : S[l]? with
    | none => rfl
    | some o =>
      have := f2 l o (by simpa using ln) (f1 _ _ e)
      rw [hl0] at this
      cases this
  refine q _ S5 ?_ hh5 (ot.1.frX f5 fun m hm => ot.2 m (by simp at hm; simp [hm]))
  exact ((((FrX.of f1).trans f2).trans (FrX.of f3)).new f4 (fun m hm => .inr (by simp at hm; subst hm; exact Sl0))).trans f5
end
end K47
set_option Elab.async false
set_option linter.all false
set_option maxRecDepth 100000
set_option maxHeartbeats 1000000
/-! k47, plain. Part AO: things that may be a bar. -/
namespace K47
open PySem Ev
def BT (n : List Nat) (S : Store) (d : D) : Prop := BTh S d ∧ ∀ m ∈ n, d ≠ .ref m
theorem BTh.fr {S S' : Store} {d : D} (f : Fr S S') (h : BTh S d) : BTh S' d := by
  cases h with
  | no _ t h1 h2 => exact .no _ t (tyOf_fr f h1) h2
  | nil => exact .nil
  | tup w ds h1 h2 h3 => exact .tup w ds h1 h2 h3
theorem BTh.frX {n : List Nat} {S S' : Store} {d : D} (f : FrX n S S') (h : BTh S d) (hne : ∀ m ∈ n, d ≠ .ref m) : BTh S' d := by
  cases h with
  | no _ t h1 h2 =>
    refine .no _ t ?_ h2
    cases d with
    | ref m =>
      have hm : m ∉ n := fun h => hne m h rfl
      simp only [tyOf] at h1 ⊢
      split at h1
      · rename_i e; rw [f _ _ hm e]; exact h1
      · rename_i e; rw [f _ _ hm e]; exact h1
      · cases h1
    | _ => exact h1
  | nil => exact .nil
  | tup w ds h1 h2 h3 => exact .tup w ds h1 h2 h3
theorem BT.fr {n : List Nat} {S S' : Store} {d : D} (f : Fr S S') (h : BT n S d) : BT n S' d := ⟨h.1.fr f, h.2⟩
theorem bt_tup {n : List Nat} {S : Store} {w : Str} {ds : List D} (h1 : wdOk w) (h2 : ds.length ≤ 100) (h3 : ∀ x ∈ ds, smp x) : BT n S (.tup (.str w :: ds)) := ⟨.tup w ds h1 h2 h3, fun _ _ => by simp⟩
theorem bt_no {n : List Nat} {S : Store} {d : D} {t : String} (h1 : tyOf S d = some t) (h2 : isInst t "tuple" = false) (h3 : ∀ m ∈ n, d ≠ .ref m) : BT n S d := ⟨.no d t h1 h2, h3⟩
/-- told: none, or a word and plain things -/
def TD (d : D) : Prop := d = .non ∨ ∃ w ds, d = .tup (.str w :: ds) ∧ wdOk w ∧ ds.length ≤ 20 ∧ ∀ x ∈ ds, smp x
theorem TD.bt {n : List Nat} {S : Store} {d : D} (h : TD d) : BT n S d := by
  rcases h with rfl | ⟨w, ds, rfl, h1, h2, h3⟩
  · exact bt_no (t := "NoneType") rfl (by decide) (by simp)
  · exact bt_tup h1 (by omega) h3
theorem cut_1 {x : D} {xs : List D} : cut (x :: xs) none (some 1) = [x] := by
  have := cut_takeD (xs := x :: xs) (i := 1)
  simpa using this
theorem cut_m1 {xs : List D} : cut xs none (some (-1)) = xs.take (xs.length - 1) := by
  unfold cut
  have e : sIx xs.length xs.length (some (-1)) = xs.length - 1 := by
    unfold sIx
    simp
    omega
  rw [e]
  simp [sIx]
section
variable {k : Nat} {S : Store} {Q : D → Store → Prop}
theorem s_law_bent_bar {n c many : Nat} {td : D} (hh : Hnd S n c) (hm : many ≤ 20) (ht : TD td) (q : ∀ d S', FrX [n] S S' → Hnd S' n c → BTh S' d → Q d S') :
    wR (C (k + 2) (Str.ofString "_law_bent_bar") [.ref n, td, .int (many : Nat)] S) Q := by
  refine w_fn fn__law_bent_bar rfl ?_
  refine w_seq (fun o S1 => ∃ w, o = .nx [some (.ref n), some td, some (.int (many : Nat)), some (.str w), none, none, none] ∧ wdOk w ∧ FrX [n] S S1 ∧ Hnd S1 n c) ?_ ?_
  · simp [f__law_bent_bar, startEnv, -Bool.exists_bool]
    refine ⟨by simp [lim], ?_⟩
    have hh1 := hh.fr (Fr.app (T := [Ob.lst [.str sStr, .str sEarly, .str sLate, .str sCrossed, .str sOther]]))
    have nl := new_ne (n := [n]) (S := S) (S1 := S) (by
      intro m hm
      simp at hm
      subst hm
      obtain ⟨cells, p, g, s, t, h⟩ := hh
      exact ⟨_, h.hand⟩) Fr.refl
    refine s_law_draw (by omega) (by omega) hh1 fun d S1 d0 d1 f1 hh2 => ?_
    obtain ⟨j, rfl⟩ := Int.eq_ofNat_of_zero_le d0
    have hl := f1 S.length _ nl get_new
    have hj : j < 5 := by omega
    have fx : FrX [n] S S1 := (FrX.of Fr.app).trans f1
    have pick : ∃ w, wdOk w ∧ [D.str sStr, .str sEarly, .str sLate, .str sCrossed, .str sOther][j]? = some (.str w) := by
      match j, hj with
      | 0, _ => exact ⟨sStr, ok1, rfl⟩
      | 1, _ => exact ⟨sEarly, ok2, rfl⟩
      | 2, _ => exact ⟨sLate, ok3, rfl⟩
      | 3, _ => exact ⟨sCrossed, ok4, rfl⟩
      | 4, _ => exact ⟨sOther, .inr (.inr (.inr (.inr rfl))), rfl⟩
    obtain ⟨w, hw, e⟩ := pick
    rw [wp_ix (seqOf_lst hl) e]
    exact ⟨w, rfl, hw, fx, hh2⟩
  rintro _ S1 ⟨w, rfl, hw, f1, hh1⟩
  rw [thenO_nx]
  refine w_seq (fun o S2 => ∃ rest, o = .nx [some (.ref n), some td, some (.int (many : Nat)), some (.str w), some (.tup rest), none, none] ∧ rest.length ≤ 4 ∧ (∀ x ∈ rest, smp x) ∧ FrX [n] S S2 ∧ Hnd S2 n c) ?_ ?_
  · rw [w_set, w_prim (by decide) (by decide), w_cons]
    refine w_lcE (by rfl) ?_
    simp [-Bool.exists_bool]
    refine ⟨by simp [lim], ?_⟩
    have hh2 := hh1.fr (Fr.app (T := [Ob.lst [.int 1, .int 2, .int 4, .int 4]]))
    have n1 : ∀ m ∈ [n], ∃ o, S1[m]? = some o := by
      intro m hm
      simp at hm
      subst hm
      obtain ⟨cells, p, g, s, t, h⟩ := hh1
      exact ⟨_, h.hand⟩
    refine s_law_draw (by omega) (by omega) hh2 fun d S2 d0 d1 f2 hh3 => ?_
    obtain ⟨j, rfl⟩ := Int.eq_ofNat_of_zero_le d0
    have hl := f2 S1.length _ (new_ne n1 Fr.refl) get_new
    have hj : j < 4 := by omega
    have fx : FrX [n] S S2 := (f1.trans (FrX.of Fr.app)).trans f2
    have pick : ∃ i : Nat, i ≤ 4 ∧ [D.int 1, .int 2, .int 4, .int 4][j]? = some (.int (i : Nat)) := by
      match j, hj with
      | 0, _ => exact ⟨1, by omega, rfl⟩
      | 1, _ => exact ⟨2, by omega, rfl⟩
      | 2, _ => exact ⟨4, by omega, rfl⟩
      | 3, _ => exact ⟨4, by omega, rfl⟩
    obtain ⟨i, hi, e⟩ := pick
    rw [wp_ix (seqOf_lst hl) e]
    refine ⟨_, rfl, rangeOk0 (by omega), ?_⟩
    have n2 : ∀ m ∈ [n], ∃ o, S2[m]? = some o := by
      intro m hm
      simp at hm
      subst hm
      obtain ⟨cells, p, g, s, t, h⟩ := hh3
      exact ⟨_, h.hand⟩
    have l2n : S2.length ≠ n := by simpa using new_ne n2 Fr.refl
    have l2c : S2.length ≠ c := fun e => by
      obtain ⟨cells, p, g, s, t, h⟩ := hh3
      have := h.cell
      rw [← e, List.getElem?_eq_none (Nat.le_refl _)] at this
      cases this
    refine lcgo_gen (J := fun dn acc S5 => FrX [n] S2 S5 ∧ Hnd S5 n c ∧ S5[S2.length]? = some (.lst acc) ∧ acc.length = dn.length ∧ ∀ x ∈ acc, smp x) (List.range i) (fun i => .int (i : Nat)) (by rw [← rangeD0]) ⟨FrX.of Fr.app, hh3.fr Fr.app, get_new, rfl, by simp⟩ ?_ ?_ ?_
    · rintro dn acc S5 ⟨h1, h2, h3, h4, h5⟩
      exact ⟨rfl, h3⟩
    · rintro d1 y d2 acc S5 eh ⟨h1, h2, h3, h4, h5⟩
      simp [wipe, Tg.put, -Bool.exists_bool]
      refine s_law_draw (by omega) (by omega) h2 fun d S6 d0 d1 f6 hh6 => ?_
      have h46 := f6 S2.length _ (by simpa using l2n) h3
      refine ⟨h46, ?_, (h1.trans f6).setNew get_len, hh6.frX (ns := [S2.length]) (FrX.refl.set (by simp)) (by simpa using l2n.symm) (by simpa using l2c.symm), by rw [get_set h46], by omega, fun x hx => ?_⟩
      · have := congrArg List.length eh
        simp [lim] at this ⊢
        omega
      · rcases hx with hx | rfl
        · exact h5 x hx
        · trivial
    · rintro acc S5 ⟨h1, h2, h3, h4, h5⟩
      rw [wp_tupL h3]
      refine ⟨acc, rfl, by simp at h4; omega, h5, fx.trans h1, h2⟩
  rintro _ S2 ⟨rest, rfl, rl, rs, f2, hh2⟩
  rw [thenO_nx]
  have n2 : ∀ m ∈ [n], ∃ o, S2[m]? = some o := by
    intro m hm
    simp at hm
    subst hm
    obtain ⟨cells, p, g, s, t, h⟩ := hh2
    exact ⟨_, h.hand⟩
  -- the first eleven
  refine w_seq (fun o S3 => ∃ (l : Nat) (ds : List D), o = .nx [some (.ref n), some td, some (.int (many : Nat)), some (.str w), some (.tup rest), some (.ref l), none] ∧ Fr S2 S3 ∧ S2[l]? = none ∧ S3[l]? = some (.lst ds) ∧ ds.length = 11 ∧ ∀ d ∈ ds, BT [n, l] S3 d) ?_ ?_
  · generalize hδ : [some (D.ref n), some td, some (.int (many : Nat)), some (.str w), some (.tup rest), (none : Option D), none] = δ
    have v1 : δ[1]? = some (some td) := by rw [← hδ]; rfl
    have v3 : δ[3]? = some (some (.str w)) := by rw [← hδ]; rfl
    have v4 : δ[4]? = some (some (.tup rest)) := by rw [← hδ]; rfl
    rw [w_set, w_lst]
    refine wR_mono (evEs_P (P := BT [n]) (fun _ _ _ f h => h.fr f) fun e he S3 f3 => ?_) fun ds S3 ⟨f3, l3, h3⟩ => ?_
    · have wr : BT [n] S3 (.tup (.str w :: rest)) := bt_tup hw (by omega) rs
      simp only [List.mem_cons, List.not_mem_nil, or_false] at he
      rcases he with rfl | rfl | rfl | rfl | rfl | rfl | rfl | rfl | rfl | rfl | rfl
      · rw [w_var]; exact ⟨td, v1, Fr.refl, ht.bt⟩
      · rw [w_var]; exact ⟨td, v1, Fr.refl, ht.bt⟩
      · simp [v3, v4, lim]
        exact ⟨by omega, Fr.refl, wr⟩
      · simp [v3, v4, lim]
        exact ⟨by omega, Fr.refl, wr⟩
      · simp [v3, lim]
        exact ⟨Fr.refl, bt_tup hw (by simp) (by simp)⟩
      · simp
        exact ⟨Fr.refl, bt_no (t := "NoneType") rfl (by decide) (by simp)⟩
      · simp [lim]
        exact ⟨Fr.refl, .nil, by simp⟩
      · simp [v3, lim]
        refine ⟨Fr.app, bt_no (t := "list") (tyOf_lst get_new) (by decide) fun m hm e => ?_⟩
        cases e
        exact new_ne n2 f3 hm
      · simp [v3, lim]
        exact ⟨Fr.refl, bt_tup hw (by simp) (by simp [smp])⟩
      · simp [v3, lim]
        exact ⟨Fr.refl, bt_tup hw (by simp) (by simp [smp])⟩
      · simp
        exact ⟨Fr.refl, bt_no (t := "int") rfl (by decide) (by simp)⟩
    · refine ⟨by rw [l3]; simp [lim], S3.length, ds, by rw [← hδ]; rfl, f3.trans Fr.app, none_of_fr f3 get_len, get_new, by rw [l3]; rfl, fun d hd => ⟨(h3 d hd).1.fr Fr.app, fun m hm => ?_⟩⟩
      rcases List.mem_cons.mp hm with rfl | hm
      · exact (h3 d hd).2 _ (by simp)
      · simp at hm
        subst hm
        rintro rfl
        cases (h3 _ hd).1 with
        | no _ t h1 h2 => simp [tyOf, get_len] at h1
  rintro _ S3 ⟨l, ds, rfl, f3, hl0, hl3, dl, hds⟩
  rw [thenO_nx]
  have hh3 := hh2.fr f3
  have ln : l ≠ n := fun e => by
    obtain ⟨o, h⟩ := n2 n (by simp)
    rw [← e, hl0] at h
    cases h
  have nlc : l ≠ c := fun e => by
    obtain ⟨cells, p, g, s, t, h⟩ := hh2
    rw [e, h.cell] at hl0
    cases hl0
  have nn3 : ∀ m ∈ [n, l], ∃ o, S3[m]? = some o := by
    intro m hm
    simp at hm
    rcases hm with rfl | rfl
    · obtain ⟨o, h⟩ := n2 m (by simp)
      exact ⟨o, f3 _ _ h⟩
    · exact ⟨_, hl3⟩
  have Sl0 : S[l]? = none := by
    cases e : S[l]? with
    | none => rfl
    | some o =>
      have := f2 l o (by simpa using ln) e
      rw [hl0] at this
      cases this
  refine w_seq (fun o S4 => ∃ (ds : List D), o = .nx [some (.ref n), some td, some (.int (many : Nat)), some (.str w), some (.tup rest), some (.ref l), none] ∧ FrX [l] S3 S4 ∧ S4[l]? = some (.lst ds) ∧ 0 < ds.length ∧ ds.length ≤ 20 ∧ ∀ d ∈ ds, BT [n, l] S4 d) ?_ ?_
  · rcases ht with rfl | ⟨w', ds', rfl, h1, h2, h3⟩
    · simp
      exact ⟨FrX.refl, ds, hl3, by omega, by omega, hds⟩
    · generalize hδ : [some (D.ref n), some (D.tup (.str w' :: ds')), some (.int (many : Nat)), some (.str w), some (.tup rest), some (D.ref l), none] = δ
      have v1 : δ[1]? = some (some (D.tup (.str w' :: ds'))) := by rw [← hδ]; rfl
      have v3 : δ[3]? = some (some (.str w)) := by rw [← hδ]; rfl
      have v5 : δ[5]? = some (some (.ref l)) := by rw [← hδ]; rfl
      rw [w_ifs, w_cmp, w_var]
      refine ⟨_, v1, ?_⟩
      simp only [w_lit, cmp_isnot, Option.some.injEq, exists_eq_left', tru_bl]
      rw [if_pos (by simp)]
      rw [w_scons, w_expr, w_meth, w_var]
      refine ⟨_, v5, recv_ext hl3, ?_⟩
      rw [w_cons, w_lst]
      refine wR_mono (evEs_P (P := BT [n, l]) (fun _ _ _ f h => h.fr f) fun e he S4 f4 => ?_) fun ds2 S4 ⟨f4, l4, h4⟩ => ?_
      · simp only [List.mem_cons, List.not_mem_nil, or_false] at he
        rcases he with rfl | rfl | rfl | rfl
        · simp [v1, cut_1, cut_1n, lim]
          exact ⟨by omega, Fr.refl, bt_tup h1 (by simp; omega) (by simpa using h3)⟩
        · simp [v1, v3, cut_1n, lim]
          exact ⟨by omega, Fr.refl, bt_tup hw (by omega) h3⟩
        · simp [v1, cut_m1]
          refine ⟨Fr.refl, ?_⟩
          cases ds' with
          | nil => exact ⟨.nil, by simp⟩
          | cons x xs =>
            simp only [List.length_cons, List.take_succ_cons]
            exact bt_tup h1 (by simp at h2 ⊢; omega) fun y hy => h3 y (List.mem_of_mem_take hy)
        · simp [v1]
          refine ⟨Fr.app, bt_no (t := "list") (tyOf_lst get_new) (by decide) fun m hm e => ?_⟩
          cases e
          exact new_ne nn3 f4 hm
      · have l7 : ds2.length = 4 := by rw [l4]; rfl
        refine ⟨by rw [l7]; simp [lim], ?_⟩
        rw [w_nil, m_ext (Fr.app _ _ (f4 _ _ hl3)) get_new (by rw [dl, l7]; simp [lim]), wR_ok, thenO_nx, w_snil]
        have f5 : FrX [l] S4 ((S4 ++ [Ob.lst ds2]).set l (.lst (ds ++ ds2))) := (FrX.of Fr.app).set (by simp)
        refine ⟨ds ++ ds2, by rw [← hδ], (FrX.of f4).trans f5, get_set (Fr.app _ _ (f4 _ _ hl3)), by simp; omega, by simp [dl, l7], fun d hd => ?_⟩
        have hd2 : BT [n, l] S4 d := by
          rcases List.mem_append.mp hd with hd | hd
          · exact (hds d hd).fr f4
          · exact h4 d hd
        exact ⟨hd2.1.frX f5 (fun m hm => hd2.2 m (by simp at hm; simp [hm])), hd2.2⟩
  rintro _ S4 ⟨ds, rfl, f4, hl4, dp, dl4, hds4⟩
  rw [thenO_nx]
  have hh4 := hh3.frX f4 (by simpa using ln.symm) (by simpa using nlc.symm)
  simp [lenOf_lst hl4, -Bool.exists_bool]
  refine s_law_draw (by omega) (by omega) hh4 fun d S5 d0 d1 f5 hh5 => ?_
  obtain ⟨j, rfl⟩ := Int.eq_ofNat_of_zero_le d0
  have hj : j < ds.length := by omega
  have hl5 := f5 l _ (by simpa using ln) hl4
  rw [wp_ix (seqOf_lst hl5) (List.getElem?_eq_getElem hj)]
  have ot := hds4 _ (List.getElem_mem hj)
  refine q _ S5 ?_ hh5 (ot.1.frX f5 fun m hm => ot.2 m (by simp at hm; simp [hm]))
  exact ((f2.trans (FrX.of f3)).new f4 (fun m hm => .inr (by simp at hm; subst hm; exact Sl0))).trans f5
end
end K47
set_option Elab.async false
set_option linter.all false
set_option maxRecDepth 100000
set_option maxHeartbeats 1000000
/-! k47, plain. Part AP: bars as the law sees them. -/
namespace K47
open PySem Ev
theorem rb_excl {h : List Cl} (hk : HOk h) {d : D} (hd : d ≠ .non) (h0 : RB h .non) (h1 : RB h d) : False := by
  rcases h0 with ⟨h0, _⟩ | ⟨_, sb, lb, cb⟩
  · exact h0 rfl
  rcases h1 with ⟨_, h1⟩ | ⟨h1, _⟩
  case inr => exact hd h1
  rcases h1 with h1 | h1 | h1
  · cases sb with
    | non sb =>
    cases h1 with
    | non => exact hd rfl
    | strange i x hx ht hs =>
      obtain ⟨j, w, hj, ww, hsame, _⟩ := sb x (List.mem_of_getElem? hx) ht
      have := hs w (List.mem_of_getElem? hj)
      rw [ww, hsame] at this
      cases this
    | early i j x w e hx ht hj ww hs xe hlt =>
      obtain ⟨j', w', hj', ww', hs', h2⟩ := sb x (List.mem_of_getElem? hx) ht
      simp only [same, Bool.and_eq_true, decide_eq_true_eq] at hs hs'
      have : w' = w := hk.uniq (List.mem_of_getElem? hj') (List.mem_of_getElem? hj) ww' ww (Prod.ext (hs'.1.trans hs.1.symm) (hs'.2.trans hs.2.symm))
      subst this
      have := h2 e xe
      omega
  · cases lb with
    | non lb =>
    cases h1 with
    | non => exact hd rfl
    | late p r i j hp hpn hr hrk _ _ ha =>
      have := lb p hp hpn r hr hrk
      rw [ha] at this
      cases this
  · cases cb with
    | non cb =>
    cases h1 with
    | non => exact hd rfl
    | crossed p r a b c d hp hr hne hnm hpn hrn _ _ _ _ a1 a2 =>
      have := cb p hp r hr hne hnm hpn hrn a1
      rw [a2] at this
      cases this
theorem fe_at {h : List Cl} {p : Key × List Nat} {i : Nat} (hp : p ∈ groups h) (hf : FE h p.2 (some i)) : ∃ x e, h[i]? = some x ∧ cnt h x = true ∧ key x = p.1 ∧ x.e = some e ∧ ∀ j ∈ p.2, ∀ e', endOf h j = some e' → e ≤ e' := by
  obtain ⟨h1, e, h2, h3⟩ := hf
  obtain ⟨x, hx, cx, kx⟩ := gr_at hp h1
  rw [end_at hx] at h2
  exact ⟨x, e, hx, cx, kx, h2, h3⟩
theorem lb_at {h : List Cl} {p : Key × List Nat} {i : Nat} (hp : p ∈ groups h) (hf : LB h p.2 i) : ∃ x, h[i]? = some x ∧ cnt h x = true ∧ key x = p.1 ∧ ∀ j ∈ p.2, begOf h j ≤ x.b := by
  obtain ⟨h1, h2⟩ := hf
  obtain ⟨x, hx, cx, kx⟩ := gr_at hp h1
  rw [beg_at hx] at h2
  exact ⟨x, hx, cx, kx, h2⟩
theorem ah_at {h : List Cl} {p r : Key × List Nat} {x y : Cl} {e : Int} (ha : ahead h p.2 r.2 = true) (hx : x.e = some e) (h1 : ∀ j ∈ p.2, ∀ e', endOf h j = some e' → e ≤ e') (h2 : ∀ j ∈ r.2, begOf h j ≤ y.b) : ahC x y = true := by
  obtain ⟨i, hi, e', he', j, hj, hlt⟩ := ahead_iff.mp ha
  have := h1 i hi e' he'
  have := h2 j hj
  simp only [ahC, hx, decide_eq_true_eq]
  omega
theorem cnt_tls {h : List Cl} {x : Cl} (hc : cnt h x = true) (hn : x.told ≠ .non) : tls x = true := by
  simp only [tls, Bool.and_eq_true, Bool.not_eq_true', decide_eq_false_iff_not, Bool.or_eq_true]
  refine ⟨hn, ?_⟩
  cases hw : x.w with
  | true => exact .inl rfl
  | false =>
    right
    have := cnt_read hc hw
    cases he : x.e with
    | none => exact absurd he this
    | some _ => rfl
theorem isBar_row {h : List Cl} {w : Str} {row : List Nat} (g : GOk h row) : isBar h (.tup (.str w :: encI row)) = barC h w (callsOf h row) := by simp [isBar, rowOfD_encI g]
theorem lt_at {h : List Cl} {i : Nat} {x : Cl} (hx : h[i]? = some x) : i < h.length := (List.getElem?_eq_some_iff.mp hx).1
theorem rb_bar {h : List Cl} (hk : HOk h) {d : D} (hd : d ≠ .non) (h1 : RB h d) : isBar h d = true ∧ TD d := by
  rcases h1 with ⟨_, h1⟩ | ⟨h1, _⟩
  case inr => exact absurd h1 hd
  rcases h1 with h1 | h1 | h1
  · cases h1 with
    | non => exact absurd rfl hd
    | strange i x hx ht hs =>
      refine ⟨?_, .inr ⟨sStr, [.int (i : Nat)], rfl, ok1, by simp, by simp [smp]⟩⟩
      have := isBar_row (h := h) (w := sStr) (row := [i]) (fun j hj => by simp at hj; subst hj; exact lt_at hx)
      rw [show D.tup [.str sStr, .int (i : Nat)] = .tup (.str sStr :: encI [i]) from rfl, this]
      have ew : wrOf h x = none := List.findIdx?_eq_none_iff.mpr hs
      simp [callsOf, hx, barC, single, ht, ew]
    | early i j x w e hx ht hj ww hs xe hlt =>
      refine ⟨?_, .inr ⟨sEarly, [.int (i : Nat)], rfl, ok2, by simp, by simp [smp]⟩⟩
      have := isBar_row (h := h) (w := sEarly) (row := [i]) (fun j hj => by simp at hj; subst hj; exact lt_at hx)
      rw [show D.tup [.str sEarly, .int (i : Nat)] = .tup (.str sEarly :: encI [i]) from rfl, this]
      have hn : wrOf h x ≠ none := fun e => by
        have := wrOf_none e w (List.mem_of_getElem? hj)
        rw [ww, hs] at this
        cases this
      cases ew : wrOf h x with
      | none => exact absurd ew hn
      | some j' =>
        obtain ⟨w', hj', ww', hs'⟩ := wrOf_some ew
        have hs2 := hs
        have hs2' := hs'
        simp only [same, Bool.and_eq_true, decide_eq_true_eq] at hs2 hs2'
        have : w' = w := hk.uniq (List.mem_of_getElem? hj') (List.mem_of_getElem? hj) ww' ww (Prod.ext (hs2'.1.trans hs2.1.symm) (hs2'.2.trans hs2.2.symm))
        subst this
        simp [callsOf, hx, barC, single, ht, ew, hj', ahC, xe, hlt]
  · cases h1 with
    | non => exact absurd rfl hd
    | late p r i j hp hpn hr hrk hf hl ha =>
      refine ⟨?_, .inr ⟨sLate, [.int (i : Nat), .int (j : Nat)], rfl, ok3, by simp, by simp [smp]⟩⟩
      obtain ⟨x, e, hx, cx, kx, xe, h3⟩ := fe_at hp hf
      obtain ⟨y, hy, cy, ky, h4⟩ := lb_at hr hl
      have := isBar_row (h := h) (w := sLate) (row := [i, j]) (fun l hl => by simp at hl; rcases hl with rfl | rfl <;> first | exact lt_at hx | exact lt_at hy)
      rw [show D.tup [.str sLate, .int (i : Nat), .int (j : Nat)] = .tup (.str sLate :: encI [i, j]) from rfl, this]
      have kx1 : x.nm = p.1.1 := congrArg Prod.fst kx
      have kx2 : x.told = p.1.2 := congrArg Prod.snd kx
      have ky1 : y.nm = p.1.1 := by rw [hrk] at ky; exact congrArg Prod.fst ky
      have ky2 : y.told = .non := by rw [hrk] at ky; exact congrArg Prod.snd ky
      have yw : y.w = false := by
        cases yw : y.w with
        | false => rfl
        | true => exact absurd ky2 ((hk.cl y (List.mem_of_getElem? hy)).wr yw)
      have ye := cnt_read cy yw
      have ye2 : y.e.isSome = true := by
        cases e : y.e with
        | none => exact absurd e ye
        | some _ => rfl
      simp [callsOf, hx, hy, barC, late2, kx1, ky1, cnt_tls cx (by rw [kx2]; exact hpn), yw, ye2, ky2, ah_at ha xe h3 h4]
  · cases h1 with
    | non => exact absurd rfl hd
    | crossed p r ia ib ic id hp hr hne hnm hpn hrn fa lb lc fd a1 a2 =>
      refine ⟨?_, .inr ⟨sCrossed, [.int (ia : Nat), .int (ib : Nat), .int (ic : Nat), .int (id : Nat)], rfl, ok4, by simp, by simp [smp]⟩⟩
      obtain ⟨a, ea, ha, ca, ka, ae, h3⟩ := fe_at hp fa
      obtain ⟨b, hb, cb, kb, h4⟩ := lb_at hp lb
      obtain ⟨c, hc, cc, kc, h5⟩ := lb_at hr lc
      obtain ⟨d, ed, hd', cd, kd, de, h6⟩ := fe_at hr fd
      have := isBar_row (h := h) (w := sCrossed) (row := [ia, ib, ic, id]) (fun l hl => by simp at hl; rcases hl with rfl | rfl | rfl | rfl <;> first | exact lt_at ha | exact lt_at hb | exact lt_at hc | exact lt_at hd')
      rw [show D.tup [.str sCrossed, .int (ia : Nat), .int (ib : Nat), .int (ic : Nat), .int (id : Nat)] = .tup (.str sCrossed :: encI [ia, ib, ic, id]) from rfl, this]
      have ka1 : a.nm = p.1.1 := congrArg Prod.fst ka
      have ka2 : a.told = p.1.2 := congrArg Prod.snd ka
      have kb1 : b.nm = p.1.1 := congrArg Prod.fst kb
      have kb2 : b.told = p.1.2 := congrArg Prod.snd kb
      have kc1 : c.nm = p.1.1 := (congrArg Prod.fst kc).trans hnm.symm
      have kc2 : c.told = r.1.2 := congrArg Prod.snd kc
      have kd1 : d.nm = p.1.1 := (congrArg Prod.fst kd).trans hnm.symm
      have kd2 : d.told = r.1.2 := congrArg Prod.snd kd
      have n1 : ¬ p.1.2 = r.1.2 := fun e => hne (Prod.ext hnm e)
      simp [callsOf, ha, hb, hc, hd', barC, cross4, ka1, kb1, kc1, kd1, ka2, kb2, kc2, kd2, n1, cnt_tls ca (by rw [ka2]; exact hpn), cnt_tls cb (by rw [kb2]; exact hpn), cnt_tls cc (by rw [kc2]; exact hrn), cnt_tls cd (by rw [kd2]; exact hrn),
        ah_at a1 ae h3 h5, ah_at a2 de h6 h4]
end K47
set_option Elab.async false
set_option linter.all false
set_option maxRecDepth 100000
set_option maxHeartbeats 1000000
/-! k47, plain. Part AQ: the law. -/
namespace K47
open PySem Ev
section
variable {k : Nat} {S : Store} {Q : D → Store → Prop}
theorem nodup_len : ∀ (n : Nat) (l : List Nat), l.Nodup → (∀ i ∈ l, i < n) → l.length ≤ n
  | 0, l, _, h => by
    cases l with
    | nil => simp
    | cons a l => exact absurd (h a (.head _)) (Nat.not_lt_zero _)
  | n + 1, l, nd, h => by
    by_cases e : n ∈ l
    · have h1 := nodup_len n (l.erase n) (List.erase_sublist.nodup nd) fun i hi => by
        have h2 := h i (List.mem_of_mem_erase hi)
        have h3 : i ≠ n := fun e => by
          subst e
          exact (List.Nodup.not_mem_erase nd) hi
        omega
      rw [List.length_erase_of_mem e] at h1
      omega
    · have h1 := nodup_len n l nd fun i hi => by
        have h2 := h i hi
        have h3 : i ≠ n := fun e2 => e (e2 ▸ hi)
        omega
      omega
theorem s_law {ns : List Int} (hl : ns.length ≤ 63) (q : ∀ S', Q (.bl true) S') : wR (C 16 (Str.ofString "law") [.rol (ns.map .int)] S) Q := by
  refine w_fn (k := 15) fn_law rfl ?_
  refine w_seq (fun o S1 => ∃ n c, o = .nx [some (.rol (ns.map .int)), some (.ref n), none, none, none, none, none, none, none, none] ∧ Hnd S1 n c) ?_ ?_
  · simp [f_law, startEnv, -Bool.exists_bool]
    refine s_law_hand (k := 14) hl fun S1 n c f1 hn hh => ?_
    exact ⟨n, rfl, c, hh⟩
  rintro _ S1 ⟨n, c, rfl, hh1⟩
  rw [thenO_nx]
  refine w_seq (fun o S2 => ∃ δ, o = .nx δ) ?_ ?_
  case refine_2 =>
    rintro _ S2 ⟨δ, rfl⟩
    rw [thenO_nx]
    simp
    exact q S2
  refine w_for_ix (List.range 4) (fun _ i => .int (i : Nat)) (fun done δ S' => ∃ a b d e f g h i, δ = [some (.rol (ns.map .int)), some (.ref n), a, b, d, e, f, g, h, i] ∧ Hnd S' n c) [] rfl ?_ ?_ ?_
  · rw [ws_range, w_lit, w_lit]
    refine ⟨0, 4, rfl, rfl, by decide, rfl, ?_, none, none, none, none, none, none, none, none, rfl, hh1⟩
    rw [show (4 : Int) = ((4 : Nat) : Int) from rfl, rangeD0]
    exact (map_zipIdx (f := fun i : Nat => D.int (i : Int))).symm
  · rintro δ S' ⟨a, b, d, e, f, g, h, i, rfl, _⟩
    exact ⟨rfl, _, rfl⟩
  rintro done y rest δ S2 _ ⟨a, b, d, e, f, g, h, i, rfl, hh2⟩
  refine ⟨rfl, _, rfl, ?_⟩
  -- a history
  refine w_seq (fun o S3 => ∃ h', o = .nx [some (.rol (ns.map .int)), some (.ref n), some (.int (y : Nat)), some (encH h'), d, e, f, g, h, i] ∧ HOk h' ∧ h'.length ≤ 6 ∧ Hnd S3 n c) ?_ ?_
  · simp [-Bool.exists_bool]
    refine ⟨by simp [lim], by simp [lim], by simp [lim], ?_⟩
    have fa : Fr S2 (S2 ++ [Ob.lst [.str sa], Ob.lst [.str sa], Ob.lst [.str sa, .str sb], Ob.lst [.ref S2.length, .ref (S2.length + 1), .ref (S2.length + 1 + 1)]]) := Fr.app
    have g0 : (S2 ++ [Ob.lst [.str sa], Ob.lst [.str sa], Ob.lst [.str sa, .str sb], Ob.lst [.ref S2.length, .ref (S2.length + 1), .ref (S2.length + 1 + 1)]])[S2.length]? = some (.lst ([sa].map .str)) := by simp
    have g1 : (S2 ++ [Ob.lst [.str sa], Ob.lst [.str sa], Ob.lst [.str sa, .str sb], Ob.lst [.ref S2.length, .ref (S2.length + 1), .ref (S2.length + 1 + 1)]])[S2.length + 1]? = some (.lst ([sa].map .str)) := by
      rw [List.getElem?_append_right (by omega)]
      simp
    have g2 : (S2 ++ [Ob.lst [.str sa], Ob.lst [.str sa], Ob.lst [.str sa, .str sb], Ob.lst [.ref S2.length, .ref (S2.length + 1), .ref (S2.length + 1 + 1)]])[S2.length + 1 + 1]? = some (.lst ([sa, sb].map .str)) := by
      rw [List.getElem?_append_right (by omega), show S2.length + 1 + 1 - S2.length = 2 by omega]
      simp
    have g3 : (S2 ++ [Ob.lst [.str sa], Ob.lst [.str sa], Ob.lst [.str sa, .str sb], Ob.lst [.ref S2.length, .ref (S2.length + 1), .ref (S2.length + 1 + 1)]])[S2.length + 1 + 1 + 1]? = some (.lst [.ref S2.length, .ref (S2.length + 1), .ref (S2.length + 1 + 1)]) := by
      rw [List.getElem?_append_right (by omega), show S2.length + 1 + 1 + 1 - S2.length = 3 by omega]
      simp
    have nlt : n < S2.length := by
      obtain ⟨cells, p, g, s, t', h⟩ := hh2
      exact (List.getElem?_eq_some_iff.mp h.hand).1
    have hh3 := hh2.fr fa
    rw [show (S2 ++ [Ob.lst [.str (Str.ofString "a")], Ob.lst [.str (Str.ofString "a")], Ob.lst [.str (Str.ofString "a"), .str (Str.ofString "b")], Ob.lst [.ref S2.length, .ref (S2.length + 1), .ref (S2.length + 1 + 1)]]) = (S2 ++ [Ob.lst [.str sa], Ob.lst [.str sa], Ob.lst [.str sa, .str sb], Ob.lst [.ref S2.length, .ref (S2.length + 1), .ref (S2.length + 1 + 1)]]) from rfl]
    generalize (S2 ++ [Ob.lst [.str sa], Ob.lst [.str sa], Ob.lst [.str sa, .str sb], Ob.lst [.ref S2.length, .ref (S2.length + 1), .ref (S2.length + 1 + 1)]]) = S3 at g0 g1 g2 g3 hh3
    refine s_law_draw (k := 14) (by omega) (by omega) hh3 fun r S4 r0 r1 f4 hh4 => ?_
    obtain ⟨j, rfl⟩ := Int.eq_ofNat_of_zero_le r0
    have hj : j < 3 := by omega
    have pick : ∃ m names, m ≠ n ∧ NmL names ∧ S3[m]? = some (.lst (names.map .str)) ∧ [D.ref S2.length, .ref (S2.length + 1), .ref (S2.length + 1 + 1)][j]? = some (.ref m) := by
      match j, hj with
      | 0, _ => exact ⟨_, [sa], by omega, ⟨by simp, by simp, by simp [nmOk]⟩, g0, rfl⟩
      | 1, _ => exact ⟨_, [sa], by omega, ⟨by simp, by simp, by simp [nmOk]⟩, g1, rfl⟩
      | 2, _ => exact ⟨_, [sa, sb], by omega, ⟨by simp, by simp, by simp [nmOk]⟩, g2, rfl⟩
    obtain ⟨m, names, mn, hN, hm, e⟩ := pick
    rw [wp_ix (seqOf_lst (f4 _ _ (by simp; omega) g3)) e]
    refine s_law_history (k := 12) hh4 hN (f4 m _ (by simpa using mn) hm) fun h' S5 f5 hh5 hk h6 => ?_
    exact ⟨h', rfl, hk, h6, hh5⟩
  rintro _ S3 ⟨hs, rfl, hk, h6, hh3⟩
  rw [thenO_nx]
  -- due
  refine w_seq (fun o S4 => ∃ due : Bool, o = .nx [some (.rol (ns.map .int)), some (.ref n), some (.int (y : Nat)), some (encH hs), some (.bl due), e, f, g, h, i] ∧ (due = true ↔ ∀ x ∈ hs, ∃ rs, Lin (Named hs x.nm) .non rs) ∧ Hnd S4 n c) ?_ ?_
  · simp [-Bool.exists_bool]
    refine s_law_is_right (k := 5) hk h6 fun due S4 f4 hd => ?_
    exact ⟨due, rfl, hd, hh3.fr f4⟩
  rintro _ S4 ⟨due, rfl, hdue, hh4⟩
  rw [thenO_nx]
  -- the order and the bar
  refine w_seq (fun o S5 => ∃ row what, o = .nx [some (.rol (ns.map .int)), some (.ref n), some (.int (y : Nat)), some (encH hs), some (.bl due), some row, some what, g, h, i] ∧ Hnd S5 n c ∧ ((due = false ∧ row = .non) ∨ (due = true ∧ ∃ t rw', row = .ref t ∧ t ≠ n ∧ S5[t]? = some (.lst (encI rw')) ∧ OrdI hs rw')) ∧
      ((due = true ∧ what = .non) ∨ (due = false ∧ what ≠ .non ∧ isBar hs what = true ∧ TD what))) ?_ ?_
  · simp only [w_par, w_cons, w_nil, w_call, w_var]
    have no1 : ∀ d, d ≠ .non → RB hs d → due = false := fun d hd rb => by
      cases due with
      | false => rfl
      | true =>
        rcases rb with ⟨_, rb⟩ | ⟨rb, _⟩
        · exact (bar_no hk hd rb (hdue.mp rfl)).elim
        · exact absurd rb hd
    refine ⟨_, rfl, s_right_order (k := 7) hk h6 (fun d0 S5 f5 hd0 rb0 => ?_) (fun t S5 rw' f5 ht rb0 O => ?_)⟩
    · refine ⟨_, rfl, s_bar (k := 7) hk fun d S6 f6 rb => ⟨rfl, _, _, rfl, hh4.fr (f5.trans f6), .inl ⟨no1 d0 hd0 rb0, rfl⟩, .inr ?_⟩⟩
      have hd : d ≠ .non := fun e => by
        subst e
        exact rb_excl hk hd0 rb rb0
      exact ⟨no1 d hd rb, hd, rb_bar hk hd rb⟩
    · have d1 : due = true := hdue.mpr fun x hx => ord_lin hk O x.nm
      refine ⟨_, rfl, s_bar (k := 7) hk fun d S6 f6 rb => ⟨rfl, _, _, rfl, hh4.fr (f5.trans f6), .inr ⟨d1, t, rw', rfl, ?_, f6 _ _ ht, O⟩, .inl ⟨d1, ?_⟩⟩⟩
      · rintro rfl
        obtain ⟨cells, p, g, s, t', h⟩ := hh4
        have := f5 _ _ h.hand
        rw [ht] at this
        cases rw' <;> simp at this
      · by_cases hd : d = .non
        · exact hd
        · exact (rb_excl hk hd rb0 rb).elim
  rintro _ S5 ⟨row, what, rfl, hh5, hrow, hwhat⟩
  rw [thenO_nx]
  have otn : ∀ {S : Store}, (row = .non ∨ ∃ t rw', row = .ref t ∧ t ≠ n ∧ S[t]? = some (.lst (encI rw')) ∧ OrdI hs rw') → True := fun _ => trivial
  -- the flags
  refine w_seq (fun o S6 => o = .nx [some (.rol (ns.map .int)), some (.ref n), some (.int (y : Nat)), some (encH hs), some (.bl due), some row, some what, g, h, i] ∧ Fr S5 S6) ?_ ?_
  · simp [-Bool.exists_bool]
    refine s_is_history (k := 9) hk fun S6 f6 => ?_
    have r1 : decide (row = .non) = !due := by
      rcases hrow with ⟨rfl, rfl⟩ | ⟨rfl, t, rw', rfl, _⟩ <;> simp
    have w1 : decide (what = .non) = due := by
      rcases hwhat with ⟨rfl, rfl⟩ | ⟨rfl, hw, _⟩
      · simp
      · simp [hw]
    refine ⟨false, by simp, ?_⟩
    rw [if_neg (by simp)]
    refine ⟨due, by rw [r1], ?_⟩
    refine ⟨false, by simp, ?_⟩
    rw [if_neg (by simp)]
    exact ⟨false, by simp [w1], rfl, f6⟩
  rintro _ S6 ⟨rfl, f6⟩
  rw [thenO_nx]
  refine w_seq (fun o S7 => o = .nx [some (.rol (ns.map .int)), some (.ref n), some (.int (y : Nat)), some (encH hs), some (.bl due), some row, some what, g, h, i] ∧ Fr S5 S7) ?_ ?_
  · simp [-Bool.exists_bool]
    rcases hwhat with ⟨d1, rfl⟩ | ⟨d1, hw, hb, htd⟩
    · rcases hrow with ⟨d2, _⟩ | ⟨_, t, rw', rfl, tn, ht, O⟩
      · rw [d1] at d2; cases d2
      · refine ⟨true, by simp, ?_⟩
        rw [if_pos rfl]
        have ht6 := f6 _ _ ht
        have l6 := nodup_len hs.length rw' O.nd O.lt
        refine s_law_is_order (k := 7) hk (.lst t _ ht6 (by simp; omega) fun x hx => by
          obtain ⟨i, _, rfl⟩ := List.mem_map.mp hx
          exact ⟨_, fun _ => rfl⟩) fun b S7 f7 hb => ?_
        have : b = true := hb.mpr ⟨t, rw', rfl, ht6, O⟩
        subst this
        simp
        exact f6.trans f7
    · rcases hrow with ⟨_, rfl⟩ | ⟨d2, _⟩
      · refine ⟨false, by simp, ?_⟩
        rw [if_neg (by simp), if_neg (by simp)]
        refine ⟨true, by simp [hw], ?_⟩
        rw [if_pos rfl]
        refine s_law_is_bar (k := 11) hk (htd.bt (n := [])).1 fun S7 f7 => ?_
        simp [hb]
        exact f6.trans f7
      · rw [d1] at d2; cases d2
  rintro _ S7 ⟨rfl, f7⟩
  rw [thenO_nx]
  have hh7 := hh5.fr f7
  have htd : TD what := by
    rcases hwhat with ⟨_, rfl⟩ | ⟨_, _, _, h⟩
    · exact .inl rfl
    · exact h
  have hrw : row = .non ∨ ∃ t rw', row = .ref t ∧ t ≠ n ∧ S7[t]? = some (.lst (encI rw')) ∧ rw'.length ≤ 20 := by
    rcases hrow with ⟨_, rfl⟩ | ⟨_, t, rw', rfl, tn, ht, O⟩
    · exact .inl rfl
    · refine .inr ⟨t, rw', rfl, tn, f7 _ _ ht, ?_⟩
      have := nodup_len hs.length rw' O.nd O.lt
      omega
  -- the bent ones
  rw [w_scons]
  refine w_for_ix (List.range 5) (fun _ i => .int (i : Nat)) (fun done δ S' => ∃ g h i, δ = [some (.rol (ns.map .int)), some (.ref n), some (.int (y : Nat)), some (encH hs), some (.bl due), some row, some what, g, h, i] ∧ Hnd S' n c ∧ (row = .non ∨ ∃ t rw', row = .ref t ∧ t ≠ n ∧ S'[t]? = some (.lst (encI rw')) ∧ rw'.length ≤ 20)) [] rfl ?_ ?_ ?_
  · rw [ws_range, w_lit, w_lit]
    refine ⟨0, 5, rfl, rfl, by decide, rfl, ?_, g, h, i, rfl, hh7, hrw⟩
    rw [show (5 : Int) = ((5 : Nat) : Int) from rfl, rangeD0]
    exact (map_zipIdx (f := fun i : Nat => D.int (i : Int))).symm
  · rintro δ S' ⟨g, h, i, rfl, hh', _⟩
    refine ⟨rfl, ?_⟩
    rw [thenO_nx, w_snil, turnO_nx]
    exact ⟨_, _, _, _, _, _, _, _, rfl, hh'⟩
  rintro dn z rst δ S8 _ ⟨g, h, i, rfl, hh8, hr8⟩
  refine ⟨rfl, _, rfl, ?_⟩
  simp [-Bool.exists_bool]
  have rowX : ∀ {S S' : Store}, FrX [n] S S' → (row = .non ∨ ∃ t rw', row = .ref t ∧ t ≠ n ∧ S[t]? = some (.lst (encI rw')) ∧ rw'.length ≤ 20) → (row = .non ∨ ∃ t rw', row = .ref t ∧ t ≠ n ∧ S'[t]? = some (.lst (encI rw')) ∧ rw'.length ≤ 20) := fun f h => by
    rcases h with h | ⟨t, rw', h1, h2, h3, h4⟩
    · exact .inl h
    · exact .inr ⟨t, rw', h1, h2, f t _ (by simpa using h2) h3, h4⟩
  refine s_law_bent_order (k := 13) hh8 (by omega) (by
    rcases hr8 with h | ⟨t, rw', h1, _, h3, h4⟩
    · exact .inl h
    · exact .inr ⟨t, rw', h1, h3, h4⟩) fun d S9 f9 hh9 hd => ?_
  have hr9 := rowX f9 hr8
  refine s_is_right_order (k := 7) hk hd fun b1 S10 f10 hb1 => ?_
  refine ⟨_, rfl, false, by simp, ?_⟩
  rw [if_neg (by simp)]
  have isoF : IsO hs S9 d ↔ IsO hs S10 d := by
    constructor
    · rintro ⟨t, rw', rfl, h1, h2⟩
      exact ⟨t, rw', rfl, f10 _ _ h1, h2⟩
    · rintro ⟨t, rw', rfl, h1, h2⟩
      cases hd with
      | no _ tt h3 h4 =>
        have := tyOf_fr f10 h3
        rw [tyOf_lst h1] at this
        cases this
        simp at h4
      | lst _ xs h3 _ _ =>
        have := f10 _ _ h3
        rw [h1] at this
        cases this
        exact ⟨t, rw', rfl, h3, h2⟩
  refine s_law_is_order (k := 7) hk (hd.fr f10) fun b2 S11 f11 hb2 => ?_
  have eb : b1 = b2 := by
    rw [Bool.eq_iff_iff, hb1, hb2, isoF]
  subst eb
  refine ⟨false, by simp, rfl, ?_⟩
  have f911 := f10.trans f11
  have hh11 := hh9.fr f911
  have hr11 := rowX (FrX.of f911) hr9
  refine s_law_bent_bar (k := 13) hh11 (by omega) htd fun d2 S12 f12 hh12 hd2 => ?_
  have hr12 := rowX f12 hr11
  refine s_is_bar (k := 7) hk hd2 fun S13 f13 => ?_
  refine ⟨_, rfl, false, by simp, ?_⟩
  rw [if_neg (by simp)]
  refine s_law_is_bar (k := 11) hk (hd2.fr f13) fun S14 f14 => ?_
  refine ⟨false, by simp, rfl, hh12.fr (f13.trans f14), ?_⟩
  have := rowX (FrX.of (f13.trans f14)) hr12
  rcases this with h | ⟨t, rw', h1, h2, h3, h4⟩
  · exact .inl h
  · exact .inr ⟨t, h1, h2, rw', h3, h4⟩
end
/-- the plain law -/
theorem plain (ns : List Int) (h : ns.length ≤ 63) : ∃ S', callN fns con 8 16 (Str.ofString "law") [.rol (ns.map D.int)] [] = .ok (.bl true) S' := by
  obtain ⟨d, S', e, h2⟩ := s_law (S := []) (Q := fun d _ => d = .bl true) h fun _ => rfl
  subst h2
  exact ⟨S', e⟩
end K47
set_option Elab.async false
set_option linter.all false
set_option maxRecDepth 100000
set_option maxHeartbeats 0
/-! k47: what is left is plain. -/
namespace K47
open PySem PySem.Spec PyProof.Rows L2 Ev
theorem lookup_mem {β : Type} {l : List (Str × β)} {x : Str} {b : β} (h : l.lookup x = some b) : (x, b) ∈ l := by
  induction l with
  | nil => cases h
  | cons p l ih =>
    obtain ⟨y, c⟩ := p
    rw [List.lookup_cons] at h
    split at h
    · rename_i e
      rw [beq_iff_eq] at e
      cases h
      subst e
      exact .head _
    · exact .tail _ (ih h)
theorem facts {P : Program} {w : World} {K : PySem.W.Frag} {h base : Heap} {mg : Str → Option Value} {W k : Nat} (X : K.In h) (G : h.Ns mainGlobals mg) (c : He.SaysD f_fa f_fn K) :
    ∀ x n, f_T.fns x = some n → FnAt P w K mg base k x n (callN fns con W k x) := by
  refine fn_all (T := f_T) (fun x F hx => f_all X G c (x, F) (lookup_mem hx)) (fun x n hx => ?_) (fun x hx => f_frees X G c x (by simpa [f_T] using hx)) ⟨fun x d hx => ⟨hx, f_conss X G c (x, d) (lookup_mem hx)⟩⟩ k
  obtain ⟨F, h1, h2⟩ := Option.map_eq_some_iff.mp (show (f_tab.lookup x).map (·.ps) = some n from hx)
  exact ⟨F, h1, h2⟩
theorem ints_rel {K : PySem.W.Frag} {μ : List Addr} {H : Hp} : ∀ ns : List Int, RelDs K μ H (ns.map D.int) (ns.map V.int)
  | [] => .nil
  | n :: ns => .cons (.int n) (ints_rel ns)
theorem only_sq {K : PySem.W.Frag} {H : Hp} {a : Addr} {vs : List V} (hO : Only H) (h : SqL K H a vs) : SqR K H a vs := by
  rcases h with (h | h) | h
  · rcases hO a with h2 | ⟨o, xs, h2⟩ <;> rw [h] at h2 <;> cases h2
  · exact .inl h
  · exact .inr h
theorem stOk_nil {P : Program} {w : World} {K : PySem.W.Frag} {H : Hp} : StOk P w K [] [] H := ⟨rfl, .nil, fun n ob h => by cases h⟩
end K47
open PySem PySem.W PySem.Calls PyProof.Rows
theorem K47.holds_of (W : Nat) (hp : ∀ ns : List Int, ns.length ≤ 63 → ∃ S', Ev.callN K47.fns K47.con W 16 (PySem.Str.ofString "law") [.rol (ns.map Ev.D.int)] [] = .ok (.bl true) S') :
    PySem.Challenge.rw_leasefiles_k47_whole_histories_by_trying.Holds := by
  w_on; o_law
  refine HandSHeadRun.head_any (r := OpenLaw.row PySem.Challenge.rw_leasefiles_k47_whole_histories_by_trying) (q := K47.qv) (H := K47.hk) (ob := K47.ob) (M := 4000) (loose := K47.f_loose) (d := HandSHeadRun.topDef (OpenLaw.row PySem.Challenge.rw_leasefiles_k47_whole_histories_by_trying).prog 60) (kwd := []) K47.ob_eq
    (by kernel_rfl) (fun s => by kernel_rfl) K47.run (by kernel_rfl) (by kernel_rfl) (by kernel_rfl) (by rfl) (by first | assumption | decide +kernel) (by decide +kernel) ⟨rfl, rfl, rfl, rfl, rfl, by decide +kernel⟩ ?hw ?hc
  case hw => w_witness2
  case hc =>
    refine L2.walk_ofE (l := PySem.Challenge.rw_leasefiles_k47_whole_histories_by_trying) (n := 63) (k := 16) (x := PySem.Str.ofString "_law_script") (CX := L2.CX0) rfl (by decide) (by kernel_rfl) ⟨rfl, by decide, by decide⟩ ?F (fun _ _ _ _ z => z)
    intro w mg fa h Y G hmg0
    obtain ⟨K, KX, c⟩ := Y
    have hmg : mg (PySem.Str.ofString "law") = some (.ref fa) := by
      have e : (HandSHeadRun.topDef (OpenLaw.row PySem.Challenge.rw_leasefiles_k47_whole_histories_by_trying).prog 60).name = PySem.Str.ofString "law" := by kernel_rfl
      rw [← e]
      exact hmg0
    obtain ⟨fd, F⟩ := c.def_ 49 (d := ⟨(PySem.Str.ofString "law", none), PySem.Str.ofString "law", PySem.Str.ofString "law", L2.defArgs (K47.top 60), L2.defBody (K47.top 60), L2.defScope (K47.top 60), [], []⟩) rfl
    have e := hmg.symm.trans (He.glo_ok KX G (c.fact 49 (f := .glo (PySem.Str.ofString "law")) rfl))
    cases e
    have b := L2.FunD.bindsA (ps := [PySem.Str.ofString "_law_script"]) F fun _ _ _ _ _ _ us hl => match us, hl with | [_], _ => rfl
    refine ⟨K, fd, Ev.spEv _ w K 1 _, KX, fun s v => b s [v] rfl, fun H a ns hl hO hS => ?_, fun base hb hn => Ev.fn_one (c := ⟨Ev.callN K47.fns K47.con W 15, K47.con, W⟩) (k := 15) F K47.f_S_law rfl rfl K47.f_C_law (fun x hx => K47.f_frees KX G c x (by simpa [K47.f_T] using hx))
      ⟨fun x d hx => ⟨hx, K47.f_conss KX G c (x, d) (K47.lookup_mem hx)⟩⟩ (K47.facts KX G c)⟩
    obtain ⟨S', hS'⟩ := hp ns hl
    have hf : K47.fns (PySem.Str.ofString "law") = some K47.f_law := by kernel_rfl
    refine ⟨[], [], [.rol (ns.map Ev.D.int)], .bl true, S', K47.stOk_nil, .cons (.rol (K47.only_sq hO hS) (K47.ints_rel ns)) .nil, rfl, ?_, fun v H' μ' _ _ _ r => by cases r; rfl⟩
    simp only [Ev.callN, hf] at hS'
    exact hS'
open PySem PySem.W PyProof.Rows
theorem PySem.Challenge.cw_leasefiles_k47_whole_histories_by_trying_holds : PySem.Challenge.rw_leasefiles_k47_whole_histories_by_trying.Holds := by
  exact K47.holds_of 8 K47.plain
